import PyProof.Rows.All
import PySem.Challenge.RW_raytrain_k95_power_cuts
import Wide.All
import OpenK.AllK
import Wide.FinOn
import KE.KStateDown
import HandS.Base
import HandS.Call
import HandS.Ends
import HandS.More
import HandS.Words
import HandS.WordsExc
import HandS.Defaults
import HandS.Head0
import HandS.Head1
import HandS.Head2
import HandS.HeadEnd
import HandS.HeadHook1
import HandS.HeadHook2
import HandS.HeadHook3
import HandS.HeadHook4
import HandS.HeadWalk
import KE.KExcSuper
import HandS.Exc
import HandS.ExcOwn
import KE.KExcRaise
import HandS.TryMany
import HandS.SuiteRaise
import PyProof.GenCompD
import HandS.List
import HandS.Comp
import HandS.AnyAll
import PyProof.ReprRoads
import KE.KLam
import HandS.Lambda
import HandS.EndBits
import HandS.EndTab
import HandS.ForMost
import HandS.ForExc
import HandS.Codes
section
set_option Elab.async false
set_option linter.all false
set_option maxRecDepth 100000
set_option maxHeartbeats 2000000
/-! B0: the places in the text, the facts of the top by names. -/
namespace RT
open PySem PySem.Spec PyProof.Rows L2
def top (i : Nat) : Stmt := PySem.Challenge.pw_raytrain_k95_power_cuts.main.body.getD i (.Pass ⟨0, 0, 0, 0⟩)
abbrev mth (i j : Nat) : Stmt := inClass (top i) j
def gD (p : Str × Nat) : He.DefD := ⟨(p.1, none), p.1, p.1, defArgs (top p.2), defBody (top p.2), defScope (top p.2), [], []⟩
def gM (p : Str × Str × Str × Nat × Nat) : He.DefD := ⟨(p.1, some p.2.1), p.2.1, p.2.2.1, defArgs (mth p.2.2.2.1 p.2.2.2.2), defBody (mth p.2.2.2.1 p.2.2.2.2), defScope (mth p.2.2.2.1 p.2.2.2.2), [], []⟩
def gFrac : He.DefD := ⟨("fraction", none), "fraction", "fraction", defArgs (top 17), defBody (top 17), defScope (top 17), [.int 1], []⟩
def gNames0 : List (Str × Nat) := [("common_divisor", 16), ("add", 18), ("negative", 19), ("subtract", 20), ("sign", 21), ("compare", 22), ("is_less", 23), ("format_fraction", 31), ("format_element", 32), ("format_train", 33), ("tokens_of", 34), ("natural_of", 35), ("fraction_of", 36), ("is_good", 38), ("parse_train", 39)]
def gNames1 : List (Str × Nat) := [("sum_of", 47), ("body_of", 48), ("record_of", 49), ("sign_of", 50), ("element_of", 51), ("operation_of", 52), ("recovered", 53), ("perform", 54), ("opened", 58), ("_law_cell", 60), ("_law_row", 61), ("_law_box", 62), ("_law_draw", 63), ("_law_frac", 64), ("_law_add", 65)]
def gNames2 : List (Str × Nat) := [("_law_fraction", 66), ("_law_nonzero", 67), ("_law_stop", 68), ("_law_element", 69), ("_law_train", 70), ("_law_same", 71), ("_law_done", 72), ("_law_operation", 73), ("_law_record", 74), ("_law_performed", 75), ("law", 76)]
def gNames : List (Str × Nat) := gNames0 ++ gNames1 ++ gNames2
def mNames : List (Str × Str × Str × Nat × Nat) := [("Bench", "__init__", "Bench.__init__", 13, 0), ("Bench", "train", "Bench.train", 13, 1), ("Bench", "operations", "Bench.operations", 13, 2), ("Bench", "put", "Bench.put", 13, 3), ("Bench", "take", "Bench.take", 13, 4), ("Bench", "exchange", "Bench.exchange", 13, 5), ("Bench", "undo", "Bench.undo", 13, 6), ("Bench", "history", "Bench.history", 13, 7), ("Reader", "__init__", "Reader.__init__", 37, 0), ("Reader", "is_next", "Reader.is_next", 37, 1), ("Reader", "token", "Reader.token", 37, 2), ("Reader", "number", "Reader.number", 37, 3), ("Reader", "stop", "Reader.stop", 37, 4), ("Reader", "element", "Reader.element", 37, 5), ("Reader", "train", "Reader.train", 37, 6), ("Device", "__init__", "Device.__init__", 56, 0), ("Device", "append", "Device.append", 56, 1), ("JournaledBench", "__init__", "JournaledBench.__init__", 57, 0), ("JournaledBench", "perform", "JournaledBench.perform", 57, 1)]
def fn : List He.DefD := gFrac :: (gNames.map gD ++ mNames.map gM)
def frees : List Str := ["len", "list", "abs", "super", "str", "all", "any", "int", "sum", "ord", "range", "repr"]
def intsF : List (Str × Int) := [("MOST", 20), ("PART_MOST", 1000000), ("LONGEST", 7), ("ELEMENTS_MOST", 16), ("STOPS_MOST", 8), ("MARK", 170), ("PUT", 1), ("TAKE", 2), ("EXCHANGE", 3), ("UNDO", 4)]
def strsF : List (Str × Str) := [("FIGURES", "0123456789"), ("SIGNS", "0123456789abcdefghijklmnopqrstuvwxyz -/;")]
def clsF : List Str := ["Bench", "Reader", "Device", "JournaledBench"]
def noatF : List (Str × Str) := [("Bench", "initial"), ("Bench", "later"), ("Reader", "tokens"), ("Reader", "place"), ("Device", "octets"), ("Device", "power"), ("JournaledBench", "bench"), ("JournaledBench", "device"), ("JournaledBench", "shut")]
def excF : List Str := ["RaytrainError", "NoSuchElement", "NoSuchPosition", "TrainFull", "PowerCut", "ShutError"]
def exmF : List (Str × Str × Bool) := [("PowerCut", "PowerCut", true), ("NoSuchPosition", "PowerCut", false), ("NoSuchPosition", "ShutError", false), ("NoSuchPosition", "NoSuchPosition", true), ("NoSuchElement", "PowerCut", false), ("NoSuchElement", "ShutError", false), ("NoSuchElement", "NoSuchPosition", false), ("NoSuchElement", "NoSuchElement", true), ("TrainFull", "PowerCut", false), ("TrainFull", "ShutError", false), ("TrainFull", "NoSuchPosition", false), ("TrainFull", "NoSuchElement", false), ("TrainFull", "TrainFull", true)]
def fa : List He.Fa := ([.glo "fraction", .glo "ZERO", .glo "WORDS", .exc "TrainFull"] : List He.Fa) ++ (gNames.map (fun p => He.Fa.glo p.1) ++ (clsF.map He.Fa.glo ++ (clsF.map He.Fa.cls ++ (clsF.map He.Fa.mkr ++ (excF.map He.Fa.glo ++ (excF.map He.Fa.keep ++ (frees.map He.Fa.free ++
  (intsF.map (fun p => He.Fa.int p.1 p.2) ++ (strsF.map (fun p => He.Fa.str p.1 p.2) ++ (noatF.map (fun p => He.Fa.noat p.1 p.2) ++ (mNames.map (fun p => He.Fa.meth p.1 p.2.1) ++ exmF.map (fun p => He.Fa.exm p.1 p.2.1 p.2.2))))))))))))
/-- what the proofs take of the top -/
structure TX (K : PySem.W.Frag) (mg : Str → Option Value) : Prop where
  says : He.SaysD fa fn K
  ns : ∃ h : Heap, K.In h ∧ h.Ns mainGlobals mg
  zero : SqT K (fun _ => none) (He.ga K "ZERO") [.int 0, .int 1]
  words : SqT K (fun _ => none) (He.ga K "WORDS") [.str "gap", .str "lens", .str "prism", .str "afocal", .str "stop"]
  al_jn : mg "perform_journal" = some (.ref (He.ga K "perform"))
section
variable {K : PySem.W.Frag} {mg : Str → Option Value}
theorem TX.df (T : TX K mg) {x : Str} {i : Nat} (h : ((x, i) : Str × Nat) ∈ gNames) : ∃ fd, FunD K x x (defArgs (top i)) (defBody (top i)) (defScope (top i)) [] [] (He.ga K x) fd :=
  T.says.defs (d := gD (x, i)) (List.mem_cons_of_mem _ (List.mem_append_left _ (List.mem_map_of_mem h)))
theorem TX.dm (T : TX K mg) {c m q : Str} {i j : Nat} (h : ((c, m, q, i, j) : Str × Str × Str × Nat × Nat) ∈ mNames) : ∃ fd, FunD K m q (defArgs (mth i j)) (defBody (mth i j)) (defScope (mth i j)) [] [] (He.ma K (He.ga K c) m) fd :=
  T.says.defs (d := gM (c, m, q, i, j)) (List.mem_cons_of_mem _ (List.mem_append_right _ (List.mem_map_of_mem h)))
theorem TX.dfrac (T : TX K mg) : ∃ fd, FunD K "fraction" "fraction" (defArgs (top 17)) (defBody (top 17)) (defScope (top 17)) [.int 1] [] (He.ga K "fraction") fd := T.says.defs (d := gFrac) List.mem_cons_self
theorem in1 {x : Str} (h : x ∈ (["fraction", "ZERO", "WORDS"] : List Str)) : He.Fa.glo x ∈ fa := by
  refine List.mem_append_left _ ?_
  rcases List.mem_cons.mp h with rfl | h
  · exact List.mem_cons_self
  rcases List.mem_cons.mp h with rfl | h
  · exact List.mem_cons_of_mem _ List.mem_cons_self
  rcases List.mem_cons.mp h with rfl | h
  · exact List.mem_cons_of_mem _ (List.mem_cons_of_mem _ List.mem_cons_self)
  cases h
theorem part0 {f : He.Fa} (h : f ∈ gNames.map (fun p => He.Fa.glo p.1)) : f ∈ fa := List.mem_append_right _ (List.mem_append_left _ h)
theorem part1 {f : He.Fa} (h : f ∈ clsF.map He.Fa.glo) : f ∈ fa := List.mem_append_right _ (List.mem_append_right _ (List.mem_append_left _ h))
theorem part2 {f : He.Fa} (h : f ∈ clsF.map He.Fa.cls) : f ∈ fa := List.mem_append_right _ (List.mem_append_right _ (List.mem_append_right _ (List.mem_append_left _ h)))
theorem part3 {f : He.Fa} (h : f ∈ clsF.map He.Fa.mkr) : f ∈ fa := List.mem_append_right _ (List.mem_append_right _ (List.mem_append_right _ (List.mem_append_right _ (List.mem_append_left _ h))))
theorem part4 {f : He.Fa} (h : f ∈ excF.map He.Fa.glo) : f ∈ fa := List.mem_append_right _ (List.mem_append_right _ (List.mem_append_right _ (List.mem_append_right _ (List.mem_append_right _ (List.mem_append_left _ h)))))
theorem part5 {f : He.Fa} (h : f ∈ excF.map He.Fa.keep) : f ∈ fa := List.mem_append_right _ (List.mem_append_right _ (List.mem_append_right _ (List.mem_append_right _ (List.mem_append_right _ (List.mem_append_right _ (List.mem_append_left _ h))))))
theorem part6 {f : He.Fa} (h : f ∈ frees.map He.Fa.free) : f ∈ fa := List.mem_append_right _ (List.mem_append_right _ (List.mem_append_right _ (List.mem_append_right _ (List.mem_append_right _ (List.mem_append_right _ (List.mem_append_right _ (List.mem_append_left _ h)))))))
theorem part7 {f : He.Fa} (h : f ∈ intsF.map (fun p => He.Fa.int p.1 p.2)) : f ∈ fa := List.mem_append_right _ (List.mem_append_right _ (List.mem_append_right _ (List.mem_append_right _ (List.mem_append_right _ (List.mem_append_right _ (List.mem_append_right _ (List.mem_append_right _ (List.mem_append_left _ h))))))))
theorem part8 {f : He.Fa} (h : f ∈ strsF.map (fun p => He.Fa.str p.1 p.2)) : f ∈ fa := List.mem_append_right _ (List.mem_append_right _ (List.mem_append_right _ (List.mem_append_right _ (List.mem_append_right _ (List.mem_append_right _ (List.mem_append_right _ (List.mem_append_right _ (List.mem_append_right _ (List.mem_append_left _ h)))))))))
theorem part9 {f : He.Fa} (h : f ∈ noatF.map (fun p => He.Fa.noat p.1 p.2)) : f ∈ fa := List.mem_append_right _ (List.mem_append_right _ (List.mem_append_right _ (List.mem_append_right _ (List.mem_append_right _ (List.mem_append_right _ (List.mem_append_right _ (List.mem_append_right _ (List.mem_append_right _ (List.mem_append_right _ (List.mem_append_left _ h))))))))))
theorem part10 {f : He.Fa} (h : f ∈ mNames.map (fun p => He.Fa.meth p.1 p.2.1)) : f ∈ fa := List.mem_append_right _ (List.mem_append_right _ (List.mem_append_right _ (List.mem_append_right _ (List.mem_append_right _ (List.mem_append_right _ (List.mem_append_right _ (List.mem_append_right _ (List.mem_append_right _ (List.mem_append_right _ (List.mem_append_right _ (List.mem_append_left _ h)))))))))))
theorem part11 {f : He.Fa} (h : f ∈ exmF.map (fun p => He.Fa.exm p.1 p.2.1 p.2.2)) : f ∈ fa := List.mem_append_right _ (List.mem_append_right _ (List.mem_append_right _ (List.mem_append_right _ (List.mem_append_right _ (List.mem_append_right _ (List.mem_append_right _ (List.mem_append_right _ (List.mem_append_right _ (List.mem_append_right _ (List.mem_append_right _ (List.mem_append_right _ h)))))))))))
theorem TX.glo_ (T : TX K mg) {x : Str} (h : He.Fa.glo x ∈ fa) : mg x = some (.ref (He.ga K x)) := let ⟨_, X, G⟩ := T.ns; He.glo_ok X G (T.says.facts h)
theorem TX.gd (T : TX K mg) {x : Str} {i : Nat} (h : ((x, i) : Str × Nat) ∈ gNames) : mg x = some (.ref (He.ga K x)) := T.glo_ (part0 (List.mem_map_of_mem (f := fun p : Str × Nat => He.Fa.glo p.1) h))
theorem TX.gc (T : TX K mg) {x : Str} (h : x ∈ clsF) : mg x = some (.ref (He.ga K x)) := T.glo_ (part1 (List.mem_map_of_mem h))
theorem TX.cl (T : TX K mg) {x : Str} (h : x ∈ clsF) : Cls K (He.ga K x) := He.cls_ok (T.says.facts (part2 (List.mem_map_of_mem h)))
theorem TX.mkc (T : TX K mg) {x : Str} (h : x ∈ clsF) : Mk K (He.ga K x) (He.ma K (He.ga K x) "__init__") := He.mkr_ok (T.says.facts (part3 (List.mem_map_of_mem h)))
theorem TX.ge (T : TX K mg) {x : Str} (h : x ∈ excF) : mg x = some (.ref (He.ga K x)) := T.glo_ (part4 (List.mem_map_of_mem h))
theorem TX.ke (T : TX K mg) {x : Str} (h : x ∈ excF) : PySem.W.keepIn K (.ref (He.ga K x)) = true := He.keep_ok (T.says.facts (part5 (List.mem_map_of_mem h)))
theorem TX.fr (T : TX K mg) {x : Str} (h : x ∈ frees) : mg x = none := let ⟨_, X, G⟩ := T.ns; He.free_ok X G (T.says.facts (part6 (List.mem_map_of_mem h)))
theorem TX.int (T : TX K mg) {x : Str} {i : Int} (h : ((x, i) : Str × Int) ∈ intsF) : ∃ t, mg x = some (.int i t) := let ⟨_, X, G⟩ := T.ns; He.int_ok X G (T.says.facts (part7 (List.mem_map_of_mem (f := fun p : Str × Int => He.Fa.int p.1 p.2) h)))
theorem TX.str (T : TX K mg) {x z : Str} (h : ((x, z) : Str × Str) ∈ strsF) : ∃ t, mg x = some (.str z t) := let ⟨_, X, G⟩ := T.ns; He.str_ok X G (T.says.facts (part8 (List.mem_map_of_mem (f := fun p : Str × Str => He.Fa.str p.1 p.2) h)))
theorem TX.na (T : TX K mg) {x f : Str} (h : ((x, f) : Str × Str) ∈ noatF) : NoAttr K (He.ga K x) f := He.noat_ok (T.says.facts (part9 (List.mem_map_of_mem (f := fun p : Str × Str => He.Fa.noat p.1 p.2) h)))
theorem TX.me (T : TX K mg) {c m q : Str} {i j : Nat} (h : ((c, m, q, i, j) : Str × Str × Str × Nat × Nat) ∈ mNames) : Meth K (He.ga K c) m (He.ma K (He.ga K c) m) := He.meth_ok (T.says.facts (part10 (List.mem_map_of_mem (f := fun p : Str × Str × Str × Nat × Nat => He.Fa.meth p.1 p.2.1) h)))
theorem TX.exm (T : TX K mg) {x y : Str} {b : Bool} (h : ((x, y, b) : Str × Str × Bool) ∈ exmF) : PySem.W.exmOne K (.ref (He.ga K x)) (.ref (He.ga K y)) = some b := He.exm_ok (T.says.facts (part11 (List.mem_map_of_mem (f := fun p : Str × Str × Bool => He.Fa.exm p.1 p.2.1 p.2.2) h)))
theorem TX.full (T : TX K mg) : PySem.W.excIn K (He.ga K "TrainFull") He.veBase "ValueError.__new__" = true ∧ PySem.W.keepIn K (.ref (He.ga K "TrainFull")) = true ∧ PySem.W.subIn K (.ref (He.ga K "TrainFull")) (.type "BaseException") = some true ∧ PySem.W.typeIn K (.ref (He.ga K "TrainFull")) = some (.type "type") :=
  He.exc_ok (T.says.facts (List.mem_append_left _ (List.mem_cons_of_mem _ (List.mem_cons_of_mem _ (List.mem_cons_of_mem _ List.mem_cons_self)))))
/-- a def that may be called by its name -/
structure Cal (P : Program) (w : World) (K : PySem.W.Frag) (mg : Str → Option Value) (base : Heap) (CX : CXT) (k : Nat) (x : Str) (ps : List Str) (sp : Sp) : Prop where
  ex : ∃ fd, FnOk P w K mg base CX k (He.ga K x) fd ps sp ∧ Binds K fd ps []
  mg : mg x = some (.ref (He.ga K x))
  kp : PySem.W.keepIn K (.ref (He.ga K x)) = true
variable {P : Program} {w : World} {base : Heap} {CX : CXT}
theorem Cal.mono {j k : Nat} {x : Str} {ps : List Str} {sp : Sp} (C : Cal P w K mg base CX j x ps sp) (h : j ≤ k) : Cal P w K mg base CX k x ps sp := ⟨let ⟨fd, F, b⟩ := C.ex; ⟨fd, F.mono h, b⟩, C.mg, C.kp⟩
theorem Cal.imp {k : Nat} {x : Str} {ps : List Str} {sp sp' : Sp} (C : Cal P w K mg base CX k x ps sp) (h : ∀ vs H Q E, sp' vs H Q E → sp vs H Q E) : Cal P w K mg base CX k x ps sp' := ⟨let ⟨fd, F, b⟩ := C.ex; ⟨fd, F.imp h, b⟩, C.mg, C.kp⟩
abbrev BindF (x q : Str) (st : Stmt) (ps : List Str) : Prop := ∀ (kV doc pm : Value) (an : Option Addr) (cdv ct : Value) (us : List Value), us.length = ps.length → bindArgs (PySem.W.fnOf x q (defArgs st) (defBody st) (defScope st) .none kV doc pm an cdv ct) ⟨us, []⟩ = pure (ps.zip us)
theorem Cal.of (T : TX K mg) {x : Str} {i k : Nat} {N ps : List Str} {sp : Sp} (hx : ((x, i) : Str × Nat) ∈ gNames) (S : FnScope N ps (defScope (top i))) (bb : BindF x x (top i) ps) (len : ∀ vs H Q E, sp vs H Q E → vs.length = ps.length)
    (hbody : ∀ (cdv : Value) (A : Around) (outer : List Env) (s : Shared) (H : Hp) (vs : List V) (Q : VK) (E : XK), Room k (A.deeper (envOfC x (defScope (top i)) s.heap.objs.size (He.ga K x) cdv)) → sp vs H Q E →
      ∃ t, PSs (cxOf CX0 P w K mg base N x (defScope (top i)) (He.ga K x) cdv A outer s H E).nox (defBody (top i)) t ∧ t { nx := fun _ H' => Q .non H', rt := Q } (start N vs) H) : Cal P w K mg base CX0 (k + 1) x ps sp := by
  obtain ⟨fd, F⟩ := T.df hx
  refine ⟨⟨fd, F.ok S len fun cdv A outer s H vs Q E hr h => ?_, F.bindsN bb⟩, T.gd hx, F.kp⟩
  obtain ⟨t, h1, h2⟩ := hbody cdv A outer s H vs Q E hr h
  exact ⟨t, h1.nox, h2⟩
/-- .. that may let an exception out -/
theorem Cal.ofX (T : TX K mg) {x : Str} {i k : Nat} {N ps : List Str} {sp : Sp} (hx : ((x, i) : Str × Nat) ∈ gNames) (S : FnScope N ps (defScope (top i))) (bb : BindF x x (top i) ps) (len : ∀ vs H Q E, sp vs H Q E → vs.length = ps.length)
    (hbody : ∀ (cdv : Value) (A : Around) (outer : List Env) (s : Shared) (H : Hp) (vs : List V) (Q : VK) (E : XK), Room k (A.deeper (envOfC x (defScope (top i)) s.heap.objs.size (He.ga K x) cdv)) → sp vs H Q E →
      ∃ t, PSs (cxOf CX P w K mg base N x (defScope (top i)) (He.ga K x) cdv A outer s H E) (defBody (top i)) t ∧ t { nx := fun _ H' => Q .non H', rt := Q } (start N vs) H) : Cal P w K mg base CX (k + 1) x ps sp := by
  obtain ⟨fd, F⟩ := T.df hx
  exact ⟨⟨fd, F.ok S len hbody, F.bindsN bb⟩, T.gd hx, F.kp⟩
/-- a method -/
structure MCal (P : Program) (w : World) (K : PySem.W.Frag) (mg : Str → Option Value) (base : Heap) (CX : CXT) (k : Nat) (c m : Str) (ps : List Str) (sp : Sp) : Prop where
  ex : ∃ fd, FnOk P w K mg base CX k (He.ma K (He.ga K c) m) fd ps sp ∧ Binds K fd ps []
theorem MCal.of (T : TX K mg) {c m q : Str} {i j k : Nat} {N ps : List Str} {sp : Sp} (hx : ((c, m, q, i, j) : Str × Str × Str × Nat × Nat) ∈ mNames) (S : FnScope N ps (defScope (mth i j))) (bb : BindF m q (mth i j) ps) (len : ∀ vs H Q E, sp vs H Q E → vs.length = ps.length)
    (hbody : ∀ (cdv : Value) (A : Around) (outer : List Env) (s : Shared) (H : Hp) (vs : List V) (Q : VK) (E : XK), Room k (A.deeper (envOfC q (defScope (mth i j)) s.heap.objs.size (He.ma K (He.ga K c) m) cdv)) → sp vs H Q E →
      ∃ t, PSs (cxOf CX0 P w K mg base N q (defScope (mth i j)) (He.ma K (He.ga K c) m) cdv A outer s H E).nox (defBody (mth i j)) t ∧ t { nx := fun _ H' => Q .non H', rt := Q } (start N vs) H) : MCal P w K mg base CX0 (k + 1) c m ps sp := by
  obtain ⟨fd, F⟩ := T.dm hx
  refine ⟨⟨fd, F.ok S len fun cdv A outer s H vs Q E hr h => ?_, F.bindsN bb⟩⟩
  obtain ⟨t, h1, h2⟩ := hbody cdv A outer s H vs Q E hr h
  exact ⟨t, h1.nox, h2⟩
theorem MCal.ofX (T : TX K mg) {c m q : Str} {i j k : Nat} {N ps : List Str} {sp : Sp} (hx : ((c, m, q, i, j) : Str × Str × Str × Nat × Nat) ∈ mNames) (S : FnScope N ps (defScope (mth i j))) (bb : BindF m q (mth i j) ps) (len : ∀ vs H Q E, sp vs H Q E → vs.length = ps.length)
    (hbody : ∀ (cdv : Value) (A : Around) (outer : List Env) (s : Shared) (H : Hp) (vs : List V) (Q : VK) (E : XK), Room k (A.deeper (envOfC q (defScope (mth i j)) s.heap.objs.size (He.ma K (He.ga K c) m) cdv)) → sp vs H Q E →
      ∃ t, PSs (cxOf CX P w K mg base N q (defScope (mth i j)) (He.ma K (He.ga K c) m) cdv A outer s H E) (defBody (mth i j)) t ∧ t { nx := fun _ H' => Q .non H', rt := Q } (start N vs) H) : MCal P w K mg base CX (k + 1) c m ps sp := by
  obtain ⟨fd, F⟩ := T.dm hx
  exact ⟨⟨fd, F.ok S len hbody, F.bindsN bb⟩⟩
end
section
variable {X : Cx} {CX : CXT} {k : Nat} {c x m : Str} {ps : List Str} {sp : Sp} {E : XK} {p pos apos : Pos} {e o : Expr} {es : List Expr} {ta : TE} {t : TA}
/-- f(e, ..) -/
theorem pe_cal (C : Cal X.prog X.w X.K X.mg X.base CX k x ps sp) (hr : Room k X.A) (hx : Passes CX X E) (ha : PA X (e :: es) t) (hg : Gl X x := by rfl)
    (hdb : (x == ("__debug__" : Str)) = false := by decide) (he : starEach (e :: es) X.env = (false, eval e X.env) :: starEach es X.env := by rfl) (hpl : (backTo pos (starEach es X.env)).any (·.1) = false := by rfl) :
    PE X (.Call (.Name x p) (e :: es) [] pos) (tCall sp [] E t) :=
  let ⟨_, F, b⟩ := C.ex
  pe_call F hr hg C.mg C.kp b .nil hx ha hdb he hpl
end
/-! ### scopes -/
theorem sc_common_divisor : FnScope ["first", "second", "one", "other"] ["first", "second"] (defScope (top 16)) := ⟨rfl, rfl, rfl, by decide +kernel, rfl, by decide +kernel, by decide +kernel⟩
theorem bd_common_divisor : BindF "common_divisor" "common_divisor" (top 16) ["first", "second"] := fun _ _ _ _ _ _ us hl => match us, hl with | [_, _], _ => rfl
theorem in_common_divisor : (("common_divisor", 16) : Str × Nat) ∈ gNames := by decide +kernel
theorem sc_fraction : FnScope ["numerator", "denominator", "divisor"] ["numerator", "denominator"] (defScope (top 17)) := ⟨rfl, rfl, rfl, by decide +kernel, rfl, by decide +kernel, by decide +kernel⟩
theorem sc_add : FnScope ["first", "second"] ["first", "second"] (defScope (top 18)) := ⟨rfl, rfl, rfl, by decide +kernel, rfl, by decide +kernel, by decide +kernel⟩
theorem bd_add : BindF "add" "add" (top 18) ["first", "second"] := fun _ _ _ _ _ _ us hl => match us, hl with | [_, _], _ => rfl
theorem in_add : (("add", 18) : Str × Nat) ∈ gNames := by decide +kernel
theorem sc_negative : FnScope ["value"] ["value"] (defScope (top 19)) := ⟨rfl, rfl, rfl, by decide +kernel, rfl, by decide +kernel, by decide +kernel⟩
theorem bd_negative : BindF "negative" "negative" (top 19) ["value"] := fun _ _ _ _ _ _ us hl => match us, hl with | [_], _ => rfl
theorem in_negative : (("negative", 19) : Str × Nat) ∈ gNames := by decide +kernel
theorem sc_subtract : FnScope ["first", "second"] ["first", "second"] (defScope (top 20)) := ⟨rfl, rfl, rfl, by decide +kernel, rfl, by decide +kernel, by decide +kernel⟩
theorem bd_subtract : BindF "subtract" "subtract" (top 20) ["first", "second"] := fun _ _ _ _ _ _ us hl => match us, hl with | [_, _], _ => rfl
theorem in_subtract : (("subtract", 20) : Str × Nat) ∈ gNames := by decide +kernel
theorem sc_sign : FnScope ["value"] ["value"] (defScope (top 21)) := ⟨rfl, rfl, rfl, by decide +kernel, rfl, by decide +kernel, by decide +kernel⟩
theorem bd_sign : BindF "sign" "sign" (top 21) ["value"] := fun _ _ _ _ _ _ us hl => match us, hl with | [_], _ => rfl
theorem in_sign : (("sign", 21) : Str × Nat) ∈ gNames := by decide +kernel
theorem sc_compare : FnScope ["first", "second"] ["first", "second"] (defScope (top 22)) := ⟨rfl, rfl, rfl, by decide +kernel, rfl, by decide +kernel, by decide +kernel⟩
theorem bd_compare : BindF "compare" "compare" (top 22) ["first", "second"] := fun _ _ _ _ _ _ us hl => match us, hl with | [_, _], _ => rfl
theorem in_compare : (("compare", 22) : Str × Nat) ∈ gNames := by decide +kernel
theorem sc_is_less : FnScope ["first", "second"] ["first", "second"] (defScope (top 23)) := ⟨rfl, rfl, rfl, by decide +kernel, rfl, by decide +kernel, by decide +kernel⟩
theorem bd_is_less : BindF "is_less" "is_less" (top 23) ["first", "second"] := fun _ _ _ _ _ _ us hl => match us, hl with | [_, _], _ => rfl
theorem in_is_less : (("is_less", 23) : Str × Nat) ∈ gNames := by decide +kernel
theorem sc_format_fraction : FnScope ["value"] ["value"] (defScope (top 31)) := ⟨rfl, rfl, rfl, by decide +kernel, rfl, by decide +kernel, by decide +kernel⟩
theorem bd_format_fraction : BindF "format_fraction" "format_fraction" (top 31) ["value"] := fun _ _ _ _ _ _ us hl => match us, hl with | [_], _ => rfl
theorem in_format_fraction : (("format_fraction", 31) : Str × Nat) ∈ gNames := by decide +kernel
theorem sc_format_element : FnScope ["element", "words"] ["element"] (defScope (top 32)) := ⟨rfl, rfl, rfl, by decide +kernel, rfl, by decide +kernel, by decide +kernel⟩
theorem bd_format_element : BindF "format_element" "format_element" (top 32) ["element"] := fun _ _ _ _ _ _ us hl => match us, hl with | [_], _ => rfl
theorem in_format_element : (("format_element", 32) : Str × Nat) ∈ gNames := by decide +kernel
theorem sc_format_train : FnScope ["train"] ["train"] (defScope (top 33)) := ⟨rfl, rfl, rfl, by decide +kernel, rfl, by decide +kernel, by decide +kernel⟩
theorem bd_format_train : BindF "format_train" "format_train" (top 33) ["train"] := fun _ _ _ _ _ _ us hl => match us, hl with | [_], _ => rfl
theorem in_format_train : (("format_train", 33) : Str × Nat) ∈ gNames := by decide +kernel
theorem sc_tokens_of : FnScope ["text", "tokens", "word", "sign"] ["text"] (defScope (top 34)) := ⟨rfl, rfl, rfl, by decide +kernel, rfl, by decide +kernel, by decide +kernel⟩
theorem bd_tokens_of : BindF "tokens_of" "tokens_of" (top 34) ["text"] := fun _ _ _ _ _ _ us hl => match us, hl with | [_], _ => rfl
theorem in_tokens_of : (("tokens_of", 34) : Str × Nat) ∈ gNames := by decide +kernel
theorem sc_natural_of : FnScope ["word", "number"] ["word"] (defScope (top 35)) := ⟨rfl, rfl, rfl, by decide +kernel, rfl, by decide +kernel, by decide +kernel⟩
theorem bd_natural_of : BindF "natural_of" "natural_of" (top 35) ["word"] := fun _ _ _ _ _ _ us hl => match us, hl with | [_], _ => rfl
theorem in_natural_of : (("natural_of", 35) : Str × Nat) ∈ gNames := by decide +kernel
theorem sc_fraction_of : FnScope ["word", "unsigned", "parts", "numbers", "numerator"] ["word"] (defScope (top 36)) := ⟨rfl, rfl, rfl, by decide +kernel, rfl, by decide +kernel, by decide +kernel⟩
theorem bd_fraction_of : BindF "fraction_of" "fraction_of" (top 36) ["word"] := fun _ _ _ _ _ _ us hl => match us, hl with | [_], _ => rfl
theorem in_fraction_of : (("fraction_of", 36) : Str × Nat) ∈ gNames := by decide +kernel
theorem sc_is_good : FnScope ["element"] ["element"] (defScope (top 38)) := ⟨rfl, rfl, rfl, by decide +kernel, rfl, by decide +kernel, by decide +kernel⟩
theorem bd_is_good : BindF "is_good" "is_good" (top 38) ["element"] := fun _ _ _ _ _ _ us hl => match us, hl with | [_], _ => rfl
theorem in_is_good : (("is_good", 38) : Str × Nat) ∈ gNames := by decide +kernel
theorem sc_parse_train : FnScope ["text", "train", "stops"] ["text"] (defScope (top 39)) := ⟨rfl, rfl, rfl, by decide +kernel, rfl, by decide +kernel, by decide +kernel⟩
theorem bd_parse_train : BindF "parse_train" "parse_train" (top 39) ["text"] := fun _ _ _ _ _ _ us hl => match us, hl with | [_], _ => rfl
theorem in_parse_train : (("parse_train", 39) : Str × Nat) ∈ gNames := by decide +kernel
theorem sc_sum_of : FnScope ["octets"] ["octets"] (defScope (top 47)) := ⟨rfl, rfl, rfl, by decide +kernel, rfl, by decide +kernel, by decide +kernel⟩
theorem bd_sum_of : BindF "sum_of" "sum_of" (top 47) ["octets"] := fun _ _ _ _ _ _ us hl => match us, hl with | [_], _ => rfl
theorem in_sum_of : (("sum_of", 47) : Str × Nat) ∈ gNames := by decide +kernel
theorem sc_body_of : FnScope ["operation", "kind"] ["operation"] (defScope (top 48)) := ⟨rfl, rfl, rfl, by decide +kernel, rfl, by decide +kernel, by decide +kernel⟩
theorem bd_body_of : BindF "body_of" "body_of" (top 48) ["operation"] := fun _ _ _ _ _ _ us hl => match us, hl with | [_], _ => rfl
theorem in_body_of : (("body_of", 48) : Str × Nat) ∈ gNames := by decide +kernel
theorem sc_record_of : FnScope ["operation", "body"] ["operation"] (defScope (top 49)) := ⟨rfl, rfl, rfl, by decide +kernel, rfl, by decide +kernel, by decide +kernel⟩
theorem bd_record_of : BindF "record_of" "record_of" (top 49) ["operation"] := fun _ _ _ _ _ _ us hl => match us, hl with | [_], _ => rfl
theorem in_record_of : (("record_of", 49) : Str × Nat) ∈ gNames := by decide +kernel
theorem sc_sign_of : FnScope ["octet", "sign"] ["octet"] (defScope (top 50)) := ⟨rfl, rfl, rfl, by decide +kernel, rfl, by decide +kernel, by decide +kernel⟩
theorem bd_sign_of : BindF "sign_of" "sign_of" (top 50) ["octet"] := fun _ _ _ _ _ _ us hl => match us, hl with | [_], _ => rfl
theorem in_sign_of : (("sign_of", 50) : Str × Nat) ∈ gNames := by decide +kernel
theorem sc_element_of : FnScope ["octets", "signs", "text", "train"] ["octets"] (defScope (top 51)) := ⟨rfl, rfl, rfl, by decide +kernel, rfl, by decide +kernel, by decide +kernel⟩
theorem bd_element_of : BindF "element_of" "element_of" (top 51) ["octets"] := fun _ _ _ _ _ _ us hl => match us, hl with | [_], _ => rfl
theorem in_element_of : (("element_of", 51) : Str × Nat) ∈ gNames := by decide +kernel
theorem sc_operation_of : FnScope ["body", "element"] ["body"] (defScope (top 52)) := ⟨rfl, rfl, rfl, by decide +kernel, rfl, by decide +kernel, by decide +kernel⟩
theorem bd_operation_of : BindF "operation_of" "operation_of" (top 52) ["body"] := fun _ _ _ _ _ _ us hl => match us, hl with | [_], _ => rfl
theorem in_operation_of : (("operation_of", 52) : Str × Nat) ∈ gNames := by decide +kernel
theorem sc_recovered : FnScope ["octets", "operations", "place", "end", "body", "operation"] ["octets"] (defScope (top 53)) := ⟨rfl, rfl, rfl, by decide +kernel, rfl, by decide +kernel, by decide +kernel⟩
theorem bd_recovered : BindF "recovered" "recovered" (top 53) ["octets"] := fun _ _ _ _ _ _ us hl => match us, hl with | [_], _ => rfl
theorem in_recovered : (("recovered", 53) : Str × Nat) ∈ gNames := by decide +kernel
theorem sc_perform : FnScope ["bench", "operation"] ["bench", "operation"] (defScope (top 54)) := ⟨rfl, rfl, rfl, by decide +kernel, rfl, by decide +kernel, by decide +kernel⟩
theorem bd_perform : BindF "perform" "perform" (top 54) ["bench", "operation"] := fun _ _ _ _ _ _ us hl => match us, hl with | [_, _], _ => rfl
theorem in_perform : (("perform", 54) : Str × Nat) ∈ gNames := by decide +kernel
theorem sc_opened : FnScope ["train", "octets", "power", "bench", "operations", "end", "operation"] ["train", "octets", "power"] (defScope (top 58)) := ⟨rfl, rfl, rfl, by decide +kernel, rfl, by decide +kernel, by decide +kernel⟩
theorem bd_opened : BindF "opened" "opened" (top 58) ["train", "octets", "power"] := fun _ _ _ _ _ _ us hl => match us, hl with | [_, _, _], _ => rfl
theorem in_opened : (("opened", 58) : Str × Nat) ∈ gNames := by decide +kernel
theorem sc_law_cell : FnScope ["_law_script", "_law_k"] ["_law_script", "_law_k"] (defScope (top 60)) := ⟨rfl, rfl, rfl, by decide +kernel, rfl, by decide +kernel, by decide +kernel⟩
theorem bd_law_cell : BindF "_law_cell" "_law_cell" (top 60) ["_law_script", "_law_k"] := fun _ _ _ _ _ _ us hl => match us, hl with | [_, _], _ => rfl
theorem in_law_cell : (("_law_cell", 60) : Str × Nat) ∈ gNames := by decide +kernel
theorem sc_law_row : FnScope ["_law_cell_here", "_law_k", "_law_many", "_law_row_here", "_law_turn", "_law_seed"] ["_law_cell_here", "_law_k", "_law_many"] (defScope (top 61)) := ⟨rfl, rfl, rfl, by decide +kernel, rfl, by decide +kernel, by decide +kernel⟩
theorem bd_law_row : BindF "_law_row" "_law_row" (top 61) ["_law_cell_here", "_law_k", "_law_many"] := fun _ _ _ _ _ _ us hl => match us, hl with | [_, _, _], _ => rfl
theorem in_law_row : (("_law_row", 61) : Str × Nat) ∈ gNames := by decide +kernel
theorem sc_law_box : FnScope ["_law_script", "_law_first", "_law_last", "_law_row_here", "_law_k"] ["_law_script", "_law_first", "_law_last"] (defScope (top 62)) := ⟨rfl, rfl, rfl, by decide +kernel, rfl, by decide +kernel, by decide +kernel⟩
theorem bd_law_box : BindF "_law_box" "_law_box" (top 62) ["_law_script", "_law_first", "_law_last"] := fun _ _ _ _ _ _ us hl => match us, hl with | [_, _, _], _ => rfl
theorem in_law_box : (("_law_box", 62) : Str × Nat) ∈ gNames := by decide +kernel
theorem sc_law_draw : FnScope ["_law_box_here", "_law_many", "_law_at"] ["_law_box_here", "_law_many"] (defScope (top 63)) := ⟨rfl, rfl, rfl, by decide +kernel, rfl, by decide +kernel, by decide +kernel⟩
theorem bd_law_draw : BindF "_law_draw" "_law_draw" (top 63) ["_law_box_here", "_law_many"] := fun _ _ _ _ _ _ us hl => match us, hl with | [_, _], _ => rfl
theorem in_law_draw : (("_law_draw", 63) : Str × Nat) ∈ gNames := by decide +kernel
theorem sc_law_frac : FnScope ["_law_top", "_law_bottom", "_law_one", "_law_other"] ["_law_top", "_law_bottom"] (defScope (top 64)) := ⟨rfl, rfl, rfl, by decide +kernel, rfl, by decide +kernel, by decide +kernel⟩
theorem bd_law_frac : BindF "_law_frac" "_law_frac" (top 64) ["_law_top", "_law_bottom"] := fun _ _ _ _ _ _ us hl => match us, hl with | [_, _], _ => rfl
theorem in_law_frac : (("_law_frac", 64) : Str × Nat) ∈ gNames := by decide +kernel
theorem sc_law_add : FnScope ["_law_one", "_law_other"] ["_law_one", "_law_other"] (defScope (top 65)) := ⟨rfl, rfl, rfl, by decide +kernel, rfl, by decide +kernel, by decide +kernel⟩
theorem bd_law_add : BindF "_law_add" "_law_add" (top 65) ["_law_one", "_law_other"] := fun _ _ _ _ _ _ us hl => match us, hl with | [_, _], _ => rfl
theorem in_law_add : (("_law_add", 65) : Str × Nat) ∈ gNames := by decide +kernel
theorem sc_law_fraction : FnScope ["_law_box_here"] ["_law_box_here"] (defScope (top 66)) := ⟨rfl, rfl, rfl, by decide +kernel, rfl, by decide +kernel, by decide +kernel⟩
theorem bd_law_fraction : BindF "_law_fraction" "_law_fraction" (top 66) ["_law_box_here"] := fun _ _ _ _ _ _ us hl => match us, hl with | [_], _ => rfl
theorem in_law_fraction : (("_law_fraction", 66) : Str × Nat) ∈ gNames := by decide +kernel
theorem sc_law_nonzero : FnScope ["_law_box_here", "_law_value"] ["_law_box_here"] (defScope (top 67)) := ⟨rfl, rfl, rfl, by decide +kernel, rfl, by decide +kernel, by decide +kernel⟩
theorem bd_law_nonzero : BindF "_law_nonzero" "_law_nonzero" (top 67) ["_law_box_here"] := fun _ _ _ _ _ _ us hl => match us, hl with | [_], _ => rfl
theorem in_law_nonzero : (("_law_nonzero", 67) : Str × Nat) ∈ gNames := by decide +kernel
theorem sc_law_stop : FnScope ["_law_box_here", "_law_lower", "_law_upper", "_law_kind"] ["_law_box_here"] (defScope (top 68)) := ⟨rfl, rfl, rfl, by decide +kernel, rfl, by decide +kernel, by decide +kernel⟩
theorem bd_law_stop : BindF "_law_stop" "_law_stop" (top 68) ["_law_box_here"] := fun _ _ _ _ _ _ us hl => match us, hl with | [_], _ => rfl
theorem in_law_stop : (("_law_stop", 68) : Str × Nat) ∈ gNames := by decide +kernel
theorem sc_law_element : FnScope ["_law_box_here", "_law_kind"] ["_law_box_here"] (defScope (top 69)) := ⟨rfl, rfl, rfl, by decide +kernel, rfl, by decide +kernel, by decide +kernel⟩
theorem bd_law_element : BindF "_law_element" "_law_element" (top 69) ["_law_box_here"] := fun _ _ _ _ _ _ us hl => match us, hl with | [_], _ => rfl
theorem in_law_element : (("_law_element", 69) : Str × Nat) ∈ gNames := by decide +kernel
theorem sc_law_train : FnScope ["_law_box_here", "_law_most"] ["_law_box_here", "_law_most"] (defScope (top 70)) := ⟨rfl, rfl, rfl, by decide +kernel, rfl, by decide +kernel, by decide +kernel⟩
theorem bd_law_train : BindF "_law_train" "_law_train" (top 70) ["_law_box_here", "_law_most"] := fun _ _ _ _ _ _ us hl => match us, hl with | [_, _], _ => rfl
theorem in_law_train : (("_law_train", 70) : Str × Nat) ∈ gNames := by decide +kernel
theorem sc_law_same : FnScope ["_law_one", "_law_other"] ["_law_one", "_law_other"] (defScope (top 71)) := ⟨rfl, rfl, rfl, by decide +kernel, rfl, by decide +kernel, by decide +kernel⟩
theorem bd_law_same : BindF "_law_same" "_law_same" (top 71) ["_law_one", "_law_other"] := fun _ _ _ _ _ _ us hl => match us, hl with | [_, _], _ => rfl
theorem in_law_same : (("_law_same", 71) : Str × Nat) ∈ gNames := by decide +kernel
theorem sc_law_done : FnScope ["_law_rows", "_law_operation_here", "_law_train_here", "_law_index", "_law_more"] ["_law_rows", "_law_operation_here"] (defScope (top 72)) := ⟨rfl, rfl, rfl, by decide +kernel, rfl, by decide +kernel, by decide +kernel⟩
theorem bd_law_done : BindF "_law_done" "_law_done" (top 72) ["_law_rows", "_law_operation_here"] := fun _ _ _ _ _ _ us hl => match us, hl with | [_, _], _ => rfl
theorem in_law_done : (("_law_done", 72) : Str × Nat) ∈ gNames := by decide +kernel
theorem sc_law_operation : FnScope ["_law_box_here", "_law_many", "_law_kind", "_law_index"] ["_law_box_here", "_law_many"] (defScope (top 73)) := ⟨rfl, rfl, rfl, by decide +kernel, rfl, by decide +kernel, by decide +kernel⟩
theorem bd_law_operation : BindF "_law_operation" "_law_operation" (top 73) ["_law_box_here", "_law_many"] := fun _ _ _ _ _ _ us hl => match us, hl with | [_, _], _ => rfl
theorem in_law_operation : (("_law_operation", 73) : Str × Nat) ∈ gNames := by decide +kernel
theorem sc_law_record : FnScope ["_law_operation_here", "_law_body"] ["_law_operation_here"] (defScope (top 74)) := ⟨rfl, rfl, rfl, by decide +kernel, rfl, by decide +kernel, by decide +kernel⟩
theorem bd_law_record : BindF "_law_record" "_law_record" (top 74) ["_law_operation_here"] := fun _ _ _ _ _ _ us hl => match us, hl with | [_], _ => rfl
theorem in_law_record : (("_law_record", 74) : Str × Nat) ∈ gNames := by decide +kernel
theorem sc_law_performed : FnScope ["_law_journaled", "_law_operation_here", "e"] ["_law_journaled", "_law_operation_here"] (defScope (top 75)) := ⟨rfl, rfl, rfl, by decide +kernel, rfl, by decide +kernel, by decide +kernel⟩
theorem bd_law_performed : BindF "_law_performed" "_law_performed" (top 75) ["_law_journaled", "_law_operation_here"] := fun _ _ _ _ _ _ us hl => match us, hl with | [_, _], _ => rfl
theorem in_law_performed : (("_law_performed", 75) : Str × Nat) ∈ gNames := by decide +kernel
theorem sc_law : FnScope ["_law_script", "_law_box_here", "_law_train_here", "_law_rows", "_law_whole", "_law_octets", "_law_session", "_law_power", "_law_journaled", "_law_bench", "_law_turn", "_law_operation_here", "_law_told", "_law_due", "_law_after"] ["_law_script"] (defScope (top 76)) := ⟨rfl, rfl, rfl, by decide +kernel, rfl, by decide +kernel, by decide +kernel⟩
theorem bd_law : BindF "law" "law" (top 76) ["_law_script"] := fun _ _ _ _ _ _ us hl => match us, hl with | [_], _ => rfl
theorem in_law : (("law", 76) : Str × Nat) ∈ gNames := by decide +kernel
theorem sc_Bench_init : FnScope ["self", "train"] ["self", "train"] (defScope (mth 13 0)) := ⟨rfl, rfl, rfl, by decide +kernel, rfl, by decide +kernel, by decide +kernel⟩
theorem bd_Bench_init : BindF "__init__" "Bench.__init__" (mth 13 0) ["self", "train"] := fun _ _ _ _ _ _ us hl => match us, hl with | [_, _], _ => rfl
theorem in_Bench_init : (("Bench", "__init__", "Bench.__init__", 13, 0) : Str × Str × Str × Nat × Nat) ∈ mNames := by decide +kernel
theorem sc_Bench_train : FnScope ["self"] ["self"] (defScope (mth 13 1)) := ⟨rfl, rfl, rfl, by decide +kernel, rfl, by decide +kernel, by decide +kernel⟩
theorem bd_Bench_train : BindF "train" "Bench.train" (mth 13 1) ["self"] := fun _ _ _ _ _ _ us hl => match us, hl with | [_], _ => rfl
theorem in_Bench_train : (("Bench", "train", "Bench.train", 13, 1) : Str × Str × Str × Nat × Nat) ∈ mNames := by decide +kernel
theorem sc_Bench_operations : FnScope ["self"] ["self"] (defScope (mth 13 2)) := ⟨rfl, rfl, rfl, by decide +kernel, rfl, by decide +kernel, by decide +kernel⟩
theorem bd_Bench_operations : BindF "operations" "Bench.operations" (mth 13 2) ["self"] := fun _ _ _ _ _ _ us hl => match us, hl with | [_], _ => rfl
theorem in_Bench_operations : (("Bench", "operations", "Bench.operations", 13, 2) : Str × Str × Str × Nat × Nat) ∈ mNames := by decide +kernel
theorem sc_Bench_put : FnScope ["self", "index", "element", "train"] ["self", "index", "element"] (defScope (mth 13 3)) := ⟨rfl, rfl, rfl, by decide +kernel, rfl, by decide +kernel, by decide +kernel⟩
theorem bd_Bench_put : BindF "put" "Bench.put" (mth 13 3) ["self", "index", "element"] := fun _ _ _ _ _ _ us hl => match us, hl with | [_, _, _], _ => rfl
theorem in_Bench_put : (("Bench", "put", "Bench.put", 13, 3) : Str × Str × Str × Nat × Nat) ∈ mNames := by decide +kernel
theorem sc_Bench_take : FnScope ["self", "index", "train"] ["self", "index"] (defScope (mth 13 4)) := ⟨rfl, rfl, rfl, by decide +kernel, rfl, by decide +kernel, by decide +kernel⟩
theorem bd_Bench_take : BindF "take" "Bench.take" (mth 13 4) ["self", "index"] := fun _ _ _ _ _ _ us hl => match us, hl with | [_, _], _ => rfl
theorem in_Bench_take : (("Bench", "take", "Bench.take", 13, 4) : Str × Str × Str × Nat × Nat) ∈ mNames := by decide +kernel
theorem sc_Bench_exchange : FnScope ["self", "index", "element", "train"] ["self", "index", "element"] (defScope (mth 13 5)) := ⟨rfl, rfl, rfl, by decide +kernel, rfl, by decide +kernel, by decide +kernel⟩
theorem bd_Bench_exchange : BindF "exchange" "Bench.exchange" (mth 13 5) ["self", "index", "element"] := fun _ _ _ _ _ _ us hl => match us, hl with | [_, _, _], _ => rfl
theorem in_Bench_exchange : (("Bench", "exchange", "Bench.exchange", 13, 5) : Str × Str × Str × Nat × Nat) ∈ mNames := by decide +kernel
theorem sc_Bench_undo : FnScope ["self"] ["self"] (defScope (mth 13 6)) := ⟨rfl, rfl, rfl, by decide +kernel, rfl, by decide +kernel, by decide +kernel⟩
theorem bd_Bench_undo : BindF "undo" "Bench.undo" (mth 13 6) ["self"] := fun _ _ _ _ _ _ us hl => match us, hl with | [_], _ => rfl
theorem in_Bench_undo : (("Bench", "undo", "Bench.undo", 13, 6) : Str × Str × Str × Nat × Nat) ∈ mNames := by decide +kernel
theorem sc_Bench_history : FnScope ["self"] ["self"] (defScope (mth 13 7)) := ⟨rfl, rfl, rfl, by decide +kernel, rfl, by decide +kernel, by decide +kernel⟩
theorem bd_Bench_history : BindF "history" "Bench.history" (mth 13 7) ["self"] := fun _ _ _ _ _ _ us hl => match us, hl with | [_], _ => rfl
theorem in_Bench_history : (("Bench", "history", "Bench.history", 13, 7) : Str × Str × Str × Nat × Nat) ∈ mNames := by decide +kernel
theorem sc_Reader_init : FnScope ["self", "text"] ["self", "text"] (defScope (mth 37 0)) := ⟨rfl, rfl, rfl, by decide +kernel, rfl, by decide +kernel, by decide +kernel⟩
theorem bd_Reader_init : BindF "__init__" "Reader.__init__" (mth 37 0) ["self", "text"] := fun _ _ _ _ _ _ us hl => match us, hl with | [_, _], _ => rfl
theorem in_Reader_init : (("Reader", "__init__", "Reader.__init__", 37, 0) : Str × Str × Str × Nat × Nat) ∈ mNames := by decide +kernel
theorem sc_Reader_is_next : FnScope ["self", "word"] ["self", "word"] (defScope (mth 37 1)) := ⟨rfl, rfl, rfl, by decide +kernel, rfl, by decide +kernel, by decide +kernel⟩
theorem bd_Reader_is_next : BindF "is_next" "Reader.is_next" (mth 37 1) ["self", "word"] := fun _ _ _ _ _ _ us hl => match us, hl with | [_, _], _ => rfl
theorem in_Reader_is_next : (("Reader", "is_next", "Reader.is_next", 37, 1) : Str × Str × Str × Nat × Nat) ∈ mNames := by decide +kernel
theorem sc_Reader_token : FnScope ["self"] ["self"] (defScope (mth 37 2)) := ⟨rfl, rfl, rfl, by decide +kernel, rfl, by decide +kernel, by decide +kernel⟩
theorem bd_Reader_token : BindF "token" "Reader.token" (mth 37 2) ["self"] := fun _ _ _ _ _ _ us hl => match us, hl with | [_], _ => rfl
theorem in_Reader_token : (("Reader", "token", "Reader.token", 37, 2) : Str × Str × Str × Nat × Nat) ∈ mNames := by decide +kernel
theorem sc_Reader_number : FnScope ["self", "found"] ["self"] (defScope (mth 37 3)) := ⟨rfl, rfl, rfl, by decide +kernel, rfl, by decide +kernel, by decide +kernel⟩
theorem bd_Reader_number : BindF "number" "Reader.number" (mth 37 3) ["self"] := fun _ _ _ _ _ _ us hl => match us, hl with | [_], _ => rfl
theorem in_Reader_number : (("Reader", "number", "Reader.number", 37, 3) : Str × Str × Str × Nat × Nat) ∈ mNames := by decide +kernel
theorem sc_Reader_stop : FnScope ["self", "lower", "upper"] ["self"] (defScope (mth 37 4)) := ⟨rfl, rfl, rfl, by decide +kernel, rfl, by decide +kernel, by decide +kernel⟩
theorem bd_Reader_stop : BindF "stop" "Reader.stop" (mth 37 4) ["self"] := fun _ _ _ _ _ _ us hl => match us, hl with | [_], _ => rfl
theorem in_Reader_stop : (("Reader", "stop", "Reader.stop", 37, 4) : Str × Str × Str × Nat × Nat) ∈ mNames := by decide +kernel
theorem sc_Reader_element : FnScope ["self", "word", "number", "center"] ["self"] (defScope (mth 37 5)) := ⟨rfl, rfl, rfl, by decide +kernel, rfl, by decide +kernel, by decide +kernel⟩
theorem bd_Reader_element : BindF "element" "Reader.element" (mth 37 5) ["self"] := fun _ _ _ _ _ _ us hl => match us, hl with | [_], _ => rfl
theorem in_Reader_element : (("Reader", "element", "Reader.element", 37, 5) : Str × Str × Str × Nat × Nat) ∈ mNames := by decide +kernel
theorem sc_Reader_train : FnScope ["self", "found"] ["self"] (defScope (mth 37 6)) := ⟨rfl, rfl, rfl, by decide +kernel, rfl, by decide +kernel, by decide +kernel⟩
theorem bd_Reader_train : BindF "train" "Reader.train" (mth 37 6) ["self"] := fun _ _ _ _ _ _ us hl => match us, hl with | [_], _ => rfl
theorem in_Reader_train : (("Reader", "train", "Reader.train", 37, 6) : Str × Str × Str × Nat × Nat) ∈ mNames := by decide +kernel
theorem sc_Device_init : FnScope ["self", "octets", "power"] ["self", "octets", "power"] (defScope (mth 56 0)) := ⟨rfl, rfl, rfl, by decide +kernel, rfl, by decide +kernel, by decide +kernel⟩
theorem bd_Device_init : BindF "__init__" "Device.__init__" (mth 56 0) ["self", "octets", "power"] := fun _ _ _ _ _ _ us hl => match us, hl with | [_, _, _], _ => rfl
theorem in_Device_init : (("Device", "__init__", "Device.__init__", 56, 0) : Str × Str × Str × Nat × Nat) ∈ mNames := by decide +kernel
theorem sc_Device_append : FnScope ["self", "octet"] ["self", "octet"] (defScope (mth 56 1)) := ⟨rfl, rfl, rfl, by decide +kernel, rfl, by decide +kernel, by decide +kernel⟩
theorem bd_Device_append : BindF "append" "Device.append" (mth 56 1) ["self", "octet"] := fun _ _ _ _ _ _ us hl => match us, hl with | [_, _], _ => rfl
theorem in_Device_append : (("Device", "append", "Device.append", 56, 1) : Str × Str × Str × Nat × Nat) ∈ mNames := by decide +kernel
theorem sc_JournaledBench_init : FnScope ["self", "bench", "device"] ["self", "bench", "device"] (defScope (mth 57 0)) := ⟨rfl, rfl, rfl, by decide +kernel, rfl, by decide +kernel, by decide +kernel⟩
theorem bd_JournaledBench_init : BindF "__init__" "JournaledBench.__init__" (mth 57 0) ["self", "bench", "device"] := fun _ _ _ _ _ _ us hl => match us, hl with | [_, _, _], _ => rfl
theorem in_JournaledBench_init : (("JournaledBench", "__init__", "JournaledBench.__init__", 57, 0) : Str × Str × Str × Nat × Nat) ∈ mNames := by decide +kernel
theorem sc_JournaledBench_perform : FnScope ["self", "operation", "told", "octet"] ["self", "operation"] (defScope (mth 57 1)) := ⟨rfl, rfl, rfl, by decide +kernel, rfl, by decide +kernel, by decide +kernel⟩
theorem bd_JournaledBench_perform : BindF "perform" "JournaledBench.perform" (mth 57 1) ["self", "operation"] := fun _ _ _ _ _ _ us hl => match us, hl with | [_, _], _ => rfl
theorem in_JournaledBench_perform : (("JournaledBench", "perform", "JournaledBench.perform", 57, 1) : Str × Str × Str × Nat × Nat) ∈ mNames := by decide +kernel
end RT
end
section
set_option Elab.async false
set_option linter.all false
set_option maxRecDepth 100000
set_option maxHeartbeats 2000000
/-! Z8a: what the head's Hook looks at. -/
namespace RT
open PySem PySem.Spec PyProof.Rows L2
open PySem.W PySem.HandSPX
/-- an own exception: its class's name, the field, the line, the class's place in the top -/
structure OwD where
  x : Str
  fld : Str
  ln : Nat
  qual : Str
  i : Nat
abbrev OwW : Type := Option (Str × Str × Arguments × FuncBody × Scope × Addr × List Str × Addr)
def OwD.val (d : OwD) : OwW := some ("__init__", d.qual, defArgs (mth d.i 0), .stmts (defBody (mth d.i 0)), defScope (mth d.i 0), mainGlobals, ["__class__"], builtinsNs)
def owW (K : Frag) (d : OwD) : OwW := match K.lookup (He.ma K (He.ga K d.x) "__init__") with
  | some ⟨_, _, .func fd, _⟩ => some (fd.name, fd.qualname, fd.params, fd.body, fd.scope, fd.globals, fd.closure.map (·.1), fd.builtins)
  | _ => none
def isNonV : Value → Bool
  | .none => true
  | _ => false
def fileB (K : Frag) (file : Str) (c : Value) : Bool := match c with
  | .ref cda => (match K.lookup cda with
    | some ⟨_, _, .fields vs, _⟩ => (match (vs[2]? : Option Value) with
      | some (.str f _) => file == f
      | _ => false)
    | _ => false)
  | _ => false
def cellB (K : Frag) (C : Addr) (cl : List (Str × Addr)) : Bool := match cl with
  | [(_, cc)] => (match K.lookup cc with
    | some ⟨_, _, .cell (some (.ref b)), _⟩ => decide (b = C)
    | _ => false)
  | _ => false
def owF (file : Str) (K : Frag) (d : OwD) : Bool := match K.lookup (He.ma K (He.ga K d.x) "__init__") with
  | some ⟨_, _, .func fd, _⟩ => isNonV fd.defaults && (codeIn K fd.code d.qual && (fileB K file fd.code && cellB K (He.ga K d.x) fd.closure))
  | _ => false
def clsB (K : Frag) (C : Addr) : Bool := match clsIn K C with
  | some cd => refsVE cd.mro && cd.hasDict
  | none => false
def owB (K : Frag) (d : OwD) : Bool :=
  excInitIn K (He.ga K d.x) veTail "ValueError.__new__" && (clsB K (He.ga K d.x) && (decide (mroIn K (He.ga K d.x) (.ref (He.ga K d.x)) = some true) && (decide (subIn K (.ref (He.ga K d.x)) (.type "ValueError") = some true) &&
  (He.eqO (findIn K (.ref (He.ga K d.x)) "__setattr__") (some (some (.builtin "object.__setattr__"))) && (He.eqO (findIn K (.ref (He.ga K d.x)) d.fld) (some none) && (He.eqO (findIn K (.ref (He.ga K d.x)) "__init__") (some (some (.ref (He.ma K (He.ga K d.x) "__init__")))) &&
  (decide (typeIn K (.ref (He.ma K (He.ga K d.x) "__init__")) = some (.type "function")) && (He.eqO (ks_superIn K (He.ga K d.x) (He.ga K d.x) "__init__") (some (some (.builtin "ValueError.__init__"))) && (He.eqO (nsIn K cStatics "thirdparty.any") (some none) && He.eqO (nsIn K mainGlobals "super") (some none))))))))))
def owX (K : Frag) (d : OwD) : Bool :=
  decide (subIn K (.ref (He.ga K d.x)) (.type "BaseException") = some true) && (decide (typeIn K (.ref (He.ga K d.x)) = some (.type "type")) && (hasDictIn K (He.ga K d.x) && (He.eqO (findIn K (.ref (He.ga K d.x)) "__getattribute__") (some (some (.builtin "BaseException.__getattribute__"))) && He.eqO (findIn K (.ref (He.ga K d.x)) "__getattr__") (some none))))
def dEl : OwD := ⟨"NoSuchElement", "index", 10, "NoSuchElement.__init__", 3⟩
def dPo : OwD := ⟨"NoSuchPosition", "index", 15, "NoSuchPosition.__init__", 4⟩
def dCut : OwD := ⟨"PowerCut", "written", 31, "PowerCut.__init__", 9⟩
end RT
end
section
set_option Elab.async false
set_option linter.all false
set_option maxRecDepth 100000
set_option maxHeartbeats 0
/-! Z9: the Hook. -/
namespace RT
open PySem PySem.Spec PyProof.Rows L2
open PySem.W PySem.HandSPX
def tf : List He.Defn := [("natural_of", none), ("fraction_of", none), ("parse_train", none)]
def owL : List OwD := [dEl, dPo, dCut]
def zeroL : List He.Dv := [.int 0, .int 1]
def wordsL : List He.Dv := [.str "gap", .str "lens", .str "prism", .str "afocal", .str "stop"]
def file0 : Str := PySem.Challenge.pw_raytrain_k95_power_cuts.main.file
def exB (K : Frag) : Bool := He.tupB K "ZERO" zeroL && (He.tupB K "WORDS" wordsL && (He.eqO (nsIn K mainGlobals "perform_journal") (some (some (.ref (He.ga K "perform")))) && (owL.all (fun d => owF file0 K d) && (owL.all (fun d => owB K d) && owL.all fun d => owX K d))))
abbrev AlO : Type := (He.AlD × Bool) × List OwW
def frO (n : Nat) (g : Addr → Option Obj) : Frag := He.frT g (cStatics :: He.asD g n)
def obsO (n : Nat) (g : Addr → Option Obj) : AlO := ((He.obsD fa fn (frO n g), exB (frO n g) && He.tabsB g tf (frO n g)), owL.map fun d => owW (frO n g) d)
def valO : AlO := ((He.valD fn, true), owL.map OwD.val)
structure SaysO (h : Heap) (K : Frag) : Prop where
  d : He.SaysD fa fn K
  more : exB K = true
  hd : ∀ p ∈ tf, codeHdIn K (He.cT K p).1 (He.cT K p).2 = true
  out : ∀ p ∈ tf, K.lookup (He.cT K p).2 = none
  empty : ∀ p ∈ tf, h.get? (He.cT K p).2 = some { cls := .none, data := .fields #[] }
  ow : ∀ d ∈ owL, owW K d = d.val
theorem saysO_of {n : Nat} {h : Heap} (e : obsO n h.get? = valO) : SaysO h (frO n h.get?) := by
  have e1 : He.obsD fa fn (frO n h.get?) = He.valD fn := congrArg (fun z : AlO => z.1.1) e
  have e2 : (exB (frO n h.get?) && He.tabsB h.get? tf (frO n h.get?)) = true := congrArg (fun z : AlO => z.1.2) e
  have e3 : (owL.map fun d => owW (frO n h.get?) d) = owL.map OwD.val := congrArg (fun z : AlO => z.2) e
  obtain ⟨h1, h2⟩ := He.ba e2
  have key : ∀ p ∈ tf, codeHdIn (frO n h.get?) (He.cT (frO n h.get?) p).1 (He.cT (frO n h.get?) p).2 = true ∧ ∃ o, h.get? (He.cT (frO n h.get?) p).2 = some o ∧ He.emptyTab o = true := fun p hp => by
    obtain ⟨h3, h4⟩ := He.ba (List.all_eq_true.mp h2 p hp)
    refine ⟨h3, ?_⟩
    cases q : h.get? (He.cT (frO n h.get?) p).2 with
    | none =>
      rw [q] at h4
      cases h4
    | some o =>
      rw [q] at h4
      exact ⟨o, rfl, h4⟩
  exact ⟨e1, h1, fun p hp => (key p hp).1, fun p hp => by
    obtain ⟨_, o, q, z⟩ := key p hp
    exact He.frT_none q z, fun p hp => by
    obtain ⟨_, o, q, z⟩ := key p hp
    rw [q, He.emptyTab_eq z], fun d hd => List.map_inj_left.mp e3 d hd⟩
def hookO (n : Nat) : Hook where
  α := AlO
  obs := fun s => obsO n s.heap.get?
  val := fun _ => valO
  says := fun _ h => ∃ K : Frag, K.In h ∧ SaysO h K
  of := fun _ _ e => ⟨_, He.frT_in, saysO_of e⟩
  keeps := fun _ _ _ ⟨K, hK, c⟩ k => ⟨K, Frag.In.keeps hK k, ⟨c.d, c.more, c.hd, c.out, fun p hp => k _ _ (c.empty p hp), c.ow⟩⟩
theorem obsO_eq {n : Nat} {g : Addr → Option Obj} {s : Shared} (h : ∀ a, g a = s.heap.get? a) : obsO n g = (hookO n).obs s := by
  have e : g = s.heap.get? := funext h
  rw [e] <;> rfl
abbrev R : OpenRow := OpenLaw.row PySem.Challenge.rw_raytrain_k95_power_cuts
abbrev hk : Hook := hookO 5
def ob (s : SharedT) : AlO := obsO 5 (HandSHeadRun.getT s)
theorem ob_eq (s : SharedT) : ob s = hk.obs s.abs := obsO_eq (HandSHeadRun.getT_eq s)
def loose1 : List Str := ["_wall", "RaytrainError", "NoSuchElement", "NoSuchPosition", "TokenError", "EndError", "BadTrain", "TrainFull", "PowerCut", "ShutError", "MOST", "Bench", "ZERO", "common_divisor", "fraction", "add", "negative", "subtract", "sign", "compare", "is_less", "FIGURES", "PART_MOST", "LONGEST", "ELEMENTS_MOST", "STOPS_MOST", "WORDS"]
def loose2 : List Str := ["format_fraction", "format_element", "format_train", "tokens_of", "natural_of", "fraction_of", "Reader", "is_good", "parse_train", "MARK", "PUT", "TAKE", "EXCHANGE", "UNDO", "SIGNS", "sum_of", "body_of", "record_of", "sign_of", "element_of", "operation_of", "recovered", "perform", "perform_journal", "Device", "JournaledBench", "opened"]
def loose3 : List Str := ["_law_cell", "_law_row", "_law_box", "_law_draw", "_law_frac", "_law_add", "_law_fraction", "_law_nonzero", "_law_stop", "_law_element", "_law_train", "_law_same", "_law_done", "_law_operation", "_law_record", "_law_performed"]
def loose : List Str := loose1 ++ (loose2 ++ loose3)
end RT
end
section
set_option Elab.async false
set_option linter.all false
set_option maxRecDepth 100000
set_option maxHeartbeats 0
/-! ZA: the head's run. -/
namespace RT
open PySem PySem.Spec PyProof.Rows L2
open PySem.W PySem.HandSPX
theorem run (w : World) : HandSHeadRun.RunEq R (PySem.W.view R.prog [76]) hk ob 6000 loose w := by
  intro os
  kernel_rfl
end RT
end
section
set_option maxRecDepth 100000
set_option maxHeartbeats 4000000
/-! M1: the data of the law (fractions, elements, operations), their texts and octets. Plain Lean. -/
namespace RT
open PySem
/-- a fraction: numerator, denominator -/
abbrev Q2 := Int × Int
/-- what the program's fraction(a, b) hands back (b not 0) -/
def fracQ (a b : Int) : Q2 :=
  let g : Int := if b < 0 then -((Int.gcd a b : Nat) : Int) else ((Int.gcd a b : Nat) : Int)
  (a.fdiv g, b.fdiv g)
def addQ (p q : Q2) : Q2 := fracQ (p.1 * q.2 + q.1 * p.2) (p.2 * q.2)
def negQ (p : Q2) : Q2 := (-p.1, p.2)
def subQ (p q : Q2) : Q2 := addQ p (negQ q)
def sgnQ (p : Q2) : Int := if 0 < p.1 then 1 else if p.1 < 0 then -1 else 0
def lessQ (p q : Q2) : Bool := decide (sgnQ (subQ p q) < 0)

inductive El where
  | gap (q : Q2) | lens (p c : Q2) | prism (q : Q2) | afocal (q : Q2) | stop (l u : Option Q2)
  deriving DecidableEq
inductive Op where
  | put (i : Int) (e : El) | take (i : Int) | exch (i : Int) (e : El) | undo
  deriving DecidableEq

/-! ### as data -/
def qD (q : Q2) : PyData := .tuple [.int q.1, .int q.2]
def oqD : Option Q2 → PyData
  | none => .none
  | some q => qD q
def elD : El → PyData
  | .gap q => .tuple [.str "gap", qD q]
  | .lens p c => .tuple [.str "lens", qD p, qD c]
  | .prism q => .tuple [.str "prism", qD q]
  | .afocal q => .tuple [.str "afocal", qD q]
  | .stop l u => .tuple [.str "stop", oqD l, oqD u]
def opD : Op → PyData
  | .put i e => .tuple [.str "put", .int i, elD e]
  | .take i => .tuple [.str "take", .int i]
  | .exch i e => .tuple [.str "exchange", .int i, elD e]
  | .undo => .tuple [.str "undo"]

/-! ### texts -/
def fmtQ (q : Q2) : Str := if q.2 = 1 then (toString q.1 : Str) else (toString q.1 : Str) ++ ("/" : Str) ++ (toString q.2 : Str)
def stopW : Option Q2 → Option Q2 → List Str
  | none, none => []
  | some l, none => ["from", fmtQ l]
  | none, some u => ["to", fmtQ u]
  | some l, some u => ["from", fmtQ l, "to", fmtQ u]
def wordsEl : El → List Str
  | .gap q => ["gap", fmtQ q]
  | .lens p c => if c = (0, 1) then ["lens", fmtQ p] else ["lens", fmtQ p, "at", fmtQ c]
  | .prism q => ["prism", fmtQ q]
  | .afocal q => ["afocal", fmtQ q]
  | .stop l u => "stop" :: stopW l u
def fmtEl (e : El) : Str := Txt.join " " (wordsEl e)

/-! ### the fractions that the law draws -/
def dens : List Int := [1, 1, 2, 3]
def nums : List Int := [-4, -3, -2, -1, 0, 1, 2, 3, 4]
def loQs : List Q2 := nums.flatMap fun a => dens.map fun b => fracQ a b
def halves : List Q2 := [0, 1, 2, 3, 4, 5, 6, 7, 8].map fun k => fracQ k 2
def upQs : List Q2 := loQs.flatMap fun l => halves.map fun h => addQ l h
def goodQs : List Q2 := (loQs ++ upQs).eraseDups
theorem lo_good {q : Q2} (h : q ∈ loQs) : q ∈ goodQs := List.mem_eraseDups.mpr (List.mem_append_left _ h)
theorem up_good {q : Q2} (h : q ∈ upQs) : q ∈ goodQs := List.mem_eraseDups.mpr (List.mem_append_right _ h)
/-- an element that the law may draw -/
def GoodEl : El → Prop
  | .gap q => q ∈ loQs
  | .lens p c => p ∈ loQs ∧ c ∈ loQs
  | .prism q => q ∈ loQs
  | .afocal q => q ∈ loQs ∧ q ≠ (0, 1)
  | .stop none none => False
  | .stop (some l) none => l ∈ loQs
  | .stop none (some u) => u ∈ upQs
  | .stop (some l) (some u) => l ∈ loQs ∧ u ∈ upQs ∧ lessQ u l = false
theorem lo_zero : (0, 1) ∈ loQs := by decide +kernel
theorem lo_half : (1, 2) ∈ loQs := by decide +kernel
theorem lo_up : ∀ l ∈ loQs, ∀ h ∈ halves, lessQ (addQ l h) l = false := by decide +kernel
theorem num_in (n : Int) (h0 : 0 ≤ n) (h1 : n < 9) : n - 4 ∈ nums := by
  have : n = 0 ∨ n = 1 ∨ n = 2 ∨ n = 3 ∨ n = 4 ∨ n = 5 ∨ n = 6 ∨ n = 7 ∨ n = 8 := by omega
  rcases this with rfl | rfl | rfl | rfl | rfl | rfl | rfl | rfl | rfl <;> decide
theorem frac_in {n b : Int} (h0 : 0 ≤ n) (h1 : n < 9) (hb : b ∈ dens) : fracQ (n - 4) b ∈ loQs :=
  List.mem_flatMap.mpr ⟨n - 4, num_in n h0 h1, List.mem_map.mpr ⟨b, hb, rfl⟩⟩
theorem half_in {n : Int} (h0 : 0 ≤ n) (h1 : n < 9) : fracQ n 2 ∈ halves := by
  have : n = 0 ∨ n = 1 ∨ n = 2 ∨ n = 3 ∨ n = 4 ∨ n = 5 ∨ n = 6 ∨ n = 7 ∨ n = 8 := by omega
  rcases this with rfl | rfl | rfl | rfl | rfl | rfl | rfl | rfl | rfl <;> decide +kernel
theorem up_in {l : Q2} {n : Int} (hl : l ∈ loQs) (h0 : 0 ≤ n) (h1 : n < 9) : addQ l (fracQ n 2) ∈ upQs :=
  List.mem_flatMap.mpr ⟨l, hl, List.mem_map.mpr ⟨_, half_in h0 h1, rfl⟩⟩
theorem up_less {l : Q2} {n : Int} (hl : l ∈ loQs) (h0 : 0 ≤ n) (h1 : n < 9) : lessQ (addQ l (fracQ n 2)) l = false := lo_up l hl _ (half_in h0 h1)

/-! ### facts of every fraction that may be drawn, by looking -/
def absQ (q : Q2) : Str := if q.1 < 0 then ⟨((fmtQ q).cps.toList.drop 1).toArray⟩ else fmtQ q
def partsQ (q : Q2) : List Str := if q.2 = 1 then [(toString (q.1.natAbs : Int) : Str)] else [(toString (q.1.natAbs : Int) : Str), (toString q.2 : Str)]
/-- the signs of numbers and words -/
def figs : List Nat := [48, 49, 50, 51, 52, 53, 54, 55, 56, 57]
def signs : List Nat := [48, 49, 50, 51, 52, 53, 54, 55, 56, 57, 97, 98, 99, 100, 101, 102, 103, 104, 105, 106, 107, 108, 109, 110, 111, 112, 113, 114, 115, 116, 117, 118, 119, 120, 121, 122, 32, 45, 47, 59]
def okQ (q : Q2) : Bool :=
  decide (1 ≤ q.2) && decide (q.2 ≤ 1000) && decide (q.1.natAbs ≤ 1000) &&
  (decide (fmtQ q = "0") == decide (q = (0, 1))) &&
  decide ((fmtQ q).length ≤ 9) && decide (1 ≤ (fmtQ q).length) &&
  decide ((fmtQ q).cps.toList.all (fun c => signs.contains c && c != 32 && c != 59)) &&
  (((fmtQ q).cps.toList.head? == some 45) == decide (q.1 < 0)) &&
  decide (fracQ q.1 q.2 = q) &&
  (decide (q = (0, 1)) || decide (Txt.split (absQ q) "/" = partsQ q)) &&
  decide (q.1 = 0 → q = (0, 1))
theorem okQ_all : ∀ q ∈ goodQs, okQ q = true := by decide +kernel
/-- a number without sign that stands in such a text -/
def okN (n : Nat) : Bool :=
  let x : Str := toString (n : Int)
  decide (x.length ≤ 7) && decide (x ≠ "") && decide (x.cps.toList.head? ≠ some 48) && x.cps.toList.all figs.contains
theorem okN_all : ∀ n ∈ List.range 101, n ≠ 0 → okN n = true := by decide +kernel
end RT
end
section
set_option Elab.async false
set_option linter.all false
set_option maxRecDepth 100000
set_option maxHeartbeats 2000000
/-! X1: an own exception class over ValueError (by way of other own classes) whose __init__ says super().__init__(text) and stores one field. -/
namespace PySem
namespace OwnX
open PySem.W PySem.Calls PyProof.Rows PySem.HandSPX
/-- an f-string with one whole number, at the name x, gives some text -/
def TextOf (x : Str) (e : Expr) : Prop :=
  ∀ (prog : Program) (w : World) (A : Around) (E : Value → Shared → Prop) (s : Shared) (env : Env) (m : Str → Option Value) (i : Int) (t : Tok) (Q : Value → Shared → Prop),
    env.scope.kind = .function → env.kindOf x = some .local → (x == ("__debug__" : Str)) = false → s.heap.Ns env.locals m → m x = some (.int i t) → i.natAbs < 10 ^ 100 →
    (∀ z tk k, Q (.str z tk) { s with toks := k }) → wpAny (model prog w) A (eval e env) Q E s
theorem short_text {i : Int} (h : i.natAbs < 10 ^ 100) : (Str.ofString (toString i)).length ≤ 101 := by
  have e := int_text_length_le10 (k := 100) (by decide) h
  clear h
  rw [ofString_length]
  exact e
theorem small_log {i : Int} (h : i.natAbs < 10 ^ 100) : i.natAbs.log2 < 1920 := by
  by_cases h0 : i.natAbs = 0
  · rw [h0]
    decide
  · exact (Nat.log2_lt h0).mpr (Nat.lt_trans h (by decide +kernel))
section
variable {x a b : Str} {j j2 : Nat} {p1 p2 p3 p4 p5 p6 : Pos}
/-- f'text {x}' -/
theorem text_two (ha : a.length ≤ 100) : TextOf x (.JoinedStr [.Constant (.str a) j p1, .FormattedValue (.Name x p2) (-1) none p3] p4) := by
  intro prog w A E s env m i t Q hk hl hd hn hm hi hq
  have z := short_text hi
  refine wpAny_JoinedStr ?_
  refine Calls.Constant_str ⟨_, _, rfl, ?_, ?_⟩
  · rw [strLen_append, sizeLine_eq]
    show 0 + a.length ≤ _
    omega
  refine wpAny_FormattedValue_plain (wpAny_Name (wpAny_loadName_local hk hl hn hm ?_) hd)
  refine wpAny_formatField_int (small_log hi) ⟨_, _, rfl, ?_, ?_⟩
  · rw [strLen_append, strLen_append, sizeLine_eq]
    show 0 + a.length + _ ≤ _
    omega
  refine ⟨?_, hq _ _ _⟩
  rw [strLen_append, strLen_append, sizeLine_eq]
  show 0 + a.length + _ ≤ _
  omega
/-- f'text {x} text' -/
theorem text_three (ha : a.length ≤ 100) (hb : b.length ≤ 100) : TextOf x (.JoinedStr [.Constant (.str a) j p1, .FormattedValue (.Name x p2) (-1) none p3, .Constant (.str b) j2 p5] p4) := by
  intro prog w A E s env m i t Q hk hl hd hn hm hi hq
  have z := short_text hi
  refine wpAny_JoinedStr ?_
  refine Calls.Constant_str ⟨_, _, rfl, ?_, ?_⟩
  · rw [strLen_append, sizeLine_eq]
    show 0 + a.length ≤ _
    omega
  refine wpAny_FormattedValue_plain (wpAny_Name (wpAny_loadName_local hk hl hn hm ?_) hd)
  refine wpAny_formatField_int (small_log hi) ⟨_, _, rfl, ?_, ?_⟩
  · rw [strLen_append, strLen_append, sizeLine_eq]
    show 0 + a.length + _ ≤ _
    omega
  refine Calls.Constant_str ⟨_, _, rfl, ?_, ?_⟩
  · rw [strLen_append, strLen_append, strLen_append, sizeLine_eq]
    show 0 + a.length + _ + _ ≤ _
    omega
  refine ⟨?_, hq _ _ _⟩
  rw [strLen_append, strLen_append, strLen_append, sizeLine_eq]
  show 0 + a.length + _ + _ ≤ _
  omega
end
/-- the text of such an __init__ -/
def iArgs (fld : Str) (q1 q2 : Pos) : Arguments := { posonlyargs := [], args := [{ arg := "self", annotation := none, pos := q1 }, { arg := fld, annotation := none, pos := q2 }], vararg := none, kwonlyargs := [], kw_defaults := [], kwarg := none, defaults := [] }
def iBody (fld : Str) (msg : List Expr) (pm : Pos) (l c : Nat) (p0 p1 p4 p5 p6 p7 p8 : Pos) : List Stmt :=
  [.Expr (.Call (.Attribute (.Call (.Name "super" p0) [] [] p1) "__init__" ⟨l, 8, l, 24⟩) [.JoinedStr msg pm] [] ⟨l, 8, l, c⟩) p4, .Assign [.Attribute (.Name "self" p5) fld p6] (.Name fld p7) p8]
def iScope (fld : Str) : Scope := { kind := .function, names := [("self", .local), (fld, .local), ("__class__", .free), ("super", .globalImplicit)], isGenerator := false, isCoroutine := false, more := [] }
/-- what the written part K tells of the class at C, its __init__ at fI -/
structure Own (K : Frag) (prog : Program) (fld : Str) (l : Nat) (C fI : Addr) : Prop where
  exI : excInitIn K C veTail "ValueError.__new__" = true
  cd : ∃ cd, clsIn K C = some cd ∧ refsVE cd.mro = true ∧ cd.hasDict = true
  sub : mroIn K C (.ref C) = some true
  vE : subIn K (.ref C) (.type "ValueError") = some true
  sa : findIn K (.ref C) "__setattr__" = some (some (.builtin "object.__setattr__"))
  noF : findIn K (.ref C) fld = some none
  iC : findIn K (.ref C) "__init__" = some (some (.ref fI))
  tC : typeIn K (.ref fI) = some (.type "function")
  su : ks_superIn K C C "__init__" = some (some (.builtin "ValueError.__init__"))
  op : nsIn K cStatics "thirdparty.any" = some none
  ns : nsIn K mainGlobals "super" = some none
  fn : ∃ (msg : List Expr) (pj : Pos) (cl : Nat) (q1 q2 p0 p1 p4 p5 p6 p7 p8 : Pos) (qual : Str) (oc : Value) (od : Option Addr) (kV doc pm : Value) (an : Option Addr) (cda cc : Addr) (ct : Value) (osl : Array (Option Value))
      (c1 : Value) (c2 : Option Addr) (vs : Array Value) (c3 : Array (Option Value)) (file : Str) (tf : Tok) (d1 : Value) (d2 : Option Addr) (d3 : Array (Option Value)),
    TextOf fld (.JoinedStr msg pj) ∧ K.lookup fI = some ⟨oc, od, .func (ksFn "__init__" qual (iArgs fld q1 q2) (iBody fld msg pj l cl p0 p1 p4 p5 p6 p7 p8) (iScope fld) .none kV doc pm an (.ref cda) ct cc), osl⟩ ∧ codeIn K (.ref cda) qual = true ∧
    K.lookup cda = some ⟨c1, c2, .fields vs, c3⟩ ∧ vs[2]? = some (.str file tf) ∧ ((prog.main.file : Str) == file) = true ∧ K.lookup cc = some ⟨d1, d2, .cell (some (.ref C)), d3⟩
/-- what such an __init__ leaves of a fresh exception at x -/
structure Left (h h' : Heap) (x C dx t1 : Addr) (fld : Str) (v : Value) : Prop where
  keep : ∀ b o, b ≠ x → h.get? b = some o → h'.get? b = some o
  obj : h'.get? x = some { cls := .ref C, dict := some dx, data := .fields #[.ref t1, .none, .none, .none, .bool false, .none] }
  dbig : h.objs.size ≤ dx
  dne : dx ≠ x
  ns : h'.Ns1 dx (fun y => if y = fld then some v else none)
section
variable {prog : Program} {w : World} {A : Around} {E : Value → Shared → Prop} {R : Result → Shared → Prop} {h : Heap} {g : Array GenState} {d : Drawn} {t : Nat} {os : OsState} {K : Frag} {C fI : Addr} {fld : Str}
/-- the bound ValueError.__init__ is called: the args are laid anew -/
theorem call_wrapped {u e t0 : Addr} {rest : List Value} {Q : Value → Shared → Prop} (X : K.In h) (q : excInitIn K C veTail "ValueError.__new__" = true) (he : h.get? e = some (HandSPX.excO C t0)) (hu : h.get? u = some (kxs_mw "ValueError.__init__" e)) (hz : rest.length ≤ sizeLine)
    (hq : ∀ h' t1, (∀ b o, b ≠ e → h.get? b = some o → h'.get? b = some o) → h'.get? e = some (HandSPX.excO C t1) → Q .none ⟨h', g, d, t, os⟩) :
    wpAny (model prog w) A (call (.ref u) rest) Q E ⟨h, g, d, t, os⟩ := by
  obtain ⟨nm, N', qn, bs, bm, hdct, sn, sub, ab, col, dd, k0, k1, k2, k3, k5, hC, hT⟩ := excInit_of X q
  refine wpAny_call (codeAny_of_tree ?_)
  show wpAny _ A.in1 (callAny (.ref u) ⟨rest, []⟩) _ _ _
  simp only [callAny]
  refine wpAny_bind (wpAny_load hu ?_)
  simp only [kxs_mw, show (Value.type "method-wrapper" == Value.type "method" || Value.type "method-wrapper" == Value.type "builtin_function_or_method" || Value.type "method-wrapper" == Value.type "method-wrapper") = true by decide, if_true]
  refine KFB.if_so (by decide) ?_
  refine wpAny_bind (check_bound_init F.excBase_ValueError.toExcCallFacts hC he rfl ?_)
  refine wpAny_bind (wpAny_pure (wpAny_pure ?_))
  refine ⟨plainId_quiet F.excBase_ValueError.init.plain _, codeAny_builtin F.excBase_ValueError.initEntry ?_⟩
  exact exc_init_tree (cls := .ref C) (t0 := t0) (dv := none) (c2 := .none) (c3 := .none) (b4 := .bool false) he hz fun h' k e' _ => hq h' _ k e'
/-- __init__ of a fresh exception at x -/
theorem own_init {mg mb : Str → Option Value} {l : Nat} (T : Own K prog fld l C fI) (hfl : (fld = "index" ∧ l = 10) ∨ (fld = "index" ∧ l = 15) ∨ fld = "written" ∧ l = 31) {x t0 : Addr} {i : Int} {tk : Tok} (X : K.In h) (hlim : h.NoLimit) (G : h.Ns mainGlobals mg) (B : h.Ns builtinsNs mb) (hB : ∀ y : Str, y ≠ "__name__" → mb y = bootBuiltins y)
    (htop : (prog.main.scope.names.lookup ("super" : Str)).isSome = false) (hx : h.get? x = some (HandSPX.excO C t0)) (hnx : K.lookup x = none) (hroom : A.depth < recursionLimit) (hi : i.natAbs < 10 ^ 100)
    (hq : ∀ h' tk' dx t1, Left h h' x C dx t1 fld (.int i tk) → R (.ok (.ret .none)) ⟨h', g, d, tk', os⟩) :
    codeAny (model prog w) A (.call (.ref fI) ⟨[.ref x, .int i tk], []⟩) R ⟨h, g, d, t, os⟩ := by
  obtain ⟨msg, pj, cl, q1, q2, p0, p1, p4, p5, p6, p7, p8, qual, oc, od, kV, doc, pm, an, cda, cc, ct, osl, c1, c2, vs, c3, file, tf, d1, d2, d3, hmsg, hf, hcd, hcode, hvs, hfile, hcell⟩ := T.fn
  obtain ⟨cd, hC, hmro, hdict⟩ := T.cd
  obtain ⟨oD, hD1, hD2⟩ : ∃ oD, h.get? C = some oD ∧ oD.data = .cls cd := by
    have hC' := hC
    unfold clsIn at hC'
    split at hC'
    · rename_i c d cd' sl ho
      cases hC'
      exact ⟨_, X _ _ ho, rfl⟩
    · cases hC'
  have hxC : x ≠ C := fun z => by
    rw [z, hD1] at hx
    cases hx
    cases hD2
  have lim := hlim
  rcases hfl with ⟨rfl, rfl⟩ | ⟨rfl, rfl⟩ | ⟨rfl, rfl⟩
  all_goals
    refine ks_codeAny_call_defAt (fd := ksFn "__init__" qual (iArgs _ q1 q2) (iBody _ msg pj _ cl p0 p1 p4 p5 p6 p7 p8) (iScope _) .none kV doc pm an (.ref cda) ct cc) (body := iBody _ msg pj _ cl p0 p1 p4 p5 p6 p7 p8) (binds := [("self", .ref x), (_, .int i tk)]) hroom (X _ _ hf) rfl hlim (codeRec_of X hcd) rfl
      (BindsTo.of_eq rfl) (show ∀ z ∈ (iScope _).names, z.2 ≠ .cell by decide) (by intro y hy; simp only [List.mem_cons, List.mem_nil_iff, or_false] at hy; rcases hy with rfl | rfl <;> rfl) (fun h1 hn k => ?_)
    have X1 := X.keeps k
    have hxL : h.objs.size ≠ x := Nat.ne_of_gt (Heap.lt_size hx)
    have I1 : InstAt h1 x (HandSPX.excO C t0) C none := ⟨k _ _ hx, rfl, rfl, trivial⟩
    -- super().__init__(msg)
    refine ks_wpAt_execs_cons (ks_wpAt_Expr_any (ks_wpAt_MethodCall ?_) rfl rfl)
    refine ks_wpAt_super_base (env := ksEnv qual (iScope _) h.objs.size fI (.ref cda) cc) rfl rfl (by decide) rfl (X1 _ _ hf) rfl rfl rfl (X1 _ _ hcode) rfl hvs hfile htop ?_
    refine ks_loadName_global rfl rfl (loadGlobal_builtin (env := ksEnv qual (iScope _) h.objs.size fI (.ref cda) cc) (G.keeps k) (mg_none_of X G T.ns) (B.keeps k) ((hB _ (by decide +kernel)).trans (show bootBuiltins "super" = some (.type "super") by decide +kernel)) ⟨rfl, ?_⟩)
    refine wpAny_loadName_free rfl rfl rfl ⟨_, X1 _ _ hcell, rfl⟩ ?_
    refine wpAny_loadName_local rfl rfl hn rfl ?_
    refine ks_wpAny_isType_cls (k _ _ hD1) hD2 ⟨rfl, ?_⟩
    refine ks_wpAny_call_super (k _ _ hD1) hD2 (k _ _ hx) rfl (fun c e => by cases e) (looks_mroIn X1 T.sub) (fun h2 e2 k2 => ?_)
    have X2 := X1.keeps k2
    have hu : ∀ b o, h.get? b = some o → h2.get? b = some o := fun b o e => k2 b o (k b o e)
    have hx2 := hu _ _ hx
    -- .__init__, bound
    refine kxs_getMethod kxs_ValueError e2 (looks_opaque X2 T.op) (l₀ := cd.mro) (fun A Q E s k q => wpAny_bind ((looks_clsIn X2 hC) A _ E s k (wpAny_pure q))) rfl X2 (by have z := T.su; unfold ks_superIn at z; rw [hC] at z; exact z) (((show InstAt h2 x (HandSPX.excO C t0) C none from ⟨hx2, rfl, rfl, trivial⟩).type).andThen (looks_subIn X2 T.vE)) hxC (by decide) ?_
    have k3 : ∀ b o, h2.get? b = some o → (h2.push (kxs_mw "ValueError.__init__" x)).get? b = some o := fun b o e => Heap.get?_push_of_some _ e
    have hn2 : h2.Ns h.objs.size _ := hn.keeps k2
    refine kxs_callWith (i := "ValueError.__init__") (u := h2.objs.size) (x := x) rfl (evalArgs_plain ?_)
    -- the text
    refine Calls.spliced_cons (hmsg prog w _ _ _ _ _ i tk _ rfl rfl (by decide) (hn2.keeps k3) rfl hi fun z tz kz => ?_)
    refine Calls.spliced_nil ⟨Heap.get?_push_size _ rfl, ?_⟩
    refine call_wrapped (X2.keeps k3) T.exI (k3 _ _ hx2) (Heap.get?_push_size _ rfl) (by show 1 ≤ sizeLine; rw [sizeLine_eq]; omega) (fun h4 t1 k4 e4 => ?_)
    have k24 : ∀ b o, b ≠ x → h2.get? b = some o → h4.get? b = some o := fun b o hb e => k4 b o hb (k3 b o e)
    have hnL : ∀ o, h2.get? h.objs.size = some o → h4.get? h.objs.size = some o := fun o e => k24 _ o hxL e
    have X4 : K.In h4 := fun b o e => k24 b o (fun z => by rw [z, hnx] at e; cases e) (X2 b o e)
    -- self.fld = v
    refine ks_wpAt_execs_cons (ks_wpAt_Assign_Attr (wpAt_of_wpAny ?_) rfl)
    have hn4 : h4.Ns h.objs.size _ := hn2.at' hnL
    refine wpAny_Name (wpAny_loadName_local rfl rfl hn4 rfl ?_) (by decide)
    refine wpAny_Name (wpAny_loadName_local rfl rfl hn4 rfl ?_) (by decide)
    refine set_plain X4 (ox := HandSPX.excO C t1) (od := none) ⟨e4, rfl, rfl, trivial⟩ T.sa ?_
    refine HandSPX.exc_osa X4 e4 hC hmro hdict T.noF (fun h5 tk5 dx k5 dn dne hx5 hn5 => ?_)
    refine wpAt_of_wpAny (wpAny_execs_nil (hq h5 tk5 dx t1 ⟨fun b o hb e => k5 b o hb (k24 b o hb (hu b o e)), hx5, ?_, dne, hn5⟩))
    have z1 : h.objs.size < h4.objs.size := by
      obtain ⟨oo, _, _, ho, _⟩ := hn4
      exact Heap.lt_size ho
    exact Nat.le_trans (Nat.le_of_lt z1) dn
theorem one_size (v : Value) : [v].length ≤ sizeLine := by
  rw [sizeLine_eq]
  exact (by decide : 1 ≤ 16777216)
/-- a made exception: e, its dict d -/
structure Made (h h' : Heap) (e C d : Addr) (fld : Str) (v : Value) : Prop where
  keep : ∀ b o, h.get? b = some o → h'.get? b = some o
  new : h.objs.size ≤ e
  obj : ∃ oe vs, h'.get? e = some oe ∧ oe.cls = .ref C ∧ oe.dict = some d ∧ oe.data = .fields vs ∧ vs[1]? = some .none
  dbig : h.objs.size ≤ d
  dne : d ≠ e
  ns : h'.Ns1 d (fun y => if y = fld then some v else none)
theorem own_made {mg mb : Str → Option Value} {l : Nat} (T : Own K prog fld l C fI) (hfl : (fld = "index" ∧ l = 10) ∨ (fld = "index" ∧ l = 15) ∨ fld = "written" ∧ l = 31) {i : Int} {tk : Tok} (X : K.In h) (hlim : h.NoLimit) (G : h.Ns mainGlobals mg) (B : h.Ns builtinsNs mb)
    (hB : ∀ y : Str, y ≠ "__name__" → mb y = bootBuiltins y) (htop : (prog.main.scope.names.lookup ("super" : Str)).isSome = false) (hroom : A.depth + 1 < recursionLimit) (hi : i.natAbs < 10 ^ 100)
    (hq : ∀ h' tk' e dx, Made h h' e C dx fld (.int i tk) → R (.ok (.ret (.ref e))) ⟨h', g, d, tk', os⟩) :
    codeAny (model prog w) A (.call (.ref C) ⟨[.int i tk], []⟩) R ⟨h, g, d, t, os⟩ := by
  obtain ⟨nm, N', qn, bs, bm, hdct, sn, sub, ab, col, dd, k0, k1, k2, k3, k5, hC, hT⟩ := excInit_of X T.exI
  have k : ∀ b o, h.get? b = some o → ((h.push (W.kdv_tup [.int i tk])).push (HandSPX.excO C h.objs.size)).get? b = some o := fun b o e => Heap.get?_push_of_some _ (Heap.get?_push_of_some _ e)
  have hget : ((h.push (W.kdv_tup [.int i tk])).push (HandSPX.excO C h.objs.size)).get? (h.objs.size + 1) = some (HandSPX.excO C h.objs.size) := by heap_get
  have hnx : K.lookup (h.objs.size + 1) = none := by
    cases e : K.lookup (h.objs.size + 1) with
    | none => rfl
    | some o => exact absurd (Nat.lt_of_succ_lt (Heap.lt_size (X _ _ e))) (Nat.lt_irrefl _)
  refine call_own F.excBase_ValueError hT hC (looks_findIn X T.iC) (fun self => bind_fn X self T.tC) (one_size _) ?_
  refine own_init (g := g) (d := d) (t := t) (os := os) T hfl (X.keeps k) (hlim.keeps k) (G.keeps k) (B.keeps k) hB htop hget hnx ?_ hi fun h' tk' dx t1 z => ?_
  · show A.depth + 1 < recursionLimit
    exact hroom
  · have big : h.objs.size + 1 + 1 ≤ dx := by
      first
        | (simpa only [Heap.size_push] using z.dbig)
        | (have q := z.dbig; rw [Heap.size_push, Heap.size_push] at q; exact q)
    refine ⟨rfl, hq h' tk' (h.objs.size + 1) dx ⟨fun b o e => z.keep b o (Nat.ne_of_lt (Nat.lt_succ_of_lt (Heap.lt_size e))) (k b o e), Nat.le_succ _, ⟨_, _, z.obj, rfl, rfl, rfl, rfl⟩, Nat.le_trans (Nat.le_trans (Nat.le_succ _) (Nat.le_succ _)) big, z.dne, z.ns⟩⟩
end
end OwnX
end PySem
namespace L2
open PySem PySem.Spec PyProof.Rows
theorem relO_one {v : V} {v' : Value} {fld : Str} (r : RelV v v') (f : Str) : RelO (List.lookup f [(fld, v)]) (if f = fld then some v' else none) := by
  by_cases hw : f = fld
  · subst hw
    rw [if_pos rfl]
    have q : List.lookup f [(f, v)] = some v := by simp [List.lookup]
    rw [q]
    exact r
  · rw [if_neg hw]
    have qw : (f == fld) = false := by simpa using hw
    have q2 : List.lookup f [(fld, v)] = none := by simp [List.lookup, qw]
    rw [q2]
    trivial
/-- what the text needs to know of an own exception with one field -/
structure OwnT (X : Cx) (x fld : Str) (l : Nat) (C fI : Addr) : Prop where
  own : PySem.OwnX.Own X.K X.prog fld l C fI
  hfl : (fld = "index" ∧ l = 10) ∨ (fld = "index" ∧ l = 15) ∨ fld = "written" ∧ l = 31
  gC : X.mg x = some (.ref C)
  kC : PySem.W.keepIn X.K (.ref C) = true
  exC : PySem.W.subIn X.K (.ref C) (.type "BaseException") = some true
  tyC : PySem.W.typeIn X.K (.ref C) = some (.type "type")
  htop : (X.prog.main.scope.names.lookup ("super" : Str)).isSome = false
section
variable {X : Cx} {C fI : Addr} {x fld : Str} {l : Nat}
/-- x(e), e a whole number -/
def tMkOwn (C : Addr) (fld : Str) (ta : TA) : St → Hp → XK → Prop := fun σ H Q => ta σ H fun vs H1 => ∃ i : Int, vs = [.int i] ∧ i.natAbs < 10 ^ 100 ∧ ∀ d, H1 d = none → Q (.ref C) (some d) (upd H1 d (.xd [(fld, .int i)]))
theorem pmk_ownf {a : Expr} {ta : TA} {p pos : Pos} {k : Nat} (T : OwnT X x fld l C fI) (hr : Room k X.A) (ha : PA X [a] ta) (hg : Gl X x) (hdb : (x == ("__debug__" : Str)) = false := by decide)
    (he : starEach (a :: []) X.env = (false, eval a X.env) :: starEach [] X.env := by rfl) (hpl : (backTo pos (starEach [] X.env)).any (·.1) = false := by rfl) :
    PMk X (.Call (.Name x p) [a] [] pos) (tMkOwn C fld ta) := by
  intro pins s σ H Q I h
  refine wpAny_Call_Name_kw (ld_glob I hg T.gC ?_ hdb)
  refine PySem.W.callWith_K (h₀ := X.base) I.ok.mod.kin T.kC (thn (ha.run pos pins s σ H _ I h) fun us s1 hh => ?_) he hpl
  obtain ⟨vs, H1, I1, r1, i, ev, hi, q1⟩ := hh
  subst ev
  refine ⟨I1.kIn, ?_⟩
  cases r1 with
  | cons rv rn =>
    rename_i v' us'
    cases rn
    obtain ⟨tk1, rfl⟩ := rv
    show wpAny _ _ (call (.ref C) [.int i tk1]) _ _ _
    have hlim := I1.nolimit
    obtain ⟨mb, hb, hbb⟩ := I1.mod.blt
    have gk := I1.bk
    obtain ⟨hp, g, dr, tk, os⟩ := s1
    refine wpAny_call (PySem.OwnX.own_made T.own T.hfl I1.kIn hlim (I1.mod.glob.keeps gk) (hb.keeps gk) hbb T.htop (by have := hr.dp; omega) hi fun h' tk' e d M => ?_)
    show MkP X pins σ Q (.ref e) ⟨h', g, dr, tk', os⟩
    obtain ⟨oe, fv, hoe, hc, hd, hdat, h1⟩ := M.obj
    have hns := M.ns
    obtain ⟨G', g1, g2⟩ := restrict h' fun b => decide (b ≠ e)
    have gk : ∀ b, b ≠ e → G'.get? b = h'.get? b := fun b hb => g1 b (decide_eq_true hb)
    have ge : G'.get? e = none := g2 e (by simp)
    have old : ∀ b o, hp.get? b = some o → G'.get? b = some o := fun b o q => (gk b (Nat.ne_of_lt (Nat.lt_of_lt_of_le (Heap.lt_size q) M.new))).trans (M.keep b o q)
    have ob : ObjOk X.prog X.w (upd H1 d (.xd [(fld, .int i)])) G' d (.xd [(fld, .int i)]) :=
      ⟨_, hns.at (fun o q => (gk d M.dne).trans q), fun f => relO_one (v := .int i) ⟨tk1, rfl⟩ f⟩
    have J : Inv X pins σ (upd H1 d (.xd [(fld, .int i)])) ⟨G', g, dr, tk', os⟩ := I1.laid (t' := tk') old M.dbig ob
    refine ⟨e, oe, fv, ⟨G', g, dr, tk', os⟩, _, .ref C, some d, rfl, J, fun b o q => ?_, ge, hoe, ⟨hc, hd⟩, hdat, h1, ?_, rfl, I1.bare, raises_own T.exC T.tyC, q1 d (I1.hok.fresh M.dbig)⟩
    · by_cases hb : b = e
      · have q' : G'.get? b = some o := q
        rw [hb, ge] at q'; cases q'
      · exact (gk b hb).symm.trans q
    · rw [upd_ne (Ne.symm M.dne)]
      exact I1.hok.fresh M.new
/-- raise x(e) -/
def tRaiseOwn (C : Addr) (fld : Str) (W : WX) (ta : TA) : TS := fun _ σ H => tMkOwn C fld ta σ H fun cls d H' => W cls d σ H'
theorem ps_raiseOwn {a : Expr} {ta : TA} {W : WX} {p pos pos2 : Pos} {k : Nat} (hc : X.calm = true) (T : OwnT X x fld l C fI) (hr : Room k X.A) (tk : Takes X W) (ha : PA X [a] ta) (hg : Gl X x) (hdb : (x == ("__debug__" : Str)) = false := by decide)
    (he : starEach (a :: []) X.env = (false, eval a X.env) :: starEach [] X.env := by rfl) (hpl : (backTo pos (starEach [] X.env)).any (·.1) = false := by rfl) :
    PS X (.Raise (some (.Call (.Name x p) [a] [] pos)) none pos2) (tRaiseOwn C fld W ta) := ps_raise hc tk (pmk_ownf T hr ha hg hdb he hpl)
/-- n.fld, n the exception that the suite holds (at a; its class cls, its dict d) -/
def tOfOwn (C : Addr) (fld : Str) (a : Addr) (cls : Value) (d : Option Addr) (te : TE) : TE := fun σ H Q => te σ H fun x H1 => x = .ref a ∧ cls = .ref C ∧ ∃ (dd : Addr) (v : V), d = some dd ∧ H1 dd = some (.xd [(fld, v)]) ∧ Q v H1
theorem pe_ofOwn {a : Addr} {oe : Obj} {cls : Value} {d : Option Addr} {pn : List (Addr × Obj)} {e : Expr} {te : TE} {pos : Pos} (T : OwnT X x fld l C fI) (hdi : PySem.W.hasDictIn X.K C = true)
    (ga : PySem.W.findIn X.K (.ref C) "__getattribute__" = some (some (.builtin "BaseException.__getattribute__"))) (gg : PySem.W.findIn X.K (.ref C) "__getattr__" = some none) (hz : Zc cls d oe) (hf : ∃ vs, oe.data = .fields vs) (he : PE (X.suite a ((a, oe) :: pn)) e te)
    (hb : attributeBase e fld X.env (eval e X.env) = eval e X.env := by rfl) :
    PE (X.suite a ((a, oe) :: pn)) (.Attribute e fld pos) (tOfOwn C fld a cls d te) := by
  refine ⟨fun pins s σ H Q I h => ?_⟩
  refine attr_of hb (thn (he.run pins s σ H _ I h) fun u s1 hh => ?_)
  obtain ⟨x, H1, I1, rx, ex, ec, dd, v, ed, ea, q⟩ := hh
  subst ex
  obtain rfl : u = Value.ref a := rx
  subst ec
  subst ed
  obtain ⟨ha, _⟩ := I1.pin (a, oe) (List.mem_append_left _ List.mem_cons_self)
  obtain ⟨vs, hd⟩ := hf
  have hx : ObjOk X.prog X.w H1 s1.heap dd (.xd [(fld, v)]) := I1.hok dd _ ea
  obtain ⟨mA, hns, hr⟩ := hx
  obtain ⟨od, ho, hl⟩ := lookIn_ns hns
  have l : List.lookup fld [(fld, v)] = some v := by simp [List.lookup]
  obtain ⟨u, hu, ru⟩ := RelO.some_of (v := v) (o := mA fld) (by rw [← l]; exact hr fld)
  have J : PySem.W.InstAt s1.heap a oe C (some od) := ⟨ha, hz.1, by unfold PySem.W.notCls; rw [hd] <;> rfl, by rw [hz.2]; exact ho⟩
  exact HandSPX.exc_get I1.kIn J ga gg T.exC (PySem.W.findObj_own hdi T.own.noF rfl (by rw [hl, hu])) (handed_of ru) ⟨v, H1, I1.tok _, ru, q⟩
end
end L2
end
section
set_option Elab.async false
set_option linter.all false
set_option maxRecDepth 100000
set_option maxHeartbeats 2000000
/-! X2: try with several clauses: with a name, without one, or one that stores something and raises again; an own exception without arguments. -/
namespace RT
open PySem PySem.Spec PyProof.Rows L2
/-- an exception that has come down: it lies at a in the heap h, everything else is the state sI -/
structure Ld (X : Cx) (pins : List (Addr × Obj)) (a : Addr) (B : Heap) (sI : Shared) (σ : L2.St) (H : Hp) (cls : Value) (d : Option Addr) (h : Heap) (s' : Shared) : Prop where
  inv : Inv X pins σ H sI
  nb : ∀ b o, sI.heap.get? b = some o → b ∉ frs X.stack → B.get? b = some o
  up : sI.heap.UpToSlots h
  fl : HandSPX.FlyingZ B (X.env :: X.outer) a (Zc cls d) h
  na : H a = none
  os : s'.os = sI.os
  ag : AllBare s'.gens
section
variable {X : Cx} {pins : List (Addr × Obj)} {a : Addr} {B : Heap} {sI s' : Shared} {σ : L2.St} {H : Hp} {cls : Value} {d : Option Addr} {h : Heap}
theorem Ld.here (L : Ld X pins a B sI σ H cls d h s') : Inv X pins σ H { s' with heap := h } := L.inv.landed L.nb L.fl.1 L.up L.os L.ag
theorem notFrame {l : List Env} {b : Addr} {o : Obj} {vs : Array Value} (ff : h.FunFrames B l) (e : h.get? b = some o) (dd : o.data = .fields vs) : b ∉ frs l := fun hm => by
  obtain ⟨_, o', e', hnf⟩ := ff.mem hm
  rw [e] at e'
  cases e'
  exact hnf _ dd
theorem apart (hf : X.env.frame = some X.env.locals) {b : Addr} (nfr : b ∉ frs (X.env :: X.outer)) : b ≠ X.env.locals ∧ b ∉ X.fs := by
  refine ⟨fun z => nfr (List.mem_filterMap.mpr ⟨X.env, List.mem_cons_self, by rw [hf, z]⟩), fun hm => ?_⟩
  obtain ⟨e, he, q⟩ := List.mem_filterMap.mp hm
  exact nfr (List.mem_filterMap.mpr ⟨e, List.mem_cons_of_mem _ he, q⟩)
/-- the exception's record, pinned: the state of a suite -/
theorem Ld.suite (L : Ld X pins a B sI σ H cls d h s') (hf : X.env.frame = some X.env.locals) :
    ∃ oe, Zc cls d oe ∧ (∃ vs, oe.data = .fields vs) ∧ Inv (X.suite a ((a, oe) :: (X.pn ++ pins))) [] σ H { s' with heap := h } := by
  obtain ⟨oe, vs, he, hz, hd⟩ := L.fl.there
  obtain ⟨nL, nF⟩ := apart hf (notFrame L.fl.2.2.1 he hd)
  exact ⟨oe, hz, ⟨vs, hd⟩, L.here.suite he hd L.na nL nF⟩
/-- no clause is left: it flies on -/
theorem Ld.pass {Wout : WX} {D : Ends} (L : Ld X pins a B sI σ H cls d h s') (hs : X.stack = X.env :: X.outer) (hf : X.env.frame = some X.env.locals) (tk : Takes X Wout) (w : Wout cls d σ H) :
    wpAny (model X.prog X.w) X.A (handleBy (.ref a) X.env []) (SP X pins D) X.xe { s' with heap := h } := by
  refine wpAny_handleBy_nil ?_
  obtain ⟨_, _, _, oe, vs, T, oT, ts', he, hz, hd, h1, hr⟩ := id L.fl
  unfold PySem.passOn
  refine wpAny_bind (wpAny_field he hd h1 ?_)
  rw [if_neg (show ¬ ((Value.ref T == Value.none) = true) from by simp)]
  have fin : wpAny (model X.prog X.w) X.A (setFlight (.ref a) X.env.frame) (fun _ s4 => wpAny (model X.prog X.w) X.A (throw (.ref a) : Sem Flow) (SP X pins D) X.xe s4) X.xe { s' with heap := h } := by
    rw [hf]
    refine HandSPX.setFlight_upZ L.fl fun h4 hh4 up4 => wpAny_throw (tk _ _ ?_)
    exact ⟨a, B, sI, pins, σ, H, cls, d, rfl, L.inv, L.nb, L.up.trans up4, .inr (.inr (by rw [hs]; exact hh4)), L.na, L.os, L.ag, w⟩
  first
    | exact wpAny_bind (wpAny_pure (wpAny_bind fin))
    | exact wpAny_bind fin
/-- the state without the exception's two records -/
theorem inv_without {a T : Addr} {G : Heap} {s : Shared} {oa oT : Obj} {va vT : Array Value} (I : Inv X pins σ H s) (kG : ∀ b, b ≠ a → b ≠ T → G.get? b = s.heap.get? b) (na : H a = none) (nT : H T = none)
    (ea : s.heap.get? a = some oa) (da : oa.data = .fields va) (eT : s.heap.get? T = some oT) (dT : oT.data = .fields vT) (ha : X.s_0.heap.get? a = none) (hT : X.s_0.heap.get? T = none)
    (hp : ∀ p ∈ X.pn ++ pins, p.1 ≠ a ∧ p.1 ≠ T) : Inv X pins σ H { s with heap := G } := by
  have n0 : ∀ {b : Addr} {o : Obj}, X.s_0.heap.get? b = some o → b ≠ a ∧ b ≠ T := fun {b o} e => ⟨fun z => (by rw [z, ha] at e; cases e), fun z => (by rw [z, hT] at e; cases e)⟩
  have nL : X.env.locals ≠ a ∧ X.env.locals ≠ T := by
    obtain ⟨m, ⟨o, es, ep, ho, hd, _⟩, _⟩ := I.loc
    refine ⟨fun z => ?_, fun z => ?_⟩
    · rw [z, ea] at ho
      cases ho
      rw [da] at hd
      cases hd
    · rw [z, eT] at ho
      cases ho
      rw [dT] at hd
      cases hd
  have nC : ∀ x c, X.env.cells.lookup x = some c → c ≠ a ∧ c ≠ T := fun x c e => by
    obtain ⟨v, o, ho, hd⟩ := I.cell x c e
    refine ⟨fun z => ?_, fun z => ?_⟩
    · rw [z, ea] at ho
      cases ho
      rw [da] at hd
      cases hd
    · rw [z, eT] at ho
      cases ho
      rw [dT] at hd
      cases hd
  have nH : ∀ {b : Addr} {o : HO}, H b = some o → b ≠ a ∧ b ≠ T := fun {b o} e => ⟨fun z => (by rw [z, na] at e; cases e), fun z => (by rw [z, nT] at e; cases e)⟩
  have g0 : ∀ {b : Addr}, b ≠ a ∧ b ≠ T → G.get? b = s.heap.get? b := fun {b} z => kG b z.1 z.2
  refine ⟨I.ok, I.os, I.bare, ⟨fun b o e n hb hx => (g0 (n0 e)).trans (I.base.keep b o e n hb hx), fun b o e n hb hx => ?_, I.base.free, fun b o e hx => ?_, I.base.tups, I.base.frzs, I.base.tbls⟩, ?_, fun x c e => ?_, I.free, I.freeC, fun p hm => ?_, fun b o e => ?_, I.len⟩
  · obtain ⟨sl, q⟩ := I.base.slot b o e n hb hx
    exact ⟨sl, (g0 (n0 e)).trans q⟩
  · obtain ⟨o', q⟩ := I.base.there b o e hx
    exact ⟨o', (g0 (n0 e)).trans q⟩
  · obtain ⟨m, ⟨o, es, ep, ho, r⟩, hl⟩ := I.loc
    refine ⟨m, ⟨o, es, ep, (g0 nL).trans ho, r⟩, fun i x v e1 e2 e3 => ?_⟩
    obtain ⟨u, r, l⟩ := hl i x v e1 e2 e3
    refine ⟨u, r, ?_⟩
    rcases l with l | ⟨k, c, e, oc, z, zd⟩
    · exact .inl l
    · exact .inr ⟨k, c, e, oc, (g0 (nC x c e)).trans z, zd⟩
  · obtain ⟨v, o, z, zd⟩ := I.cell x c e
    exact ⟨v, o, (g0 (nC x c e)).trans z, zd⟩
  · obtain ⟨e, r⟩ := I.pin p hm
    exact ⟨(g0 (hp p hm)).trans e, r⟩
  · refine (I.hok b o e).stay (fun c u hc q => (g0 ?_).trans q) (fun _ q => q) fun _ _ q => q
    rcases hc with rfl | hc
    · exact nH e
    · exact nH hc
/-- what stood ahead of the frame is none of the exception's -/
theorem Ld.old (L : Ld X pins a B sI σ H cls d h s') (hs : X.stack = X.env :: X.outer) (hex : X.ex = []) {b : Addr} (hB : B.get? b = none) (nf : b ∉ frs (X.env :: X.outer)) : X.s_0.heap.get? b = none := by
  cases e : X.s_0.heap.get? b with
  | none => rfl
  | some o =>
    obtain ⟨o', q⟩ := L.inv.base.there b o e (by rw [hex]; simp)
    have z := L.nb b o' q (by rw [hs]; exact nf)
    rw [hB] at z
    cases z
/-- raise, alone, in a suite -/
theorem raise_again {Wout : WX} {D : Ends} {rp : Pos} {oe oT : Obj} {T : Addr} {vs ts : Array Value} {pn' : List (Addr × Obj)} (L : Ld X pins a B sI σ H cls d h s') (hs : X.stack = X.env :: X.outer) (hf : X.env.frame = some X.env.locals) (hex : X.ex = []) (tk : Takes X Wout)
    (hz : Zc cls d oe) (hd : oe.data = .fields vs) (h1 : vs[1]? = some (.ref T)) (hdT : oT.data = .fields ts) (h3 : 3 < ts.size) (hBa : B.get? a = none) (hBT : B.get? T = none) (hTa : T ≠ a) (nfa : a ∉ frs (X.env :: X.outer)) (nfT : T ∉ frs (X.env :: X.outer))
    {σ6 : L2.St} {H6 : Hp} {s6 : Shared} (S6 : Inv (X.suite a ((a, oe) :: (T, oT) :: (X.pn ++ pins))) pn' σ6 H6 s6) (w : Wout cls d σ6 H6) (P : Flow → Shared → Prop) :
    wpAny (model X.prog X.w) (X.A.mark (some (.ref a))) (exec (.Raise none none rp) X.env) P X.xe s6 := by
  have ok := L.inv.ok
  obtain ⟨ea, na, _, _, _⟩ := S6.pin (a, oe) (List.mem_append_left _ List.mem_cons_self)
  obtain ⟨eT, nT, _, _, _⟩ := S6.pin (T, oT) (List.mem_append_left _ (List.mem_cons_of_mem _ List.mem_cons_self))
  have I6 : Inv X pins σ6 H6 s6 := ⟨ok, S6.os, S6.bare, S6.base, S6.loc, S6.cell, S6.free, S6.freeC, fun p hp => S6.pin p (List.mem_append_left _ (List.mem_cons_of_mem _ (List.mem_cons_of_mem _ hp))), S6.hok, S6.len⟩
  refine PySem.wpAny_Raise_bare ?_
  unfold raiseBare raiseStmt
  dsimp only
  refine wpAny_bind (wpAny_handled ?_)
  show wpAny _ _ (match (some (Value.ref a)) with | _ => _) _ _ _
  dsimp only
  refine wpAny_bind (wpAny_rule ?_)
  refine wpAny_bind (wpAny_field ea hd h1 ?_)
  rw [if_neg (show ¬ ((Value.ref T == Value.none) = true) from by simp)]
  have fin : wpAny (model X.prog X.w) (X.A.mark (some (.ref a))) (setFlight (.ref a) X.env.frame) (fun _ s4 => wpAny (model X.prog X.w) (X.A.mark (some (.ref a))) (throw (.ref a) : Sem Flow) P X.xe s4) X.xe s6 := by
    rw [hf]
    refine setFlight_tb (fr := some X.env.locals) ea hd h1 eT hdT h3 (wpAny_throw (tk _ _ ?_))
    obtain ⟨G, g1, g2⟩ := restrict s6.heap fun b => decide (b ≠ a ∧ b ≠ T)
    have kG : ∀ b, b ≠ a → b ≠ T → G.get? b = s6.heap.get? b := fun b x y => g1 b (decide_eq_true ⟨x, y⟩)
    have oG : ∀ b o, G.get? b = some o → b ≠ a ∧ b ≠ T ∧ s6.heap.get? b = some o := fun b o e => by
      by_cases q : b ≠ a ∧ b ≠ T
      · exact ⟨q.1, q.2, (kG b q.1 q.2).symm.trans e⟩
      · rw [g2 b (decide_eq_false q)] at e
        cases e
    have hp : ∀ p ∈ X.pn ++ pins, p.1 ≠ a ∧ p.1 ≠ T := fun p hm => by
      obtain ⟨e, _, nL, nF, _⟩ := L.inv.pin p hm
      have nst : p.1 ∉ frs X.stack := fun z => (List.mem_cons.mp (L.inv.stkSub p.1 z)).elim nL nF
      have q := L.nb _ _ e nst
      exact ⟨fun z => (by rw [z, hBa] at q; cases q), fun z => (by rw [z, hBT] at q; cases q)⟩
    have J : Inv X pins σ6 H6 { s6 with heap := G } := inv_without I6 kG na nT ea hd eT hdT (L.old hs hex hBa nfa) (L.old hs hex hBT nfT) hp
    have kU : ∀ b o, G.get? b = some o → (s6.heap.update T (Obj.mapFields (·.setIfInBounds 3 (rawInt X.env.locals)))).get? b = some o := fun b o e => by
      obtain ⟨_, q, e'⟩ := oG b o e
      rw [Heap.get?_update_other _ _ (Ne.symm q)]
      exact e'
    have GaN : G.get? a = none := g2 a (by simp)
    have GTN : G.get? T = none := g2 T (by simp)
    refine ⟨a, PySem.W.hideAll G (frs X.stack), { s6 with heap := G }, pins, σ6, H6, cls, d, rfl, J, fun b o e hb => PySem.W.hideAll_get _ e hb, Heap.UpToSlots.of_keeps kU, .inr (.inr ?_), na, rfl, I6.bare, w⟩
    refine ⟨fun b o e => kU b o (PySem.W.of_hideAll _ e), ?_, ?_, oe, vs, T, _, _, ?_, hz, hd, h1, ?_, hTa, Heap.get?_update_self _ eT (Obj.isFreed_of_fields (Obj.data_mapFields hdT _)), Obj.data_mapFields hdT _, ?_⟩
    · cases q : (PySem.W.hideAll G (frs X.stack)).get? a with
      | none => rfl
      | some o =>
        have z := PySem.W.of_hideAll _ q
        rw [GaN] at z
        cases z
    · exact Heap.FunFrames.of_keeps (fun b o e _ => ⟨o, kU b o e, rfl⟩) (funFrames_none J.stack fun b hb => PySem.W.hideAll_none _ hb)
    · rw [Heap.get?_update_other _ _ hTa]
      exact ea
    · cases q : (PySem.W.hideAll G (frs X.stack)).get? T with
      | none => rfl
      | some o =>
        have z := PySem.W.of_hideAll _ q
        rw [GTN] at z
        cases z
    · simp [h3]
  first
    | exact wpAny_bind (wpAny_pure (wpAny_bind fin))
    | exact wpAny_bind fin
end
/-- what the clauses wish of an exception, one after the other -/
def wMix (K : PySem.W.Frag) (D : Ends) (Wout : WX) : List (Value × (Ends → WX)) → WX
  | [] => Wout
  | (c, w) :: r => fun cls d σ H => ∃ b, PySem.W.exmOne K cls c = some b ∧ (b = true → w D cls d σ H) ∧ (b = false → wMix K D Wout r cls d σ H)
abbrev TSu := Addr → Value → Option Addr → TS
def wPlain (ts : TSu) : Ends → WX := fun D cls d σ H => ∀ a, H a = none → ts a cls d D σ H
def wNamed (i : Nat) (ts : TSu) : Ends → WX := fun D cls d σ H => ∀ a, H a = none →
  ts a cls d { nx := fun σ1 H1 => D.nx (σ1.set i none) H1, rt := D.rt, bk := fun σ1 H1 => D.bk (σ1.set i none) H1, ct := fun σ1 H1 => D.ct (σ1.set i none) H1 } (σ.set i (some (.ref a))) H
def wBack (Wout : WX) (ts : TSu) : Ends → WX := fun _ cls d σ H => ∀ a, H a = none → ts a cls d { nx := fun σ1 H1 => Wout cls d σ1 H1, rt := fun _ _ => False } σ H
def SuOk (X : Cx) (sts : List Stmt) (ts : TSu) : Prop := ∀ (a : Addr) (oe : Obj) (cls : Value) (d : Option Addr) (pn : List (Addr × Obj)), Zc cls d oe → (∃ vs, oe.data = .fields vs) → PSs (X.suite a ((a, oe) :: pn)) sts (ts a cls d)
/-- the clauses: without a name, with a name, one statement and raise -/
inductive HdL (X : Cx) (Wout : WX) : List ExceptHandler → List (Value × (Ends → WX)) → Prop
  | nil : HdL X Wout [] []
  | plain {x : Str} {c : Value} {ts : TSu} {b : Stmt} {suite : List Stmt} {np pos' : Pos} {hds : List ExceptHandler} {l : List (Value × (Ends → WX))} (hc : Names X x c) (hsu : SuOk X (b :: suite) ts) (r : HdL X Wout hds l) :
      HdL X Wout (.ExceptHandler (some (.Name x np)) none (b :: suite) pos' :: hds) ((c, wPlain ts) :: l)
  | named {x n : Str} {c : Value} {i : Nat} {ts : TSu} {b : Stmt} {suite : List Stmt} {np pos' : Pos} {hds : List ExceptHandler} {l : List (Value × (Ends → WX))} (hc : Names X x c) (hN : X.N.Nodup) (hi : X.N[i]? = some n) (hln : X.env.kindOf n = some .local) (hsu : SuOk X (b :: suite) ts)
      (r : HdL X Wout hds l) : HdL X Wout (.ExceptHandler (some (.Name x np)) (some n) (b :: suite) pos' :: hds) ((c, wNamed i ts) :: l)
  | back {x : Str} {c : Value} {ts : TSu} {b : Stmt} {np rp pos' : Pos} {hds : List ExceptHandler} {l : List (Value × (Ends → WX))} (hc : Names X x c) (hsu : ∀ (a : Addr) (oe : Obj) (cls : Value) (d : Option Addr) (pn : List (Addr × Obj)), Zc cls d oe → (∃ vs, oe.data = .fields vs) → PS (X.suite a ((a, oe) :: pn)) b (ts a cls d)) (hpa : ∀ hd : Option Value, PassesOwnAt (model X.prog X.w) (X.A.mark hd) X.A X.env X.xe)
      (hex : X.ex = []) (r : HdL X Wout hds l) : HdL X Wout (.ExceptHandler (some (.Name x np)) none [b, .Raise none none rp] pos' :: hds) ((c, wBack Wout ts) :: l)
section
variable {X : Cx} {pins : List (Addr × Obj)} {a : Addr} {B : Heap} {sI s' : Shared} {σ : L2.St} {H : Hp} {cls : Value} {d : Option Addr} {h : Heap} {Wout : WX}
/-- a clause's class is looked at -/
theorem Ld.look {x : Str} {c : Value} {b : Bool} {np : Pos} {E1 : Value → Shared → Prop} (L : Ld X pins a B sI σ H cls d h s') (hf : X.env.frame = some X.env.locals) (hc : Names X x c) (hb : PySem.W.exmOne X.K cls c = some b) {Q : Bool → Shared → Prop} (q : Q b { s' with heap := h }) :
    wpAny (model X.prog X.w) (X.A.mark (some (.ref a))) (eval (.Name x np) X.env) (fun cv s1 => wpAny (model X.prog X.w) (X.A.mark (some (.ref a))) (excMatches (.ref a) cv) Q E1 s1) E1 { s' with heap := h } := by
  obtain ⟨oe, hz, hd, S3⟩ := L.suite hf
  obtain ⟨oe3, vs3, he3, hz3, hd3⟩ := L.fl.there
  have LT : PySem.W.Looks (model X.prog X.w) h (typeOf (.ref a)) cls := fun A Q E s k q => wpAny_typeOf_ref (k _ _ he3) (by rw [hz3.1]; exact q)
  have LM := PySem.W.exm_one (M := model X.prog X.w) L.here.kIn LT hb
  obtain ⟨hg, hdbg, hm | ⟨hm, hv, hnn⟩⟩ := hc
  · exact ld_glob (X := X.suite a ((a, oe) :: (X.pn ++ pins))) S3 hg hm (LM.here q) hdbg
  · exact ld_blt (X := X.suite a ((a, oe) :: (X.pn ++ pins))) S3 hg hm hv (LM.here q) hnn hdbg
/-- the clauses, from the first -/
theorem Ld.clauses {D : Ends} (hs : X.stack = X.env :: X.outer) (hf : X.env.frame = some X.env.locals) (tk : Takes X Wout) (L : Ld X pins a B sI σ H cls d h s') {hds : List ExceptHandler} {l : List (Value × (Ends → WX))} (hk : HdL X Wout hds l) :
    wMix X.K D Wout l cls d σ H → wpAny (model X.prog X.w) X.A (handleBy (.ref a) X.env hds) (SP X pins D) X.xe { s' with heap := h } := by
  have ok := L.inv.ok
  induction hk with
  | nil => exact fun w => L.pass hs hf tk w
  | @plain x c ts b₀ suite np pos' hds2 l2 hc hsu r ih =>
    rintro ⟨b, hb1, hyes, hno⟩
    refine wpAny_handleBy_cons (codeAny_handlers_test (L.look hf hc hb1 ?_)) (by intro q; cases q)
    cases b with
    | true =>
      refine codeAny_handlers_suite (HandSPX.lands_againZ L.fl fun h4 fl4 up4 => ?_)
      have L4 : Ld X pins a B sI σ H cls d h4 s' := ⟨L.inv, L.nb, L.up.trans up4, fl4, L.na, L.os, L.ag⟩
      obtain ⟨oe4, hz4, hd4, S4⟩ := L4.suite hf
      refine wpAny_mono ((hsu a oe4 cls d (X.pn ++ pins) hz4 hd4).run [] _ _ H _ S4 (hyes rfl a L.na)) (fun f s6 hsp => ?_) (fun _ _ z => False.elim z)
      cases f with
      | ret u =>
        obtain ⟨v6, σ6, H6, S6, r6, q6⟩ := hsp
        exact ⟨_, _, _, S6.unsuite ok, r6, q6⟩
      | next =>
        obtain ⟨σ6, H6, S6, q6⟩ := hsp
        exact ⟨_, _, S6.unsuite ok, q6⟩
      | brk =>
        obtain ⟨σ6, H6, S6, q6⟩ := hsp
        exact ⟨_, _, S6.unsuite ok, q6⟩
      | cont =>
        obtain ⟨σ6, H6, S6, q6⟩ := hsp
        exact ⟨_, _, S6.unsuite ok, q6⟩
    | false => exact ih (hno rfl)
  | @named x n c i ts b₀ suite np pos' hds2 l2 hc hN hi hln hsu r ih =>
    rintro ⟨b, hb1, hyes, hno⟩
    refine wpAny_handleBy_cons (codeAny_handlers_test (L.look hf hc hb1 ?_)) (by intro q; cases q)
    cases b with
    | true =>
      refine codeAny_handlers_suite_as (HandSPX.lands_againZ L.fl fun h4 fl4 up4 => ?_)
      have L4 : Ld X pins a B sI σ H cls d h4 s' := ⟨L.inv, L.nb, L.up.trans up4, fl4, L.na, L.os, L.ag⟩
      obtain ⟨oe4, hz4, hd4, S4⟩ := L4.suite hf
      refine store_ok (X := X.suite a ((a, oe4) :: (X.pn ++ pins))) (v := .ref a) S4 hN hi (.inl hln) rfl (fun s5 S5 => ?_) (.inr hln)
      refine wpAny_mono ((hsu a oe4 cls d (X.pn ++ pins) hz4 hd4).run [] s5 _ H _ S5 (hyes rfl a L.na)) (fun f s6 hsp => ?_) (fun _ _ z => False.elim z)
      have goes : ∀ {σ6 : L2.St} {H6 : Hp} {Q : Shared → Prop}, Inv (X.suite a ((a, oe4) :: (X.pn ++ pins))) [] σ6 H6 s6 → (∀ s7, Inv X pins (σ6.set i none) H6 s7 → Q s7) →
          wpAny (model X.prog X.w) X.A (do bindName X.env n .none; unbindBehindTheSuite X.env n pos') (fun _ s7 => Q s7) X.xe s6 := fun {σ6 H6 Q} S6 hq => gone_ok (S6.unsuite ok) hN hi hln hq
      cases f with
      | ret u =>
        obtain ⟨v6, σ6, H6, S6, r6, q6⟩ := hsp
        exact goes S6 fun s7 J7 => ⟨_, _, _, J7, r6, q6⟩
      | next =>
        obtain ⟨σ6, H6, S6, q6⟩ := hsp
        exact goes S6 fun s7 J7 => ⟨_, _, J7, q6⟩
      | brk =>
        obtain ⟨σ6, H6, S6, q6⟩ := hsp
        exact goes S6 fun s7 J7 => ⟨_, _, J7, q6⟩
      | cont =>
        obtain ⟨σ6, H6, S6, q6⟩ := hsp
        exact goes S6 fun s7 J7 => ⟨_, _, J7, q6⟩
    | false => exact ih (hno rfl)
  | @back x c ts st np rp pos' hds2 l2 hc hsu hpa hex r ih =>
    rintro ⟨b, hb1, hyes, hno⟩
    refine wpAny_handleBy_cons (codeAny_handlers_test (L.look hf hc hb1 ?_)) (by intro q; cases q)
    cases b with
    | true =>
      refine codeAny_handlers_suite (HandSPX.lands_againZ L.fl fun h4 fl4 up4 => ?_)
      have L4 : Ld X pins a B sI σ H cls d h4 s' := ⟨L.inv, L.nb, L.up.trans up4, fl4, L.na, L.os, L.ag⟩
      obtain ⟨_, hBa, ff, oe, vs, T, oT, ts', he, hz, hd, h1, hBT, hTa, hT, hdT, h3⟩ := id fl4
      have nfa := notFrame ff he hd
      have nfT := notFrame ff hT hdT
      obtain ⟨aL, aF⟩ := apart hf nfa
      obtain ⟨tL, tF⟩ := apart hf nfT
      have nT : H T = none := by
        cases q : H T with
        | none => rfl
        | some u =>
          obtain ⟨o, z⟩ := objOk_get ((L.inv.inGround L.nb) T u q)
          rw [hBT] at z
          cases z
      have S4 : Inv (X.suite a ((a, oe) :: (T, oT) :: (X.pn ++ pins))) [] σ H { s' with heap := h4 } := by
        have J := L4.here
        refine ⟨J.ok.suite _ _, J.os, J.bare, J.base, J.loc, J.cell, J.free, J.freeC, fun p hp => ?_, J.hok, J.len⟩
        have hp' : p ∈ (a, oe) :: (T, oT) :: (X.pn ++ pins) := by
          rw [List.append_nil] at hp
          exact hp
        rcases List.mem_cons.mp hp' with e | hp'
        · rw [e]
          exact ⟨he, L.na, aL, aF, fun v z => (by have z' : oe.data = .cell v := z; rw [hd] at z'; cases z')⟩
        · rcases List.mem_cons.mp hp' with e | hp'
          · rw [e]
            exact ⟨hT, nT, tL, tF, fun v z => (by have z' : oT.data = .cell v := z; rw [hdT] at z'; cases z')⟩
          · exact J.pin p hp'
      have st1 : wpAny (model X.prog X.w) (X.A.mark (some (.ref a))) (exec st X.env) (fun f s6 => ∃ σ6 H6, f = .next ∧ Inv (X.suite a ((a, oe) :: (T, oT) :: (X.pn ++ pins))) [] σ6 H6 s6 ∧ Wout cls d σ6 H6) (fun _ _ => False) { s' with heap := h4 } := by
        refine thn ((hsu a oe cls d ((T, oT) :: (X.pn ++ pins)) hz ⟨_, hd⟩).run [] _ _ H { nx := fun σ1 H1 => Wout cls d σ1 H1, rt := fun _ _ => False } S4 (hyes rfl a L.na)) fun f s6 hsp => ?_
        cases f with
        | next =>
          obtain ⟨σ6, H6, S6, q6⟩ := hsp
          exact ⟨σ6, H6, rfl, S6, q6⟩
        | ret u =>
          obtain ⟨_, _, _, _, _, q6⟩ := hsp
          exact False.elim q6
        | brk =>
          obtain ⟨_, _, _, q6⟩ := hsp
          exact False.elim q6
        | cont =>
          obtain ⟨_, _, _, q6⟩ := hsp
          exact False.elim q6
      refine wpAny_execs_cons (wpAny_mono st1 (fun f s6 hsp => ?_) (fun _ _ z => False.elim z))
      obtain ⟨σ6, H6, rfl, S6, q6⟩ := hsp
      refine wpAny_execs_cons (wpAny_mono (raise_again (D := D) L4 hs hf hex tk hz hd h1 hdT (Array.getElem?_eq_some_iff.mp h3).1 hBa hBT hTa nfa nfT S6 q6 (fun _ _ => False)) (fun _ _ z => z.elim) (fun e6 s6 z => hpa (some (.ref a)) e6 s6 z))
    | false => exact ih (hno rfl)
/-- the whole statement -/
theorem ps_try_mix {body : List Stmt} {h₀ : ExceptHandler} {hds : List ExceptHandler} {l : List (Value × (Ends → WX))} {pos : Pos} {tb : WX → TS} (hs : X.stack = X.env :: X.outer) (hf : X.env.frame = some X.env.locals) (tk : Takes X Wout)
    (hb : ∀ (W : WX) (pn : List (Addr × Obj)) (xe : Value → Shared → Prop), Takes (X.tr pn xe) W → PassesOwn (model X.prog X.w) X.A X.env xe → PSs (X.tr pn xe) body (tb W))
    (hh : HdL X Wout (h₀ :: hds) l) : PS X (.Try body (h₀ :: hds) [] [] pos) (fun D σ H => tb (wMix X.K D Wout l) D σ H) := by
  refine ⟨fun pins s σ H D I h => ?_⟩
  have ok := I.ok
  have hfr : X.A.frames = some (X.env :: X.outer) := by rw [ok.frames, hs]
  refine wpAny_Try_except ?_
  refine wpAny_mono ((hb (wMix X.K D Wout l) (X.pn ++ pins) (fun e s₁ => wpAny (model X.prog X.w) X.A (noteFrame e X.env) (fun _ s₂ => wpAny (model X.prog X.w) X.A (setFlight e none) (fun _ s₃ =>
    wpAny (model X.prog X.w) X.A (handleBy e X.env (h₀ :: hds)) (SP X pins D) X.xe s₃) X.xe s₂) X.xe s₁) (fun u s' xx => ?_) PassesOwn.looking).run [] s σ H D (I.toTry _) h) (fun f s1 hsp => ?_) (fun e s1 he => he)
  · obtain ⟨a, B, sI, pins', σ', H', cls, d, rfl, J', nb, up, sky, na, os, ag, w⟩ := xx
    have sky' : Sky B (X.env :: X.outer) a (Zc cls d) X.env.locals s'.heap := by rw [← hs]; exact sky
    show wpAny (model X.prog X.w) X.A (noteFrame (.ref a) X.env) _ _ _
    refine Sky.land Zc.steady hfr hf sky' fun h3 fl3 up3 => ?_
    exact Ld.clauses (s' := s') hs hf tk ⟨J'.ofTry ok, nb, up.trans up3, fl3, na, os, ag⟩ hh w
  · cases f with
    | ret u =>
      obtain ⟨v, σ', H', J', r, q⟩ := hsp
      exact ⟨v, σ', H', J'.ofTry ok, r, q⟩
    | next =>
      obtain ⟨σ', H', J', q⟩ := hsp
      exact wpAny_execs_nil ⟨σ', H', J'.ofTry ok, q⟩
    | brk =>
      obtain ⟨σ', H', J', q⟩ := hsp
      exact ⟨σ', H', J'.ofTry ok, q⟩
    | cont =>
      obtain ⟨σ', H', J', q⟩ := hsp
      exact ⟨σ', H', J'.ofTry ok, q⟩
/-- x(), an own exception class without own __init__ -/
theorem pmk_own0 {C : Addr} {bmB : List Value} {B newId initId : String} {x : Str} {p pos : Pos} (F : ExcBaseFacts B newId initId bmB) (q : PySem.W.excIn X.K C bmB newId = true) (gC : X.mg x = some (.ref C)) (kC : PySem.W.keepIn X.K (.ref C) = true) (r : Raises X (.ref C)) (hg : Gl X x)
    (hdb : (x == ("__debug__" : Str)) = false := by decide) : PMk X (.Call (.Name x p) [] [] pos) (fun _ H Q => Q (.ref C) none H) := by
  intro pins s σ H Q I h
  refine wpAny_Call_Name_kw (ld_glob I hg gC ?_ hdb)
  refine PySem.W.callWith_K0 I.kIn kC ?_
  show wpAny _ _ (call (.ref C) []) _ _ _
  obtain ⟨bm, N, nm, qn, bs, hdct, sn, sub, ab, col, dd, k0, k1, k2, k3, k5, mN, hC, hN, hni, T⟩ := exc_obj I.kIn q
  refine wpAny_call_exc_subT F T hC hN hni (fun h' e hm => ?_) (Nat.zero_le _)
  exact mk_of I hm r h (I.hok.gone hm.new)
end
end RT
end
section
set_option Elab.async false
set_option linter.all false
set_option maxRecDepth 100000
set_option maxHeartbeats 2000000
/-! X3: any, all of a generator expression over a text's signs or a list, its element a test that leaves every object as it was (it may read the module's names and call). -/
namespace RT
open PySem PySem.Spec PyProof.Rows L2
/-- the element at the i-th item v: a bool, every object kept; the items, what stands (but the code's table at P), the room are told -/
def EltG (X : Cx) (s1 : Shared) (P : Addr) (scope : Scope) (x : Str) (elt : Expr) (Pf : Nat → Value → Prop) (pb : Nat → Bool) : Prop :=
  ∀ (cenv : Env) (A' : Around) (E' : Value → Shared → Prop) (i : Nat) (v : Value) (s₂ : Shared) (m₂ : Str → Option Value), cenv.scope = scope → cenv.globals = mainGlobals → A'.handled = none → A'.depth ≤ X.A.depth + 1 → A'.units ≤ X.A.units + 8 →
    Pf i v → s₂.heap.Ns cenv.locals m₂ → m₂ x = some v → (∀ b o, b ≠ P → s1.heap.get? b = some o → s₂.heap.get? b = some o) →
    wpAny (model X.prog X.w) A' (eval elt cenv) (fun y s₃ => y = .bool (pb i) ∧ Keeps s₂ s₃) E' s₂
section
variable {X : Cx} {pins : List (Addr × Obj)} {σ : L2.St} {H1 : Hp} {s1 : Shared} {c P : Addr} {ps : Array Value} {elt iter : Expr} {x : Str} {px gpos : Pos} {scope : Scope} {n : Nat} {pb : Nat → Bool} {Pf : Nat → Value → Prop} {St0 : Nat → Heap → Prop} {fp0 : List Addr} {o : Obj}
/-- the generator at g, ready to be walked -/
def ReadyG (X : Cx) (pins : List (Addr × Obj)) (σ : L2.St) (H1 : Hp) (P : Addr) (n : Nat) (pb : Nat → Bool) (g : Addr) (s5 : Shared) : Prop :=
  ∃ (fp wr : List Addr) (G : Array GenState → Array GenState → Prop) (F : Nat → Value → Prop) (St : Nat → Shared → Prop),
    WalksS X.prog X.w X.A.in1 g fp wr G n F St ∧ St 0 s5 ∧ TruthOf X.prog X.w X.A.in1 F pb ∧ ∀ s', Moved wr G s5 s' → ∃ H2, GxR.Tabbed P H1 H2 ∧ Inv X pins σ H2 s'
/-- behind iter(..): the iterator o lies at the heap's end -/
theorem gen_core {Q' : Value → Shared → Prop} (I1 : Inv X pins σ H1 s1) (TB : GxR.TabB X.base X.mg c P) (hcode : X.env.code = .ref c) (hP : H1 P = some (.tbl ps)) (ht : TriplesOk ps.toList)
    (W : ∀ A' : Around, A'.handled = none → Walks X.prog X.w A' s1.heap.objs.size fp0 [s1.heap.objs.size] n Pf St0) (hst : St0 0 (s1.heap.push o)) (hfp : ∀ b ∈ fp0, b < s1.heap.objs.size + 1 ∧ b ≠ P) (hh : X.A.handled = none)
    (hel : EltG X s1 P scope x elt Pf pb) (hQ : ∀ g s5, ReadyG X pins σ H1 P n pb g s5 → Q' (.ref g) s5) :
    (s1.heap.push o).NoLimit ∧ wpAny (model X.prog X.w) X.A (genexprCode X.env gpos (X.env.qual ++ "<genexpr>") scope) (fun code s₃ => wpAny (model X.prog X.w) X.A (builtinsFor X.env.globals X.env.builtins) (fun bi s₄ =>
        ∃ I fp wr n₀ P St₀ pz F, (Value.ref s1.heap.objs.size) = .ref I ∧ (∀ A' : Around, A'.handled = none → Walks X.prog X.w A' I fp wr n₀ P St₀) ∧ St₀ 0 s₄.heap ∧ (∀ b ∈ fp, b < s₄.heap.objs.size) ∧ s₄.heap.NoLimit ∧ cStatics ∉ wr ∧
          (∀ href : Heap, (∀ b o, s₄.heap.get? b = some o → href.get? b = some o) →
            QuietGenD X.prog X.w (genEnv scope (cloFrom X.env.cells scope.names []) s₄.heap.objs.size code bi X.env) x [] elt (List.range s₄.heap.objs.size) wr P pz F href (X.A.depth + 1) (X.A.units + 8)) ∧
          (∀ a h₅ tk gs, gs.bare = true → s₄.heap.objs.size < a → h₅.objs.size = a + 1 → (∀ b o, s₄.heap.get? b = some o → h₅.get? b = some o) →
            WalksS X.prog X.w X.A.in4 a (a :: s₄.heap.objs.size :: List.range s₄.heap.objs.size) (s₄.heap.objs.size :: wr) (GenOnlyQ s₄.gens.size) (passing pz n₀ 0).length
              (fun j y => ∃ i, (passing pz n₀ 0)[j]? = some i ∧ F i y) (GenAt X.prog X.w X.A.in4 a s₄.gens.size s₄.heap.objs.size (List.range s₄.heap.objs.size) wr pz n₀ F) →
            GenAt X.prog X.w X.A.in4 a s₄.gens.size s₄.heap.objs.size (List.range s₄.heap.objs.size) wr pz n₀ F 0 { s₄ with gens := s₄.gens.push gs, toks := tk, heap := h₅ } →
            Q' (.ref a) { s₄ with gens := s₄.gens.push gs, toks := tk, heap := h₅ })) X.xe s₃) X.xe { s1 with heap := s1.heap.push o } := by
  have hPs : s1.heap.get? P = some { cls := .none, data := .fields ps } := I1.hok P _ hP
  have hPlt : P < s1.heap.objs.size := Heap.lt_size hPs
  have hP2 : (s1.heap.push o).get? P = some { cls := .none, data := .fields ps } := Heap.get?_push_of_some _ hPs
  have cd : PySem.W.CodeHd (s1.heap.push o) c P := TB.code.keeps fun b u e => Heap.get?_push_of_some _ (I1.bk b u e)
  have lim2 : (s1.heap.push o).NoLimit := I1.nolimit.push o
  have sz2 : (s1.heap.push o).objs.size = s1.heap.objs.size + 1 := Heap.size_push ..
  refine ⟨lim2, ?_⟩
  -- the code object is found or laid: the table may have grown
  have cont : ∀ (code : Value) (h3 : Heap) (tk : Nat) (ps' : Array Value), Heap.ExtBut P (s1.heap.push o) h3 → (s1.heap.push o).objs.size ≤ h3.objs.size → h3.get? P = some { cls := .none, data := .fields ps' } → (∃ more, ps' = ps ++ more) → TriplesOk ps'.toList →
      wpAny (model X.prog X.w) X.A (builtinsFor X.env.globals X.env.builtins) (fun bi s₄ =>
        ∃ I fp wr n₀ P St₀ pz F, (Value.ref s1.heap.objs.size) = .ref I ∧ (∀ A' : Around, A'.handled = none → Walks X.prog X.w A' I fp wr n₀ P St₀) ∧ St₀ 0 s₄.heap ∧ (∀ b ∈ fp, b < s₄.heap.objs.size) ∧ s₄.heap.NoLimit ∧ cStatics ∉ wr ∧
          (∀ href : Heap, (∀ b o, s₄.heap.get? b = some o → href.get? b = some o) →
            QuietGenD X.prog X.w (genEnv scope (cloFrom X.env.cells scope.names []) s₄.heap.objs.size code bi X.env) x [] elt (List.range s₄.heap.objs.size) wr P pz F href (X.A.depth + 1) (X.A.units + 8)) ∧
          (∀ a h₅ tk gs, gs.bare = true → s₄.heap.objs.size < a → h₅.objs.size = a + 1 → (∀ b o, s₄.heap.get? b = some o → h₅.get? b = some o) →
            WalksS X.prog X.w X.A.in4 a (a :: s₄.heap.objs.size :: List.range s₄.heap.objs.size) (s₄.heap.objs.size :: wr) (GenOnlyQ s₄.gens.size) (passing pz n₀ 0).length
              (fun j y => ∃ i, (passing pz n₀ 0)[j]? = some i ∧ F i y) (GenAt X.prog X.w X.A.in4 a s₄.gens.size s₄.heap.objs.size (List.range s₄.heap.objs.size) wr pz n₀ F) →
            GenAt X.prog X.w X.A.in4 a s₄.gens.size s₄.heap.objs.size (List.range s₄.heap.objs.size) wr pz n₀ F 0 { s₄ with gens := s₄.gens.push gs, toks := tk, heap := h₅ } →
            Q' (.ref a) { s₄ with gens := s₄.gens.push gs, toks := tk, heap := h₅ })) X.xe { s1 with heap := h3, toks := tk } := by
    intro code h3 tk ps' hx hsz hP3 hmore ht3
    obtain ⟨bm, ob, e1, e2, e3, e4, e5, e6, e7, e8⟩ := TB.bm
    have hcP : cStatics ≠ P := fun e => by
      obtain ⟨_, ⟨o', es, ep, ho, hd, _⟩, _⟩ := I1.nolimit
      rw [e, hPs] at ho
      cases ho
      cases hd
    have hcl : cStatics < s1.heap.objs.size := let ⟨_, hns, _⟩ := I1.nolimit; hns.lt
    have keep3 : ∀ b u, b ≠ P → s1.heap.get? b = some u → h3.get? b = some u := fun b u hb e => hx b u hb (Heap.get?_push_of_some _ e)
    have big : s1.heap.objs.size + 1 ≤ h3.objs.size := by omega
    refine wpAny_builtinsFor (m := X.mg) (by rw [I1.ok.glob]; exact ((I1.mod.glob.keeps I1.bk).push o).extBut hx TB.gP) e1 e2 (keep3 _ _ e4 (I1.bk _ _ e5)) e6 e7 e8 ?_
    refine ⟨s1.heap.objs.size, fp0, [s1.heap.objs.size], n, Pf, St0, (fun _ => true), (fun i y => y = .bool (pb i)), rfl, W, ?_, ?_, lim2.extBut hx hcP, ?_, ?_, ?_⟩
    · exact (W X.A hh).frame _ _ _ hst fun b hb u e => hx b u (hfp b hb).2 e
    · exact fun b hb => Nat.lt_of_lt_of_le (hfp b hb).1 big
    · intro z
      rcases List.mem_cons.mp z with z | z
      · exact Nat.ne_of_lt hcl z
      · cases z
    · intro href hhref
      refine ⟨fun A' E' i v s₂ m₂ hA _ _ hPv hn hm hk => ?_, fun A' E' i v s₂ m₂ hA hA1 hA2 hPv hp hn hm hk => ?_⟩
      · simp only [List.forIn_nil]
        exact wpAny_pure ⟨rfl, GxR.keeps_refl _⟩
      · refine wpAny_mono (hel _ A' E' i v s₂ m₂ rfl I1.ok.glob hA hA1 hA2 hPv hn hm fun b u hb e => ?_) (fun y s3 r => r) fun _ _ e => e
        have lb := Heap.lt_size e
        refine hk b (List.mem_range.mpr (Nat.lt_of_lt_of_le lb (by show s1.heap.objs.size ≤ h3.objs.size; omega))) (fun z => ?_) u (hhref b u (keep3 b u hb e))
        rcases List.mem_cons.mp z with z | z
        · exact Nat.lt_irrefl _ (by rw [z] at lb; exact lb)
        · cases z
    · intro g h5 tk5 gs hgb hag hsz5 hk5 W5 hat
      simp only [GxR.passing_true, List.length_range] at W5
      refine hQ g _ ⟨_, _, _, _, _, W5.in4_1, hat, ?_, fun s' hm => ?_⟩
      · intro j y sj Qj Ej hy hQj
        obtain ⟨i, hij, rfl⟩ := hy
        obtain ⟨hj, ej⟩ := List.getElem?_eq_some_iff.mp hij
        rw [List.getElem_range] at ej
        subst ej
        exact wpAny_truthy_bool hQj
      · obtain ⟨more, em⟩ := hmore
        have nwr : ∀ b u, s1.heap.get? b = some u → b ∉ h3.objs.size :: [s1.heap.objs.size] := fun b u e hb => by
          have hl := Heap.lt_size e
          rcases List.mem_cons.mp hb with z | z
          · rw [z] at hl
            have h9 : (h3.objs.size : Nat) < s1.heap.objs.size := hl
            omega
          · rcases List.mem_cons.mp z with z | z
            · rw [z] at hl
              exact Nat.lt_irrefl _ hl
            · cases z
        have J := GxR.inv_tab (more := more) (h' := s'.heap) (g' := s'.gens) (d' := s'.drawn) (t' := s'.toks) I1 hP (fun b u hb e => hm.heap b u (nwr b u e) (hk5 b u (keep3 b u hb e)))
          (by rw [← em]; exact hm.heap P _ (nwr P _ hPs) (hk5 P _ hP3)) (AllBare.movedS (I1.bare.push hgb) hm)
        rw [GxR.sh_eta s1 s' hm.os] at J
        exact ⟨upd H1 P (.tbl (ps ++ more)), ⟨⟨ps ++ more, upd_same, by rw [← em]; exact ht3⟩, fun b hb => upd_ne hb⟩, J⟩
  cases hf : codeAmong gpos ps.toList with
  | none =>
    refine wpAny_genexprCodeX hcode (cd.code hP2 ht) (cd.tab hP2) hf fun c' h' tk hx hge hlt hco' _ htab' _ => ?_
    obtain ⟨o1, vs, f1, tf, fl, tg, inF, tx, tt, op, _, _, _, _, _, _, _, _, _, htr, _⟩ := hco'
    exact cont _ h' tk _ hx (Nat.le_trans hge (Nat.le_of_lt hlt)) htab'.2 ⟨_, rfl⟩ htr
  | some cv =>
    refine wpAny_genexprCode_hit hcode (cd.code hP2 ht) hf ?_
    exact cont cv (s1.heap.push o) s1.toks ps (Heap.ExtBut.refl _ _) (Nat.le_refl _) hP2 ⟨#[], by simp⟩ ht
/-- over a list -/
theorem gen_list {te : TE} {pins : List (Addr × Obj)} {σ : L2.St} {H : Hp} {s : Shared} {k : Nat} {Q' : Value → Shared → Prop} {R : List V → (Nat → Bool) → Hp → Prop}
    (hr : Room k X.A) (TB : GxR.TabB X.base X.mg c P) (hcode : X.env.code = .ref c) (S : GxR.GenS X.env scope x) (hi : PE X iter te) (hs : ∀ v, genFold iter X.env v = pure v) (I : Inv X pins σ H s)
    (h : te σ H fun v H1 => ∃ (yl : Addr) (xs : List V) (pb : Nat → Bool), v = .ref yl ∧ SqL X.K H1 yl xs ∧ GxR.TabG H1 P ∧ R xs pb H1 ∧
      ∀ (s1 : Shared), Inv X pins σ H1 s1 → EltG X s1 P scope x elt (fun i v => ∃ y, xs[i]? = some y ∧ RelV y v) pb)
    (hQ : ∀ xs pb H1 g s5, R xs pb H1 → ReadyG X pins σ H1 P xs.length pb g s5 → Q' (.ref g) s5) :
    wpAny (model X.prog X.w) X.A (eval (.GeneratorExp elt [⟨.Name x px, iter, [], 0⟩] scope gpos) X.env) Q' X.xe s := by
  refine wpAny_GeneratorExp_walksQD hr.hd S.co (closure_ok S.free) S.cell S.dot S.loc S.kind (by have := hr.dp; omega) ?_ hs
  refine thn (hi.run pins s σ H _ I h) fun xv s1 ⟨v, H1, I1, r1, q1⟩ => ?_
  obtain ⟨yl, xs, pb, rfl, hyl, ⟨ps, hP, ht⟩, q1, hel⟩ := q1
  obtain rfl : xv = Value.ref yl := r1
  obtain ⟨its, rv, hl, hz⟩ := I1.list hyl
  have hIL := hl.isList
  have hylt : yl < s1.heap.objs.size := by
    obtain ⟨_, e, _⟩ := _root_.id hIL
    exact Heap.lt_size e
  have hPs : s1.heap.get? P = some { cls := .none, data := .fields ps } := I1.hok P _ hP
  have hylP : yl ≠ P := fun z => by
    obtain ⟨_, e, hc1, _, hd1⟩ := _root_.id hIL
    rw [z, hPs] at e
    cases e
    cases hd1
  refine wpAny_pyIter_list hIL ?_
  generalize ho : ({ cls := .type "list_iterator", data := .fields #[.ref yl, .int 0 0] } : Obj) = o
  have hitr : (s1.heap.push o).IsListIter s1.heap.objs.size yl 0 := by
    subst ho
    exact ⟨_, Heap.get?_push_size _ rfl, rfl, rfl⟩
  have hIL2 : (s1.heap.push o).IsList yl its.toArray := by
    obtain ⟨ob, e, r⟩ := _root_.id hIL
    exact ⟨ob, Heap.get?_push_of_some _ e, r⟩
  have hn : its.toArray.size = xs.length := by rw [List.size_toArray, rv.length]
  have hPlt : P < s1.heap.objs.size := Heap.lt_size hPs
  refine gen_core (n := its.toArray.size) (pb := pb) (Pf := fun i v => its.toArray[i]? = some v) (fp0 := [s1.heap.objs.size, yl]) I1 TB hcode hP ht (fun A' hA => Walks.list hA _ _ (Nat.ne_of_lt hylt) _) ⟨hitr, hIL2⟩ (fun b hb => ?_) hr.hd ?_ fun g s5 z => hQ xs pb H1 g s5 q1 (by rw [← hn]; exact z)
  · rcases List.mem_cons.mp hb with z | z
    · rw [z]
      exact ⟨Nat.lt_succ_self _, Nat.ne_of_gt hPlt⟩
    · rcases List.mem_cons.mp z with z | z
      · rw [z]
        exact ⟨Nat.lt_succ_of_lt hylt, hylP⟩
      · cases z
  · intro cenv A' E' i v s₂ m₂ h1 h2 h3 h4 h5 h6 h7 h8 h9
    refine hel s1 I1 cenv A' E' i v s₂ m₂ h1 h2 h3 h4 h5 ?_ h7 h8 h9
    have hv : its[i]? = some v := by simpa using h6
    have hi2 : i < xs.length := by
      rw [← hn, List.size_toArray]
      exact (List.getElem?_eq_some_iff.mp hv).1
    obtain ⟨u, hu, ru⟩ := rv.get (List.getElem?_eq_getElem hi2)
    rw [hv] at hu
    cases hu
    exact ⟨_, List.getElem?_eq_getElem hi2, ru⟩
/-- over a text -/
theorem gen_text {te : TE} {pins : List (Addr × Obj)} {σ : L2.St} {H : Hp} {s : Shared} {k : Nat} {Q' : Value → Shared → Prop} {R : Str → (Nat → Bool) → Hp → Prop}
    (hr : Room k X.A) (TB : GxR.TabB X.base X.mg c P) (hcode : X.env.code = .ref c) (S : GxR.GenS X.env scope x) (hi : PE X iter te) (hs : ∀ v, genFold iter X.env v = pure v) (I : Inv X pins σ H s)
    (h : te σ H fun v H1 => ∃ (a : Str) (pb : Nat → Bool), v = .str a ∧ GxR.TabG H1 P ∧ R a pb H1 ∧ ∀ (s1 : Shared), Inv X pins σ H1 s1 → EltG X s1 P scope x elt (SignAt a) pb)
    (hQ : ∀ a pb H1 g s5, R a pb H1 → ReadyG X pins σ H1 P a.cps.size pb g s5 → Q' (.ref g) s5) :
    wpAny (model X.prog X.w) X.A (eval (.GeneratorExp elt [⟨.Name x px, iter, [], 0⟩] scope gpos) X.env) Q' X.xe s := by
  refine wpAny_GeneratorExp_walksQD hr.hd S.co (closure_ok S.free) S.cell S.dot S.loc S.kind (by have := hr.dp; omega) ?_ hs
  refine thn (hi.run pins s σ H _ I h) fun xv s1 ⟨v, H1, I1, r1, q1⟩ => ?_
  obtain ⟨a, pb, rfl, ⟨ps, hP, ht⟩, q1, hel⟩ := q1
  obtain ⟨t, rfl⟩ := _root_.id r1
  have hPs : s1.heap.get? P = some { cls := .none, data := .fields ps } := I1.hok P _ hP
  have hPlt : P < s1.heap.objs.size := Heap.lt_size hPs
  refine wpAny_pyIter_str fun o St W hst => ?_
  refine gen_core (n := a.cps.size) (pb := pb) (Pf := SignAt a) (fp0 := [s1.heap.objs.size]) I1 TB hcode hP ht W hst (fun b hb => ?_) hr.hd (hel s1 I1) fun g s5 z => hQ a pb H1 g s5 q1 z
  rcases List.mem_cons.mp hb with z | z
  · rw [z]
    exact ⟨Nat.lt_succ_self _, Nat.ne_of_gt hPlt⟩
  · cases z
/-- all(elt for x in a list): every element true -/
def tAllL (X : Cx) (P : Addr) (scope : Scope) (x : Str) (elt : Expr) (te : TE) : TE := fun σ H Q => ∀ pins, te σ H fun v H1 => ∃ (yl : Addr) (xs : List V) (pb : Nat → Bool), v = .ref yl ∧ SqL X.K H1 yl xs ∧ GxR.TabG H1 P ∧
  (∀ H2, GxR.Tabbed P H1 H2 → Q (.bl ((List.range xs.length).all pb)) H2) ∧ ∀ (s1 : Shared), Inv X pins σ H1 s1 → EltG X s1 P scope x elt (fun i v => ∃ y, xs[i]? = some y ∧ RelV y v) pb
def tAnyL (X : Cx) (P : Addr) (scope : Scope) (x : Str) (elt : Expr) (te : TE) : TE := fun σ H Q => ∀ pins, te σ H fun v H1 => ∃ (yl : Addr) (xs : List V) (pb : Nat → Bool), v = .ref yl ∧ SqL X.K H1 yl xs ∧ GxR.TabG H1 P ∧
  (∀ H2, GxR.Tabbed P H1 H2 → Q (.bl ((List.range xs.length).any pb)) H2) ∧ ∀ (s1 : Shared), Inv X pins σ H1 s1 → EltG X s1 P scope x elt (fun i v => ∃ y, xs[i]? = some y ∧ RelV y v) pb
def tAllT (X : Cx) (P : Addr) (scope : Scope) (x : Str) (elt : Expr) (te : TE) : TE := fun σ H Q => ∀ pins, te σ H fun v H1 => ∃ (a : Str) (pb : Nat → Bool), v = .str a ∧ GxR.TabG H1 P ∧
  (∀ H2, GxR.Tabbed P H1 H2 → Q (.bl ((List.range a.cps.size).all pb)) H2) ∧ ∀ (s1 : Shared), Inv X pins σ H1 s1 → EltG X s1 P scope x elt (SignAt a) pb
variable {te : TE} {p pos : Pos} {k : Nat}
theorem pe_allL (hr : Room k X.A) (hg : Gl X "all") (hm : X.mg "all" = none) (TB : GxR.TabB X.base X.mg c P) (hcode : X.env.code = .ref c) (S : GxR.GenS X.env scope x) (hi : PE X iter te)
    (hb : bootBuiltins "all" = some (.builtin "all") := by decide +kernel) (hs : ∀ v, genFold iter X.env v = pure v := by intro _; rfl)
    (he : starEach [.GeneratorExp elt [⟨.Name x px, iter, [], 0⟩] scope gpos] X.env = (false, eval (.GeneratorExp elt [⟨.Name x px, iter, [], 0⟩] scope gpos) X.env) :: starEach [] X.env := by rfl) :
    PE X (.Call (.Name "all" p) [.GeneratorExp elt [⟨.Name x px, iter, [], 0⟩] scope gpos] [] pos) (tAllL X P scope x elt te) := by
  refine ⟨fun pins s σ H Q I h => ?_⟩
  refine wpAny_Call_Name_kw (ld_blt I hg hm hb ?_)
  refine PyProof.Rows.callWith_builtin1 ?_ he (by rfl)
  rw [he]
  show wpAny _ _ (spliced ((false, eval (.GeneratorExp elt [⟨.Name x px, iter, [], 0⟩] scope gpos) X.env) :: backTo pos (starEach [] X.env))) _ _ s
  refine Calls.spliced_cons (gen_list (R := fun xs pb H1 => ∀ H2, GxR.Tabbed P H1 H2 → Q (.bl ((List.range xs.length).all pb)) H2) hr TB hcode S hi hs I (h pins) fun xs pb H1 g s5 hR hG => ?_)
  obtain ⟨fp, wr, G, F, St, W, hst, htr, hI⟩ := hG
  refine Calls.spliced_nil ?_
  refine call_all_walkS (W.self 0 _ _ _ hst ⟨g, fp, wr, G, _, F, St, _, rfl, W, hst, htr, fun s' hmv => ?_⟩)
  obtain ⟨H2, hT, J⟩ := hI s' hmv
  exact ⟨.bl _, H2, J, rfl, hR H2 hT⟩
theorem pe_anyL (hr : Room k X.A) (hg : Gl X "any") (hm : X.mg "any" = none) (TB : GxR.TabB X.base X.mg c P) (hcode : X.env.code = .ref c) (S : GxR.GenS X.env scope x) (hi : PE X iter te)
    (hs : ∀ v, genFold iter X.env v = pure v := by intro _; rfl)
    (he : starEach [.GeneratorExp elt [⟨.Name x px, iter, [], 0⟩] scope gpos] X.env = (false, eval (.GeneratorExp elt [⟨.Name x px, iter, [], 0⟩] scope gpos) X.env) :: starEach [] X.env := by rfl) :
    PE X (.Call (.Name "any" p) [.GeneratorExp elt [⟨.Name x px, iter, [], 0⟩] scope gpos] [] pos) (tAnyL X P scope x elt te) := by
  refine ⟨fun pins s σ H Q I h => ?_⟩
  refine wpAny_Call_Name_kw (ld_blt I hg hm boot_any ?_)
  refine PyProof.Rows.callWith_builtin1 ?_ he (by rfl)
  rw [he]
  show wpAny _ _ (spliced ((false, eval (.GeneratorExp elt [⟨.Name x px, iter, [], 0⟩] scope gpos) X.env) :: backTo pos (starEach [] X.env))) _ _ s
  refine Calls.spliced_cons (gen_list (R := fun xs pb H1 => ∀ H2, GxR.Tabbed P H1 H2 → Q (.bl ((List.range xs.length).any pb)) H2) hr TB hcode S hi hs I (h pins) fun xs pb H1 g s5 hR hG => ?_)
  obtain ⟨fp, wr, G, F, St, W, hst, htr, hI⟩ := hG
  refine Calls.spliced_nil ?_
  refine call_any_walkS (W.self 0 _ _ _ hst ⟨g, fp, wr, G, _, F, St, _, rfl, W, hst, htr, fun s' hmv => ?_⟩)
  obtain ⟨H2, hT, J⟩ := hI s' hmv
  exact ⟨.bl _, H2, J, rfl, hR H2 hT⟩
theorem pe_allT (hr : Room k X.A) (hg : Gl X "all") (hm : X.mg "all" = none) (TB : GxR.TabB X.base X.mg c P) (hcode : X.env.code = .ref c) (S : GxR.GenS X.env scope x) (hi : PE X iter te)
    (hb : bootBuiltins "all" = some (.builtin "all") := by decide +kernel) (hs : ∀ v, genFold iter X.env v = pure v := by intro _; rfl)
    (he : starEach [.GeneratorExp elt [⟨.Name x px, iter, [], 0⟩] scope gpos] X.env = (false, eval (.GeneratorExp elt [⟨.Name x px, iter, [], 0⟩] scope gpos) X.env) :: starEach [] X.env := by rfl) :
    PE X (.Call (.Name "all" p) [.GeneratorExp elt [⟨.Name x px, iter, [], 0⟩] scope gpos] [] pos) (tAllT X P scope x elt te) := by
  refine ⟨fun pins s σ H Q I h => ?_⟩
  refine wpAny_Call_Name_kw (ld_blt I hg hm hb ?_)
  refine PyProof.Rows.callWith_builtin1 ?_ he (by rfl)
  rw [he]
  show wpAny _ _ (spliced ((false, eval (.GeneratorExp elt [⟨.Name x px, iter, [], 0⟩] scope gpos) X.env) :: backTo pos (starEach [] X.env))) _ _ s
  refine Calls.spliced_cons (gen_text (R := fun a pb H1 => ∀ H2, GxR.Tabbed P H1 H2 → Q (.bl ((List.range a.cps.size).all pb)) H2) hr TB hcode S hi hs I (h pins) fun xs pb H1 g s5 hR hG => ?_)
  obtain ⟨fp, wr, G, F, St, W, hst, htr, hI⟩ := hG
  refine Calls.spliced_nil ?_
  refine call_all_walkS (W.self 0 _ _ _ hst ⟨g, fp, wr, G, _, F, St, _, rfl, W, hst, htr, fun s' hmv => ?_⟩)
  obtain ⟨H2, hT, J⟩ := hI s' hmv
  exact ⟨.bl _, H2, J, rfl, hR H2 hT⟩
end
end RT
end
section
set_option Elab.async false
set_option linter.all false
set_option maxRecDepth 100000
set_option maxHeartbeats 2000000
/-! X4: repr of data; a def that is only called where no repr is under way (FnG); the law's end for such a def. -/
namespace RT
open PySem PySem.Spec PyProof.Rows L2
section
variable {X : Cx}
/-- repr(x), x data without dicts -/
def rRepr (K : PySem.W.Frag) : List V → Hp → VK → Prop := fun xs H Q => ∃ x d, xs = [x] ∧ Dp K H x d ∧ d.showable = true ∧ d.hasDict = false ∧ d.depth ≤ 8 ∧ d.shown.length ≤ sizeLine ∧ Q (.str d.shown) H
theorem call_reprD {k : Nat} (hr : Room k X.A) (hg : X.A.guards = some []) : CallR X (.builtin "repr") (rRepr X.K) := by
  intro pins s σ H xs us Q I r h
  obtain ⟨x, d, rfl, hd, hs, hnd, hdep, hz, q⟩ := h
  obtain ⟨u, rfl, ru⟩ := Vals.one r
  obtain ⟨as, rd⟩ := Dp.reads I d x u hd ru
  have hroom : X.A.units + (d.depth + 1) < cLine := by have := hr.un; omega
  have fin : ∀ h' tk' tk2, (∀ b o, s.heap.get? b = some o → h'.get? b = some o) → EP X pins σ Q (.str d.shown tk') { s with heap := h', toks := tk2 } := fun h' tk' tk2 hk => ⟨.str d.shown, H, I.kept hk, ⟨_, rfl⟩, q⟩
  cases rd with
  | none =>
    simp only [PyData.shown] at fin
    exact PySem.P.repr_of_none (fin s.heap _ _ fun _ _ e => e)
  | bool b =>
    simp only [PyData.shown] at fin
    exact PySem.P.repr_of_bool (fin s.heap _ _ fun _ _ e => e)
  | int i t =>
    simp only [PyData.shown] at fin
    exact PySem.P.repr_of_int (by simpa [PyData.showable] using hs) (fin s.heap _ _ fun _ _ e => e)
  | str x t =>
    simp only [PyData.shown] at fin hz
    exact PySem.P.repr_of_str (fin s.heap _ _ fun _ _ e => e) hz
  | list h1 h2 h3 h4 => exact repr_of_reads' (.list h1 h2 h3 h4) hs (PyData.noDict_hsm hnd) hg hroom (fun _ _ e => e) (fun h' u tk hk => fin h' u tk hk) hz
  | tuple h1 h2 h3 h4 => exact repr_of_reads' (.tuple h1 h2 h3 h4) hs (PyData.noDict_hsm hnd) hg hroom (fun _ _ e => e) (fun h' u tk hk => fin h' u tk hk) hz
  | dict h1 h2 h3 h4 h5 => cases hd
end
/-- a def's promise where no repr is under way -/
structure FnG (P : Program) (w : World) (K : PySem.W.Frag) (mg : Str → Option Value) (base : Heap) (CX : CXT) (k : Nat) (f : Addr) (fd : FuncData) (ps : List Str) (sp : Sp) : Prop where
  len : ∀ vs H Q E, sp vs H Q E → vs.length = ps.length
  run : ∀ (A : Around) (outer : List Env) (s : Shared) (H : Hp) (args : Args) (us : List Value) (vs : List V) (Q : VK) (E : XK), A.guards = some [] → Room k A → Env0 P w K mg base A outer s H → BindsTo s fd args (ps.zip us) → Vals vs us → sp vs H Q E →
    codeAny (model P w) A (.call (.ref f) args) (CR CX outer P w H s Q E) s
section
variable {P : Program} {w : World} {K : PySem.W.Frag} {mg : Str → Option Value} {base : Heap} {x qual : Str} {params : Arguments} {body : List Stmt} {scope : Scope} {dvs : List V} {kws : List (Str × V)} {f : Addr} {fd : FuncData}
theorem FnG.of {CX : CXT} {N ps : List Str} {k : Nat} {sp : Sp} (F : FunD K x qual params body scope dvs kws f fd) (S : FnScope N ps scope) (len : ∀ vs H Q E, sp vs H Q E → vs.length = ps.length)
    (hbody : ∀ (cdv : Value) (A : Around) (outer : List Env) (s : Shared) (H : Hp) (vs : List V) (Q : VK) (E : XK), A.guards = some [] → Room k (A.deeper (envOfC qual scope s.heap.objs.size f cdv)) → sp vs H Q E →
      ∃ t, PSs (cxOf CX P w K mg base N qual scope f cdv A outer s H E) body t ∧ t { nx := fun _ H' => Q .non H', rt := Q } (start N vs) H) : FnG P w K mg base CX (k + 1) f fd ps sp := by
  obtain ⟨oc, od, dV, kV, doc, pm, an, cdv, ct, osl, rfl, lk, hcd, _, _⟩ := F.ex
  refine ⟨len, fun A outer s H args us vs Q E hgd hr e0 hb r hsp => ?_⟩
  have below : ∀ b o, base.get? b = some o → s.heap.get? b = some o := fun b o e => (e0.bs b o e).1
  have KX : K.In s.heap := e0.mod.kin.keeps below
  have hbinds : ∀ y ∈ ps.zip us, scope.names.lookup y.1 = some .local ∨ (scope.names.lookup y.1 = some .cell ∧ ((cellsFrom (s.heap.objs.size + 1) scope.names []).lookup y.1).isSome = true) := fun y hy =>
    (S.par y.1 (List.of_mem_zip (show (y.1, y.2) ∈ ps.zip us from hy)).1).imp id fun q => ⟨q, PySem.W.cellsFrom_some _ _ _ (.inl q)⟩
  refine codeAny_call_function hr.depth (KX _ _ lk) rfl S.co S.gen rfl (PySem.W.codeRec_of KX hcd) (hb _ _ _ _ (wpAny_newFunctionEnv_cells S.kind hbinds fun env he s1 xc => ?_))
  subst he
  refine ⟨(e0.mod.nolimit.keeps below).keeps xc.toInCall.keep, codeAny_func ?_⟩
  obtain ⟨t, ht, hq⟩ := hbody cdv A outer s H vs Q E hgd (hr.deeper _) hsp
  refine wpAny_mono (ht.run [] s1 (start N vs) H { nx := fun _ H' => Q .non H', rt := Q } (inv_start S hr.hd e0 (len _ _ _ _ hsp) r xc) hq) (fun fl s' hs => ?_) fun e s' hs => hs
  cases fl with
  | ret u =>
    obtain ⟨v, σ', H', J, rv, q⟩ := hs
    exact ⟨v, H', J.os, J.bare, J.base, J.hok, rv, q⟩
  | next =>
    obtain ⟨σ', H', J, q⟩ := hs
    exact ⟨.non, H', J.os, J.bare, J.base, J.hok, rfl, q⟩
  | brk =>
    obtain ⟨_, _, _, q⟩ := hs
    exact False.elim q
  | cont =>
    obtain ⟨_, _, _, q⟩ := hs
    exact False.elim q
end
section
variable {X : Cx} {CX : CXT} {k : Nat} {f : Addr} {fd : FuncData} {ps : List Str} {sp : Sp} {E : XK} {x : Str} {p pos : Pos} {e : Expr} {es : List Expr} {t : TA}
/-- f(e, ..), f such a def -/
theorem pe_callG (F : FnG X.prog X.w X.K X.mg X.base CX k f fd ps sp) (hgd : X.A.guards = some []) (hr : Room k X.A) (hg : Gl X x) (hm : X.mg x = some (.ref f)) (hk : PySem.W.keepIn X.K (.ref f) = true) (hb : Binds X.K fd ps []) (hx : Passes CX X E)
    (ha : PA X (e :: es) t) (hdb : (x == ("__debug__" : Str)) = false := by decide) (he : starEach (e :: es) X.env = (false, eval e X.env) :: starEach es X.env := by rfl) (hpl : (backTo pos (starEach es X.env)).any (·.1) = false := by rfl) :
    PE X (.Call (.Name x p) (e :: es) [] pos) (tCall sp [] E t) := by
  refine ⟨fun pins s σ H Q I h => ?_⟩
  refine wpAny_Call_Name_kw (ld_glob I hg hm ?_ hdb)
  refine PySem.W.callWith_K (h₀ := X.base) I.ok.mod.kin hk (thn (ha.run pos pins s σ H _ I h) fun us s1 ⟨vs, H1, I1, r, q⟩ => ⟨I1.kIn, ?_⟩) he hpl
  have q : sp (vs ++ []) H1 Q E := q
  rw [List.append_nil] at q
  have hl : us.length = ps.length := r.length.symm.trans (F.len _ _ _ _ q)
  have hbb := hb s1 us I1.kIn (by rw [List.append_nil]; exact hl)
  rw [List.append_nil] at hbb
  refine wpAny_call (codeAny_mono (F.run X.A X.stack s1 H1 ⟨us, []⟩ us vs Q E hgd hr I1.env0 hbb r q) fun rr s' hq => ?_)
  cases rr with
  | error er => exact hx pins σ H1 s1 er s' I1 hq
  | ok fl =>
    cases fl with
    | ret u => exact I1.after hq
    | next => exact False.elim hq
    | brk => exact False.elim hq
    | cont => exact False.elim hq
end
/-! ### the law's own call -/
/-- what stands at the law's entry: the code tables cs (empty), the script at a -/
structure Entry (K : PySem.W.Frag) (mg : Str → Option Value) (s : Shared) (cs : List (Addr × Addr)) (a : Addr) (vs : List Value) (ns : List Int) : Prop where
  kx : K.In s.heap
  gl : s.heap.Ns mainGlobals mg
  bl : ∃ mb, s.heap.Ns builtinsNs mb ∧ ∀ x : Str, x ≠ "__name__" → mb x = bootBuiltins x
  lim : s.heap.NoLimit
  gens : s.gens = #[]
  tab : ∀ p ∈ cs, s.heap.get? p.2 = some { cls := .none, data := .fields #[] }
  out : ∀ p ∈ cs, K.lookup p.2 = none
  code : ∀ p ∈ cs, PySem.W.CodeHd s.heap p.1 p.2
  bm : ∃ (bm : Addr) (ob : Obj), mg "__builtins__" = some (.ref bm) ∧ bm ≠ builtinsNs ∧ s.heap.get? bm = some ob ∧ ob.cls = .type "module" ∧ ob.dict = some builtinsNs ∧ ob.data = .plain
  at_ : s.heap.get? a = some { cls := .type "list", data := .seq vs.toArray }
  whole : IntsAre vs ns
  len : ns.length ≤ sizeLine
/-- the tracked part: the tables, and the script unless it is the module's own -/
def entryH (K : PySem.W.Frag) (cs : List (Addr × Addr)) (a : Addr) (vs : List Value) (ns : List Int) : Hp := fun b =>
  if b ∈ cs.map (·.2) then some (.tbl #[]) else if b = a ∧ K.lookup a = none then some (.frz { cls := .type "list", data := .seq vs.toArray } (.lst (ns.map V.int))) else none
section
variable {P : Program} {w : World} {K : PySem.W.Frag} {mg : Str → Option Value} {s : Shared} {cs : List (Addr × Addr)} {a : Addr} {vs : List Value} {ns : List Int}
theorem Entry.tabAt (T : Entry K mg s cs a vs ns) {b : Addr} (h : b ∈ cs.map (·.2)) : s.heap.get? b = some { cls := .none, data := .fields #[] } ∧ K.lookup b = none := by
  obtain ⟨p, hp, rfl⟩ := List.mem_map.mp h
  exact ⟨T.tab p hp, T.out p hp⟩
theorem Entry.notTab (T : Entry K mg s cs a vs ns) : a ∉ cs.map (·.2) := fun h => by
  have e := (T.tabAt h).1.symm.trans T.at_
  cases e
/-- what else stands there is not tracked -/
theorem Entry.free (T : Entry K mg s cs a vs ns) {b : Addr} {o : Obj} (e : s.heap.get? b = some o) (h : (∀ us n, o.data ≠ .seq us n) ∧ o.data ≠ .fields #[]) : entryH K cs a vs ns b = none := by
  unfold entryH
  by_cases h1 : b ∈ cs.map (·.2)
  · have z := e.symm.trans (T.tabAt h1).1
    cases z
    exact absurd rfl h.2
  · rw [if_neg h1]
    by_cases h2 : b = a ∧ K.lookup a = none
    · have z := T.at_
      rw [← h2.1, e] at z
      cases z
      exact absurd rfl (h.1 _ _)
    · rw [if_neg h2]
theorem Entry.freeK (T : Entry K mg s cs a vs ns) {b : Addr} {o : Obj} (e : K.lookup b = some o) : entryH K cs a vs ns b = none := by
  unfold entryH
  by_cases h1 : b ∈ cs.map (·.2)
  · rw [(T.tabAt h1).2] at e
    cases e
  · rw [if_neg h1, if_neg fun h2 : b = a ∧ K.lookup a = none => by
      rw [h2.1, h2.2] at e
      cases e]
theorem Entry.held (T : Entry K mg s cs a vs ns) : HOk P w (entryH K cs a vs ns) s.heap := fun b o e => by
  unfold entryH at e
  by_cases h1 : b ∈ cs.map (·.2)
  · rw [if_pos h1] at e
    cases e
    exact (T.tabAt h1).1
  · rw [if_neg h1] at e
    by_cases h2 : b = a ∧ K.lookup a = none
    · rw [if_pos h2] at e
      cases e
      rw [h2.1]
      exact ⟨T.at_, by rw [List.length_map]; exact T.len, vs, _, vals_ints T.whole, T.at_⟩
    · rw [if_neg h2] at e
      cases e
theorem Entry.script (T : Entry K mg s cs a vs ns) : SqL K (entryH K cs a vs ns) a (ns.map V.int) := by
  have rv := vals_ints T.whole
  cases hk : K.lookup a with
  | none =>
    refine .inl (.inr ⟨{ cls := .type "list", data := .seq vs.toArray }, ?_⟩)
    unfold entryH
    rw [if_neg T.notTab, if_pos ⟨rfl, hk⟩]
  | some o =>
    have e := (T.kx a o hk).symm.trans T.at_
    cases e
    exact .inr ⟨_, vs.toArray, _, hk, rfl, rfl, rfl, by rw [List.size_toArray, T.whole.length]; exact T.len, by simpa using rv⟩
theorem Entry.tbl (T : Entry K mg s cs a vs ns) : ∀ p ∈ cs, entryH K cs a vs ns p.2 = some (.tbl #[]) := fun p hp => if_pos (List.mem_map.mpr ⟨p, hp, rfl⟩)
/-- the ground: the heap at the entry without what is tracked -/
abbrev entryB (K : PySem.W.Frag) (s : Shared) (cs : List (Addr × Addr)) (a : Addr) (vs : List Value) (ns : List Int) : Heap := hidT s.heap (entryH K cs a vs ns)
theorem Entry.names (T : Entry K mg s cs a vs ns) {b : Addr} {m : Str → Option Value} (h : s.heap.Ns b m) : (entryB K s cs a vs ns).Ns b m := by
  obtain ⟨o, es, ep, e, d, r⟩ := h
  refine ⟨o, es, ep, hidT_get e (T.free e ⟨fun us n z => ?_, fun z => ?_⟩), d, r⟩
  · rw [d] at z
    cases z
  · rw [d] at z
    cases z
theorem Entry.kin (T : Entry K mg s cs a vs ns) : K.In (entryB K s cs a vs ns) := fun b o e => hidT_get (T.kx b o e) (T.freeK e)
theorem Entry.mod (T : Entry K mg s cs a vs ns) : L2.Mod K mg (entryB K s cs a vs ns) := by
  obtain ⟨mb, h1, h2⟩ := T.bl
  obtain ⟨mc, h3, h4⟩ := T.lim
  exact ⟨T.kin, T.names T.gl, ⟨mb, T.names h1, h2⟩, mc, T.names h3, h4⟩
theorem Entry.tabB (T : Entry K mg s cs a vs ns) : ∀ p ∈ cs, LamX.TabB (entryB K s cs a vs ns) mg p.1 p.2 := fun p hp => by
  have hTp := T.tab p hp
  refine ⟨?_, ?_, fun z => ?_⟩
  · obtain ⟨o, us, file, tf, flags, tg, inF, text, tt, e1, r1, r2, r3, rest⟩ := T.code p hp
    refine ⟨o, us, file, tf, flags, tg, inF, text, tt, hidT_get e1 (T.free e1 ⟨fun us' n z => ?_, fun z => ?_⟩), r1, r2, r3, rest⟩
    · rw [r2] at z
      cases z
    · rw [r2] at z
      cases z
      simp at r3
  · obtain ⟨bm, ob, b1, b2, b3, b4, b5, b6⟩ := T.bm
    have no : (∀ us n, ob.data ≠ .seq us n) ∧ ob.data ≠ .fields #[] := by
      rw [b6]
      exact ⟨fun _ _ z => (by cases z), fun z => (by cases z)⟩
    have nG : bm ≠ mainGlobals := fun q => by
      obtain ⟨o, es, ep, e, hd, _⟩ := T.gl
      rw [q, e] at b3
      cases b3
      rw [hd] at b6
      cases b6
    have nP : bm ≠ p.2 := fun q => by
      rw [q, hTp] at b3
      cases b3
      cases b6
    exact ⟨bm, ob, b1, b2, nG, nP, hidT_get b3 (T.free b3 no), b4, b5, b6⟩
  · obtain ⟨o, es, ep, e, hd, _⟩ := T.gl
    rw [z, hTp] at e
    cases e
    cases hd
theorem Entry.env0 (T : Entry K mg s cs a vs ns) : Env0 P w K mg (entryB K s cs a vs ns) callerA [] s (entryH K cs a vs ns) :=
  ⟨rfl, T.mod, fun b o e => of_hidT e, Nat.le_of_eq (hidT_size _ _), trivial, fun b hb => absurd (show b ∈ ([] : List Addr) from hb) (by simp), T.held, .of_eq T.gens⟩
/-- the law is called -/
theorem law_entry {k : Nat} {fa : Addr} {fd : FuncData} {x : Str} {sp : Sp} (T : Entry K mg s cs a vs ns) (hr : Room k callerA)
    (F : ∀ base : Heap, K.In base → base.Ns mainGlobals mg → (∀ p ∈ cs, LamX.TabB base mg p.1 p.2) → FnG P w K mg base (fun _ _ _ _ _ _ => False) k fa fd [x] sp) (hbind : ∀ (s : Shared) (u : Value), BindsTo s fd ⟨[u], []⟩ [(x, u)])
    (hsp : ∀ H : Hp, (∀ p ∈ cs, H p.2 = some (.tbl #[])) → SqL K H a (ns.map V.int) → sp [.ref a] H (fun v _ => v = .bl true) fun _ _ _ => False) :
    codeAny (model P w) callerA (.call (.ref fa) ⟨[.ref a], []⟩) (fun r s' => r = .ok (.ret (.bool true)) ∧ OldK s.heap s'.heap ∧ s'.os = s.os ∧ AllBare s'.gens) s := by
  refine codeAny_mono ((F _ T.kin (T.names T.gl) T.tabB).run callerA [] s _ ⟨[.ref a], []⟩ [.ref a] [.ref a] (fun v _ => v = .bl true) (fun _ _ _ => False) rfl hr T.env0 (hbind s (.ref a)) (.cons rfl .nil) (hsp _ T.tbl T.script)) fun r s' h => ?_
  cases r with
  | error e => exact False.elim h
  | ok fl =>
    cases fl with
    | next => exact False.elim h
    | brk => exact False.elim h
    | cont => exact False.elim h
    | ret u =>
      obtain ⟨v, H', os, bare, un, hok', r', q⟩ := h
      have q' : v = .bl true := q
      subst q'
      obtain rfl : u = Value.bool true := r'
      have grown : ∀ b, b ∈ cs.map (·.2) → ∃ more : Array Value, s'.heap.get? b = some { cls := .none, data := .fields more } := fun b hb => by
        obtain ⟨p, hp, rfl⟩ := List.mem_map.mp hb
        obtain ⟨more, z⟩ := un.tbls p.2 #[] (T.tbl p hp)
        exact ⟨_, hok' p.2 _ z⟩
      have kept : ∀ b o, b ∉ cs.map (·.2) → s.heap.get? b = some o → s'.heap.get? b = some o := fun b o nb e => by
        by_cases h2 : b = a ∧ K.lookup a = none
        · have z : entryH K cs a vs ns b = some (.frz { cls := .type "list", data := .seq vs.toArray } (.lst (ns.map V.int))) := by
            unfold entryH
            rw [if_neg nb, if_pos h2]
          have e2 := T.at_
          rw [← h2.1, e] at e2
          rw [e2]
          exact (hok' b _ (un.frzs b _ _ z)).1
        · refine un.keep b o e ?_ (by intro z; exact absurd (show b ∈ ([] : List Addr) from z) (by simp)) (by simp)
          unfold entryH
          rw [if_neg nb, if_neg h2]
      refine ⟨rfl, ⟨fun b o e => ?_, fun b o e => ?_⟩, os, bare⟩
      · by_cases hb : b ∈ cs.map (·.2)
        · obtain ⟨more, hm⟩ := grown b hb
          obtain ⟨p, hp, rfl⟩ := List.mem_map.mp hb
          rw [T.tab p hp] at e
          cases e
          exact .inr (.inl ⟨((T.code p hp).tab (T.tab p hp)).isCodeTable, rfl, #[], more, rfl, by rw [Array.empty_append]; exact hm⟩)
        · exact .inl (kept b o hb e)
      · by_cases hb : b ∈ cs.map (·.2)
        · obtain ⟨more, hm⟩ := grown b hb
          exact ⟨_, hm⟩
        · exact ⟨o, kept b o hb e⟩
end
/-- the law's end: what is known at the head's heap -/
def LawAtG (l : PySem.W.OpenLaw) (w : World) (K : PySem.W.Frag) (k n : Nat) (x : Str) (mg : Str → Option Value) (fa : Addr) (h : Heap) : Prop :=
  ∃ (fd : FuncData) (cs : List (Addr × Addr)) (sp : Sp), (∀ p ∈ cs, h.get? p.2 = some { cls := .none, data := .fields #[] }) ∧ (∀ p ∈ cs, K.lookup p.2 = none) ∧ (∀ p ∈ cs, PySem.W.CodeHd h p.1 p.2) ∧ (∀ (s : Shared) (u : Value), BindsTo s fd ⟨[u], []⟩ [(x, u)]) ∧
    (∀ (H : Hp) (a : Addr) (ns : List Int), ns.length ≤ n → (∀ z ∈ ns, Builtin.Int.intBits z ≤ 1048576) → (∀ p ∈ cs, H p.2 = some (.tbl #[])) → SqL K H a (ns.map V.int) → sp [.ref a] H (fun v _ => v = .bl true) fun _ _ _ => False) ∧
    ∀ base : Heap, K.In base → base.Ns mainGlobals mg → (∀ p ∈ cs, LamX.TabB base mg p.1 p.2) → FnG l.prog w K mg base (fun _ _ _ _ _ _ => False) k fa fd [x] sp
theorem walk_G {l : PySem.W.OpenLaw} {n k : Nat} {q : Program} {loose : List Str} {XP : (Str → Option Value) → Heap → Prop} {YP : World → Heap → Prop} {d : DefRec} {x : Str}
    (hn : l.most = some n) (hn2 : n ≤ sizeLine) (hdf : d.params.defaults = []) (hr : Room k callerA)
    (F : ∀ (w : World) (mg : Str → Option Value) (fa : Addr) (h : Heap), YP w h → h.Ns mainGlobals mg → mg d.name = some (.ref fa) → ∃ K : PySem.W.Frag, K.In h ∧ LawAtG l w K k n x mg fa h) :
    PySem.W.WalkO q loose XP YP l.row.toRowW d [] (fun f vs => PySem.call f vs) := by
  refine Att.attach_callB hn hdf fun w s₀ s₁ mg mb fa o pm cd doc a vs ns G Y ho hd hcd hmg hobj hints hlen hbits hg => ?_
  obtain ⟨K, KX, fd, cs, sp, hT, nT, C, hb, hsp, hF⟩ := F w mg fa _ Y G.T.g hmg
  exact law_entry (cs := cs) ⟨KX, G.T.g, ⟨mb, G.T.b, G.T.builtins⟩, G.T.nolimit, hg, hT, nT, C, G.T.bmain, hobj, hints, Nat.le_trans hlen hn2⟩ hr hF hb fun H hH hS => hsp H a ns hlen hbits hH hS
end RT
end
section
set_option Elab.async false
set_option linter.all false
set_option maxRecDepth 100000
set_option maxHeartbeats 2000000
/-! X5: defs that only reckon (ints, texts, tuples in; one value out): every object that stood stays, the generators as well (Keeps). -/
namespace RK
open PySem PySem.Spec PyProof.Rows L2
mutual
inductive IsD (h : Heap) : Value → PyData → Prop
  | non : IsD h .none .none
  | bl (b : Bool) : IsD h (.bool b) (.bool b)
  | int (i : Int) (t : Tok) : IsD h (.int i t) (.int i)
  | str (x : Str) (t : Tok) : IsD h (.str x t) (.str x)
  | tup {a : Addr} {o : Obj} {vs : Array Value} {n : Nat} {ds : List PyData} : h.get? a = some o → o.cls = .type "tuple" → o.data = .seq vs n → IsAll h vs.toList ds → IsD h (.ref a) (.tuple ds)
inductive IsAll (h : Heap) : List Value → List PyData → Prop
  | nil : IsAll h [] []
  | cons {v : Value} {vs : List Value} {d : PyData} {ds : List PyData} : IsD h v d → IsAll h vs ds → IsAll h (v :: vs) (d :: ds)
end
mutual
theorem IsD.but {h h' : Heap} {L : Addr} (hk : ∀ b o, b ≠ L → h.get? b = some o → h'.get? b = some o) (hL : ∀ o vs n, h.get? L = some o → o.data ≠ .seq vs n) : ∀ {v : Value} {d : PyData}, IsD h v d → IsD h' v d
  | _, _, .non => .non
  | _, _, .bl b => .bl b
  | _, _, .int i t => .int i t
  | _, _, .str x t => .str x t
  | _, _, .tup h1 h2 h3 h4 => .tup (hk _ _ (fun e => hL _ _ _ (e ▸ h1) h3) h1) h2 h3 (IsAll.but hk hL h4)
theorem IsAll.but {h h' : Heap} {L : Addr} (hk : ∀ b o, b ≠ L → h.get? b = some o → h'.get? b = some o) (hL : ∀ o vs n, h.get? L = some o → o.data ≠ .seq vs n) : ∀ {vs : List Value} {ds : List PyData}, IsAll h vs ds → IsAll h' vs ds
  | _, _, .nil => .nil
  | _, _, .cons h1 h2 => .cons (IsD.but hk hL h1) (IsAll.but hk hL h2)
end
mutual
theorem IsD.keeps {h h' : Heap} (hk : ∀ b o, h.get? b = some o → h'.get? b = some o) : ∀ {v : Value} {d : PyData}, IsD h v d → IsD h' v d
  | _, _, .non => .non
  | _, _, .bl b => .bl b
  | _, _, .int i t => .int i t
  | _, _, .str x t => .str x t
  | _, _, .tup h1 h2 h3 h4 => .tup (hk _ _ h1) h2 h3 (IsAll.keeps hk h4)
theorem IsAll.keeps {h h' : Heap} (hk : ∀ b o, h.get? b = some o → h'.get? b = some o) : ∀ {vs : List Value} {ds : List PyData}, IsAll h vs ds → IsAll h' vs ds
  | _, _, .nil => .nil
  | _, _, .cons h1 h2 => .cons (IsD.keeps hk h1) (IsAll.keeps hk h2)
end
mutual
theorem IsD.reads {h : Heap} : ∀ {v : Value} {d : PyData}, IsD h v d → ∃ as, Reads h v d as
  | _, _, .non => ⟨_, .none⟩
  | _, _, .bl b => ⟨_, .bool b⟩
  | _, _, .int i t => ⟨_, .int i t⟩
  | _, _, .str x t => ⟨_, .str x t⟩
  | _, _, .tup h1 h2 h3 h4 => let ⟨as, r⟩ := IsAll.readsAll h4; ⟨as, .tuple h1 h2 h3 r⟩
theorem IsAll.readsAll {h : Heap} : ∀ {vs : List Value} {ds : List PyData}, IsAll h vs ds → ∃ as, ReadsAll h vs ds as
  | _, _, .nil => ⟨_, .nil⟩
  | _, _, .cons h1 h2 => let ⟨_, r1⟩ := IsD.reads h1; let ⟨_, r2⟩ := IsAll.readsAll h2; ⟨_, .cons r1 r2⟩
end
theorem IsAll.length {h : Heap} : ∀ {vs : List Value} {ds : List PyData}, IsAll h vs ds → vs.length = ds.length
  | _, _, .nil => rfl
  | _, _, .cons _ h2 => congrArg (· + 1) (IsAll.length h2)
theorem IsAll.get {h : Heap} : ∀ {vs : List Value} {ds : List PyData} {i : Nat} {d : PyData}, IsAll h vs ds → ds[i]? = some d → ∃ v, vs[i]? = some v ∧ IsD h v d
  | _, _, 0, _, .cons h1 _, e => by
    cases e
    exact ⟨_, rfl, h1⟩
  | _, _, i + 1, _, .cons _ h2, e => by
    simp only [List.getElem?_cons_succ] at e ⊢
    exact IsAll.get h2 e

structure KC where
  prog : Program
  w : World
  K : PySem.W.Frag
  mg : Str → Option Value
  base : Heap
  A : Around
  env : Env
  s0 : Shared
structure KC.Ok (X : KC) : Prop where
  mod : Mod X.K X.mg X.base
  kind : X.env.scope.kind = .function
  glob : X.env.globals = mainGlobals
  blt : X.env.builtins = builtinsNs
  above : X.s0.heap.objs.size ≤ X.env.locals
  bs : ∀ b o, X.base.get? b = some o → X.s0.heap.get? b = some o
  hd : X.A.handled = none
/-- room for n calls, one in another -/
structure RoomK (n : Nat) (A : Around) : Prop where
  hd : A.handled = none
  dp : A.depth + n < recursionLimit
  un : A.units + 4 * n + 80 < cLine
theorem RoomK.mono {n m : Nat} {A : Around} (r : RoomK n A) (h : m ≤ n) : RoomK m A := ⟨r.hd, by have := r.dp; omega, by have := r.un; omega⟩
theorem RoomK.deeper {n : Nat} {A : Around} (r : RoomK (n + 1) A) (env : Env) : RoomK n (A.deeper env) :=
  ⟨r.hd, by have := r.dp; show A.depth + 1 + n < _; omega, by have := r.un; show A.units + 3 + 4 * n + 80 < _; omega⟩
abbrev Sg := List (Str × PyData)
structure KI (X : KC) (σ : Sg) (s : Shared) : Prop where
  ok : X.Ok
  sh : ∃ h tk, s = { X.s0 with heap := h, toks := tk }
  keep : ∀ b o, X.s0.heap.get? b = some o → s.heap.get? b = some o
  ns : ∃ m, s.heap.Ns X.env.locals m ∧ ∀ x d, σ.lookup x = some d → ∃ v, m x = some v ∧ IsD s.heap v d
theorem KI.bk {X : KC} {σ : Sg} {s : Shared} (I : KI X σ s) : ∀ b o, X.base.get? b = some o → s.heap.get? b = some o := fun b o e => I.keep b o (I.ok.bs b o e)
theorem KI.kIn {X : KC} {σ : Sg} {s : Shared} (I : KI X σ s) : X.K.In s.heap := I.ok.mod.kin.keeps I.bk
theorem KI.grow {X : KC} {σ : Sg} {s : Shared} {h' : Heap} {t' : Nat} (I : KI X σ s) (k : ∀ b o, s.heap.get? b = some o → h'.get? b = some o) : KI X σ { s with heap := h', toks := t' } := by
  obtain ⟨m, hn, hl⟩ := I.ns
  obtain ⟨h, tk, rfl⟩ := I.sh
  exact ⟨I.ok, ⟨_, _, rfl⟩, fun b o e => k b o (I.keep b o e), m, hn.keeps k, fun x d e => let ⟨v, e1, r⟩ := hl x d e; ⟨v, e1, r.keeps k⟩⟩
theorem KI.tok {X : KC} {σ : Sg} {s : Shared} (I : KI X σ s) (t : Nat) : KI X σ { s with toks := t } := I.grow (h' := s.heap) fun _ _ e => e
/-- e gives d -/
def KE (X : KC) (σ : Sg) (e : Expr) (d : PyData) : Prop :=
  ∀ (s : Shared) (Q : Value → Shared → Prop) (E : Value → Shared → Prop), KI X σ s → (∀ v s', KI X σ s' → (∀ b o, s.heap.get? b = some o → s'.heap.get? b = some o) → IsD s'.heap v d → Q v s') → wpAny (model X.prog X.w) X.A (eval e X.env) Q E s
def KT (X : KC) (σ : Sg) (e : Expr) (b : Bool) : Prop :=
  ∀ (wh : Sem Value) (s : Shared) (Q : Bool → Shared → Prop) (E : Value → Shared → Prop), (wh = eval e X.env ∨ ∃ op es pos, e = .BoolOp op es pos) → KI X σ s → (∀ s', KI X σ s' → (∀ b o, s.heap.get? b = some o → s'.heap.get? b = some o) → Q b s') → wpAny (model X.prog X.w) X.A (isTrue e X.env wh) Q E s
def KA (X : KC) (σ : Sg) (es : List Expr) (ds : List PyData) : Prop :=
  ∀ (pos : Pos) (s : Shared) (Q : List Value → Shared → Prop) (E : Value → Shared → Prop), KI X σ s → (∀ vs s', KI X σ s' → (∀ b o, s.heap.get? b = some o → s'.heap.get? b = some o) → IsAll s'.heap vs ds → Q vs s') → wpAny (model X.prog X.w) X.A (spliced (backTo pos (starEach es X.env))) Q E s
/-- a block returns d -/
def KS (X : KC) (σ : Sg) (sts : List Stmt) (d : PyData) : Prop :=
  ∀ (s : Shared) (E : Value → Shared → Prop), KI X σ s → wpAny (model X.prog X.w) X.A (execs sts X.env) (fun f s' => ∃ v σ', f = .ret v ∧ KI X σ' s' ∧ IsD s'.heap v d) E s
/-- the def at f: ds to d -/
def KF (P : Program) (w : World) (K : PySem.W.Frag) (mg : Str → Option Value) (base : Heap) (n : Nat) (f : Addr) (ds : List PyData) (d : PyData) : Prop :=
  ∀ (A : Around) (s : Shared) (us : List Value) (R : Result → Shared → Prop), RoomK n A → Mod K mg base → (∀ b o, base.get? b = some o → s.heap.get? b = some o) → IsAll s.heap us ds →
    (∀ v s', Keeps s s' → IsD s'.heap v d → R (.ok (.ret v)) s') → codeAny (model P w) A (.call (.ref f) ⟨us, []⟩) R s
section
variable {X : KC} {σ : Sg} {x : Str} {d d' : PyData} {a b e : Expr} {es : List Expr} {ds : List PyData} {pos p apos : Pos} {j : Nat} {i k : Int}
theorem ke_name (hk : X.env.kindOf x = some .local) (hx : σ.lookup x = some d) (hd : (x == ("__debug__" : Str)) = false := by decide) : KE X σ (.Name x pos) d := by
  intro s Q E I q
  obtain ⟨m, hn, hl⟩ := I.ns
  obtain ⟨v, e, r⟩ := hl x d hx
  exact wpAny_Name (wpAny_loadName_local I.ok.kind hk hn e (q v s I (fun _ _ z => z) r)) hd
theorem ke_int : KE X σ (.Constant (.int i) j pos) (.int i) := fun s Q E I q => wpAny_Constant_int (q _ _ (I.tok _) (fun _ _ z => z) (.int _ _))
theorem ke_str {x : Str} : KE X σ (.Constant (.str x) j pos) (.str x) := fun s Q E I q => Calls.Constant_str (q _ _ (I.tok _) (fun _ _ z => z) (.str _ _))
theorem ke_bl {b : Bool} : KE X σ (.Constant (.bool b) j pos) (.bool b) := fun s Q E I q => Constant_bool (q _ _ I (fun _ _ z => z) (.bl _))
theorem ke_glob {u : Value} (hg : X.env.kindOf x = some .globalImplicit) (hm : X.mg x = some u) (r : IsD X.base u d) (hd : (x == ("__debug__" : Str)) = false := by decide) : KE X σ (.Name x pos) d := fun s Q E I q =>
  Calls.Name_function_global I.ok.kind hg (Calls.loadGlobal_global (by rw [I.ok.glob]; exact I.ok.mod.glob.keeps I.bk) hm (q u s I (fun _ _ z => z) (r.keeps I.bk))) hd
/-- two in a row -/
theorem kbin (ha : KE X σ a d) (hb : KE X σ b d') {s : Shared} (I : KI X σ s) {α : Type} {Q : α → Shared → Prop} {E : Value → Shared → Prop} {f : Value → Value → Sem α}
    (hf : ∀ v u s', KI X σ s' → (∀ b o, s.heap.get? b = some o → s'.heap.get? b = some o) → IsD s'.heap v d → IsD s'.heap u d' → wpAny (model X.prog X.w) X.A (f v u) Q E s') :
    wpAny (model X.prog X.w) X.A (eval a X.env) (fun v s₁ => wpAny (model X.prog X.w) X.A (eval b X.env) (fun u s₂ => wpAny (model X.prog X.w) X.A (f v u) Q E s₂) E s₁) E s :=
  ha s _ E I fun v s1 I1 k1 r1 => hb s1 _ E I1 fun u s2 I2 k2 r2 => hf v u s2 I2 (fun b o z => k2 b o (k1 b o z)) (r1.keeps k2) r2
theorem ke_add (ha : KE X σ a (.int i)) (hb : KE X σ b (.int k)) : KE X σ (.BinOp a .Add b pos) (.int (i + k)) := fun s Q E I q =>
  wpAny_BinOp (kbin ha hb I fun v u s' I' k' r1 r2 => by
    cases r1; cases r2
    exact add_int (q _ _ (I'.tok _) k' (.int _ _)))
theorem ke_mul (ha : KE X σ a (.int i)) (hb : KE X σ b (.int k)) (h : -(2 ^ 64) < i ∧ i < 2 ^ 64) : KE X σ (.BinOp a .Mult b pos) (.int (i * k)) := fun s Q E I q =>
  wpAny_BinOp (kbin ha hb I fun v u s' I' k' r1 r2 => by
    cases r1; cases r2
    exact mul_int (q _ _ (I'.tok _) k' (.int _ _)) (CMul.ok (.inl h)))
theorem ke_fdiv (ha : KE X σ a (.int i)) (hb : KE X σ b (.int k)) (h0 : k ≠ 0) (h1 : k.natAbs < 1073741824) : KE X σ (.BinOp a .FloorDiv b pos) (.int (i.fdiv k)) := fun s Q E I q =>
  wpAny_BinOp (kbin ha hb I fun v u s' I' k' r1 r2 => by
    cases r1; cases r2
    exact floordiv_int h0 (q _ _ (I'.tok _) k' (.int _ _)) (.inl (PyProof.noPylong_small h1)))
theorem ke_mod (ha : KE X σ a (.int i)) (hb : KE X σ b (.int k)) (h0 : k ≠ 0) : KE X σ (.BinOp a .Mod b pos) (.int (i.fmod k)) := fun s Q E I q =>
  wpAny_BinOp (kbin ha hb I fun v u s' I' k' r1 r2 => by
    cases r1; cases r2
    exact mod_int' h0 (q _ _ (I'.tok _) k' (.int _ _)))
theorem ke_neg (ha : KE X σ a (.int i)) : KE X σ (.UnaryOp .USub a pos) (.int (-i)) := fun s Q E I q =>
  UnaryOp_ (ha s _ E I fun v s' I' k' r => by
    cases r
    exact neg_int (q _ _ (I'.tok _) k' (.int _ _)))
theorem ke_lt (ha : KE X σ a (.int i)) (hb : KE X σ b (.int k)) (hm : behindInMarks .Lt b = false := by first | exact nobehind _ (by decide) (by decide) | rfl) : KE X σ (.Compare a [.Lt] [b] pos) (.bool (decide (i < k))) := fun s Q E I q =>
  wpAny_Compare1 (kbin ha hb I fun v u s' I' k' r1 r2 => by
    cases r1; cases r2
    exact PyProof.Rows.lt_int (q _ _ I' k' (.bl _))) hm
theorem kt_of (h : KE X σ e (.bool true)) (he : ∀ whole, isTrue e X.env whole = (do let v ← whole; standAt e.pos; holding [v] (truthy v)) := by intro _; rfl) (hb : ∀ op es pos, e ≠ .BoolOp op es pos := by intro _ _ _ z; cases z) : KT X σ e true := fun wh s Q E hw I q => by
  rcases hw with rfl | ⟨op, es, pos, z⟩
  · exact isTrue_plain (h s _ E I fun v s' I' k' r => by
      cases r
      exact wpAny_truthy_bool (q s' I' k')) (he _)
  · exact absurd z (hb _ _ _)
/-- a comparison of two data as a test -/
theorem kt_eq (ha : KE X σ a d) (hb : KE X σ b d') (s1 : SeqAt.shaped d = true) (s2 : SeqAt.shaped d' = true) (hu : X.A.units + 64 < cLine) (hm : behindInMarks .Eq b = false := by first | exact nobehind _ (by decide) (by decide) | rfl) : KT X σ (.Compare a [.Eq] [b] pos) (PyData.eqv d d') := fun wh s Q E _ I q =>
  wpAny_isTrue_Compare1 (kbin ha hb I fun v u s' I' k' r1 r2 => by
    obtain ⟨_, z1⟩ := r1.reads
    obtain ⟨_, z2⟩ := r2.reads
    exact SeqAt.compareEq_shaped z1 z2 s1 s2 hu (wpAny_truthy_bool (q _ I' k'))) hm
theorem ke_ne (ha : KE X σ a d) (hb : KE X σ b d') (s1 : SeqAt.shaped d = true) (s2 : SeqAt.shaped d' = true) (hu : X.A.units + 64 < cLine) (hm : behindInMarks .NotEq b = false := by first | exact nobehind _ (by decide) (by decide) | rfl) : KE X σ (.Compare a [.NotEq] [b] pos) (.bool (!PyData.eqv d d')) := fun s Q E I q =>
  wpAny_Compare1 (kbin ha hb I fun v u s' I' k' r1 r2 => by
    obtain ⟨_, z1⟩ := r1.reads
    obtain ⟨_, z2⟩ := r2.reads
    exact SeqAt.compareNe_shaped z1 z2 s1 s2 hu (q _ _ I' k' (.bl _))) hm
theorem kt_lt (ha : KE X σ a (.int i)) (hb : KE X σ b (.int k)) (hm : behindInMarks .Lt b = false := by first | exact nobehind _ (by decide) (by decide) | rfl) : KT X σ (.Compare a [.Lt] [b] pos) (decide (i < k)) := fun wh s Q E _ I q =>
  wpAny_isTrue_Compare1 (kbin ha hb I fun v u s' I' k' r1 r2 => by
    cases r1; cases r2
    exact PyProof.Rows.lt_int (wpAny_truthy_bool (q _ I' k'))) hm
theorem kt_gt (ha : KE X σ a (.int i)) (hb : KE X σ b (.int k)) (hm : behindInMarks .Gt b = false := by first | exact nobehind _ (by decide) (by decide) | rfl) : KT X σ (.Compare a [.Gt] [b] pos) (decide (k < i)) := fun wh s Q E _ I q =>
  wpAny_isTrue_Compare1 (kbin ha hb I fun v u s' I' k' r1 r2 => by
    cases r1; cases r2
    exact PyProof.Rows.gt_int (wpAny_truthy_bool (q _ I' k'))) hm
def isNon : PyData → Bool
  | .none => true
  | _ => false
theorem kt_notN {j : Nat} {pos' : Pos} (ha : KE X σ a d) (hm : behindInMarks .IsNot (.Constant .none j pos') = false := by first | exact nobehind _ (by decide) (by decide) | rfl) : KT X σ (.Compare a [.IsNot] [.Constant .none j pos'] pos) (!isNon d) := fun wh s Q E _ I q =>
  wpAny_isTrue_Compare1 (ha s _ E I fun v s' I' k' r => Constant_none (isnot_none_gen (wpAny_truthy_bool (by
    have e : (!isNon d) = (!v == Value.none) := by cases r <;> rfl
    rw [← e]
    exact q _ I' k')))) hm
theorem kt_and1 {c : Bool} (ha : KT X σ a c) (hn : ∀ op es pos, a ≠ .BoolOp op es pos := by intro _ _ _ z; cases z) : KT X σ (.BoolOp .And [a] pos) c := fun wh s Q E _ I q =>
  isTrue_and (ha _ s _ E (.inl rfl) I fun s' I' k' => by
    cases c with
    | true => exact isTrue_and_nil (q s' I' k')
    | false => exact q s' I' k')
theorem kt_andF {rest : List Expr} (ha : KT X σ a false) : KT X σ (.BoolOp .And (a :: rest) pos) false := fun wh s Q E _ I q =>
  isTrue_and (ha _ s _ E (.inl rfl) I fun s' I' k' => q s' I' k')
theorem kt_andT {c : Bool} {rest : List Expr} (ha : KT X σ a true) (hb : KT X σ (.BoolOp .And rest pos) c) : KT X σ (.BoolOp .And (a :: rest) pos) c := fun wh s Q E _ I q =>
  isTrue_and (ha _ s _ E (.inl rfl) I fun s' I' k' => hb _ s' Q E (.inr ⟨_, _, _, rfl⟩) I' fun s2 I2 k2 => q s2 I2 fun b o z => k2 b o (k' b o z))
theorem ka_nil : KA X σ [] [] := fun pos s Q E I q => Calls.spliced_nil (q _ _ I (fun _ _ z => z) .nil)
theorem ka_cons (ha : KE X σ e d) (hr : KA X σ es ds) (hs : starEach (e :: es) X.env = (false, eval e X.env) :: starEach es X.env := by rfl) : KA X σ (e :: es) (d :: ds) := fun pos s Q E I q => by
  rw [hs]
  show wpAny _ _ (spliced ((false, eval e X.env) :: backTo pos (starEach es X.env))) _ _ s
  exact Calls.spliced_cons (ha s _ E I fun u s1 I1 k1 r1 => hr pos s1 _ E I1 fun us s2 I2 k2 r2 => q (u :: us) s2 I2 (fun b o z => k2 b o (k1 b o z)) (.cons (r1.keeps k2) r2))
theorem ke_tup {x1} (h : KA X σ es ds) (hz : ds.length ≤ sizeLine) : KE X σ (.Tuple es x1 pos) (.tuple ds) := fun s Q E I q =>
  wpAny_Tuple_spliced (h pos s _ E I fun us s1 I1 k1 r => ⟨by rw [r.length]; exact hz, by
    refine q _ _ (I1.grow (t' := s1.toks) fun b u e => Heap.get?_push_of_some _ e) (fun b o e => Heap.get?_push_of_some _ (k1 b o e)) ?_
    exact .tup (Heap.get?_push_size _ rfl) rfl rfl (by simpa using r.keeps fun b u e => Heap.get?_push_of_some _ e)⟩)
/-- t[i] of a tuple -/
theorem ke_ix {k : Nat} (ha : KE X σ a (.tuple ds)) (hb : KE X σ b (.int (k : Int))) (hz : ds.length ≤ 1000) (hx : ds[k]? = some d) (hs : PlainIx b := by exact fun _ _ => rfl) : KE X σ (.Subscript a b pos) d := fun s Q E I q =>
  Subscript_ (kbin ha hb I fun v u s' I' k' r1 r2 => by
    cases r2
    cases r1 with
    | tup h1 h2 h3 h4 =>
      rename_i t A o vs n
      obtain ⟨w', ew, rw'⟩ := h4.get hx
      have hl := h4.length
      have pl : IsTup s'.heap A vs := ⟨o, h1, h2, n, h3⟩
      have e63 : (1000 : Int) < 2 ^ 63 := by decide
      obtain ⟨j, g1, g2, g3, g4, g5⟩ := atI_get (atI_nat ew)
      have e1 : vs.size = vs.toList.length := by simp
      exact subscriptTail_builtinR (x := w') pl.typeIs slot_tuple_getitem.lookup (getItem_tuple (j := j) pl (by omega) (by omega) (by rw [e1]; exact g1) (by simpa using g2) ⟨rfl, q w' s' I' k' rw'⟩) (hs _ _))
/-- abs -/
theorem ke_abs (hg : X.env.kindOf "abs" = some .globalImplicit) (hm : X.mg "abs" = none) (hv : bootBuiltins "abs" = some (.builtin "abs")) (ha : KA X σ [e] [.int i])
    (he : starEach [e] X.env = (false, eval e X.env) :: starEach [] X.env := by rfl) (hpl : (backTo pos (starEach [] X.env)).any (·.1) = false := by rfl) : KE X σ (.Call (.Name "abs" p) [e] [] pos) (.int (if i < 0 then -i else i)) := fun s Q E I q => by
  obtain ⟨mb, h1, h2⟩ := I.ok.mod.blt
  refine wpAny_Call_Name_kw (Calls.Name_function_global I.ok.kind hg (Calls.loadGlobal_builtin (by rw [I.ok.glob]; exact I.ok.mod.glob.keeps I.bk) hm (by rw [I.ok.blt]; exact h1.keeps I.bk) ((h2 "abs" (by decide)).trans hv) ?_) (by decide))
  refine PyProof.Rows.callWith_builtin1 (ha pos s _ E I fun us s1 I1 k1 r => ?_) he hpl
  cases r with
  | cons r r' =>
    cases r'
    cases r
    exact call_abs_int fun u tk => q _ _ (I1.tok _) k1 (.int _ _)
/-- f(e, ..) -/
theorem ke_call {f : Addr} {n : Nat} (F : KF X.prog X.w X.K X.mg X.base n f (d' :: ds) d) (hr : RoomK n X.A) (hg : X.env.kindOf x = some .globalImplicit) (hm : X.mg x = some (.ref f)) (hk : PySem.W.keepIn X.K (.ref f) = true) (ha : KA X σ (e :: es) (d' :: ds))
    (hdb : (x == ("__debug__" : Str)) = false := by decide) (he : starEach (e :: es) X.env = (false, eval e X.env) :: starEach es X.env := by rfl) (hpl : (backTo pos (starEach es X.env)).any (·.1) = false := by rfl) :
    KE X σ (.Call (.Name x p) (e :: es) [] pos) d := fun s Q E I q => by
  refine wpAny_Call_Name_kw (Calls.Name_function_global I.ok.kind hg (Calls.loadGlobal_global (by rw [I.ok.glob]; exact I.ok.mod.glob.keeps I.bk) hm ?_) hdb)
  refine PySem.W.callWith_K (h₀ := X.base) I.ok.mod.kin hk (ha pos s _ E I fun us s1 I1 k1 r => ⟨I1.kIn, ?_⟩) he hpl
  refine wpAny_call (F X.A s1 us _ hr I.ok.mod I1.bk r fun v s2 hk2 r2 => ?_)
  obtain ⟨h', tk, rfl, kk⟩ := hk2
  exact q v _ (I1.grow kk) (fun b o z => kk b o (k1 b o z)) r2
/-! ### statements -/
variable {rest body : List Stmt} {st : Stmt} {c : Expr}
theorem ks_ret (h : KE X σ e d) : KS X σ (.Return (some e) pos :: rest) d := fun s E I =>
  wpAny_execs_cons (wpAny_Return_some (h s _ E I fun v s' I' _ r => ⟨v, σ, rfl, I', r⟩))
theorem ks_ifT (hc : KT X σ c true) (hb : KS X σ body d) {els : List Stmt} : KS X σ (.If c body els pos :: rest) d := fun s E I =>
  wpAny_execs_cons (wpAny_If (hc _ s _ E (.inl rfl) I fun s' I' _ => by
    rw [if_pos rfl]
    refine thn (hb s' E I') fun f s2 h => ?_
    obtain ⟨v, σ', rfl, z⟩ := h
    exact ⟨v, σ', rfl, z⟩))
theorem ks_ifF (hc : KT X σ c false) (hb : KS X σ rest d) : KS X σ (.If c body [] pos :: rest) d := fun s E I =>
  wpAny_execs_cons (wpAny_If (hc _ s _ E (.inl rfl) I fun s' I' _ => by
    rw [if_neg (by decide)]
    exact wpAny_execs_nil (hb s' E I')))
/-- a local name's store -/
theorem kstore {M : Model} {A : Around} {s : Shared} {v : Value} {Q : Unit → Shared → Prop} {E : Value → Shared → Prop} (I : KI X σ s) (hk : X.env.kindOf x = some .local) (r : IsD s.heap v d)
    (q : ∀ s', KI X ((x, d) :: σ) s' → (∀ u du, IsD s.heap u du → IsD s'.heap u du) → Q () s') : wpAny M A (storeName X.env x v) Q E s := by
  obtain ⟨m, hn, hl⟩ := id I.ns
  have hcls : (X.env.scope.kind == .class || (X.env.scope.kind == .module && X.env.locals != X.env.globals)) = false := by rw [I.ok.kind]; rfl
  refine wpAny_storeName_local hk hn (fun h' hn' hs => ?_) hcls
  have hL : ∀ o vs n, s.heap.get? X.env.locals = some o → o.data ≠ .seq vs n := by
    intro o vs n e z
    obtain ⟨o', es, ep, e', hd, _⟩ := hn
    rw [e] at e'; cases e'
    rw [z] at hd; cases hd
  have stay : ∀ u du, IsD s.heap u du → IsD h' u du := fun u du z => z.but (fun b o hb e => (hs.2 b hb).trans e) hL
  obtain ⟨h0, tk, rfl⟩ := I.sh
  refine q _ ⟨I.ok, ⟨_, _, rfl⟩, fun b o e => ?_, _, hn', fun y dy e => ?_⟩ stay
  · exact (hs.2 b (Nat.ne_of_lt (Nat.lt_of_lt_of_le (Heap.lt_size e) I.ok.above))).trans (I.keep b o e)
  · by_cases hy : y = x
    · subst hy
      rw [List.lookup_cons_self] at e
      cases e
      exact ⟨v, by simp, stay _ _ r⟩
    · rw [List.lookup_cons, beq_eq_false_iff_ne.mpr hy] at e
      obtain ⟨v', e1, r1⟩ := hl y dy e
      exact ⟨v', by simp [hy, e1], stay _ _ r1⟩
theorem ks_set {pos' : Pos} (hk : X.env.kindOf x = some .local) (h : KE X σ e d) (hr : KS X ((x, d) :: σ) rest d') (hs : swapsWith e (some (.Name x pos')) pos.line X.env = pure false := by rfl) : KS X σ (.Assign [.Name x pos'] e pos :: rest) d' := fun s E I =>
  wpAny_execs_cons (wpAny_Assign_Name (h s _ E I fun v s' I' _ r => kstore I' hk r fun s2 I2 _ => hr s2 E I2) hs)
/-- a, b = x, y with plain local names -/
theorem k_par {x y : Str} {px py pt : Pos} {kt k2 pt2} (hx : X.env.kindOf x = some .local) (hy : X.env.kindOf y = some .local) (ha : KA X σ [a, b] [d, d'])
    (hw : swappedStores [.Tuple [.Name x px, .Name y py] kt pt] (.Tuple [a, b] k2 pt2) X.env = pure (some [x, y]))
    (hs : swapsWithSole [.Tuple [.Name x px, .Name y py] kt pt] (.Tuple [a, b] k2 pt2) pos.line X.env = pure false) {s : Shared} {Q : Flow → Shared → Prop} {E : Value → Shared → Prop} (I : KI X σ s)
    (q : ∀ s', KI X ((x, d) :: (y, d') :: σ) s' → Q .next s') : wpAny (model X.prog X.w) X.A (exec (.Assign [.Tuple [.Name x px, .Name y py] kt pt] (.Tuple [a, b] k2 pt2) pos) X.env) Q E s := by
  rw [exec_Assign_arm]
  refine wpAny_bind (wpAny_standAt ?_)
  rw [hs]
  refine wpAny_bind (wpAny_pure ?_)
  rw [if_neg (by decide)]
  refine wpAny_bind (Tuple_ (ha _ s _ E I fun us s1 I1 _ r1 => ?_))
  obtain ⟨u1, u2, rfl, rv, rw'⟩ : ∃ u1 u2, us = [u1, u2] ∧ IsD s1.heap u1 d ∧ IsD s1.heap u2 d' := by
    cases r1 with
    | cons p q =>
      cases q with
      | cons p' q' =>
        cases q'
        exact ⟨_, _, rfl, p, p'⟩
  refine wpAny_newObj_type ?_ (by show 2 ≤ sizeLine; decide)
  have I2 : KI X σ { s1 with heap := s1.heap.push { cls := .type "tuple", data := .seq [u1, u2].toArray }, toks := s1.toks } := I1.grow fun b o e => Heap.get?_push_of_some _ e
  rw [hw]
  refine wpAny_bind (wpAny_pure ?_)
  show wpAny (model X.prog X.w) X.A (do rule "assign.swapped-stores"; let items ← unpackItems (.ref s1.heap.objs.size) 2 none; assignInOrder [fun v => bindName X.env y v, fun v => bindName X.env x v] items.reverse; pure Flow.next) _ _ _
  refine wpAny_bind (wpAny_rule (wpAny_bind (unpackItems_tuple (items := #[u1, u2]) I.ok.hd (IsTup.new s1.heap _) fun h' hx' => ?_)))
  have k3 : ∀ b o, s1.heap.get? b = some o → h'.get? b = some o := fun b o e => have e2 := Heap.get?_push_of_some { cls := .type "tuple", data := .seq [u1, u2].toArray } e; hx' b o (Nat.ne_of_lt (Heap.lt_size e2)) e2
  have I3 := I1.grow (t' := s1.toks) k3
  show wpAny _ _ (assignInOrder [fun v => bindName X.env y v, fun v => bindName X.env x v] [u2, u1] >>= fun _ => pure Flow.next) _ _ _
  refine wpAny_bind (assignInOrder_cons (wpAny_bindName (kstore I3 hy (rw'.keeps k3) fun s2 I4 st => ?_)))
  exact assignInOrder_cons (wpAny_bindName (kstore I4 hx (st _ _ (rv.keeps k3)) fun s3 I5 _ => assignInOrder_nil (wpAny_pure (q s3 I5))))
/-- while; the body goes on to its next turn -/
theorem ks_while {inv : Nat → Sg → Prop} {n : Nat} (h0 : inv n σ)
    (turn : ∀ n σ1, inv n σ1 → (KT X σ1 c false ∧ KS X σ1 rest d) ∨ (KT X σ1 c true ∧ ∀ (s : Shared) (Q : Flow → Shared → Prop) (E : Value → Shared → Prop), KI X σ1 s → (∀ m σ2 s', m < n → inv m σ2 → KI X σ2 s' → Q .next s') → wpAny (model X.prog X.w) X.A (execs body X.env) Q E s)) :
    KS X σ (.While c body [] pos :: rest) d := fun s E I => by
  refine wpAny_execs_cons (wpAny_While (codeAny_whileLoop (fun n s' => ∃ σ1, KI X σ1 s' ∧ inv n σ1) ?_ n ⟨σ, I, h0⟩))
  rintro n s1 ⟨σ1, I1, w1⟩
  rcases turn n σ1 w1 with ⟨hc, hr⟩ | ⟨hc, hb⟩
  · refine hc _ s1 _ _ (.inl rfl) I1 fun s2 I2 _ => ?_
    rw [if_neg (by decide)]
    exact wpAny_execs_nil (hr s2 E I2)
  · refine hc _ s1 _ _ (.inl rfl) I1 fun s2 I2 _ => ?_
    rw [if_pos rfl]
    exact hb s2 _ _ I2 fun m σ2 s3 hm hi I3 => ⟨m, hm, σ2, I3, hi⟩
end
/-- a def by its body -/
theorem kf_of {P : Program} {w : World} {K : PySem.W.Frag} {mg : Str → Option Value} {base : Heap} {x qual : Str} {params : Arguments} {body : List Stmt} {scope : Scope} {dvs : List V} {kws : List (Str × V)} {f : Addr} {fd : FuncData} {N ps : List Str} {n : Nat} {ds : List PyData} {d : PyData}
    (F : FunD K x qual params body scope dvs kws f fd) (S : FnScope N ps scope) (loc : ∀ y ∈ ps, scope.names.lookup y = some .local) (hb : Binds K fd ps []) (hl : ds.length = ps.length)
    (hbody : ∀ (cdv : Value) (A : Around) (s : Shared), RoomK n (A.deeper (envOfC qual scope s.heap.objs.size f cdv)) → KS ⟨P, w, K, mg, base, A.deeper (envOfC qual scope s.heap.objs.size f cdv), envOfC qual scope s.heap.objs.size f cdv, s⟩ (ps.zip ds) body d) :
    KF P w K mg base (n + 1) f ds d := by
  obtain ⟨oc, od, dV, kV, doc, pm, an, cdv, ct, osl, rfl, lk, hcd, _, _⟩ := F.ex
  intro A s us R hr mod below r hq
  have KX : K.In s.heap := mod.kin.keeps below
  have hbinds : ∀ y ∈ ps.zip us, scope.names.lookup y.1 = some .local ∨ (scope.names.lookup y.1 = some .cell ∧ ((cellsFrom (s.heap.objs.size + 1) scope.names []).lookup y.1).isSome = true) := fun y hy =>
    .inl (loc y.1 (List.of_mem_zip (show (y.1, y.2) ∈ ps.zip us from hy)).1)
  have hlu : us.length = ps.length := r.length.trans hl
  have hbb := hb s us KX (by simpa using hlu)
  rw [List.append_nil] at hbb
  refine codeAny_call_function (by have := hr.dp; omega) (KX _ _ lk) rfl S.co S.gen rfl (PySem.W.codeRec_of KX hcd) (hbb _ _ _ _ (wpAny_newFunctionEnv_cells S.kind hbinds fun env he s1 xc => ?_))
  subst he
  refine ⟨(mod.nolimit.keeps below).keeps xc.toInCall.keep, codeAny_func ?_⟩
  obtain ⟨h1, tk, rfl, hk⟩ := xc.done
  have ndP : ps.Nodup := by rw [← S.pre]; exact S.nd.sublist (List.take_sublist _ _)
  have I : KI ⟨P, w, K, mg, base, A.deeper (envOfC qual scope s.heap.objs.size f cdv), envOfC qual scope s.heap.objs.size f cdv, s⟩ (ps.zip ds) { s with heap := h1, toks := tk } := by
    refine ⟨⟨mod, S.kind, rfl, rfl, Nat.le_refl _, below, hr.hd⟩, ⟨_, _, rfl⟩, hk, _, xc.toInCall.ns, fun y dy e => ?_⟩
    have hm := PySem.mem_of_lookup e
    obtain ⟨i, hi, he⟩ := List.mem_iff_getElem.mp hm
    rw [List.getElem_zip] at he
    have hi2 : i < ps.length ∧ i < ds.length := by
      have z := hi
      rw [List.length_zip] at z
      omega
    have e1 : ps[i]? = some y := by rw [List.getElem?_eq_getElem hi2.1]; exact congrArg some (congrArg Prod.fst he)
    have e2 : ds[i]? = some dy := by rw [List.getElem?_eq_getElem hi2.2]; exact congrArg some (congrArg Prod.snd he)
    obtain ⟨v, ev, rv⟩ := r.get e2
    exact ⟨v, bindL_get ndP e1 ev (loc y (List.mem_of_getElem? e1)), rv.keeps hk⟩
  refine wpAny_mono (hbody cdv A s (hr.deeper _) { s with heap := h1, toks := tk } (fun e s' => wpAny (model P w) (A.deeper _) (leaving _ e) (fun _ s'' => R (.error e) s'') (fun e' s'' => R (.error e') s'') s') I) (fun fl s' hs => ?_) fun e s' hs => hs
  obtain ⟨v, σ', rfl, I', r'⟩ := hs
  refine hq v s' ?_ r'
  obtain ⟨h2, tk2, e2⟩ := I'.sh
  exact ⟨h2, tk2, e2, fun b o z => by
    have := I'.keep b o z
    rw [e2] at this
    exact this⟩
end RK
end
section
set_option Elab.async false
set_option linter.all false
set_option maxRecDepth 100000
set_option maxHeartbeats 2000000
/-! X6: is_good and what it calls, reckoned with every object kept. -/
namespace RT
open PySem PySem.Spec PyProof.Rows L2 RK
section
variable {P : Program} {w : World} {K : PySem.W.Frag} {mg : Str → Option Value} {base : Heap}
theorem two {a b : PyData} : [a, b].length ≤ 1000 := by show 2 ≤ 1000; decide
theorem gcd_step (p q : Nat) : Int.gcd (q : Int) ((p : Int).fmod (q : Int)) = Int.gcd (p : Int) (q : Int) := by
  rw [Int.fmod_eq_emod_of_nonneg _ (Int.natCast_nonneg q), ← Int.natCast_emod, Int.gcd_natCast_natCast, Int.gcd_natCast_natCast, Nat.gcd_comm q, ← Nat.gcd_rec, Nat.gcd_comm]
theorem kf_gcd (T : TX K mg) (n : Nat) (a b : Int) : KF P w K mg base (n + 1) (He.ga K "common_divisor") [.int a, .int b] (.int (Int.gcd a b : Nat)) := by
  obtain ⟨fd, F⟩ := T.df in_common_divisor
  refine kf_of F sc_common_divisor (by decide +kernel) (F.bindsN bd_common_divisor) rfl fun cdv A s hr => ?_
  refine ks_set rfl (ke_abs rfl (T.fr (by decide +kernel)) (by decide +kernel) (ka_cons (ke_name rfl rfl) ka_nil)) ?_
  refine ks_set rfl (ke_abs rfl (T.fr (by decide +kernel)) (by decide +kernel) (ka_cons (ke_name rfl rfl) ka_nil)) ?_
  have ab : ∀ i : Int, (if i < 0 then -i else i) = (i.natAbs : Int) := fun i => by split <;> omega
  rw [ab a, ab b]
  refine ks_while (inv := fun n σ => ∃ p q : Nat, σ.lookup ("one" : Str) = some (PyData.int p) ∧ σ.lookup ("other" : Str) = some (PyData.int q) ∧ Int.gcd p q = Int.gcd a b ∧ n = q) (n := b.natAbs) ⟨a.natAbs, b.natAbs, rfl, rfl, by rw [Int.gcd_natCast_natCast] <;> rfl, rfl⟩ ?_
  rintro n σ ⟨p, q, h1, h2, h3, hn⟩
  by_cases hq : q = 0
  · refine .inl ⟨?_, ?_⟩
    · have e : decide ((0 : Int) < (q : Int)) = false := by rw [hq]; decide
      rw [← e]
      exact kt_gt (ke_name rfl h2) ke_int
    · refine ks_ret ?_
      have e : ((Int.gcd a b : Nat) : Int) = (p : Int) := by
        rw [← h3, hq]
        simp
      rw [e]
      exact ke_name rfl h1
  · refine .inr ⟨?_, fun s Q E I hQ => ?_⟩
    · have e : decide ((0 : Int) < (q : Int)) = true := decide_eq_true (by omega)
      rw [← e]
      exact kt_gt (ke_name rfl h2) ke_int
    · refine wpAny_execs_cons (k_par (d := .int q) (d' := .int ((p : Int).fmod q)) rfl rfl (ka_cons (ke_name rfl h2) (ka_cons (ke_mod (ke_name rfl h1) (ke_name rfl h2) (by omega)) ka_nil)) (by rfl) (by rfl) I fun s' I' => wpAny_execs_nil (hQ (p % q) _ s' (by rw [hn]; exact Nat.mod_lt _ (by omega)) ?_ I'))
      have em : (p : Int).fmod (q : Int) = ((p % q : Nat) : Int) := by
        rw [Int.fmod_eq_emod_of_nonneg _ (Int.natCast_nonneg q)]
        exact (Int.natCast_emod p q).symm
      refine ⟨q, p % q, rfl, ?_, ?_, rfl⟩
      · rw [← em] <;> rfl
      · rw [← em, gcd_step, h3]
theorem gcd_small {a b : Int} (hb : 0 < b) (hb2 : b < 1000000) : ((Int.gcd a b : Nat) : Int) ≠ 0 ∧ ((Int.gcd a b : Nat) : Int).natAbs < 1073741824 := by
  have h1 : 0 < Int.gcd a b := Int.gcd_pos_of_ne_zero_right a (by omega)
  have h2 : Int.gcd a b ∣ b.natAbs := Int.gcd_dvd_natAbs_right a b
  have h3 := Nat.le_of_dvd (by omega) h2
  constructor <;> omega
theorem binds_frac {fd : FuncData} (F : FunD K "fraction" "fraction" (defArgs (top 17)) (defBody (top 17)) (defScope (top 17)) [.int 1] [] (He.ga K "fraction") fd) : Binds K fd ["numerator", "denominator"] [] := by
  have Z := F.binds1 (ps := ["numerator", "denominator"]) 2 1 (by simp) rfl (fun Tt kV doc pm an cdv ct us its hu hi => by
    match us, hu, its, hi with
    | [a, b], _, [c], _ => exact ⟨_, rfl, rfl⟩)
  obtain ⟨ds, h1, h2⟩ := Z
  cases h1
  exact h2
theorem kf_frac (T : TX K mg) (n : Nat) (a b : Int) (hb : 0 < b) (hb2 : b < 1000000) : KF P w K mg base (n + 2) (He.ga K "fraction") [.int a, .int b] (qD (fracQ a b)) := by
  obtain ⟨fd, F⟩ := T.dfrac
  refine kf_of F sc_fraction (by decide +kernel) (binds_frac F) rfl fun cdv A s hr => ?_
  obtain ⟨fd', F'⟩ := T.df in_common_divisor
  obtain ⟨g0, g1⟩ := gcd_small (a := a) hb hb2
  refine ks_set rfl (ke_call (kf_gcd T n a b) hr rfl (T.gd in_common_divisor) F'.kp (ka_cons (ke_name rfl rfl) (ka_cons (ke_name rfl rfl) ka_nil))) ?_
  have e : decide (b < 0) = false := decide_eq_false (by omega)
  refine ks_ifF (by rw [← e]; exact kt_lt (ke_name rfl rfl) ke_int) ?_
  have e2 : fracQ a b = (a.fdiv ((Int.gcd a b : Nat) : Int), b.fdiv ((Int.gcd a b : Nat) : Int)) := by
    unfold fracQ
    rw [if_neg (by omega)]
  rw [e2]
  exact ks_ret (ke_tup (ka_cons (ke_fdiv (ke_name rfl rfl) (ke_name rfl rfl) g0 g1) (ka_cons (ke_fdiv (ke_name rfl rfl) (ke_name rfl rfl) g0 g1) ka_nil)) (by show 2 ≤ sizeLine; decide))
/-- small fractions -/
def Sml (q : Q2) : Prop := 0 < q.2 ∧ q.2 ≤ 900 ∧ -1000 ≤ q.1 ∧ q.1 ≤ 1000
theorem kf_add (T : TX K mg) (n : Nat) (p q : Q2) (hp : Sml p) (hq : Sml q) : KF P w K mg base (n + 3) (He.ga K "add") [qD p, qD q] (qD (addQ p q)) := by
  obtain ⟨fd, F⟩ := T.df in_add
  refine kf_of F sc_add (by decide +kernel) (F.bindsN bd_add) rfl fun cdv A s hr => ?_
  obtain ⟨fd', F'⟩ := T.dfrac
  obtain ⟨p1, p2, p3, p4⟩ := hp
  obtain ⟨q1, q2, q3, q4⟩ := hq
  have hd0 : 0 < p.2 * q.2 := Int.mul_pos p1 q1
  have hd1 : p.2 * q.2 ≤ 900 * 900 := Int.mul_le_mul p2 q2 (by omega) (by omega)
  have h64 : (1000000 : Int) < 2 ^ 64 := by decide
  exact ks_ret (ke_call (kf_frac T n _ _ hd0 (by omega)) hr rfl (T.glo_ (in1 (by decide +kernel))) F'.kp (ka_cons (ke_add (ke_mul (ke_ix (k := 0) (ke_name rfl rfl) ke_int two rfl) (ke_ix (k := 1) (ke_name rfl rfl) ke_int two rfl) (by constructor <;> omega))
      (ke_mul (ke_ix (k := 0) (ke_name rfl rfl) ke_int two rfl) (ke_ix (k := 1) (ke_name rfl rfl) ke_int two rfl) (by constructor <;> omega)))
      (ka_cons (ke_mul (ke_ix (k := 1) (ke_name rfl rfl) ke_int two rfl) (ke_ix (k := 1) (ke_name rfl rfl) ke_int two rfl) (by constructor <;> omega)) ka_nil)))
theorem kf_neg (T : TX K mg) (n : Nat) (p : Q2) : KF P w K mg base (n + 1) (He.ga K "negative") [qD p] (qD (negQ p)) := by
  obtain ⟨fd, F⟩ := T.df in_negative
  refine kf_of F sc_negative (by decide +kernel) (F.bindsN bd_negative) rfl fun cdv A s hr => ?_
  exact ks_ret (ke_tup (ka_cons (ke_neg (ke_ix (k := 0) (ke_name rfl rfl) ke_int two rfl)) (ka_cons (ke_ix (k := 1) (ke_name rfl rfl) ke_int two rfl) ka_nil)) (by show 2 ≤ sizeLine; decide))
theorem kf_sub (T : TX K mg) (n : Nat) (p q : Q2) (hp : Sml p) (hq : Sml q) : KF P w K mg base (n + 4) (He.ga K "subtract") [qD p, qD q] (qD (subQ p q)) := by
  obtain ⟨fd, F⟩ := T.df in_subtract
  refine kf_of F sc_subtract (by decide +kernel) (F.bindsN bd_subtract) rfl fun cdv A s hr => ?_
  obtain ⟨fa, Fa⟩ := T.df in_add
  obtain ⟨fn, Fn⟩ := T.df in_negative
  obtain ⟨q1, q2, q3, q4⟩ := hq
  exact ks_ret (ke_call (kf_add T n p (negQ q) hp ⟨q1, q2, by show -1000 ≤ -q.1; omega, by show -q.1 ≤ 1000; omega⟩) hr rfl (T.gd in_add) Fa.kp (ka_cons (ke_name rfl rfl)
    (ka_cons (ke_call (kf_neg T (n + 2) q) hr rfl (T.gd in_negative) Fn.kp (ka_cons (ke_name rfl rfl) ka_nil)) ka_nil)))
theorem kf_sign (T : TX K mg) (n : Nat) (p : Q2) : KF P w K mg base (n + 1) (He.ga K "sign") [qD p] (.int (sgnQ p)) := by
  obtain ⟨fd, F⟩ := T.df in_sign
  refine kf_of F sc_sign (by decide +kernel) (F.bindsN bd_sign) rfl fun cdv A s hr => ?_
  unfold sgnQ
  by_cases h1 : 0 < p.1
  · rw [if_pos h1]
    refine ks_ifT ?_ (ks_ret ke_int)
    rw [← decide_eq_true h1]
    exact kt_gt (ke_ix (k := 0) (ke_name rfl rfl) ke_int two rfl) ke_int
  · rw [if_neg h1]
    refine ks_ifF ?_ ?_
    · rw [← decide_eq_false h1]
      exact kt_gt (ke_ix (k := 0) (ke_name rfl rfl) ke_int two rfl) ke_int
    by_cases h2 : p.1 < 0
    · rw [if_pos h2]
      refine ks_ifT ?_ (ks_ret (ke_neg ke_int))
      rw [← decide_eq_true h2]
      exact kt_lt (ke_ix (k := 0) (ke_name rfl rfl) ke_int two rfl) ke_int
    · rw [if_neg h2]
      refine ks_ifF ?_ (ks_ret ke_int)
      rw [← decide_eq_false h2]
      exact kt_lt (ke_ix (k := 0) (ke_name rfl rfl) ke_int two rfl) ke_int
theorem kf_compare (T : TX K mg) (n : Nat) (p q : Q2) (hp : Sml p) (hq : Sml q) : KF P w K mg base (n + 5) (He.ga K "compare") [qD p, qD q] (.int (sgnQ (subQ p q))) := by
  obtain ⟨fd, F⟩ := T.df in_compare
  refine kf_of F sc_compare (by decide +kernel) (F.bindsN bd_compare) rfl fun cdv A s hr => ?_
  obtain ⟨fa, Fa⟩ := T.df in_sign
  obtain ⟨fn, Fn⟩ := T.df in_subtract
  exact ks_ret (ke_call (kf_sign T (n + 3) (subQ p q)) hr rfl (T.gd in_sign) Fa.kp
    (ka_cons (ke_call (kf_sub T n p q hp hq) hr rfl (T.gd in_subtract) Fn.kp (ka_cons (ke_name rfl rfl) (ka_cons (ke_name rfl rfl) ka_nil))) ka_nil))
theorem kf_less (T : TX K mg) (n : Nat) (p q : Q2) (hp : Sml p) (hq : Sml q) : KF P w K mg base (n + 6) (He.ga K "is_less") [qD p, qD q] (.bool (lessQ p q)) := by
  obtain ⟨fd, F⟩ := T.df in_is_less
  refine kf_of F sc_is_less (by decide +kernel) (F.bindsN bd_is_less) rfl fun cdv A s hr => ?_
  obtain ⟨fa, Fa⟩ := T.df in_compare
  exact ks_ret (ke_lt (ke_call (kf_compare T n p q hp hq) hr rfl (T.gd in_compare) Fa.kp (ka_cons (ke_name rfl rfl) (ka_cons (ke_name rfl rfl) ka_nil))) ke_int)
theorem tup_isD {h : Heap} {z : Addr} {xs : List V} {ds : List PyData} (X : K.In h) (hz : SqT K (fun _ => none) z xs) (hd : ∀ its : List Value, Vals xs its → IsAll h its ds) : IsD h (.ref z) (.tuple ds) := by
  rcases hz with h' | ⟨o, its, n, lk, hc, hdt, _, r⟩
  · rcases h' with e | ⟨_, e⟩ <;> cases e
  · exact .tup (X _ _ lk) hc hdt (hd _ r)
theorem zero_isD {h : Heap} (T : TX K mg) (X : K.In h) : IsD h (.ref (He.ga K "ZERO")) (qD (0, 1)) := by
  refine tup_isD X T.zero fun its r => ?_
  obtain ⟨a, b, rfl, ⟨t, rfl⟩, ⟨t', rfl⟩⟩ := vals2 r
  exact .cons (.int _ _) (.cons (.int _ _) .nil)
theorem ke_notV {X : KC} {σ : Sg} {a : Expr} {pos : Pos} {b : Bool} (ha : KE X σ a (.bool b)) : KE X σ (.UnaryOp .Not a pos) (.bool (!b)) := fun s Q E I q =>
  UnaryOp_ (ha s _ E I fun v s' I' k' r => by
    cases r
    exact not_of (wpAny_truthy_bool (q _ _ I' k' (.bl _))))
theorem kt_eqF {X : KC} {σ : Sg} {a b : Expr} {d d' : PyData} {pos : Pos} {c : Bool} (ha : KE X σ a d) (hb : KE X σ b d') (s1 : SeqAt.shaped d = true) (s2 : SeqAt.shaped d' = true) (hu : X.A.units + 64 < cLine) (hc : PyData.eqv d d' = c) (hm : behindInMarks .Eq b = false := by first | exact nobehind _ (by decide) (by decide) | rfl) : KT X σ (.Compare a [.Eq] [b] pos) c := by
  rw [← hc]
  exact kt_eq ha hb s1 s2 hu hm
theorem good_sml {q : Q2} (h : q ∈ goodQs) : Sml q := by
  have e : ∀ q ∈ goodQs, decide (0 < q.2 ∧ q.2 ≤ 900 ∧ -1000 ≤ q.1 ∧ q.1 ≤ 1000) = true := by decide +kernel
  have z := of_decide_eq_true (e q h)
  exact z
theorem shq (q : Q2) : SeqAt.shaped (qD q) = true := rfl
theorem eqv_q (p q : Q2) : PyData.eqv (qD p) (qD q) = decide (p = q) := by
  obtain ⟨a, b⟩ := p
  obtain ⟨c, d⟩ := q
  show PyData.eqv (.tuple [.int a, .int b]) (.tuple [.int c, .int d]) = decide ((a, b) = (c, d))
  simp [PyData.eqv, PyData.eqvAll]
  rfl
theorem two2 {a b c : PyData} : [a, b, c].length ≤ 1000 := by show 3 ≤ 1000; decide
/-- a comparison of the element's word -/
theorem kt_word {X : KC} {σ : Sg} {a b : Expr} {x y : Str} {pos : Pos} {c : Bool} (ha : KE X σ a (.str x)) (hb : KE X σ b (.str y)) (s1 : SeqAt.shaped (.str x) = true) (s2 : SeqAt.shaped (.str y) = true) (hu : X.A.units + 64 < cLine) (hc : (x == y) = c) (hm : behindInMarks .Eq b = false := by first | exact nobehind _ (by decide) (by decide) | rfl) : KT X σ (.Compare a [.Eq] [b] pos) c := by
  refine kt_eqF ha hb s1 s2 hu ?_ hm
  show PyData.eqv (.str x) (.str y) = c
  unfold PyData.eqv
  exact hc
theorem kt_notNc {X : KC} {σ : Sg} {a : Expr} {d : PyData} {pos : Pos} {j : Nat} {pos' : Pos} {c : Bool} (ha : KE X σ a d) (hc : (!isNon d) = c) (hm : behindInMarks .IsNot (.Constant .none j pos') = false := by first | exact nobehind _ (by decide) (by decide) | rfl) : KT X σ (.Compare a [.IsNot] [.Constant .none j pos'] pos) c := by
  rw [← hc]
  exact kt_notN ha hm
theorem kf_good (T : TX K mg) (n : Nat) (e : El) (g : GoodEl e) : KF P w K mg base (n + 7) (He.ga K "is_good") [elD e] (.bool true) := by
  obtain ⟨fd, F⟩ := T.df in_is_good
  refine kf_of F sc_is_good (by decide +kernel) (F.bindsN bd_is_good) rfl fun cdv A s hr => ?_
  have hu : (A.deeper (envOfC "is_good" (defScope (top 38)) s.heap.objs.size (He.ga K "is_good") cdv)).units + 64 < cLine := by
    have := hr.un
    omega
  cases e with
  | gap q =>
    refine ks_ifF (kt_word (ke_ix (k := 0) (ke_name rfl rfl) ke_int two rfl) ke_str (by decide +kernel) (by decide +kernel) hu (by decide +kernel)) ?_
    exact ks_ifF (kt_andF (kt_word (ke_ix (k := 0) (ke_name rfl rfl) ke_int two rfl) ke_str (by decide +kernel) (by decide +kernel) hu (by decide +kernel))) (ks_ret ke_bl)
  | lens p c =>
    refine ks_ifF (kt_word (ke_ix (k := 0) (ke_name rfl rfl) ke_int two2 rfl) ke_str (by decide +kernel) (by decide +kernel) hu (by decide +kernel)) ?_
    exact ks_ifF (kt_andF (kt_word (ke_ix (k := 0) (ke_name rfl rfl) ke_int two2 rfl) ke_str (by decide +kernel) (by decide +kernel) hu (by decide +kernel))) (ks_ret ke_bl)
  | prism q =>
    refine ks_ifF (kt_word (ke_ix (k := 0) (ke_name rfl rfl) ke_int two rfl) ke_str (by decide +kernel) (by decide +kernel) hu (by decide +kernel)) ?_
    exact ks_ifF (kt_andF (kt_word (ke_ix (k := 0) (ke_name rfl rfl) ke_int two rfl) ke_str (by decide +kernel) (by decide +kernel) hu (by decide +kernel))) (ks_ret ke_bl)
  | afocal q =>
    refine ks_ifT (kt_word (ke_ix (k := 0) (ke_name rfl rfl) ke_int two rfl) ke_str (by decide +kernel) (by decide +kernel) hu (by decide +kernel)) ?_
    have e : (!PyData.eqv (qD q) (qD (0, 1))) = true := by
      rw [eqv_q, decide_eq_false g.2]
      rfl
    rw [← e]
    intro s1 E I
    exact ks_ret (ke_ne (ke_ix (k := 1) (ke_name rfl rfl) ke_int two rfl) (ke_glob rfl (T.glo_ (in1 (by decide +kernel))) (zero_isD T I.ok.mod.kin)) (shq q) (shq (0, 1)) hu) s1 E I
  | stop l u =>
    refine ks_ifF (kt_word (ke_ix (k := 0) (ke_name rfl rfl) ke_int two2 rfl) ke_str (by decide +kernel) (by decide +kernel) hu (by decide +kernel)) ?_
    cases l with
    | none => exact ks_ifF (kt_andT (kt_word (ke_ix (k := 0) (ke_name rfl rfl) ke_int two2 rfl) ke_str (by decide +kernel) (by decide +kernel) hu (by decide +kernel)) (kt_andF (kt_notNc (ke_ix (k := 1) (ke_name rfl rfl) ke_int two2 rfl) rfl))) (ks_ret ke_bl)
    | some lq =>
      cases u with
      | none => exact ks_ifF (kt_andT (kt_word (ke_ix (k := 0) (ke_name rfl rfl) ke_int two2 rfl) ke_str (by decide +kernel) (by decide +kernel) hu (by decide +kernel)) (kt_andT (kt_notNc (ke_ix (k := 1) (ke_name rfl rfl) ke_int two2 rfl) rfl) (kt_and1 (kt_notNc (ke_ix (k := 2) (ke_name rfl rfl) ke_int two2 rfl) rfl)))) (ks_ret ke_bl)
      | some uq =>
        obtain ⟨g1, g2, g3⟩ := g
        obtain ⟨f', F'⟩ := T.df in_is_less
        refine ks_ifT (kt_andT (kt_word (ke_ix (k := 0) (ke_name rfl rfl) ke_int two2 rfl) ke_str (by decide +kernel) (by decide +kernel) hu (by decide +kernel)) (kt_andT (kt_notNc (ke_ix (k := 1) (ke_name rfl rfl) ke_int two2 rfl) rfl) (kt_and1 (kt_notNc (ke_ix (k := 2) (ke_name rfl rfl) ke_int two2 rfl) rfl)))) ?_
        have e : (!lessQ uq lq) = true := by rw [g3] <;> rfl
        rw [← e]
        exact ks_ret (ke_notV (ke_call (kf_less T n uq lq (good_sml (up_good g2)) (good_sml (lo_good g1))) hr rfl (T.gd in_is_less) F'.kp (ka_cons (ke_ix (k := 2) (ke_name rfl rfl) ke_int two2 rfl) (ka_cons (ke_ix (k := 1) (ke_name rfl rfl) ke_int two2 rfl) ka_nil))))
end
end RT
end
section
set_option Elab.async false
set_option linter.all false
set_option maxRecDepth 100000
set_option maxHeartbeats 2000000
/-! X7: the elements of the three generator expressions. -/
namespace RT
open PySem PySem.Spec PyProof.Rows L2 RK
mutual
def noList : PyData → Bool
  | .none | .bool _ | .int _ | .str _ => true
  | .tuple ds => noLists ds
  | _ => false
def noLists : List PyData → Bool
  | [] => true
  | d :: ds => noList d && noLists ds
end
section
variable {X : Cx} {pins : List (Addr × Obj)} {σ : L2.St} {H : Hp} {s : Shared}
mutual
theorem isD_of (I : Inv X pins σ H s) : ∀ (d : PyData) (v : V) (u : Value), noList d = true → Dp X.K H v d → RelV v u → IsD s.heap u d
  | .none, _, _, _, h, r => by
    cases h
    cases r
    exact .non
  | .bool b, _, _, _, h, r => by
    cases h
    cases r
    exact .bl b
  | .int i, _, _, _, h, r => by
    cases h
    obtain ⟨t, rfl⟩ := r
    exact .int i t
  | .str x, _, _, _, h, r => by
    cases h
    obtain ⟨t, rfl⟩ := r
    exact .str x t
  | .tuple ds, _, _, hn, h, r => by
    cases h with
    | tup h1 h2 =>
      cases r
      obtain ⟨its, r, ⟨o, e1, e2, n, e3⟩, _⟩ := I.tuple h1
      exact .tup e1 e2 e3 (by simpa using isAll_of I ds _ its (by simpa [noList] using hn) h2 r)
  | .list _, _, _, hn, _, _ => by simp [noList] at hn
  | .dict _, _, _, hn, _, _ => by simp [noList] at hn
theorem isAll_of (I : Inv X pins σ H s) : ∀ (ds : List PyData) (vs : List V) (us : List Value), noLists ds = true → DpAll X.K H vs ds → Vals vs us → IsAll s.heap us ds
  | [], _, _, _, h, r => by
    cases h
    cases r
    exact .nil
  | d :: ds, _, _, hn, h, r => by
    have z : noList d = true ∧ noLists ds = true := by simpa [noLists] using hn
    cases h with
    | cons h1 h2 =>
      cases r with
      | cons r1 r2 => exact .cons (isD_of I d _ _ z.1 h1 r1) (isAll_of I ds _ _ z.2 h2 r2)
end
theorem noList_el (e : El) : noList (elD e) = true := by
  cases e with
  | stop l u => cases l <;> cases u <;> rfl
  | _ => rfl
theorem dpAll_get {K : PySem.W.Frag} {H : Hp} : ∀ {vs : List V} {ds : List PyData} {i : Nat} {v : V}, DpAll K H vs ds → vs[i]? = some v → ∃ d, ds[i]? = some d ∧ Dp K H v d
  | _, _, 0, _, .cons h1 _, e => by
    cases e
    exact ⟨_, rfl, h1⟩
  | _, _, i + 1, _, .cons _ h2, e => by
    simp only [List.getElem?_cons_succ] at e ⊢
    exact dpAll_get h2 e
/-- is_good(element) for an element in train -/
theorem elt_good {P : Addr} {scope : Scope} {p p2 pos : Pos} {xs : List V} {els : List El} {k : Nat} (T : TX X.K X.mg) (hr : Room (k + 3) X.A) (I : Inv X pins σ H s) (hP : ∃ ps, H P = some (.tbl ps)) (hd : DpAll X.K H xs (els.map elD)) (g : ∀ e ∈ els, GoodEl e) (hk : scope.kind = .function)
    (h1 : scope.names.lookup ("is_good" : Str) = some NameKind.globalImplicit) (h2 : scope.names.lookup ("element" : Str) = some NameKind.local) :
    EltG X s P scope "element" (.Call (.Name "is_good" p) [.Name "element" p2] [] pos) (fun i v => ∃ y, xs[i]? = some y ∧ RelV y v) (fun _ => true) := by
  rintro cenv A' E' i v s₂ m₂ rfl hgl hA hA1 hA2 ⟨y, hy, ry⟩ hn hm hkeep
  obtain ⟨fd, F⟩ := T.df in_is_good
  obtain ⟨ps, hP⟩ := hP
  have bP : ∀ b o, X.base.get? b = some o → b ≠ P := fun b o e z => by
    have := (I.bs b o e).2
    rw [z, hP] at this
    cases this
  have bk2 : ∀ b o, X.base.get? b = some o → s₂.heap.get? b = some o := fun b o e => hkeep b o (bP b o e) (I.bk b o e)
  obtain ⟨d, hd1, hd2⟩ := dpAll_get hd hy
  obtain ⟨e, he, rfl⟩ := List.mem_map.mp (List.mem_of_getElem? hd1)
  have hL : ∀ o vs n, s.heap.get? P = some o → o.data ≠ .seq vs n := by
    intro o vs n e1 e2
    have := I.hok P _ hP
    have e3 : s.heap.get? P = some { cls := .none, data := .fields ps } := this
    rw [e3] at e1
    cases e1
    cases e2
  have hv : IsD s₂.heap v (elD e) := (isD_of I _ _ _ (noList_el e) hd2 ry).but hkeep hL
  have kf := kf_good (P := X.prog) (w := X.w) (base := X.base) T 0 e (g e he)
  refine wpAny_Call_Name_kw (Calls.Name_function_global hk h1 (Calls.loadGlobal_global (by rw [hgl]; exact I.mod.glob.keeps bk2) (T.gd in_is_good) ?_) (by decide))
  refine PySem.W.callWith_K (h₀ := X.base) I.mod.kin F.kp (Calls.spliced_cons (wpAny_Name (wpAny_loadName_local hk h2 hn hm (Calls.spliced_nil ⟨I.mod.kin.keeps bk2, ?_⟩)) (by decide))) (by rfl) (by rfl)
  refine wpAny_call (kf A' s₂ _ _ ⟨hA, ?_, ?_⟩ I.mod bk2 (.cons hv .nil) fun u s' hk' r => ?_)
  · have := hr.dp
    omega
  · have := hr.un
    omega
  · cases r
    exact ⟨rfl, hk'⟩
/-- sign in FIGURES for a sign of a text -/
theorem elt_fig {P : Addr} {scope : Scope} {p p2 pos : Pos} {a : Str} (T : TX X.K X.mg) (I : Inv X pins σ H s) (hP : ∃ ps, H P = some (.tbl ps)) (hk : scope.kind = .function)
    (h1 : scope.names.lookup ("FIGURES" : Str) = some NameKind.globalImplicit) (h2 : scope.names.lookup ("sign" : Str) = some NameKind.local) :
    EltG X s P scope "sign" (.Compare (.Name "sign" p) [.In] [.Name "FIGURES" p2] pos) (SignAt a) (fun i => decide (a.cps.getD i 0 ∈ figs)) := by
  rintro cenv A' E' i v s₂ m₂ rfl hgl hA hA1 hA2 ⟨c, u, hc, rfl⟩ hn hm hkeep
  obtain ⟨ps, hP⟩ := hP
  have bP : ∀ b o, X.base.get? b = some o → b ≠ P := fun b o e z => by
    have := (I.bs b o e).2
    rw [z, hP] at this
    cases this
  have bk2 : ∀ b o, X.base.get? b = some o → s₂.heap.get? b = some o := fun b o e => hkeep b o (bP b o e) (I.bk b o e)
  obtain ⟨t, ht⟩ := T.str (x := "FIGURES") (z := "0123456789") (by decide +kernel)
  refine wpAny_Compare1 (wpAny_Name (wpAny_loadName_local hk h2 hn hm ?_) (by decide)) (by rfl)
  refine Calls.Name_function_global hk h1 (Calls.loadGlobal_global (by rw [hgl]; exact I.mod.glob.keeps bk2) ht ?_) (by decide)
  refine in_str ⟨congrArg Value.bool ?_, GxR.keeps_refl _⟩
  refine (PySem.StrLaws.found_one _ c).trans ?_
  have e1 : a.cps.getD i 0 = c := by
    rw [Array.getD_eq_getD_getElem?, hc]
    rfl
  show _ = decide (a.cps.getD i 0 ∈ figs)
  rw [e1]
  have e2 : (("0123456789" : Str).cps.toList : List Nat) = figs := by decide +kernel
  rw [e2]
/-- number is None for a number in a list of ints -/
theorem elt_none {P : Addr} {scope : Scope} {p p2 pos : Pos} {j : Nat} {ns : List Int} (hk : scope.kind = .function) (h2 : scope.names.lookup ("number" : Str) = some NameKind.local) :
    EltG X s P scope "number" (.Compare (.Name "number" p) [.Is] [.Constant .none j p2] pos) (fun i v => ∃ y, (ns.map V.int)[i]? = some y ∧ RelV y v) (fun _ => false) := by
  rintro cenv A' E' i v s₂ m₂ rfl hgl hA hA1 hA2 ⟨y, hy, ry⟩ hn hm hkeep
  refine wpAny_Compare1 (wpAny_Name (wpAny_loadName_local hk h2 hn hm ?_) (by decide)) (by rfl)
  refine Constant_none (is_none_gen ⟨?_, GxR.keeps_refl _⟩)
  rw [List.getElem?_map] at hy
  cases e : ns[i]? with
  | none => rw [e] at hy; cases hy
  | some k =>
    rw [e] at hy
    cases hy
    obtain ⟨t, rfl⟩ := ry
    rfl
end
/-! ### heaps -/
/-- at most the places M are changed, none goes -/
def Chg (M : Addr → Prop) (H H' : Hp) : Prop := (∀ b o, H b = some o → ¬ M b → H' b = some o) ∧ ∀ b, H b ≠ none → H' b ≠ none
theorem Chg.refl {M : Addr → Prop} (H : Hp) : Chg M H H := ⟨fun _ _ e _ => e, fun _ e => e⟩
theorem Chg.trans {M : Addr → Prop} {H H1 H2 : Hp} (a : Chg M H H1) (b : Chg M H1 H2) : Chg M H H2 := ⟨fun c o e hn => b.1 c o (a.1 c o e hn) hn, fun c e => b.2 c (a.2 c e)⟩
theorem Chg.of {M : Addr → Prop} {H H' : Hp} (a : Same H H') : Chg M H H' := ⟨fun c o e _ => a c o e, fun c e z => e (Same.free a z)⟩
theorem Chg.mono {M M' : Addr → Prop} {H H' : Hp} (a : Chg M H H') (h : ∀ b, H b ≠ none → M b → M' b) : Chg M' H H' := ⟨fun c o e hn => a.1 c o e fun z => hn (h c (by rw [e]; simp) z), a.2⟩
theorem Chg.new {M : Addr → Prop} {H H1 : Hp} {p : Addr} {o : HO} (a : Chg M H H1) (h : H1 p = none) : Chg M H (upd H1 p o) := by
  refine ⟨fun b u e hn => ?_, fun b e => ?_⟩
  · have e1 := a.1 b u e hn
    rw [upd_ne (ne_of_none e1 h)]
    exact e1
  · by_cases hb : b = p
    · rw [hb, upd_same]
      simp
    · rw [upd_ne hb]
      exact a.2 b e
theorem Chg.put {M : Addr → Prop} {H H1 : Hp} {p : Addr} {o : HO} (a : Chg M H H1) (h : M p) : Chg M H (upd H1 p o) := by
  refine ⟨fun b u e hn => ?_, fun b e => ?_⟩
  · have hb : b ≠ p := fun z => hn (z ▸ h)
    rw [upd_ne hb]
    exact a.1 b u e hn
  · by_cases hb : b = p
    · rw [hb, upd_same]
      simp
    · rw [upd_ne hb]
      exact a.2 b e
theorem Chg.at {M : Addr → Prop} {H H' : Hp} (a : Chg M H H') {b : Addr} {o : HO} (e : H b = some o) (hn : ¬ M b) : H' b = some o := a.1 b o e hn
theorem Chg.free {M : Addr → Prop} {H H' : Hp} (a : Chg M H H') {b : Addr} (e : H' b = none) : H b = none := by
  cases q : H b with
  | none => rfl
  | some o => exact absurd e (a.2 b (by rw [q]; simp))
theorem Chg.same {M : Addr → Prop} {G H H' : Hp} (a : Chg M H H') (g : Same G H) (h : ∀ b, M b → G b = none) : Same G H' := fun b o e => a.1 b o (g b o e) fun z => by
  rw [h b z] at e
  cases e
theorem Chg.seqL {M : Addr → Prop} {K : PySem.W.Frag} {H H' : Hp} (a : Chg M H H') {p : Addr} {xs : List V} (h : SqL K H p xs) (hn : ¬ M p) : SqL K H' p xs := by
  rcases h with (h | ⟨o, h⟩) | h
  · exact .inl (.inl (a.1 _ _ h hn))
  · exact .inl (.inr ⟨o, a.1 _ _ h hn⟩)
  · exact .inr h
/-- what is new -/
def New (H H' : Hp) : Hp := fun b => match H b with
  | none => H' b
  | some _ => none
theorem new_le {H H' : Hp} : Same (New H H') H' := fun b o e => by
  unfold New at e
  cases q : H b with
  | none => rw [q] at e; exact e
  | some _ => rw [q] at e; cases e
theorem new_at {H H' : Hp} {b : Addr} {o : HO} (h : H b = none) (e : H' b = some o) : New H H' b = some o := by
  unfold New
  rw [h]
  exact e
theorem new_free {H H' : Hp} {b : Addr} (h : H b ≠ none) : New H H' b = none := by
  unfold New
  cases q : H b with
  | none => exact absurd q h
  | some _ => rfl
theorem new_mono {M : Addr → Prop} {H0 H1 H2 H3 : Hp} (a : Chg M H0 H1) (b : Chg M H2 H3) (hM : ∀ c, M c → H1 c ≠ none) : Same (New H1 H2) (New H0 H3) := fun c o e => by
  have e2 := new_le c o e
  have e1 : H1 c = none := by
    cases q : H1 c with
    | none => rfl
    | some _ =>
      rw [new_free (by rw [q]; simp)] at e
      cases e
  exact new_at (a.free e1) (b.at e2 fun z => hM c z e1)
theorem sqT_mono {K : PySem.W.Frag} {H H' : Hp} {a : Addr} {xs : List V} (e : Same H H') (h : SqT K H a xs) : SqT K H' a xs := by
  rcases h with (h | ⟨o, h⟩) | h
  · exact .inl (.inl (e _ _ h))
  · exact .inl (.inr ⟨o, e _ _ h⟩)
  · exact .inr h
mutual
theorem dp_mono {K : PySem.W.Frag} {H H' : Hp} (e : Same H H') : ∀ {v : V} {d : PyData}, Dp K H v d → Dp K H' v d
  | _, _, .non => .non
  | _, _, .bl b => .bl b
  | _, _, .int i => .int i
  | _, _, .str x => .str x
  | _, _, .lst h1 h2 => .lst (e.seq h1) (dpAll_mono e h2)
  | _, _, .tup h1 h2 => .tup (sqT_mono e h1) (dpAll_mono e h2)
theorem dpAll_mono {K : PySem.W.Frag} {H H' : Hp} (e : Same H H') : ∀ {vs : List V} {ds : List PyData}, DpAll K H vs ds → DpAll K H' vs ds
  | _, _, .nil => .nil
  | _, _, .cons h1 h2 => .cons (dp_mono e h1) (dpAll_mono e h2)
end
theorem dpAll_len {K : PySem.W.Frag} {H : Hp} : ∀ {vs : List V} {ds : List PyData}, DpAll K H vs ds → vs.length = ds.length
  | _, _, .nil => rfl
  | _, _, .cons _ h2 => congrArg (· + 1) (dpAll_len h2)
theorem dpAll_app {K : PySem.W.Frag} {H : Hp} : ∀ {vs : List V} {ds : List PyData} {vs' : List V} {ds' : List PyData}, DpAll K H vs ds → DpAll K H vs' ds' → DpAll K H (vs ++ vs') (ds ++ ds')
  | _, _, _, _, .nil, h => h
  | _, _, _, _, .cons h1 h2, h => .cons h1 (dpAll_app h2 h)
theorem dpAll_drop {K : PySem.W.Frag} {H : Hp} : ∀ {vs : List V} {ds : List PyData} (n : Nat), DpAll K H vs ds → DpAll K H (vs.drop n) (ds.drop n)
  | _, _, 0, h => h
  | _, _, _ + 1, .nil => .nil
  | _, _, n + 1, .cons _ h2 => dpAll_drop n h2
theorem dpAll_take {K : PySem.W.Frag} {H : Hp} : ∀ {vs : List V} {ds : List PyData} (n : Nat), DpAll K H vs ds → DpAll K H (vs.take n) (ds.take n)
  | _, _, 0, _ => .nil
  | _, _, _ + 1, .nil => .nil
  | _, _, n + 1, .cons h1 h2 => .cons h1 (dpAll_take n h2)
theorem dpAll_ints {K : PySem.W.Frag} {H : Hp} : ∀ (ns : List Int), DpAll K H (ns.map V.int) (ns.map PyData.int)
  | [] => .nil
  | n :: ns => .cons (.int n) (dpAll_ints ns)
theorem dp_tup {K : PySem.W.Frag} {H : Hp} {v : V} {ds : List PyData} (h : Dp K H v (.tuple ds)) : ∃ a xs, v = .ref a ∧ SqT K H a xs ∧ DpAll K H xs ds := by
  cases h with
  | tup h1 h2 => exact ⟨_, _, rfl, h1, h2⟩
theorem dp_q {K : PySem.W.Frag} {H : Hp} {v : V} {q : Q2} (h : Dp K H v (qD q)) : ∃ a, v = .ref a ∧ SqT K H a [.int q.1, .int q.2] := by
  obtain ⟨a, xs, e, h1, h2⟩ := dp_tup h
  cases h2 with
  | cons a1 a2 =>
    cases a1
    cases a2 with
    | cons b1 b2 =>
      cases b1
      cases b2
      exact ⟨a, e, h1⟩
theorem dp_qi {K : PySem.W.Frag} {H : Hp} {a : Addr} {q : Q2} (h : SqT K H a [.int q.1, .int q.2]) : Dp K H (.ref a) (qD q) := .tup h (.cons (.int _) (.cons (.int _) .nil))
theorem zero_dp {K : PySem.W.Frag} {mg : Str → Option Value} {H : Hp} (T : TX K mg) : Dp K H (.ref (He.ga K "ZERO")) (qD (0, 1)) := dp_qi (sqT_mono (fun _ _ e => by cases e) T.zero)
/-! ### defs whose code object is known -/
theorem Cal.ofT {P : Program} {w : World} {K : PySem.W.Frag} {mg : Str → Option Value} {base : Heap} (T : TX K mg) {x : Str} {i k : Nat} {N ps : List Str} {sp : Sp} (hx : ((x, i) : Str × Nat) ∈ gNames) (S : FnScope N ps (defScope (top i))) (bb : BindF x x (top i) ps) (len : ∀ vs H Q E, sp vs H Q E → vs.length = ps.length)
    (hbody : ∀ (A : Around) (outer : List Env) (s : Shared) (H : Hp) (vs : List V) (Q : VK) (E : XK), Room k (A.deeper (envOfC x (defScope (top i)) s.heap.objs.size (He.ga K x) (.ref (He.codeOf K (x, none))))) → sp vs H Q E →
      ∃ t, PSs (cxOf CX0 P w K mg base N x (defScope (top i)) (He.ga K x) (.ref (He.codeOf K (x, none))) A outer s H E).nox (defBody (top i)) t ∧ t { nx := fun _ H' => Q .non H', rt := Q } (start N vs) H) : Cal P w K mg base CX0 (k + 1) x ps sp := by
  obtain ⟨fd, F⟩ := T.df hx
  refine ⟨⟨fd, ?_, F.bindsN bb⟩, T.gd hx, F.kp⟩
  obtain ⟨oc, od, dV, kV, doc, pm, an, cdv, ct, osl, rfl, lk, hcd, _, _⟩ := F.ex
  obtain ⟨c, rfl⟩ := He.codeIn_ref hcd
  have ec : He.codeOf K (x, none) = c := He.codeOf_eq (p := (x, none)) lk rfl
  refine fn_of lk hcd S len fun A outer s H vs Q E hr hsp => ?_
  rw [← ec] at hr ⊢
  obtain ⟨t, h1, h2⟩ := hbody A outer s H vs Q E hr hsp
  exact ⟨t, h1.nox, h2⟩
/-- the tables of the three defs -/
abbrev cod (K : PySem.W.Frag) (x : Str) : Addr := He.codeOf K (x, none)
abbrev tab (K : PySem.W.Frag) (x : Str) : Addr := He.tabOf K (cod K x)
structure BX (K : PySem.W.Frag) (mg : Str → Option Value) (base : Heap) : Prop where
  n : GxR.TabB base mg (cod K "natural_of") (tab K "natural_of")
  f : GxR.TabB base mg (cod K "fraction_of") (tab K "fraction_of")
  p : GxR.TabB base mg (cod K "parse_train") (tab K "parse_train")
/-- the tables stand -/
structure Tbs (K : PySem.W.Frag) (H : Hp) : Prop where
  n : GxR.TabG H (tab K "natural_of")
  f : GxR.TabG H (tab K "fraction_of")
  p : GxR.TabG H (tab K "parse_train")
def IsT (K : PySem.W.Frag) (b : Addr) : Prop := b = tab K "natural_of" ∨ b = tab K "fraction_of" ∨ b = tab K "parse_train"
theorem tabG_any {H H' : Hp} {P P' : Addr} (h : GxR.Tabbed P H H') (g : GxR.TabG H P') : GxR.TabG H' P' := by
  by_cases e : P' = P
  · rw [e]
    exact h.1
  · obtain ⟨ps, h1, h2⟩ := g
    exact ⟨ps, (h.2 P' e).trans h1, h2⟩
theorem Tbs.tabbed {K : PySem.W.Frag} {H H' : Hp} {P : Addr} (g : Tbs K H) (h : GxR.Tabbed P H H') : Tbs K H' := ⟨tabG_any h g.n, tabG_any h g.f, tabG_any h g.p⟩
theorem chg_tabbed {K : PySem.W.Frag} {H H' : Hp} {P : Addr} (hP : IsT K P) (h : GxR.Tabbed P H H') : Chg (IsT K) H H' := by
  refine ⟨fun b o e hn => ?_, fun b e => ?_⟩
  · have hb : b ≠ P := fun z => hn (z ▸ hP)
    rw [h.2 b hb]
    exact e
  · by_cases hb : b = P
    · obtain ⟨ps, h1, _⟩ := h.1
      rw [hb, h1]
      simp
    · rw [h.2 b hb]
      exact e
theorem Tbs.chg {K : PySem.W.Frag} {H H' : Hp} {M : Addr → Prop} (g : Tbs K H) (h : Chg M H H') (hM : ∀ b ps, M b → H b ≠ some (.tbl ps)) : Tbs K H' := by
  obtain ⟨⟨p1, a1, b1⟩, ⟨p2, a2, b2⟩, ⟨p3, a3, b3⟩⟩ := g
  exact ⟨⟨p1, h.1 _ _ a1 fun z => hM _ _ z a1, b1⟩, ⟨p2, h.1 _ _ a2 fun z => hM _ _ z a2, b2⟩, ⟨p3, h.1 _ _ a3 fun z => hM _ _ z a3, b3⟩⟩
theorem Tbs.same {K : PySem.W.Frag} {H H' : Hp} (g : Tbs K H) (h : Same H H') : Tbs K H' := g.chg (M := fun _ => False) (Chg.of h) fun _ _ z => z.elim
end RT
end
section
set_option Elab.async false
set_option linter.all false
set_option maxRecDepth 100000
set_option maxHeartbeats 2000000
/-! Y1: fractions, texts of elements. -/
namespace RT
open PySem PySem.Spec PyProof.Rows L2
theorem same_new {H : Hp} {p : Addr} {o : HO} (h : H p = none) : Same H (upd H p o) := fun b x e => by
  rw [upd_ne (ne_of_none e h)]
  exact e
theorem abs_nat (i : Int) : (if i < 0 then -i else i) = (i.natAbs : Int) := by split <;> omega
section
variable {P : Program} {w : World} {K : PySem.W.Frag} {mg : Str → Option Value} {base : Heap}
/-! ### common_divisor, fraction -/
def spGcd : Sp := fun vs H Q _ => ∃ a b : Int, vs = [.int a, .int b] ∧ Q (.int (Int.gcd a b : Nat)) H
theorem ok_gcd (T : TX K mg) : Cal P w K mg base CX0 1 "common_divisor" ["first", "second"] spGcd := by
  refine Cal.of T in_common_divisor sc_common_divisor bd_common_divisor (fun vs H Q E h => ?_) (fun cdv A outer s H vs Q E hr h => ?_)
  · obtain ⟨a, b, rfl, _⟩ := h
    rfl
  · obtain ⟨a, b, rfl, q⟩ := h
    refine ⟨_, pss_cons (ps_set (i := 2) sc_common_divisor.nd rfl (.inl rfl) (pe_callB call_abs (by rfl) (T.fr (by decide +kernel)) (by decide +kernel) (pa_cons (pv 0) pa_nil)))
      (pss_cons (ps_set (i := 3) sc_common_divisor.nd rfl (.inl rfl) (pe_callB call_abs (by rfl) (T.fr (by decide +kernel)) (by decide +kernel) (pa_cons (pv 1) pa_nil)))
      (pss_cons (ps_while PassesOwn.never (pt_cmpR op_gt (pv 3) pe_int (nomark _)) (pss_one (ps_par (i := 2) (j := 3) rfl sc_common_divisor.nd rfl rfl (by decide) rfl rfl (pa_cons (pv 3) (pa_cons (pe_op op_modN (pv 2) (pv 3)) pa_nil)) (by rfl))))
      (pss_one (ps_ret (pv 2))))), ?_⟩
    refine ⟨_, rfl, a, rfl, _, rfl, b, rfl, ?_⟩
    rw [abs_nat, abs_nat]
    refine ⟨fun m σ H' => ∃ p r : Nat, σ = [some (.int a), some (.int b), some (.int p), some (.int r)] ∧ Int.gcd p r = Int.gcd a b ∧ m = r ∧ H' = H, ⟨b.natAbs, a.natAbs, b.natAbs, rfl, by rw [Int.gcd_natCast_natCast] <;> rfl, rfl, rfl⟩, ?_⟩
    rintro m σ H' ⟨p, r, rfl, hg, rfl, rfl⟩
    refine ⟨_, rfl, _, _, rfl, rfl, _, rfl, ?_⟩
    by_cases hr0 : m = 0
    · have e : decide ((m : Int) > 0) = false := decide_eq_false (by omega)
      rw [e]
      refine iteF ⟨_, rfl, ?_⟩
      have e2 : ((Int.gcd a b : Nat) : Int) = (p : Int) := by
        rw [← hg, hr0]
        simp
      rw [e2] at q
      exact q
    · have e : decide ((m : Int) > 0) = true := decide_eq_true (by omega)
      rw [e]
      refine iteT ⟨fun σ' H2 => ∃ p r : Nat, σ' = [some (.int a), some (.int b), some (.int p), some (.int r)] ∧ Int.gcd p r = Int.gcd a b ∧ r < m ∧ H2 = H', fun σ' H2 ⟨p', r', e1, e2, e3, e4⟩ => ⟨r', e3, p', r', e1, e2, rfl, e4⟩, ?_⟩
      refine ⟨_, rfl, _, rfl, _, rfl, _, _, rfl, rfl, (by omega), _, _, rfl, ?_⟩
      have em : (p : Int).fmod (m : Int) = ((p % m : Nat) : Int) := by
        rw [Int.fmod_eq_emod_of_nonneg _ (Int.natCast_nonneg m)]
        exact (Int.natCast_emod p m).symm
      refine ⟨m, p % m, ?_, ?_, Nat.mod_lt _ (by omega), rfl⟩
      · rw [← em] <;> rfl
      · rw [← em, gcd_step, hg]
def spFrac : Sp := fun vs H Q _ => ∃ a b : Int, vs = [.int a, .int b] ∧ 0 < b ∧ b < 1000000 ∧ ∀ p, H p = none → Q (.ref p) (upd H p (.tup [.int (fracQ a b).1, .int (fracQ a b).2]))
theorem fracQ_pos {a b : Int} (hb : 0 < b) : fracQ a b = (a.fdiv ((Int.gcd a b : Nat) : Int), b.fdiv ((Int.gcd a b : Nat) : Int)) := by
  unfold fracQ
  rw [if_neg (by omega)]
theorem ok_frac (T : TX K mg) : Cal P w K mg base CX0 2 "fraction" ["numerator", "denominator"] spFrac := by
  obtain ⟨fd, F⟩ := T.dfrac
  have G : ∀ {P w base}, Cal P w K mg base CX0 1 "common_divisor" ["first", "second"] spGcd := ok_gcd T
  refine ⟨⟨fd, F.ok sc_fraction (fun vs H Q E h => ?_) (fun cdv A outer s H vs Q E hr h => ?_), binds_frac F⟩, T.glo_ (in1 (by decide +kernel)), F.kp⟩
  · obtain ⟨a, b, rfl, _⟩ := h
    rfl
  · obtain ⟨a, b, rfl, hb, hb2, q⟩ := h
    obtain ⟨g0, g1⟩ := gcd_small (a := a) hb hb2
    refine ⟨_, PSs.nox (pss_cons (ps_set (i := 2) sc_fraction.nd rfl (.inl rfl) (pe_cal G hr pass0 (pa_cons (pv 0) (pa_cons (pv 1) pa_nil))))
      (pss_cons (ps_if (pt_cmpR op_lt (pv 1) pe_int (nomark _)) pss_never pss_nil)
      (pss_one (ps_ret (pe_tup (pa_cons (pe_op op_fdivN (pv 0) (pv 2)) (pa_cons (pe_op op_fdivN (pv 1) (pv 2)) pa_nil))))))), ?_⟩
    refine ⟨_, rfl, _, rfl, a, b, rfl, ?_⟩
    refine ⟨_, rfl, _, _, rfl, rfl, _, rfl, ?_⟩
    have e : decide (b < 0) = false := decide_eq_false (by omega)
    rw [e]
    refine iteF ?_
    refine ⟨_, rfl, _, rfl, _, _, rfl, rfl, ⟨g0, g1⟩, _, rfl, _, rfl, _, _, rfl, rfl, ⟨g0, g1⟩, (by show 2 ≤ sizeLine; decide), fun p hp => ?_⟩
    have z := q p hp
    rw [fracQ_pos hb] at z
    exact z
/-! ### format_fraction, format_element, format_train -/
theorem okq {q : Q2} (h : q ∈ goodQs) : 1 ≤ q.2 ∧ q.2 ≤ 1000 ∧ q.1.natAbs ≤ 1000 ∧ (fmtQ q).length ≤ 9 ∧ 1 ≤ (fmtQ q).length := by
  have z := okQ_all q h
  unfold okQ at z
  simp only [Bool.and_eq_true, decide_eq_true_eq] at z
  exact ⟨z.1.1.1.1.1.1.1.1.1.1, z.1.1.1.1.1.1.1.1.1.2, z.1.1.1.1.1.1.1.1.2, z.1.1.1.1.1.1.2, z.1.1.1.1.1.2⟩
theorem log_small {i : Int} (h : i.natAbs ≤ 1000) : i.natAbs.log2 < 1920 := by
  by_cases h0 : i.natAbs = 0
  · rw [h0]
    decide
  · refine (Nat.log2_lt h0).mpr (Nat.lt_of_le_of_lt h ?_)
    exact Nat.lt_of_lt_of_le (by decide : 1000 < 2 ^ 10) (Nat.pow_le_pow_right (by decide) (by decide))
def spFmtQ (K : PySem.W.Frag) : Sp := fun vs H Q _ => ∃ (v : V) (q : Q2), vs = [v] ∧ Dp K H v (qD q) ∧ q ∈ goodQs ∧ Q (.str (fmtQ q)) H
theorem ok_fmtQ (T : TX K mg) : Cal P w K mg base CX0 1 "format_fraction" ["value"] (spFmtQ K) := by
  refine Cal.of T in_format_fraction sc_format_fraction bd_format_fraction (fun vs H Q E h => ?_) (fun cdv A outer s H vs Q E hr h => ?_)
  · obtain ⟨a, b, rfl, _⟩ := h
    rfl
  · obtain ⟨v, q, rfl, hd, hq, k⟩ := h
    obtain ⟨a, rfl, ha⟩ := dp_q hd
    obtain ⟨g1, g2, g3, g4, g5⟩ := okq hq
    have mstr : mg "str" = none := T.fr (by decide +kernel)
    refine ⟨_, pss_cons (ps_if (pt_cmpR op_eq (pe_ix ix_tup (pv 0) pe_int (fun _ _ => rfl)) pe_int (nomark _)) (pss_one (ps_ret (pe_callTy call_str_int (by rfl) mstr (by decide +kernel) (pa_cons (pe_ix ix_tup (pv 0) pe_int (fun _ _ => rfl)) pa_nil)))) pss_nil)
      (pss_one (ps_ret (pe_op op_add_str (pe_op op_add_str (pe_callTy call_str_int (by rfl) mstr (by decide +kernel) (pa_cons (pe_ix ix_tup (pv 0) pe_int (fun _ _ => rfl)) pa_nil)) pe_str) (pe_callTy call_str_int (by rfl) mstr (by decide +kernel) (pa_cons (pe_ix ix_tup (pv 0) pe_int (fun _ _ => rfl)) pa_nil))))), ?_⟩
    refine ⟨_, rfl, a, _, _, _, rfl, rfl, ha, rfl, rfl, _, rfl, ?_⟩
    by_cases h1 : q.2 = 1
    · have e : fmtQ q = toString q.1 := if_pos h1
      rw [e] at k
      rw [decide_eq_true (congrArg V.int h1)]
      exact iteT ⟨_, rfl, a, _, _, _, rfl, rfl, ha, rfl, q.1, rfl, log_small g3, k⟩
    · have e : fmtQ q = (toString q.1 : Str) ++ ("/" : Str) ++ (toString q.2 : Str) := if_neg h1
      rw [decide_eq_false (fun z : V.int q.2 = V.int 1 => h1 (V.int.inj z))]
      have hz : (toString q.1 : Str).length + ("/" : Str).length + (toString q.2 : Str).length ≤ sizeLine := by
        rw [← strLen_append, ← strLen_append, ← e]
        exact Nat.le_trans g4 (by decide)
      rw [e] at k
      refine iteF ⟨_, rfl, a, _, _, _, rfl, rfl, ha, rfl, q.1, rfl, log_small g3, _, _, rfl, rfl, by omega, _, rfl, a, _, _, _, rfl, rfl, ha, rfl, q.2, rfl, log_small (by omega), _, _, rfl, rfl, ?_, k⟩
      rw [strLen_append]
      exact hz
def spFmtE (K : PySem.W.Frag) : Sp := fun vs H Q _ => ∃ (v : V) (e : El), vs = [v] ∧ Dp K H v (elD e) ∧ GoodEl e ∧ ∀ H', Same H H' → Q (.str (fmtEl e)) H'
theorem len_le9 {q : Q2} (h : q ∈ goodQs) : (fmtQ q).length ≤ 9 := (okq h).2.2.2.1
theorem words_small {e : El} (g : GoodEl e) : ((wordsEl e).map (·.length)).sum + (wordsEl e).length * (" " : Str).length ≤ 16777216 := by
  have h1 : (" " : Str).length = 1 := rfl
  have w1 : ("gap" : Str).length = 3 := rfl
  have w2 : ("lens" : Str).length = 4 := rfl
  have w3 : ("prism" : Str).length = 5 := rfl
  have w4 : ("afocal" : Str).length = 6 := rfl
  have w5 : ("stop" : Str).length = 4 := rfl
  have w6 : ("from" : Str).length = 4 := rfl
  have w7 : ("to" : Str).length = 2 := rfl
  have w8 : ("at" : Str).length = 2 := rfl
  cases e with
  | gap q =>
    have := len_le9 (lo_good g)
    simp only [wordsEl, List.map_cons, List.map_nil, List.sum_cons, List.sum_nil, List.length_cons, List.length_nil, h1, w1]
    omega
  | prism q =>
    have := len_le9 (lo_good g)
    simp only [wordsEl, List.map_cons, List.map_nil, List.sum_cons, List.sum_nil, List.length_cons, List.length_nil, h1, w3]
    omega
  | afocal q =>
    have := len_le9 (lo_good g.1)
    simp only [wordsEl, List.map_cons, List.map_nil, List.sum_cons, List.sum_nil, List.length_cons, List.length_nil, h1, w4]
    omega
  | lens p c =>
    have := len_le9 (lo_good g.1)
    have := len_le9 (lo_good g.2)
    simp only [wordsEl]
    split <;> simp only [List.map_cons, List.map_nil, List.sum_cons, List.sum_nil, List.length_cons, List.length_nil, h1, w2, w8] <;> omega
  | stop l u =>
    cases l with
    | none =>
      cases u with
      | none => exact g.elim
      | some u =>
        have := len_le9 (up_good g)
        simp only [wordsEl, stopW, List.map_cons, List.map_nil, List.sum_cons, List.sum_nil, List.length_cons, List.length_nil, h1, w5, w7]
        omega
    | some l =>
      cases u with
      | none =>
        have := len_le9 (lo_good g)
        simp only [wordsEl, stopW, List.map_cons, List.map_nil, List.sum_cons, List.sum_nil, List.length_cons, List.length_nil, h1, w5, w6]
        omega
      | some u =>
        have := len_le9 (lo_good g.1)
        have := len_le9 (up_good g.2.1)
        simp only [wordsEl, stopW, List.map_cons, List.map_nil, List.sum_cons, List.sum_nil, List.length_cons, List.length_nil, h1, w5, w6, w7]
        omega
theorem dp_str {K : PySem.W.Frag} {H : Hp} {v : V} {x : Str} (h : Dp K H v (.str x)) : v = .str x := by
  cases h
  rfl
theorem dp_int {K : PySem.W.Frag} {H : Hp} {v : V} {i : Int} (h : Dp K H v (.int i)) : v = .int i := by
  cases h
  rfl
theorem dp_non {K : PySem.W.Frag} {H : Hp} {v : V} (h : Dp K H v .none) : v = .non := by
  cases h
  rfl
theorem dp_tup2 {K : PySem.W.Frag} {H : Hp} {v : V} {w : Str} {d2 : PyData} (h : Dp K H v (.tuple [.str w, d2])) : ∃ a v2, v = .ref a ∧ SqT K H a [.str w, v2] ∧ Dp K H v2 d2 := by
  obtain ⟨a, xs, e, h1, h2⟩ := dp_tup h
  cases h2 with
  | cons a1 a2 =>
    cases a2 with
    | cons b1 b2 =>
      cases b2
      cases dp_str a1
      exact ⟨a, _, e, h1, b1⟩
theorem dp_tup3 {K : PySem.W.Frag} {H : Hp} {v : V} {w : Str} {d2 d3 : PyData} (h : Dp K H v (.tuple [.str w, d2, d3])) : ∃ a v2 v3, v = .ref a ∧ SqT K H a [.str w, v2, v3] ∧ Dp K H v2 d2 ∧ Dp K H v3 d3 := by
  obtain ⟨a, xs, e, h1, h2⟩ := dp_tup h
  cases h2 with
  | cons a1 a2 =>
    cases a2 with
    | cons b1 b2 =>
      cases b2 with
      | cons c1 c2 =>
        cases c2
        cases dp_str a1
        exact ⟨a, _, _, e, h1, b1, c1⟩
theorem upd_upd {H : Hp} {p : Addr} {o o' : HO} : upd (upd H p o) p o' = upd H p o' := by
  funext b
  by_cases h : b = p
  · rw [h, upd_same, upd_same]
  · rw [upd_ne h, upd_ne h, upd_ne h]
theorem ok_fmtE (T : TX K mg) : Cal P w K mg base CX0 2 "format_element" ["element"] (spFmtE K) := by
  have G : ∀ {P w base}, Cal P w K mg base CX0 1 "format_fraction" ["value"] (spFmtQ K) := ok_fmtQ T
  refine Cal.of T in_format_element sc_format_element bd_format_element (fun vs H Q E h => ?_) (fun cdv A outer s H vs Q E hr h => ?_)
  · obtain ⟨a, b, rfl, _⟩ := h
    rfl
  · obtain ⟨v, e, rfl, hd, hg, k⟩ := h
    have gZ := T.glo_ (in1 (x := "ZERO") (by decide +kernel))
    refine ⟨_, pss_cons (ps_set (i := 1) sc_format_element.nd rfl (.inl rfl) (pe_lst (pa_cons (pe_ix ix_tup (pv 0) pe_int (fun _ _ => rfl)) pa_nil)))
      (pss_cons (ps_if (pt_cmpR op_eq (pe_ix ix_tup (pv 0) pe_int (fun _ _ => rfl)) pe_str (nomark _))
        (pss_cons (ps_if (pt_cmp (pc_notN (pe_ix ix_tup (pv 0) pe_int (fun _ _ => rfl)))) (pss_one (ps_set (i := 1) sc_format_element.nd rfl (.inl rfl) (pe_op op_cat (pv 1) (pe_lst (pa_cons pe_str (pa_cons (pe_cal G hr pass0 (pa_cons (pe_ix ix_tup (pv 0) pe_int (fun _ _ => rfl)) pa_nil)) pa_nil)))))) pss_nil)
        (pss_cons (ps_if (pt_cmp (pc_notN (pe_ix ix_tup (pv 0) pe_int (fun _ _ => rfl)))) (pss_one (ps_set (i := 1) sc_format_element.nd rfl (.inl rfl) (pe_op op_cat (pv 1) (pe_lst (pa_cons pe_str (pa_cons (pe_cal G hr pass0 (pa_cons (pe_ix ix_tup (pv 0) pe_int (fun _ _ => rfl)) pa_nil)) pa_nil)))))) pss_nil)
        (pss_one (ps_ret (pe_join pe_str (pv 1))))))
        pss_nil)
      (pss_cons (ps_expr (pe_bm PySem.F.plainAttrs_list PySem.F.slot_list_append PySem.F.type_list_append mt_append (pv 1) (pa_cons (pe_cal G hr pass0 (pa_cons (pe_ix ix_tup (pv 0) pe_int (fun _ _ => rfl)) pa_nil)) pa_nil)))
      (pss_cons (ps_if (PW.pt (pw_and (pt_cmpR op_eq (pe_ix ix_tup (pv 0) pe_int (fun _ _ => rfl)) pe_str (nomark _)) (pw_and1 (pt_cmpR (op_neD hr.units) (pe_ix ix_tup (pv 0) pe_int (fun _ _ => rfl)) (pe_glob (v := .ref (He.ga K "ZERO")) rfl gZ rfl) (nomark _)))))
        (pss_one (ps_set (i := 1) sc_format_element.nd rfl (.inl rfl) (pe_op op_cat (pv 1) (pe_lst (pa_cons pe_str (pa_cons (pe_cal G hr pass0 (pa_cons (pe_ix ix_tup (pv 0) pe_int (fun _ _ => rfl)) pa_nil)) pa_nil)))))) pss_nil)
      (pss_one (ps_ret (pe_join pe_str (pv 1))))))), ?_⟩
    have hw := words_small hg
    have l1 : ∀ z : V, [z].length ≤ sizeLine := fun z => by show 1 ≤ sizeLine; decide
    have l2 : ∀ z y : V, [z, y].length ≤ sizeLine := fun z y => by show 2 ≤ sizeLine; decide
    cases e with
    | gap q =>
      obtain ⟨a, v2, rfl, ha, h2⟩ := dp_tup2 hd
      refine ⟨_, rfl, a, _, _, _, rfl, rfl, ha, rfl, l1 _, fun l nl => ?_⟩
      have s1 : Same H (upd H l (.lst [.str "gap"])) := same_new nl
      refine ⟨_, rfl, a, _, _, _, rfl, rfl, sqT_mono s1 ha, rfl, rfl, _, rfl, ?_⟩
      rw [show decide (V.str "gap" = V.str "stop") = false by decide +kernel]
      refine iteF ⟨.ref l, rfl, .inl ⟨rfl, _, .inl (.inl upd_same)⟩, _, rfl, a, _, _, _, rfl, rfl, sqT_mono s1 ha, rfl, v2, q, rfl, dp_mono s1 h2, lo_good hg, l, _, _, rfl, rfl, upd_same, by show 1 < sizeLine; decide, ?_⟩
      rw [upd_upd]
      have s2 : Same H (upd H l (.lst ([.str "gap"] ++ [.str (fmtQ q)]))) := same_new nl
      refine ⟨_, rfl, a, _, _, _, rfl, rfl, sqT_mono s2 ha, rfl, rfl, _, rfl, ?_⟩
      rw [show decide (V.str "gap" = V.str "lens") = false by decide +kernel]
      refine iteF (iteF ?_)
      exact ⟨⟨_, rfl⟩, _, rfl, " ", l, wordsEl (.gap q), rfl, rfl, .inl (.inl (.inl upd_same)), hw, k _ s2⟩
    | prism q =>
      obtain ⟨a, v2, rfl, ha, h2⟩ := dp_tup2 hd
      refine ⟨_, rfl, a, _, _, _, rfl, rfl, ha, rfl, l1 _, fun l nl => ?_⟩
      have s1 : Same H (upd H l (.lst [.str "prism"])) := same_new nl
      refine ⟨_, rfl, a, _, _, _, rfl, rfl, sqT_mono s1 ha, rfl, rfl, _, rfl, ?_⟩
      rw [show decide (V.str "prism" = V.str "stop") = false by decide +kernel]
      refine iteF ⟨.ref l, rfl, .inl ⟨rfl, _, .inl (.inl upd_same)⟩, _, rfl, a, _, _, _, rfl, rfl, sqT_mono s1 ha, rfl, v2, q, rfl, dp_mono s1 h2, lo_good hg, l, _, _, rfl, rfl, upd_same, by show 1 < sizeLine; decide, ?_⟩
      rw [upd_upd]
      have s2 : Same H (upd H l (.lst ([.str "prism"] ++ [.str (fmtQ q)]))) := same_new nl
      refine ⟨_, rfl, a, _, _, _, rfl, rfl, sqT_mono s2 ha, rfl, rfl, _, rfl, ?_⟩
      rw [show decide (V.str "prism" = V.str "lens") = false by decide +kernel]
      refine iteF (iteF ?_)
      exact ⟨⟨_, rfl⟩, _, rfl, " ", l, wordsEl (.prism q), rfl, rfl, .inl (.inl (.inl upd_same)), hw, k _ s2⟩
    | afocal q =>
      obtain ⟨a, v2, rfl, ha, h2⟩ := dp_tup2 hd
      refine ⟨_, rfl, a, _, _, _, rfl, rfl, ha, rfl, l1 _, fun l nl => ?_⟩
      have s1 : Same H (upd H l (.lst [.str "afocal"])) := same_new nl
      refine ⟨_, rfl, a, _, _, _, rfl, rfl, sqT_mono s1 ha, rfl, rfl, _, rfl, ?_⟩
      rw [show decide (V.str "afocal" = V.str "stop") = false by decide +kernel]
      refine iteF ⟨.ref l, rfl, .inl ⟨rfl, _, .inl (.inl upd_same)⟩, _, rfl, a, _, _, _, rfl, rfl, sqT_mono s1 ha, rfl, v2, q, rfl, dp_mono s1 h2, lo_good hg.1, l, _, _, rfl, rfl, upd_same, by show 1 < sizeLine; decide, ?_⟩
      rw [upd_upd]
      have s2 : Same H (upd H l (.lst ([.str "afocal"] ++ [.str (fmtQ q)]))) := same_new nl
      refine ⟨_, rfl, a, _, _, _, rfl, rfl, sqT_mono s2 ha, rfl, rfl, _, rfl, ?_⟩
      rw [show decide (V.str "afocal" = V.str "lens") = false by decide +kernel]
      refine iteF (iteF ?_)
      exact ⟨⟨_, rfl⟩, _, rfl, " ", l, wordsEl (.afocal q), rfl, rfl, .inl (.inl (.inl upd_same)), hw, k _ s2⟩
    | lens p c =>
      obtain ⟨a, v2, v3, rfl, ha, h2, h3⟩ := dp_tup3 hd
      refine ⟨_, rfl, a, _, _, _, rfl, rfl, ha, rfl, l1 _, fun l nl => ?_⟩
      have s1 : Same H (upd H l (.lst [.str "lens"])) := same_new nl
      refine ⟨_, rfl, a, _, _, _, rfl, rfl, sqT_mono s1 ha, rfl, rfl, _, rfl, ?_⟩
      rw [show decide (V.str "lens" = V.str "stop") = false by decide +kernel]
      refine iteF ⟨.ref l, rfl, .inl ⟨rfl, _, .inl (.inl upd_same)⟩, _, rfl, a, _, _, _, rfl, rfl, sqT_mono s1 ha, rfl, v2, p, rfl, dp_mono s1 h2, lo_good hg.1, l, _, _, rfl, rfl, upd_same, by show 1 < sizeLine; decide, ?_⟩
      rw [upd_upd]
      have s2 : Same H (upd H l (.lst ([.str "lens"] ++ [.str (fmtQ p)]))) := same_new nl
      refine ⟨_, rfl, a, _, _, _, rfl, rfl, sqT_mono s2 ha, rfl, rfl, _, rfl, ?_⟩
      rw [show decide (V.str "lens" = V.str "lens") = true by decide +kernel]
      refine iteT ⟨_, rfl, a, _, _, _, rfl, rfl, sqT_mono s2 ha, rfl, qD c, qD (0, 1), dp_mono s2 h3, zero_dp T, shq _, shq _, _, rfl, ?_⟩
      rw [eqv_q]
      by_cases hc : c = (0, 1)
      · rw [decide_eq_true hc]
        refine iteF ?_
        have ew : wordsEl (.lens p c) = (["lens", fmtQ p] : List Str) := if_pos hc
        exact ⟨⟨_, rfl⟩, _, rfl, " ", l, wordsEl (.lens p c), rfl, rfl, .inl (.inl (.inl (by rw [ew]; exact upd_same))), hw, k _ s2⟩
      · rw [decide_eq_false hc]
        refine iteT ⟨_, rfl, _, rfl, a, _, _, _, rfl, rfl, sqT_mono s2 ha, rfl, v3, c, rfl, dp_mono s2 h3, lo_good hg.2, l2 _ _, fun f nf => ?_⟩
        have nlf : l ≠ f := fun z => by
          rw [← z, upd_same] at nf
          cases nf
        refine ⟨l, f, _, _, rfl, rfl, (by rw [upd_ne nlf]; exact upd_same), upd_same, (by show 4 ≤ sizeLine; decide), fun g ng => ?_⟩
        have ew : wordsEl (.lens p c) = (["lens", fmtQ p, "at", fmtQ c] : List Str) := if_neg hc
        exact ⟨⟨_, rfl⟩, _, rfl, " ", g, wordsEl (.lens p c), rfl, rfl, .inl (.inl (.inl (by rw [ew]; exact upd_same))), hw, k _ (s2.trans ((same_new nf).trans (same_new ng)))⟩
    | stop lo up =>
      obtain ⟨a, v2, v3, rfl, ha, h2, h3⟩ := dp_tup3 hd
      refine ⟨_, rfl, a, _, _, _, rfl, rfl, ha, rfl, l1 _, fun l nl => ?_⟩
      have s1 : Same H (upd H l (.lst [.str "stop"])) := same_new nl
      refine ⟨_, rfl, a, _, _, _, rfl, rfl, sqT_mono s1 ha, rfl, rfl, _, rfl, ?_⟩
      rw [show decide (V.str "stop" = V.str "stop") = true by decide +kernel]
      refine iteT ⟨_, rfl, a, _, _, _, rfl, rfl, sqT_mono s1 ha, rfl, _, rfl, ?_⟩
      have nn : (!decide (V.non = V.non)) = false := rfl
      have rn : ∀ b : Addr, (!decide (V.ref b = V.non)) = true := fun b => by rw [decide_eq_false (fun z => by cases z)] <;> rfl
      cases lo with
      | none =>
        cases up with
        | none => exact hg.elim
        | some u =>
          cases dp_non h2
          obtain ⟨b3, rfl, hb3⟩ := dp_q h3
          rw [nn]
          refine iteF ⟨_, rfl, a, _, _, _, rfl, rfl, sqT_mono s1 ha, rfl, _, rfl, ?_⟩
          rw [rn]
          refine iteT ⟨_, rfl, _, rfl, a, _, _, _, rfl, rfl, sqT_mono s1 ha, rfl, _, u, rfl, dp_mono s1 h3, up_good hg, l2 _ _, fun f nf => ?_⟩
          have nlf : l ≠ f := fun z => by
            rw [← z, upd_same] at nf
            cases nf
          refine ⟨l, f, _, _, rfl, rfl, (by rw [upd_ne nlf]; exact upd_same), upd_same, (by show 3 ≤ sizeLine; decide), fun g ng => ?_⟩
          exact ⟨⟨_, rfl⟩, _, rfl, " ", g, wordsEl (.stop none (some u)), rfl, rfl, .inl (.inl (.inl upd_same)), hw, k _ (s1.trans ((same_new nf).trans (same_new ng)))⟩
      | some lq =>
        have hlq : lq ∈ goodQs := by
          cases up with
          | none => exact lo_good hg
          | some u => exact lo_good hg.1
        obtain ⟨b2, rfl, hb2⟩ := dp_q h2
        rw [rn]
        refine iteT ⟨_, rfl, _, rfl, a, _, _, _, rfl, rfl, sqT_mono s1 ha, rfl, _, lq, rfl, dp_mono s1 h2, hlq, l2 _ _, fun f nf => ?_⟩
        have nlf : l ≠ f := fun z => by
          rw [← z, upd_same] at nf
          cases nf
        refine ⟨l, f, _, _, rfl, rfl, (by rw [upd_ne nlf]; exact upd_same), upd_same, (by show 3 ≤ sizeLine; decide), fun g ng => ?_⟩
        have s3 := s1.trans ((same_new (o := .lst [.str "from", .str (fmtQ lq)]) nf).trans (same_new (o := .lst ([.str "stop"] ++ [.str "from", .str (fmtQ lq)])) ng))
        refine ⟨_, rfl, a, _, _, _, rfl, rfl, sqT_mono s3 ha, rfl, _, rfl, ?_⟩
        cases up with
        | none =>
          cases dp_non h3
          rw [nn]
          exact iteF ⟨⟨_, rfl⟩, _, rfl, " ", g, wordsEl (.stop (some lq) none), rfl, rfl, .inl (.inl (.inl upd_same)), hw, k _ s3⟩
        | some u =>
          obtain ⟨b3, rfl, hb3⟩ := dp_q h3
          rw [rn]
          refine iteT ⟨_, rfl, _, rfl, a, _, _, _, rfl, rfl, sqT_mono s3 ha, rfl, _, u, rfl, dp_mono s3 h3, up_good hg.2.1, l2 _ _, fun f2 nf2 => ?_⟩
          have ngf : g ≠ f2 := fun z => by
            rw [← z, upd_same] at nf2
            cases nf2
          refine ⟨g, f2, _, _, rfl, rfl, (by rw [upd_ne ngf]; exact upd_same), upd_same, (by show 5 ≤ sizeLine; decide), fun g2 ng2 => ?_⟩
          exact ⟨⟨_, rfl⟩, _, rfl, " ", g2, wordsEl (.stop (some lq) (some u)), rfl, rfl, .inl (.inl (.inl upd_same)), hw, k _ (s3.trans ((same_new nf2).trans (same_new ng2)))⟩
end
end RT
end
section
set_option Elab.async false
set_option linter.all false
set_option maxRecDepth 100000
set_option maxHeartbeats 2000000
/-! Y2: format_train, tokens_of, natural_of, fraction_of. -/
namespace RT
open PySem PySem.Spec PyProof.Rows L2
theorem join_eq' (y : Str) (parts : List Str) : Txt.join y parts = Str.join y parts := TL.join_eq y parts
section
variable {P : Program} {w : World} {K : PySem.W.Frag} {mg : Str → Option Value} {base : Heap}
theorem join1 (a x : Str) : Txt.join a [x] = x := by rfl
theorem sc_fmtT : FnScope ["train", "element"] ["train"] (defScope (top 33)) := ⟨rfl, rfl, rfl, by decide +kernel, rfl, by decide +kernel, by decide +kernel⟩
def spFmtT (K : PySem.W.Frag) : Sp := fun vs H Q _ => ∃ (t : Addr) (v : V) (e : El), vs = [.ref t] ∧ SqL K H t [v] ∧ Dp K H v (elD e) ∧ GoodEl e ∧ ∀ H', Same H H' → Q (.str (fmtEl e)) H'
theorem join2 (a x y : Str) : Txt.join a [x, y] = x ++ a ++ y := by rfl
theorem join_len (a : Str) : ∀ xs : List Str, (Txt.join a xs).length ≤ (xs.map (·.length)).sum + xs.length * a.length
  | [] => Nat.zero_le _
  | [x] => by
    rw [join1]
    show x.length ≤ x.length + 0 + 1 * a.length
    omega
  | x :: y :: r => by
    have ih := join_len a (y :: r)
    rw [join_eq'] at ih ⊢
    show (x ++ a ++ Str.join a (y :: r)).length ≤ x.length + ((y :: r).map (·.length)).sum + ((y :: r).length + 1) * a.length
    rw [strLen_append, strLen_append, Nat.succ_mul]
    omega
theorem words_sum {e : El} (g : GoodEl e) : ((wordsEl e).map (·.length)).sum + (wordsEl e).length * (" " : Str).length ≤ 100 := by
  have h1 : (" " : Str).length = 1 := rfl
  have w1 : ("gap" : Str).length = 3 := rfl
  have w2 : ("lens" : Str).length = 4 := rfl
  have w3 : ("prism" : Str).length = 5 := rfl
  have w4 : ("afocal" : Str).length = 6 := rfl
  have w5 : ("stop" : Str).length = 4 := rfl
  have w6 : ("from" : Str).length = 4 := rfl
  have w7 : ("to" : Str).length = 2 := rfl
  have w8 : ("at" : Str).length = 2 := rfl
  cases e with
  | gap q =>
    have := len_le9 (lo_good g)
    simp only [wordsEl, List.map_cons, List.map_nil, List.sum_cons, List.sum_nil, List.length_cons, List.length_nil, h1, w1]
    omega
  | prism q =>
    have := len_le9 (lo_good g)
    simp only [wordsEl, List.map_cons, List.map_nil, List.sum_cons, List.sum_nil, List.length_cons, List.length_nil, h1, w3]
    omega
  | afocal q =>
    have := len_le9 (lo_good g.1)
    simp only [wordsEl, List.map_cons, List.map_nil, List.sum_cons, List.sum_nil, List.length_cons, List.length_nil, h1, w4]
    omega
  | lens p c =>
    have := len_le9 (lo_good g.1)
    have := len_le9 (lo_good g.2)
    simp only [wordsEl]
    split <;> simp only [List.map_cons, List.map_nil, List.sum_cons, List.sum_nil, List.length_cons, List.length_nil, h1, w2, w8] <;> omega
  | stop l u =>
    cases l with
    | none =>
      cases u with
      | none => exact g.elim
      | some u =>
        have := len_le9 (up_good g)
        simp only [wordsEl, stopW, List.map_cons, List.map_nil, List.sum_cons, List.sum_nil, List.length_cons, List.length_nil, h1, w5, w7]
        omega
    | some l =>
      cases u with
      | none =>
        have := len_le9 (lo_good g)
        simp only [wordsEl, stopW, List.map_cons, List.map_nil, List.sum_cons, List.sum_nil, List.length_cons, List.length_nil, h1, w5, w6]
        omega
      | some u =>
        have := len_le9 (lo_good g.1)
        have := len_le9 (up_good g.2.1)
        simp only [wordsEl, stopW, List.map_cons, List.map_nil, List.sum_cons, List.sum_nil, List.length_cons, List.length_nil, h1, w5, w6, w7]
        omega
theorem fmtE_len {e : El} (g : GoodEl e) : (fmtEl e).length ≤ 100 := Nat.le_trans (join_len _ _) (words_sum g)
theorem ok_fmtT (T : TX K mg) : Cal P w K mg base CX0 3 "format_train" ["train"] (spFmtT K) := by
  have G : ∀ {P w base}, Cal P w K mg base CX0 2 "format_element" ["element"] (spFmtE K) := ok_fmtE T
  refine Cal.of T in_format_train sc_fmtT bd_format_train (fun vs H Q E h => ?_) (fun cdv A outer s H vs Q E hr h => ?_)
  · obtain ⟨a, b, c, rfl, _⟩ := h
    rfl
  · obtain ⟨t, v, e, rfl, ht, hd, hg, k⟩ := h
    refine ⟨_, pss_one (ps_ret (pe_join pe_str (pe_lc (own := [("element", 1)]) (g := gName 1) (tt := tYes) (by rfl) sc_fmtT.nd (pi_list (pv 0)) (blkOk_by (own := [("element", 1)]) (N := ["train", "element"]) (sc := defScope (top 33)) (by decide +kernel))
      (fun _ _ _ _ _ => pg_name (i := 1) sc_fmtT.nd rfl (Or.inl rfl)) (fun _ _ _ _ _ => pts_nil) (fun _ _ _ _ _ => pe_cal G hr pass0 (pa_cons (pv 1) pa_nil))))), ?_⟩
    refine ⟨⟨_, rfl⟩, _, rfl, t, rfl, ⟨_, ht⟩, fun D nD => ?_⟩
    have s1 : Same H (upd H D (.lst [])) := same_new nD
    refine lc_list (K := K) (a := t) (xs := [v]) (fun i H' => Same H H' ∧ ((i = 0 ∧ H' D = some (.lst [])) ∨ (i = 1 ∧ H' D = some (.lst [.str (fmtEl e)])))) ⟨s1, .inl ⟨rfl, upd_same⟩⟩ (fun i H' _ ⟨sm, _⟩ => sm.seq ht) ?_ ?_
    · rintro i x H' hi ⟨sm, h0⟩
      rcases h0 with ⟨rfl, h0⟩ | ⟨rfl, h0⟩
      · cases hi
        refine ⟨rfl, _, rfl, v, e, rfl, dp_mono sm hd, hg, fun H2 s2 => ⟨[], s2 _ _ h0, by decide, ?_⟩⟩
        refine ⟨fun b o z => ?_, .inr ⟨rfl, upd_same⟩⟩
        rw [upd_ne (ne_of_none z nD)]
        exact s2 _ _ (sm _ _ z)
      · cases hi
    · rintro H' ⟨sm, h0⟩
      rcases h0 with ⟨z, _⟩ | ⟨_, h0⟩
      · cases z
      · refine ⟨"; ", D, [fmtEl e], rfl, rfl, .inl (.inl (.inl h0)), ?_, ?_⟩
        · have := fmtE_len hg
          have h2 : ("; " : Str).length = 2 := rfl
          show (fmtEl e).length + 0 + 1 * _ ≤ _
          rw [h2]
          omega
        · rw [join1]
          exact k _ sm
/-! ### tokens_of -/
def tokStep (st : List Str × List Nat) (c : Nat) : List Str × List Nat :=
  if c = 32 ∨ c = 59 then
    let t := if st.2 ≠ [] then st.1 ++ [(⟨st.2.toArray⟩ : Str)] else st.1
    (if c = 59 then t ++ [(⟨#[c]⟩ : Str)] else t, [])
  else (st.1, st.2 ++ [c])
def tokF (cs : List Nat) : List Str := ((cs ++ [32]).foldl tokStep ([], [])).1
theorem tok_sep {acc : List Str} {w : List Nat} (h : w ≠ []) : tokStep (acc, w) 32 = (acc ++ [(⟨w.toArray⟩ : Str)], []) := by
  unfold tokStep
  simp [h]
theorem tok_word : ∀ (cs pre : List Nat) (acc : List Str), (∀ c ∈ cs, c ≠ 32 ∧ c ≠ 59) → cs.foldl tokStep (acc, pre) = (acc, pre ++ cs)
  | [], pre, acc, _ => by simp
  | c :: cs, pre, acc, h => by
    have hc := h c List.mem_cons_self
    rw [List.foldl_cons]
    have e : tokStep (acc, pre) c = (acc, pre ++ [c]) := if_neg (by omega)
    rw [e, tok_word cs _ acc fun d hd => h d (List.mem_cons_of_mem _ hd)]
    simp
theorem tok_words : ∀ (ws : List Str) (acc : List Str), ws ≠ [] → (∀ x ∈ ws, x.cps.toList ≠ [] ∧ ∀ c ∈ x.cps.toList, c ≠ 32 ∧ c ≠ 59) → ((Txt.join " " ws).cps.toList ++ [32]).foldl tokStep (acc, []) = (acc ++ ws, [])
  | [], _, h, _ => absurd rfl h
  | [x], acc, _, h => by
    obtain ⟨h1, h2⟩ := h x List.mem_cons_self
    rw [join1, List.foldl_append, tok_word _ _ _ h2]
    show tokStep (acc, [] ++ x.cps.toList) 32 = _
    rw [List.nil_append, tok_sep h1]
  | x :: y :: r, acc, _, h => by
    obtain ⟨h1, h2⟩ := h x List.mem_cons_self
    have ih := tok_words (y :: r) (acc ++ [x]) (by simp) fun z hz => h z (List.mem_cons_of_mem _ hz)
    rw [join_eq'] at ih ⊢
    have e : (Str.join " " (x :: y :: r)).cps.toList = x.cps.toList ++ (32 :: (Str.join " " (y :: r)).cps.toList) := by
      show (x ++ " " ++ Str.join " " (y :: r)).cps.toList = _
      show ((x.cps ++ (" " : Str).cps) ++ (Str.join " " (y :: r)).cps).toList = _
      rw [Array.toList_append, Array.toList_append]
      show (x.cps.toList ++ [32]) ++ _ = _
      simp
    rw [e, List.append_assoc, List.foldl_append, tok_word _ _ _ h2, List.cons_append, List.foldl_cons]
    have e2 : tokStep (acc, [] ++ x.cps.toList) 32 = (acc ++ [x], []) := by
      rw [List.nil_append, tok_sep h1]
    rw [e2, ih]
    simp
theorem okq2 {q : Q2} (h : q ∈ goodQs) : (fmtQ q).cps.toList ≠ [] ∧ ∀ c ∈ (fmtQ q).cps.toList, c ≠ 32 ∧ c ≠ 59 := by
  have z := okQ_all q h
  have g5 := (okq h).2.2.2.2
  unfold okQ at z
  simp only [Bool.and_eq_true, decide_eq_true_eq] at z
  refine ⟨fun e => ?_, fun c hc => ?_⟩
  · have e2 : (fmtQ q).length = 0 := by
      show (fmtQ q).cps.size = 0
      rw [← Array.length_toList, e]
      rfl
    omega
  · have z2 := List.all_eq_true.mp z.1.1.1.1.2 c hc
    simp at z2
    exact ⟨z2.1.2, z2.2⟩
theorem words_ok {e : El} (g : GoodEl e) : wordsEl e ≠ [] ∧ ∀ x ∈ wordsEl e, x.cps.toList ≠ [] ∧ ∀ c ∈ x.cps.toList, c ≠ 32 ∧ c ≠ 59 := by
  have k : ∀ x ∈ (["gap", "lens", "prism", "afocal", "stop", "from", "to", "at"] : List Str), x.cps.toList ≠ [] ∧ ∀ c ∈ x.cps.toList, c ≠ 32 ∧ c ≠ 59 := by decide +kernel
  have kw : ∀ x, x ∈ (["gap", "lens", "prism", "afocal", "stop", "from", "to", "at"] : List Str) ∨ (∃ q ∈ goodQs, x = fmtQ q) → x.cps.toList ≠ [] ∧ ∀ c ∈ x.cps.toList, c ≠ 32 ∧ c ≠ 59 := fun x hx => by
    rcases hx with hx | ⟨q, hq, rfl⟩
    · exact k x hx
    · exact okq2 hq
  have q1 : ∀ {q}, q ∈ goodQs → ∀ x, x = fmtQ q → x.cps.toList ≠ [] ∧ ∀ c ∈ x.cps.toList, c ≠ 32 ∧ c ≠ 59 := fun hq x e => kw x (.inr ⟨_, hq, e⟩)
  cases e with
  | gap q => exact ⟨by simp [wordsEl], List.forall_mem_cons.mpr ⟨k _ (by decide +kernel), List.forall_mem_cons.mpr ⟨okq2 (lo_good g), by simp⟩⟩⟩
  | prism q => exact ⟨by simp [wordsEl], List.forall_mem_cons.mpr ⟨k _ (by decide +kernel), List.forall_mem_cons.mpr ⟨okq2 (lo_good g), by simp⟩⟩⟩
  | afocal q => exact ⟨by simp [wordsEl], List.forall_mem_cons.mpr ⟨k _ (by decide +kernel), List.forall_mem_cons.mpr ⟨okq2 (lo_good g.1), by simp⟩⟩⟩
  | lens p c =>
    by_cases hc : c = (0, 1)
    · rw [show wordsEl (.lens p c) = (["lens", fmtQ p] : List Str) from if_pos hc]
      exact ⟨by simp, List.forall_mem_cons.mpr ⟨k _ (by decide +kernel), List.forall_mem_cons.mpr ⟨okq2 (lo_good g.1), by simp⟩⟩⟩
    · rw [show wordsEl (.lens p c) = (["lens", fmtQ p, "at", fmtQ c] : List Str) from if_neg hc]
      exact ⟨by simp, List.forall_mem_cons.mpr ⟨k _ (by decide +kernel), List.forall_mem_cons.mpr ⟨okq2 (lo_good g.1), List.forall_mem_cons.mpr ⟨k _ (by decide +kernel), List.forall_mem_cons.mpr ⟨okq2 (lo_good g.2), by simp⟩⟩⟩⟩⟩
  | stop l u =>
    refine ⟨by simp [wordsEl], List.forall_mem_cons.mpr ⟨k _ (by decide +kernel), ?_⟩⟩
    cases l with
    | none =>
      cases u with
      | none => exact g.elim
      | some u => exact List.forall_mem_cons.mpr ⟨k _ (by decide +kernel), List.forall_mem_cons.mpr ⟨okq2 (up_good g), by simp⟩⟩
    | some l =>
      cases u with
      | none => exact List.forall_mem_cons.mpr ⟨k _ (by decide +kernel), List.forall_mem_cons.mpr ⟨okq2 (lo_good g), by simp⟩⟩
      | some u => exact List.forall_mem_cons.mpr ⟨k _ (by decide +kernel), List.forall_mem_cons.mpr ⟨okq2 (lo_good g.1), List.forall_mem_cons.mpr ⟨k _ (by decide +kernel), List.forall_mem_cons.mpr ⟨okq2 (up_good g.2.1), by simp⟩⟩⟩⟩
theorem tok_el {e : El} (g : GoodEl e) : tokF (fmtEl e).cps.toList = wordsEl e := by
  obtain ⟨h1, h2⟩ := words_ok g
  unfold tokF fmtEl
  rw [tok_words _ [] h1 h2]
  simp
/-- a walk over a text's signs -/
theorem for_str {x : Str} {g : TG} {tb : TS} {D : Ends} {σ : L2.St} {H : Hp} (Pv : Nat → L2.St → Hp → Prop) (h0 : Pv 0 σ H)
    (hs : ∀ i c σ H, x.cps[i]? = some c → Pv i σ H → g (.str ⟨#[c]⟩) σ H fun σ2 H2 => tb { D with nx := Pv (i + 1), ct := Pv (i + 1), bk := D.nx } σ2 H2) (hd : ∀ σ H, Pv x.cps.size σ H → D.nx σ H) :
    ∃ W : Nat → Nat → L2.St → Hp → Prop, (∃ m, W 0 m σ H) ∧ ∀ i m σ H, W i m σ H →
      ((Its x).stop i H ∧ D.nx σ H) ∨ ((Its x).go i H ∧ ∃ N : L2.St → Hp → Prop, (∀ σ' H', N σ' H' → ∃ m', m' < m ∧ W (i + 1) m' σ' H') ∧ ∀ v H', (Its x).yld i H v H' → g v σ H' fun σ2 H2 => tb { D with nx := N, ct := N, bk := D.nx } σ2 H2) := by
  refine ⟨fun i m σ H => m = x.cps.size - i ∧ i ≤ x.cps.size ∧ Pv i σ H, ⟨x.cps.size, by simp, Nat.zero_le _, h0⟩, ?_⟩
  rintro i m σ H ⟨rfl, hi, p⟩
  by_cases hlt : i < x.cps.size
  · refine .inr ⟨hlt, Pv (i + 1), fun σ' H' p' => ⟨x.cps.size - (i + 1), by omega, rfl, hlt, p'⟩, fun v H' y => ?_⟩
    obtain ⟨e, c, hc, rfl⟩ := y
    subst e
    exact hs i c σ _ hc p
  · have e : i = x.cps.size := by omega
    subst e
    exact .inl ⟨Nat.le_refl _, hd σ H p⟩
theorem sgn_eq (c d : Nat) : decide (V.str ⟨#[c]⟩ = V.str ⟨#[d]⟩) = decide (c = d) := by
  by_cases h : c = d
  · rw [h, decide_eq_true rfl, decide_eq_true rfl]
  · rw [decide_eq_false h, decide_eq_false]
    intro z
    apply h
    have z2 : (⟨#[c]⟩ : Str) = ⟨#[d]⟩ := V.str.inj z
    have z3 : (#[c] : Array Nat) = #[d] := congrArg Str.cps z2
    have z4 : ([c] : List Nat) = [d] := congrArg Array.toList z3
    exact (List.cons.inj z4).1
theorem emp_eq (l : List Nat) : decide (V.str ⟨l.toArray⟩ = V.str "") = decide (l = []) := by
  by_cases h : l = []
  · rw [h]
    rfl
  · rw [decide_eq_false h, decide_eq_false]
    intro z
    apply h
    have z2 : (⟨l.toArray⟩ : Str) = ⟨#[]⟩ := V.str.inj z
    have z3 : l.toArray = (#[] : Array Nat) := congrArg Str.cps z2
    have z4 : l = ([] : List Nat) := congrArg Array.toList z3
    exact z4
def spTok (K : PySem.W.Frag) : Sp := fun vs H Q _ => ∃ x : Str, vs = [.str x] ∧ x.length ≤ 900 ∧ ∀ p H', Same H H' → H p = none → H' p = some (.lst ((tokF x.cps.toList).map V.str)) → Q (.ref p) H'
theorem tok_len : ∀ (cs : List Nat) (st : List Str × List Nat), (cs.foldl tokStep st).1.length ≤ st.1.length + 2 * cs.length ∧ (cs.foldl tokStep st).2.length ≤ st.2.length + cs.length
  | [], st => by simp
  | c :: cs, st => by
    obtain ⟨h1, h2⟩ := tok_len cs (tokStep st c)
    rw [List.foldl_cons, List.length_cons]
    have e : (tokStep st c).1.length ≤ st.1.length + 2 ∧ (tokStep st c).2.length ≤ st.2.length + 1 := by
      unfold tokStep
      split
      · constructor
        · dsimp only
          split <;> split <;> simp
        · dsimp only
          simp
      · constructor
        · dsimp only
          omega
        · dsimp only
          simp
    omega
theorem ok_tok (T : TX K mg) : Cal P w K mg base CX0 1 "tokens_of" ["text"] (spTok K) := by
  refine Cal.of T in_tokens_of sc_tokens_of bd_tokens_of (fun vs H Q E h => ?_) (fun cdv A outer s H vs Q E hr h => ?_)
  · obtain ⟨a, rfl, _⟩ := h
    rfl
  · obtain ⟨x, rfl, hx, k⟩ := h
    refine ⟨_, pss_cons (ps_set (i := 1) sc_tokens_of.nd rfl (.inl rfl) (pe_lst pa_nil))
      (pss_cons (ps_set (i := 2) sc_tokens_of.nd rfl (.inl rfl) pe_str)
      (pss_cons (ps_for PassesOwn.never rfl (pi_str (pe_op op_add_str (pv 0) pe_str)) (pg_name (i := 3) sc_tokens_of.nd rfl (.inl rfl))
        (pss_one (ps_if (PW.pt (pw_or (pt_cmpR op_eq (pv 3) pe_str (nomark _)) (pw_or1 (pt_cmpR op_eq (pv 3) pe_str (nomark _)))))
          (pss_cons (ps_if (pt_cmpR op_ne (pv 2) pe_str (nomark _)) (pss_one (ps_expr (pe_bm PySem.F.plainAttrs_list PySem.F.slot_list_append PySem.F.type_list_append mt_append (pv 1) (pa_cons (pv 2) pa_nil)))) pss_nil)
          (pss_cons (ps_set (i := 2) sc_tokens_of.nd rfl (.inl rfl) pe_str)
          (pss_one (ps_if (pt_cmpR op_eq (pv 3) pe_str (nomark _)) (pss_one (ps_expr (pe_bm PySem.F.plainAttrs_list PySem.F.slot_list_append PySem.F.type_list_append mt_append (pv 1) (pa_cons (pv 3) pa_nil)))) pss_nil))))
          (pss_one (ps_aug (i := 2) sc_tokens_of.nd rfl (.inl rfl) (pv 3) iop_add_str)))))
      (pss_one (ps_ret (pv 1))))), ?_⟩
    refine ⟨Nat.zero_le _, fun p np => ?_⟩
    have l1 : (" " : Str).length = 1 := rfl
    have s1 : Same H (upd H p (.lst [])) := same_new np
    refine ⟨_, rfl, _, _, rfl, rfl, (by rw [l1]; exact Nat.le_of_lt (small1000 (by omega))), x ++ " ", rfl, for_str (x := x ++ " ") (fun i σ H' => ∃ v3, σ = [some (.str x), some (.ref p), some (.str ⟨((((x ++ " ").cps.toList.take i).foldl tokStep ([], [])).2).toArray⟩), v3] ∧ Same H H' ∧ H' p = some (.lst (((((x ++ " ").cps.toList.take i).foldl tokStep ([], [])).1).map V.str)))
      ⟨none, rfl, s1, upd_same⟩ ?_ ?_⟩
    · rintro i c σ H' hc ⟨v3, rfl, sm, hp⟩
      have hc2 : (x ++ " ").cps.toList[i]? = some c := by simpa using hc
      have hi : i < x.length + 1 := by
        have := (List.getElem?_eq_some_iff.mp hc2).1
        have e2 : (x ++ " ").cps.toList.length = x.length + 1 := by
          show (x.cps ++ (" " : Str).cps).toList.length = x.cps.size + 1
          rw [Array.toList_append, List.length_append]
          rfl
        omega
      have en : ((x ++ " ").cps.toList.take (i + 1)).foldl tokStep ([], []) = tokStep (((x ++ " ").cps.toList.take i).foldl tokStep ([], [])) c := by
        rw [List.take_add_one, hc2, List.foldl_append]
        rfl
      have hlen := tok_len ((x ++ " ").cps.toList.take i) ([], [])
      have hti : ((x ++ " ").cps.toList.take i).length ≤ i := by
        rw [List.length_take]
        omega
      rw [en]
      generalize ((x ++ " ").cps.toList.take i).foldl tokStep ([], []) = st at hp hlen ⊢
      obtain ⟨ts, wd⟩ := st
      have hts : ts.length ≤ 2000 := by
        have := hlen.1
        simp only [List.length_nil] at this
        omega
      have hwd : wd.length ≤ 1000 := by
        have := hlen.2
        simp only [List.length_nil] at this
        omega
      have hz : ∀ n, n ≤ 2001 → n < sizeLine := fun n h => Nat.lt_of_le_of_lt h (by decide)
      have keep : ∀ o, Same H (upd H' p o) := fun o b u z => by
        rw [upd_ne (ne_of_none z np)]
        exact sm _ _ z
      -- sign == ' ' or sign == ';'
      have e32 : V.str (" " : Str) = V.str ⟨#[32]⟩ := rfl
      have e59 : V.str (";" : Str) = V.str ⟨#[59]⟩ := rfl
      have rest : ∀ (ts' : List Str) (v2 : V) (H2 : Hp), Same H H2 → H2 p = some (.lst (ts'.map V.str)) → ts'.length ≤ 2001 → tokStep (ts, wd) c = (if c = 59 then ts' ++ [(⟨#[c]⟩ : Str)] else ts', []) →
          tSeq (tAsg (tC (.str "")) (gName 2)) (tIfS (tTest (tOp rEq (tVar 3) (tC (.str ";")))) (tDrop (tBM K "list" rAppend (tVar 1) (tCons (tVar 3) tNil))) tNext) { nx := fun σ H' => ∃ v3, σ = [some (.str x), some (.ref p), some (.str ⟨(tokStep (ts, wd) c).2.toArray⟩), v3] ∧ Same H H' ∧ H' p = some (.lst ((tokStep (ts, wd) c).1.map V.str)), ct := fun σ H' => ∃ v3, σ = [some (.str x), some (.ref p), some (.str ⟨(tokStep (ts, wd) c).2.toArray⟩), v3] ∧ Same H H' ∧ H' p = some (.lst ((tokStep (ts, wd) c).1.map V.str)), bk := fun σ H' => tRet (tVar 1) { nx := fun _ H' => Q .non H', rt := Q } σ H', rt := Q } [some (.str x), some (.ref p), some v2, some (.str ⟨#[c]⟩)] H2 := by
        intro ts' v2 H2 sm2 hp2 hl2 et
        refine ⟨_, rfl, rfl, _, rfl, ?_⟩
        rw [e59, sgn_eq]
        by_cases h59 : c = 59
        · rw [decide_eq_true h59]
          refine iteT ⟨.ref p, rfl, .inl ⟨rfl, _, .inl (.inl hp2)⟩, _, rfl, p, _, _, rfl, rfl, hp2, hz _ (by rw [List.length_map]; exact hl2), ?_⟩
          rw [if_pos h59] at et
          rw [et]
          refine ⟨_, rfl, fun b u z => ?_, ?_⟩
          · rw [upd_ne (ne_of_none z np)]
            exact sm2 _ _ z
          · rw [upd_same, List.map_append]
            rfl
        · rw [decide_eq_false h59]
          rw [if_neg h59] at et
          refine iteF ?_
          show ∃ v3, _
          rw [et]
          exact ⟨_, rfl, sm2, hp2⟩
      have first : c = 32 ∨ c = 59 → _ := fun hcc => show tSeq (tIfS (tTest (tOp rNe (tVar 2) (tC (.str "")))) (tDrop (tBM K "list" rAppend (tVar 1) (tCons (tVar 2) tNil))) tNext)
          (tSeq (tAsg (tC (.str "")) (gName 2)) (tIfS (tTest (tOp rEq (tVar 3) (tC (.str ";")))) (tDrop (tBM K "list" rAppend (tVar 1) (tCons (tVar 3) tNil))) tNext)) { nx := fun σ H' => ∃ v3, σ = [some (.str x), some (.ref p), some (.str ⟨(tokStep (ts, wd) c).2.toArray⟩), v3] ∧ Same H H' ∧ H' p = some (.lst ((tokStep (ts, wd) c).1.map V.str)), ct := fun σ H' => ∃ v3, σ = [some (.str x), some (.ref p), some (.str ⟨(tokStep (ts, wd) c).2.toArray⟩), v3] ∧ Same H H' ∧ H' p = some (.lst ((tokStep (ts, wd) c).1.map V.str)), bk := fun σ H' => tRet (tVar 1) { nx := fun _ H' => Q .non H', rt := Q } σ H', rt := Q } [some (.str x), some (.ref p), some (.str ⟨wd.toArray⟩), some (.str ⟨#[c]⟩)] H' from by
        refine ⟨_, rfl, rfl, _, rfl, ?_⟩
        rw [emp_eq]
        by_cases hw : wd = []
        · rw [decide_eq_true hw]
          refine iteF (rest ts _ H' sm hp (by omega) ?_)
          unfold tokStep
          rw [if_pos hcc]
          simp [hw]
        · rw [decide_eq_false hw]
          refine iteT ⟨.ref p, rfl, .inl ⟨rfl, _, .inl (.inl hp)⟩, _, rfl, p, _, _, rfl, rfl, hp, hz _ (by rw [List.length_map]; exact Nat.le_trans hts (by decide)), ?_⟩
          refine rest (ts ++ [(⟨wd.toArray⟩ : Str)]) _ _ (keep _) (by rw [upd_same, List.map_append]; rfl) (by rw [List.length_append]; show ts.length + 1 ≤ 2001; omega) ?_
          unfold tokStep
          rw [if_pos hcc]
          simp [hw]
      -- sign == ' '
      refine ⟨_, rfl, rfl, _, rfl, ?_⟩
      rw [e32, sgn_eq]
      by_cases h32 : c = 32
      · rw [decide_eq_true h32]
        exact iteT (iteT (first (.inl h32)))
      · rw [decide_eq_false h32]
        refine iteF ⟨_, rfl, rfl, _, rfl, ?_⟩
        rw [e59, sgn_eq]
        by_cases h59 : c = 59
        · rw [decide_eq_true h59]
          exact iteT (first (.inr h59))
        · rw [decide_eq_false h59]
          refine iteF ⟨_, rfl, _, rfl, _, _, rfl, rfl, ?_, ?_⟩
          · show wd.toArray.size + 1 ≤ sizeLine
            rw [List.size_toArray]
            exact Nat.le_of_lt (hz _ (by omega))
          · have et : tokStep (ts, wd) c = (ts, wd ++ [c]) := if_neg (by omega)
            rw [et]
            refine ⟨some (.str ⟨#[c]⟩), ?_, sm, hp⟩
            have e3 : (⟨wd.toArray⟩ : Str) ++ ⟨#[c]⟩ = ⟨(wd ++ [c]).toArray⟩ := by
              show (⟨wd.toArray ++ #[c]⟩ : Str) = _
              simp
            rw [e3]
            rfl
    · rintro σ H' ⟨v3, rfl, sm, hp⟩
      have e : (x ++ " ").cps.toList.take (x ++ " ").cps.size = x.cps.toList ++ [32] := by
        rw [List.take_of_length_le (by simp)]
        show (x.cps ++ (" " : Str).cps).toList = _
        rw [Array.toList_append]
        rfl
      rw [e] at hp
      exact ⟨_, rfl, k p H' sm np hp⟩
end
end RT
end
section
set_option Elab.async false
set_option linter.all false
set_option maxRecDepth 100000
set_option maxHeartbeats 2000000
/-! Y3: natural_of, fraction_of. -/
namespace RT
open PySem PySem.Spec PyProof.Rows L2
section
variable {P : Program} {w : World} {K : PySem.W.Frag} {mg : Str → Option Value} {base : Heap}
def okN2 (n : Nat) : Bool := decide (PySem.intText? (toString (n : Int) : Str) = some (n : Int))
theorem okN2_all : ∀ n ∈ List.range 101, okN2 n = true := by decide +kernel
structure NumOk (n : Nat) : Prop where
  len : (toString (n : Int) : Str).length ≤ 7
  ne : (toString (n : Int) : Str) ≠ ""
  hd : ∃ c r, (toString (n : Int) : Str).cps.toList = c :: r ∧ c ≠ 48
  fig : ∀ c ∈ (toString (n : Int) : Str).cps.toList, c ∈ figs
  txt : PySem.intText? (toString (n : Int) : Str) = some (n : Int)
theorem numOk {n : Nat} (h0 : 1 ≤ n) (h1 : n ≤ 100) : NumOk n := by
  have z := okN_all n (List.mem_range.mpr (by omega)) (by omega)
  have z2 := okN2_all n (List.mem_range.mpr (by omega))
  unfold okN at z
  simp only [Bool.and_eq_true, decide_eq_true_eq] at z
  obtain ⟨⟨⟨a, b⟩, c⟩, d⟩ := z
  refine ⟨a, b, ?_, fun x hx => ?_, of_decide_eq_true z2⟩
  · cases e : (toString (n : Int) : Str).cps.toList with
    | nil =>
      exfalso
      apply b
      show (toString (n : Int) : Str) = ⟨#[]⟩
      have : (toString (n : Int) : Str).cps = #[] := by
        apply Array.ext'
        rw [e]
      generalize (toString (n : Int) : Str) = x at this
      cases x
      exact congrArg Str.mk this
    | cons x r =>
      rw [e] at c
      exact ⟨x, r, rfl, fun h => c (by rw [h]; rfl)⟩
  · have := List.all_eq_true.mp d x hx
    simpa using this
def spNat (K : PySem.W.Frag) : Sp := fun vs H Q _ => ∃ n : Nat, vs = [.str (toString (n : Int))] ∧ 1 ≤ n ∧ n ≤ 100 ∧ Tbs K H ∧ ∀ H', Tbs K H' → Chg (IsT K) H H' → Q (.int n) H'
theorem gens {env : Env} {scope : Scope} {x : Str} (h1 : scope.kind = .function) (h2 : scope.isCoroutine = false) (h3 : (scope.names.all fun y => y.2 != NameKind.cell && y.2 != NameKind.free) = true) (h4 : scope.names.lookup (".0" : Str) = some NameKind.local) (h5 : scope.names.lookup x = some NameKind.local) : GxR.GenS env scope x := by
  have z : ∀ y ∈ scope.names, y.2 ≠ NameKind.cell ∧ y.2 ≠ NameKind.free := fun y hy => by
    have := List.all_eq_true.mp h3 y hy
    simpa using this
  exact ⟨h1, h2, fun y hy => (z y hy).1, h4, h5, fun y hy e => absurd e (z y hy).2⟩
theorem ok_nat (T : TX K mg) (B : BX K mg base) : Cal P w K mg base CX0 3 "natural_of" ["word"] (spNat K) := by
  refine Cal.ofT T in_natural_of sc_natural_of bd_natural_of (fun vs H Q E h => ?_) (fun A outer s H vs Q E hr h => ?_)
  · obtain ⟨a, rfl, _⟩ := h
    rfl
  · obtain ⟨n, rfl, h0, h1, hT, k⟩ := h
    obtain ⟨t1, m1⟩ := T.int (x := "LONGEST") (i := 7) (by decide +kernel)
    obtain ⟨t2, m2⟩ := T.int (x := "PART_MOST") (i := 1000000) (by decide +kernel)
    have N := numOk h0 h1
    refine ⟨_, pss_cons (ps_if (PW.pt (pw_or (pt_cmpR op_eq (pv 0) pe_str (nomark _)) (pw_or (pt_cmpR op_gt (pe_callB call_len (by rfl) (T.fr (by decide +kernel)) PySem.boot_len (pa_cons (pv 0) pa_nil)) (pe_glob (v := .int 7) rfl m1 ⟨_, rfl⟩) (nomark _))
        (pw_or (pt_cmpR op_eq (pe_ix ix_str (pv 0) pe_int (fun _ _ => rfl)) pe_str (nomark _)) (pw_or1 (pt_not (pt_val (pe_allT hr (by rfl) (T.fr (by decide +kernel)) B.n rfl (gens rfl rfl (by decide +kernel) rfl rfl) (pv 0)))))))))
        (pss_one (ps_ret pe_non)) pss_nil)
      (pss_cons (ps_set (i := 1) sc_natural_of.nd rfl (.inl rfl) (pe_callTy call_int_str (by rfl) (T.fr (by decide +kernel)) (by decide +kernel) (pa_cons (pv 0) pa_nil)))
      (pss_cons (ps_if (pt_cmpR op_gt (pv 1) (pe_glob (v := .int 1000000) rfl m2 ⟨_, rfl⟩) (nomark _)) (pss_one (ps_ret pe_non)) pss_nil)
      (pss_one (ps_ret (pv 1))))), ?_⟩
    obtain ⟨c, r, hc, hc48⟩ := N.hd
    have hlen : ((toString (n : Int) : Str)).length ≤ sizeLine := Nat.le_trans N.len (by decide)
    refine ⟨_, rfl, rfl, _, rfl, ?_⟩
    rw [decide_eq_false (fun z : V.str (toString (n : Int)) = V.str "" => N.ne (V.str.inj z))]
    refine iteF ⟨_, rfl, .str (toString (n : Int)), _, rfl, ⟨hlen, rfl⟩, _, _, rfl, rfl, _, rfl, ?_⟩
    rw [decide_eq_false (by have := N.len; omega)]
    refine iteF ⟨_, rfl, _, _, c, rfl, rfl, hlen, (by rw [hc]; exact atI_nat (j := 0) rfl), rfl, _, rfl, ?_⟩
    rw [show V.str ("0" : Str) = V.str ⟨#[48]⟩ from rfl, sgn_eq, decide_eq_false hc48]
    refine iteF ?_
    intro pins
    refine ⟨_, rfl, _, fun i => decide ((toString (n : Int) : Str).cps.getD i 0 ∈ figs), rfl, hT.n, fun H2 h2 => ?_, fun s1 I => ?_⟩
    · have ea : ((List.range (toString (n : Int) : Str).cps.size).all fun i => decide ((toString (n : Int) : Str).cps.getD i 0 ∈ figs)) = true := by
        rw [List.all_eq_true]
        intro i hi
        have hi2 := List.mem_range.mp hi
        apply decide_eq_true
        apply N.fig
        rw [Array.getD_eq_getD_getElem?, Array.getElem?_eq_getElem hi2]
        exact Array.getElem_mem_toList hi2
      rw [ea]
      refine ⟨_, rfl, iteF ?_⟩
      refine ⟨_, rfl, _, n, rfl, N.txt, Nat.le_trans N.len (by decide), ?_⟩
      refine ⟨_, rfl, _, _, rfl, rfl, _, rfl, ?_⟩
      rw [decide_eq_false (by omega)]
      exact iteF ⟨_, rfl, k H2 (hT.tabbed h2) (chg_tabbed (.inl rfl) h2)⟩
    · obtain ⟨ps, hP, _⟩ := hT.n
      exact elt_fig T I ⟨ps, hP⟩ rfl rfl rfl
def numsQ (q : Q2) : List Nat := if q.2 = 1 then [q.1.natAbs] else [q.1.natAbs, q.2.toNat]
def okF (q : Q2) : Bool :=
  (decide (fmtQ q = "0") == decide (q = (0, 1))) && (decide (q = (0, 1)) || (
    (decide (cutS (fmtQ q) none (some 1) = "-") == decide (q.1 < 0)) && decide (Txt.split (if q.1 < 0 then cutS (fmtQ q) (some 1) none else fmtQ q) "/" = (numsQ q).map fun (n : Nat) => (toString (n : Int) : Str)) &&
    (numsQ q).all (fun (n : Nat) => decide (1 ≤ n) && decide (n ≤ 100)) && decide (fracQ q.1 q.2 = q)))
theorem okF_all : ∀ q ∈ goodQs, okF q = true := by decide +kernel
theorem str_dec {x y : Str} : decide (V.str x = V.str y) = decide (x = y) := by
  by_cases h : x = y
  · rw [h, decide_eq_true rfl, decide_eq_true rfl]
  · rw [decide_eq_false h, decide_eq_false fun z => h (V.str.inj z)]
theorem chg_fresh {M : Addr → Prop} {H H1 : Hp} {p : Addr} {o : HO} (a : Chg M H H1) (h : H p = none) : Chg M H (upd H1 p o) := by
  refine ⟨fun b u e hn => ?_, fun b e => ?_⟩
  · rw [upd_ne (ne_of_none e h)]
    exact a.1 b u e hn
  · by_cases hb : b = p
    · rw [hb, upd_same]
      simp
    · rw [upd_ne hb]
      exact a.2 b e
theorem Tbs.put {K : PySem.W.Frag} {H : Hp} {p : Addr} {o o' : HO} (g : Tbs K H) (e : H p = some o) (ho : ∀ ps, o ≠ .tbl ps) : Tbs K (upd H p o') :=
  g.chg (M := fun b => b = p) (Chg.put (Chg.refl H) rfl) fun b ps z q => by
    rw [z, e] at q
    exact ho ps (Option.some.inj q)
theorem Tbs.new {K : PySem.W.Frag} {H : Hp} {p : Addr} {o' : HO} (g : Tbs K H) (e : H p = none) : Tbs K (upd H p o') := g.same (same_new e)
theorem notT {K : PySem.W.Frag} {H : Hp} {b : Addr} {o : HO} (h : Tbs K H) (e : H b = some o) (ho : ∀ ps, o ≠ .tbl ps) : ¬ IsT K b := by
  rintro (z | z | z)
  · obtain ⟨ps, h1, _⟩ := h.n
    rw [z, h1] at e
    exact ho _ (Option.some.inj e).symm
  · obtain ⟨ps, h1, _⟩ := h.f
    rw [z, h1] at e
    exact ho _ (Option.some.inj e).symm
  · obtain ⟨ps, h1, _⟩ := h.p
    rw [z, h1] at e
    exact ho _ (Option.some.inj e).symm
theorem cutS_len (z : Str) (lo hi : Option Int) : (cutS z lo hi).length ≤ z.length := by
  unfold cutS
  show (List.toArray _).size ≤ z.cps.size
  rw [List.size_toArray, List.length_take, List.length_drop, Array.length_toList]
  omega
theorem sc_fracof : FnScope ["word", "unsigned", "parts", "numbers", "numerator", "part"] ["word"] (defScope (top 36)) := ⟨rfl, rfl, rfl, by decide +kernel, rfl, by decide +kernel, by decide +kernel⟩
def spFracOf (K : PySem.W.Frag) : Sp := fun vs H Q _ => ∃ q : Q2, vs = [.str (fmtQ q)] ∧ q ∈ goodQs ∧ Tbs K H ∧ ∀ v H', Tbs K H' → Chg (IsT K) H H' → Dp K (New H H') v (qD q) → Q v H'
theorem ok_fracOf (T : TX K mg) (B : BX K mg base) : Cal P w K mg base CX0 4 "fraction_of" ["word"] (spFracOf K) := by
  have GN : ∀ {P w}, Cal P w K mg base CX0 3 "natural_of" ["word"] (spNat K) := ok_nat T B
  have GF : ∀ {P w}, Cal P w K mg base CX0 2 "fraction" ["numerator", "denominator"] spFrac := ok_frac T
  refine Cal.ofT T in_fraction_of sc_fracof bd_fraction_of (fun vs H Q E h => ?_) (fun A outer s H vs Q E hr h => ?_)
  · obtain ⟨a, rfl, _⟩ := h
    rfl
  · obtain ⟨q, rfl, hq, hT, k⟩ := h
    have gZ := T.glo_ (in1 (x := "ZERO") (by decide +kernel))
    refine ⟨_, pss_cons (ps_if (pt_cmpR op_eq (pv 0) pe_str (nomark _)) (pss_one (ps_ret (pe_glob (v := .ref (He.ga K "ZERO")) rfl gZ rfl))) pss_nil)
      (pss_cons (ps_set (i := 1) sc_fracof.nd rfl (.inl rfl) (pv 0))
      (pss_cons (ps_if (pt_cmpR op_eq (pe_slice sl_str (pv 0) po_none (po_some pe_int)) pe_str (nomark _)) (pss_one (ps_set (i := 1) sc_fracof.nd rfl (.inl rfl) (pe_slice sl_str (pv 0) (po_some pe_int) po_none))) pss_nil)
      (pss_cons (ps_set (i := 2) sc_fracof.nd rfl (.inl rfl) (pe_split (pv 1) pe_str))
      (pss_cons (ps_if (pt_cmpR op_gt (pe_callB call_len (by rfl) (T.fr (by decide +kernel)) PySem.boot_len (pa_cons (pv 2) pa_nil)) pe_int (nomark _)) pss_never pss_nil)
      (pss_cons (ps_setLc (i := 3) (own := [("part", 5)]) (g := gName 5) (tt := tYes) (by rfl) sc_fracof.nd rfl rfl (sw_true rfl rfl rfl (by decide +kernel)) (pi_list (pv 2)) (blkOk_by (own := [("part", 5)]) (N := ["word", "unsigned", "parts", "numbers", "numerator", "part"]) (sc := defScope (top 36)) (by decide +kernel))
        (fun _ _ _ _ _ => pg_name (i := 5) sc_fracof.nd rfl (Or.inl rfl)) (fun _ _ _ _ _ => pts_nil) (fun _ _ _ _ _ => pe_cal GN hr pass0 (pa_cons (pv 5) pa_nil)))
      (pss_cons (ps_if (pt_val (pe_anyL hr (by rfl) (T.fr (by decide +kernel)) B.f rfl (gens rfl rfl (by decide +kernel) rfl rfl) (pv 3))) pss_never pss_nil)
      (pss_cons (ps_set (i := 4) sc_fracof.nd rfl (.inl rfl) (pe_ix ix_list (pv 3) pe_int (fun _ _ => rfl)))
      (pss_cons (ps_if (pt_cmpR op_eq (pe_slice sl_str (pv 0) po_none (po_some pe_int)) pe_str (nomark _)) (pss_one (ps_set (i := 4) sc_fracof.nd rfl (.inl rfl) (pe_un un_neg (pv 4)))) pss_nil)
      (pss_one (ps_ret (pe_cal GF (hr.mono (by decide)) pass0 (pa_cons (pv 4) (pa_cons (pe_ix ix_list (pe_op op_cat (pv 3) (pe_lst (pa_cons pe_int pa_nil))) pe_int (fun _ _ => rfl)) pa_nil))))))))))))), ?_⟩
    have hf := okF_all q hq
    unfold okF at hf
    simp only [Bool.and_eq_true, Bool.or_eq_true, decide_eq_true_eq, beq_iff_eq] at hf
    obtain ⟨f0, f1⟩ := hf
    obtain ⟨g1, g2, g3, g4, g5⟩ := okq hq
    have hlen : (fmtQ q).length ≤ sizeLine := Nat.le_trans g4 (by decide)
    refine ⟨_, rfl, rfl, _, rfl, ?_⟩
    rw [str_dec, f0]
    by_cases hz : q = (0, 1)
    · rw [decide_eq_true hz]
      refine iteT ?_
      rw [hz] at k
      exact k _ H hT (Chg.refl H) (zero_dp T)
    rw [decide_eq_false hz]
    rcases f1 with f1 | ⟨⟨⟨f1, f2⟩, f3⟩, f4⟩
    · exact absurd f1 hz
    refine iteF ⟨_, rfl, ?_⟩
    -- the sign
    have sgn : ∀ {A B : Prop}, (q.1 < 0 → A) → (¬ q.1 < 0 → B) → if decide (V.str (cutS (fmtQ q) none (some 1)) = V.str "-") = true then A else B := fun hA hB => by
      rw [str_dec, f1]
      by_cases hn : q.1 < 0
      · rw [decide_eq_true hn]
        exact iteT (hA hn)
      · rw [decide_eq_false hn]
        exact iteF (hB hn)
    have hns : ∀ n ∈ numsQ q, 1 ≤ n ∧ n ≤ 100 := fun n hn => by
      have := List.all_eq_true.mp f3 n hn
      simpa using this
    have hnl : (numsQ q).length ≤ 2 := by
      unfold numsQ
      split <;> simp
    refine ⟨_, rfl, 1, rfl, _, rfl, hlen, rfl, _, rfl, ?_⟩
    refine sgn (fun hn => ?_) (fun hn => ?_)
    · rw [if_pos hn] at f2
      have hul : (cutS (fmtQ q) (some 1) none).length + 2 ≤ sizeLine := by
        have := cutS_len (fmtQ q) (some 1) none
        exact Nat.le_trans (by omega : _ ≤ 11) (by decide)
      refine ⟨_, rfl, 1, rfl, _, rfl, hlen, ?_⟩
      refine ⟨_, rfl, ⟨_, rfl⟩, _, _, rfl, rfl, rfl, hul, fun p np => ?_⟩
      rw [f2]
      have s1 : Same H (upd H p (.lst (((numsQ q).map fun (n : Nat) => (toString (n : Int) : Str)).map V.str))) := same_new np
      refine ⟨_, rfl, _, _, rfl, .inl ⟨_, .inl (.inl upd_same), rfl⟩, _, _, rfl, rfl, _, rfl, ?_⟩
      rw [decide_eq_false (by rw [List.length_map, List.length_map]; omega)]
      refine iteF ⟨_, rfl, p, rfl, ⟨_, .inl (.inl upd_same)⟩, fun D nD => ?_⟩
      have s2 := same_new (o := .lst []) nD
      have hT1 := (hT.same s1)
      refine lc_list (K := K) (a := p) (xs := ((numsQ q).map fun (n : Nat) => (toString (n : Int) : Str)).map V.str)
        (fun i H' => Tbs K H' ∧ Chg (IsT K) (upd H p (.lst (((numsQ q).map fun (n : Nat) => (toString (n : Int) : Str)).map V.str))) H' ∧ H' D = some (.lst ((((numsQ q).take i).map Int.ofNat).map V.int)))
        ⟨hT1.same s2, Chg.of s2, by rw [upd_same] <;> rfl⟩ (fun i H' _ ⟨_, c, _⟩ => .inl (.inl (c.at upd_same (notT hT1 upd_same fun _ z => by cases z)))) ?_ ?_
      · rintro i x H' hi ⟨t', c', d'⟩
        rw [List.getElem?_map, List.getElem?_map] at hi
        cases en : (numsQ q)[i]? with
        | none => rw [en] at hi; cases hi
        | some n =>
          rw [en] at hi
          cases hi
          obtain ⟨n1, n2⟩ := hns n (List.mem_of_getElem? en)
          refine ⟨rfl, _, rfl, n, rfl, n1, n2, t', fun H2 t2 c2 => ?_⟩
          have d2 := c2.at d' (notT t' d' fun _ z => by cases z)
          refine ⟨_, d2, ?_, t2.put d2 (fun _ z => by cases z), chg_fresh (c'.trans c2) nD, ?_⟩
          · rw [List.length_map, List.length_map, List.length_take]
            exact Nat.lt_of_le_of_lt (by omega : _ ≤ 2) (by decide)
          · rw [upd_same, List.take_add_one, en, List.map_append, List.map_append]
            rfl
      · rintro H' ⟨t', c', d'⟩
        rw [List.length_map, List.length_map, List.take_of_length_le (Nat.le_refl _)] at d'
        have cH : Chg (IsT K) H H' := (Chg.of s1).trans c'
        intro pins
        refine ⟨_, rfl, D, _, fun _ => false, rfl, .inl (.inl d'), t'.f, fun H2 h2 => ?_, fun s1 I => elt_none rfl rfl⟩
        have ea : ((List.range (((numsQ q).map Int.ofNat).map V.int).length).any fun _ => false) = false := by simp
        rw [ea]
        refine ⟨_, rfl, iteF ?_⟩
        have t2 := t'.tabbed h2
        have c2 := chg_tabbed (K := K) (.inr (.inl rfl)) h2
        have d2 := c2.at d' (notT t' d' fun _ z => by cases z)
        have e0 : (((numsQ q).map Int.ofNat).map V.int)[0]? = some (.int (q.1.natAbs : Int)) := by
          unfold numsQ
          split <;> rfl
        refine ⟨_, rfl, D, _, _, _, rfl, rfl, .inl (.inl d2), atI_nat (j := 0) e0, ?_⟩
        refine ⟨_, rfl, 1, rfl, _, rfl, hlen, rfl, _, rfl, ?_⟩
        have fin : ∀ z : Int, z = q.1 → tRet (tCall spFrac [] E0 (tCons (tVar 4) (tCons (tOp (rIxL K) (tOp rCat (tVar 3) (tLst (tCons (tC (.int 1)) tNil))) (tC (.int 1))) tNil))) { nx := fun _ H' => Q .non H', rt := Q } [some (.str (fmtQ q)), some (.str (cutS (fmtQ q) (some 1) none)), some (.ref p), some (.ref D), some (.int z), none] H2 := by
          rintro z rfl
          refine ⟨_, rfl, _, rfl, by show 1 ≤ sizeLine; decide, fun f nf => ?_⟩
          have nDf : D ≠ f := ne_of_none d2 nf
          refine ⟨D, f, _, _, rfl, rfl, (by rw [upd_ne nDf]; exact d2), upd_same, ?_, fun g ng => ?_⟩
          · rw [List.length_map, List.length_map]
            exact Nat.le_trans (by show (numsQ q).length + 1 ≤ 3; omega) (by decide)
          have e1 : ((((numsQ q).map Int.ofNat).map V.int) ++ [V.int 1])[1]? = some (.int q.2) := by
            unfold numsQ
            by_cases h1 : q.2 = 1
            · rw [if_pos h1, h1]
              rfl
            · rw [if_neg h1]
              show some (V.int (Int.ofNat q.2.toNat)) = _
              rw [show Int.ofNat q.2.toNat = q.2 by show ((q.2.toNat : Nat) : Int) = q.2; omega]
          refine ⟨g, _, _, _, rfl, rfl, .inl (.inl upd_same), atI_nat (j := 1) e1, q.1, q.2, rfl, by omega, by omega, fun t nt => ?_⟩
          rw [f4]
          have cc : Chg (IsT K) H H2 := cH.trans c2
          have c3 := ((cc.new (o := .lst [V.int 1]) nf).new (o := .lst ((((numsQ q).map Int.ofNat).map V.int) ++ [V.int 1])) ng)
          refine k _ _ (((t2.new nf).new ng).new nt) (c3.new nt) (dp_qi (.inl (.inl (new_at (c3.free nt) upd_same))))
        refine sgn (fun hn2 => ?_) (fun hn2 => ?_)
        · refine ⟨_, rfl, _, rfl, ?_⟩
          exact fin _ (by omega)
        · exact fin _ (by omega)
    · rw [if_neg hn] at f2
      have hul : (fmtQ q).length + 2 ≤ sizeLine := Nat.le_trans (by omega : _ ≤ 11) (by decide)
      refine ⟨_, rfl, ⟨_, rfl⟩, _, _, rfl, rfl, rfl, hul, fun p np => ?_⟩
      rw [f2]
      have s1 : Same H (upd H p (.lst (((numsQ q).map fun (n : Nat) => (toString (n : Int) : Str)).map V.str))) := same_new np
      refine ⟨_, rfl, _, _, rfl, .inl ⟨_, .inl (.inl upd_same), rfl⟩, _, _, rfl, rfl, _, rfl, ?_⟩
      rw [decide_eq_false (by rw [List.length_map, List.length_map]; omega)]
      refine iteF ⟨_, rfl, p, rfl, ⟨_, .inl (.inl upd_same)⟩, fun D nD => ?_⟩
      have s2 := same_new (o := .lst []) nD
      have hT1 := (hT.same s1)
      refine lc_list (K := K) (a := p) (xs := ((numsQ q).map fun (n : Nat) => (toString (n : Int) : Str)).map V.str)
        (fun i H' => Tbs K H' ∧ Chg (IsT K) (upd H p (.lst (((numsQ q).map fun (n : Nat) => (toString (n : Int) : Str)).map V.str))) H' ∧ H' D = some (.lst ((((numsQ q).take i).map Int.ofNat).map V.int)))
        ⟨hT1.same s2, Chg.of s2, by rw [upd_same] <;> rfl⟩ (fun i H' _ ⟨_, c, _⟩ => .inl (.inl (c.at upd_same (notT hT1 upd_same fun _ z => by cases z)))) ?_ ?_
      · rintro i x H' hi ⟨t', c', d'⟩
        rw [List.getElem?_map, List.getElem?_map] at hi
        cases en : (numsQ q)[i]? with
        | none => rw [en] at hi; cases hi
        | some n =>
          rw [en] at hi
          cases hi
          obtain ⟨n1, n2⟩ := hns n (List.mem_of_getElem? en)
          refine ⟨rfl, _, rfl, n, rfl, n1, n2, t', fun H2 t2 c2 => ?_⟩
          have d2 := c2.at d' (notT t' d' fun _ z => by cases z)
          refine ⟨_, d2, ?_, t2.put d2 (fun _ z => by cases z), chg_fresh (c'.trans c2) nD, ?_⟩
          · rw [List.length_map, List.length_map, List.length_take]
            exact Nat.lt_of_le_of_lt (by omega : _ ≤ 2) (by decide)
          · rw [upd_same, List.take_add_one, en, List.map_append, List.map_append]
            rfl
      · rintro H' ⟨t', c', d'⟩
        rw [List.length_map, List.length_map, List.take_of_length_le (Nat.le_refl _)] at d'
        have cH : Chg (IsT K) H H' := (Chg.of s1).trans c'
        intro pins
        refine ⟨_, rfl, D, _, fun _ => false, rfl, .inl (.inl d'), t'.f, fun H2 h2 => ?_, fun s1 I => elt_none rfl rfl⟩
        have ea : ((List.range (((numsQ q).map Int.ofNat).map V.int).length).any fun _ => false) = false := by simp
        rw [ea]
        refine ⟨_, rfl, iteF ?_⟩
        have t2 := t'.tabbed h2
        have c2 := chg_tabbed (K := K) (.inr (.inl rfl)) h2
        have d2 := c2.at d' (notT t' d' fun _ z => by cases z)
        have e0 : (((numsQ q).map Int.ofNat).map V.int)[0]? = some (.int (q.1.natAbs : Int)) := by
          unfold numsQ
          split <;> rfl
        refine ⟨_, rfl, D, _, _, _, rfl, rfl, .inl (.inl d2), atI_nat (j := 0) e0, ?_⟩
        refine ⟨_, rfl, 1, rfl, _, rfl, hlen, rfl, _, rfl, ?_⟩
        have fin : ∀ z : Int, z = q.1 → tRet (tCall spFrac [] E0 (tCons (tVar 4) (tCons (tOp (rIxL K) (tOp rCat (tVar 3) (tLst (tCons (tC (.int 1)) tNil))) (tC (.int 1))) tNil))) { nx := fun _ H' => Q .non H', rt := Q } [some (.str (fmtQ q)), some (.str (fmtQ q)), some (.ref p), some (.ref D), some (.int z), none] H2 := by
          rintro z rfl
          refine ⟨_, rfl, _, rfl, by show 1 ≤ sizeLine; decide, fun f nf => ?_⟩
          have nDf : D ≠ f := ne_of_none d2 nf
          refine ⟨D, f, _, _, rfl, rfl, (by rw [upd_ne nDf]; exact d2), upd_same, ?_, fun g ng => ?_⟩
          · rw [List.length_map, List.length_map]
            exact Nat.le_trans (by show (numsQ q).length + 1 ≤ 3; omega) (by decide)
          have e1 : ((((numsQ q).map Int.ofNat).map V.int) ++ [V.int 1])[1]? = some (.int q.2) := by
            unfold numsQ
            by_cases h1 : q.2 = 1
            · rw [if_pos h1, h1]
              rfl
            · rw [if_neg h1]
              show some (V.int (Int.ofNat q.2.toNat)) = _
              rw [show Int.ofNat q.2.toNat = q.2 by show ((q.2.toNat : Nat) : Int) = q.2; omega]
          refine ⟨g, _, _, _, rfl, rfl, .inl (.inl upd_same), atI_nat (j := 1) e1, q.1, q.2, rfl, by omega, by omega, fun t nt => ?_⟩
          rw [f4]
          have cc : Chg (IsT K) H H2 := cH.trans c2
          have c3 := ((cc.new (o := .lst [V.int 1]) nf).new (o := .lst ((((numsQ q).map Int.ofNat).map V.int) ++ [V.int 1])) ng)
          refine k _ _ (((t2.new nf).new ng).new nt) (c3.new nt) (dp_qi (.inl (.inl (new_at (c3.free nt) upd_same))))
        refine sgn (fun hn2 => ?_) (fun hn2 => ?_)
        · refine ⟨_, rfl, _, rfl, ?_⟩
          exact fin _ (by omega)
        · exact fin _ (by omega)
end
end RT
end
section
set_option Elab.async false
set_option linter.all false
set_option maxRecDepth 100000
set_option maxHeartbeats 2000000
/-! Y4: the Reader. -/
namespace RT
open PySem PySem.Spec PyProof.Rows L2
section
variable {X : Cx} {CX : CXT} {k : Nat} {c m x : Str} {ps : List Str} {sp : Sp} {E : XK} {p pos apos : Pos} {e o : Expr} {es : List Expr} {ta : TE} {t : TA}
/-- o.m() -/
theorem pe_mcal0 {pl : Sem Bool} (he : PE X o ta) (cl : Cls X.K (He.ga X.K c)) (hm : Meth X.K (He.ga X.K c) m (He.ma X.K (He.ga X.K c) m)) (M : MCal X.prog X.w X.K X.mg X.base CX k c m ps sp) (hr : Room k X.A) (hx : Passes CX X E)
    (ht : eval (.Call (.Attribute o m apos) [] [] pos) X.env = (do
      let ov ← eval o X.env
      standAt apos.atName
      let (f, first) ← holding [ov] (getMethod ov m pl)
      callWith pos f first (backTo pos (starEach [] X.env)) (backToKw pos (keywordEach [] X.env))) := by rfl) :
    PE X (.Call (.Attribute o m apos) [] [] pos) (tMeth (He.ga X.K c) m sp [] E ta tNil) :=
  let ⟨_, F, b⟩ := M.ex
  pe_meth0 he cl hm F hr b .nil hx ht
theorem pe_mcal {pl : Sem Bool} (he : PE X o ta) (cl : Cls X.K (He.ga X.K c)) (hm : Meth X.K (He.ga X.K c) m (He.ma X.K (He.ga X.K c) m)) (M : MCal X.prog X.w X.K X.mg X.base CX k c m ps sp) (hr : Room k X.A) (hx : Passes CX X E) (ha : PA X (e :: es) t)
    (hst : starEach (e :: es) X.env = (false, eval e X.env) :: starEach es X.env := by rfl) (hpl : (backTo pos (starEach es X.env)).any (·.1) = false := by rfl)
    (ht : eval (.Call (.Attribute o m apos) (e :: es) [] pos) X.env = (do
      let ov ← eval o X.env
      standAt apos.atName
      let (f, first) ← holding [ov] (getMethod ov m pl)
      callWith pos f first (backTo pos (starEach (e :: es) X.env)) (backToKw pos (keywordEach [] X.env))) := by rfl) :
    PE X (.Call (.Attribute o m apos) (e :: es) [] pos) (tMeth (He.ga X.K c) m sp [] E ta t) :=
  let ⟨_, F, b⟩ := M.ex
  pe_meth he cl hm F hr b .nil hx ha hst hpl ht
/-- C(e, ..) -/
theorem pe_new (M : Mk X.K (He.ga X.K c) (He.ma X.K (He.ga X.K c) "__init__")) (F : MCal X.prog X.w X.K X.mg X.base CX k c "__init__" ps sp) (hr : Room (k + 1) X.A) (hg : Gl X c) (hm : X.mg c = some (.ref (He.ga X.K c))) (hx : Passes CX X E) (ha : PA X (e :: es) t)
    (hdb : (c == ("__debug__" : Str)) = false := by decide) (hst : starEach (e :: es) X.env = (false, eval e X.env) :: starEach es X.env := by rfl) (hpl : (backTo pos (starEach es X.env)).any (·.1) = false := by rfl) :
    PE X (.Call (.Name c p) (e :: es) [] pos) (tMake (He.ga X.K c) sp [] E t) :=
  let ⟨_, G, b⟩ := F.ex
  pe_make M G hr hg hm b .nil hx ha hdb hst hpl
end
section
variable {P : Program} {w : World} {K : PySem.W.Frag} {mg : Str → Option Value} {base : Heap}
abbrev cR (K : PySem.W.Frag) : Addr := He.ga K "Reader"
def rdF (tk : Addr) (i : Int) : List (Str × V) := [("tokens", .ref tk), ("place", .int i)]
/-- a Reader at p, behind i of the words ws -/
structure RdAt (K : PySem.W.Frag) (H : Hp) (p : Addr) (ws : List Str) (i : Nat) : Prop where
  ob : ∃ dx tk, H p = some (.ins (cR K) dx (rdF tk (i : Int))) ∧ H tk = some (.lst (ws.map V.str))
theorem rdF_put (tk : Addr) (i j : Int) : putF "place" (.int j) (rdF tk i) = rdF tk j := by
  have k : ¬ (("tokens" : Str) = "place") := by decide +kernel
  show (if ("tokens" : Str) = "place" then [(("tokens" : Str), V.int j)] else (("tokens" : Str), V.ref tk) :: (if ("place" : Str) = "place" then [(("place" : Str), V.int j)] else _)) = rdF tk j
  rw [if_neg k, if_pos rfl]
  rfl
theorem rdF_tk (tk : Addr) (i : Int) : (rdF tk i).lookup ("tokens" : Str) = some (.ref tk) := rfl
theorem rdF_pl (tk : Addr) (i : Int) : (rdF tk i).lookup ("place" : Str) = some (.int i) := by rfl
theorem words_in {e : El} (g : GoodEl e) : ∀ x ∈ wordsEl e, x ∈ (["gap", "lens", "prism", "afocal", "stop", "from", "to", "at"] : List Str) ∨ ∃ q ∈ goodQs, x = fmtQ q := by
  have all2 : ∀ {P : Str → Prop} {a b : Str}, P a → P b → ∀ x ∈ ([a, b] : List Str), P x := fun h1 h2 => List.forall_mem_cons.mpr ⟨h1, List.forall_mem_cons.mpr ⟨h2, by simp⟩⟩
  have all4 : ∀ {P : Str → Prop} {a b c d : Str}, P a → P b → P c → P d → ∀ x ∈ ([a, b, c, d] : List Str), P x := fun h1 h2 h3 h4 => List.forall_mem_cons.mpr ⟨h1, List.forall_mem_cons.mpr ⟨h2, all2 h3 h4⟩⟩
  have kq : ∀ {q : Q2}, q ∈ goodQs → fmtQ q ∈ (["gap", "lens", "prism", "afocal", "stop", "from", "to", "at"] : List Str) ∨ ∃ q' ∈ goodQs, fmtQ q = fmtQ q' := fun hq => .inr ⟨_, hq, rfl⟩
  cases e with
  | gap q => exact all2 (.inl (by decide +kernel)) (kq (lo_good g))
  | prism q => exact all2 (.inl (by decide +kernel)) (kq (lo_good g))
  | afocal q => exact all2 (.inl (by decide +kernel)) (kq (lo_good g.1))
  | lens p c =>
    by_cases hc : c = (0, 1)
    · rw [show wordsEl (.lens p c) = (["lens", fmtQ p] : List Str) from if_pos hc]
      exact all2 (.inl (by decide +kernel)) (kq (lo_good g.1))
    · rw [show wordsEl (.lens p c) = (["lens", fmtQ p, "at", fmtQ c] : List Str) from if_neg hc]
      exact all4 (.inl (by decide +kernel)) (kq (lo_good g.1)) (.inl (by decide +kernel)) (kq (lo_good g.2))
  | stop l u =>
    cases l with
    | none =>
      cases u with
      | none => exact g.elim
      | some u => exact List.forall_mem_cons.mpr ⟨.inl (by decide +kernel), all2 (.inl (by decide +kernel)) (kq (up_good g))⟩
    | some l =>
      cases u with
      | none => exact List.forall_mem_cons.mpr ⟨.inl (by decide +kernel), all2 (.inl (by decide +kernel)) (kq (lo_good g))⟩
      | some u => exact List.forall_mem_cons.mpr ⟨.inl (by decide +kernel), all4 (.inl (by decide +kernel)) (kq (lo_good g.1)) (.inl (by decide +kernel)) (kq (up_good g.2.1))⟩
def shpW (x : Str) : Prop := SeqAt.shaped (.list [.str x]) = true
theorem shp_q : ∀ q ∈ goodQs, SeqAt.shaped (.list [.str (fmtQ q)]) = true := by decide +kernel
theorem words_shp {e : El} (g : GoodEl e) : ∀ x ∈ wordsEl e, shpW x := by
  intro x hx
  rcases words_in g x hx with h | ⟨q, hq, rfl⟩
  · have kk : ∀ x ∈ (["gap", "lens", "prism", "afocal", "stop", "from", "to", "at"] : List Str), SeqAt.shaped (.list [.str x]) = true := by decide +kernel
    exact kk x h
  · exact shp_q q hq
theorem Chg.put1 {H H1 : Hp} {p : Addr} {o : HO} (a : Chg (fun b => b = p) H H1) : Chg (fun b => b = p) H (upd H1 p o) := a.put rfl
theorem cut_one (xs : List V) (i : Nat) : cutV xs (some (i : Int)) (some ((i : Int) + 1)) = (xs.drop i).take 1 := by
  have e : ((i : Int) + 1) = ((i + 1 : Nat) : Int) := by omega
  rw [e]
  unfold cutV
  rw [HT.sIx_nat, HT.sIx_nat]
  by_cases h : i < xs.length
  · rw [Nat.min_eq_left (by omega), Nat.min_eq_left (by omega)]
    congr 1
    omega
  · rw [Nat.min_eq_right (by omega), Nat.min_eq_right (by omega), Nat.sub_self, List.drop_eq_nil_of_le (Nat.le_refl _), List.drop_eq_nil_of_le (by omega)]
    rfl
def spRInit (K : PySem.W.Frag) : Sp := fun vs H Q _ => ∃ (p dx : Addr) (x : Str), vs = [.ref p, .str x] ∧ H p = some (.ins (cR K) dx []) ∧ x.length ≤ 900 ∧ ∀ H', RdAt K H' p (tokF x.cps.toList) 0 → Chg (fun b => b = p) H H' → Q .non H'
theorem ok_rinit (T : TX K mg) : MCal P w K mg base CX0 2 "Reader" "__init__" ["self", "text"] (spRInit K) := by
  have G : ∀ {P w base}, Cal P w K mg base CX0 1 "tokens_of" ["text"] (spTok K) := ok_tok T
  refine MCal.of T in_Reader_init sc_Reader_init bd_Reader_init (fun vs H Q E h => ?_) (fun cdv A outer s H vs Q E hr h => ?_)
  · obtain ⟨a, b, c, rfl, _⟩ := h
    rfl
  · obtain ⟨p, dx, x, rfl, hp, hx, k⟩ := h
    have cl := T.cl (x := "Reader") (by decide +kernel)
    have n1 := T.na (x := "Reader") (f := "tokens") (by decide +kernel)
    have n2 := T.na (x := "Reader") (f := "place") (by decide +kernel)
    refine ⟨_, pss_cons (ps_fld (pv 0) (pe_cal G hr pass0 (pa_cons (pv 1) pa_nil)) rfl) (pss_one (ps_fld (pv 0) pe_int rfl)), ?_⟩
    refine ⟨_, rfl, x, rfl, hx, fun tk H1 s1 ntk etk => ?_⟩
    have hp1 := s1 _ _ hp
    have npt : p ≠ tk := ne_of_none hp ntk
    refine ⟨_, rfl, p, _, dx, [], rfl, hp1, cl, n1, (by show 0 < 1000; decide), ?_⟩
    refine ⟨_, rfl, p, _, dx, _, rfl, upd_same, cl, n2, (by show 1 < 1000; decide), ?_⟩
    refine k _ ⟨dx, tk, ?_, ?_⟩ (Chg.of s1).put1.put1
    · rw [upd_same]
      rfl
    · rw [upd_ne npt.symm, upd_ne npt.symm]
      exact etk
def spNext (K : PySem.W.Frag) : Sp := fun vs H Q _ => ∃ (p : Addr) (y : Str) (ws : List Str) (i : Nat), vs = [.ref p, .str y] ∧ RdAt K H p ws i ∧ shpW y ∧ (∀ x ∈ ws, shpW x) ∧
  ∀ H', RdAt K H' p ws (if ws[i]? = some y then i + 1 else i) → Chg (fun b => b = p) H H' → Q (.bl (decide (ws[i]? = some y))) H'
theorem ok_next (T : TX K mg) : MCal P w K mg base CX0 1 "Reader" "is_next" ["self", "word"] (spNext K) := by
  refine MCal.of T in_Reader_is_next sc_Reader_is_next bd_Reader_is_next (fun vs H Q E h => ?_) (fun cdv A outer s H vs Q E hr h => ?_)
  · obtain ⟨a, b, c, d, rfl, _⟩ := h
    rfl
  · obtain ⟨p, y, ws, i, rfl, ⟨dx, tk, hp, htk⟩, sy, sws, k⟩ := h
    have cl := T.cl (x := "Reader") (by decide +kernel)
    have n1 := T.na (x := "Reader") (f := "tokens") (by decide +kernel)
    have n2 := T.na (x := "Reader") (f := "place") (by decide +kernel)
    refine ⟨_, pss_cons (ps_if (pt_cmpR (op_eqD hr.units) (pe_slice sl_list (pe_fld (pv 0) rfl) (po_some (pe_fld (pv 0) rfl)) (po_some (pe_op op_add (pe_fld (pv 0) rfl) pe_int))) (pe_lst (pa_cons (pv 1) pa_nil)) (nomark _))
        (pss_cons (ps_fldaug (pv 0) pe_int L2.in_add) (pss_one (ps_ret pe_bl))) pss_nil)
      (pss_one (ps_ret pe_bl)), ?_⟩
    refine ⟨_, rfl, p, _, dx, _, _, rfl, hp, cl, n1, rdF_tk _ _, _, rfl, p, _, dx, _, _, rfl, hp, cl, n2, rdF_pl _ _, _, rfl, _, rfl, p, _, dx, _, _, rfl, hp, cl, n2, rdF_pl _ _, _, _, rfl, rfl, _, rfl, tk, _, rfl, .inl (.inl htk), fun c nc => ?_⟩
    rw [cut_one]
    have s1 := same_new (o := .lst (((ws.map V.str).drop i).take 1)) nc
    refine ⟨_, rfl, (by show 1 ≤ sizeLine; decide), fun d nd => ?_⟩
    have s2 := same_new (o := .lst [.str y]) nd
    have ncd : c ≠ d := ne_of_none upd_same nd
    have e0 : ((ws.map V.str).drop i).take 1 = (((ws.drop i).take 1).map V.str) := by simp
    have hp2 := s2 _ _ (s1 _ _ hp)
    have htk2 := s2 _ _ (s1 _ _ htk)
    have dps : ∀ zs : List Str, DpAll K (upd (upd H c (.lst (((ws.map V.str).drop i).take 1))) d (.lst [.str y])) (zs.map V.str) (zs.map PyData.str) := fun zs => by
      induction zs with
      | nil => exact .nil
      | cons z zs ih => exact .cons (.str z) ih
    refine ⟨.list (((ws.drop i).take 1).map PyData.str), .list [.str y], .lst (.inl (.inl (by rw [upd_ne ncd, upd_same, e0]))) (dps _), .lst (.inl (.inl upd_same)) (.cons (.str y) .nil), ?_, sy, _, rfl, ?_⟩
    · cases e : (ws.drop i).take 1 with
      | nil => decide
      | cons z zs =>
        have hz : zs = [] := by
          have := congrArg List.length e
          rw [List.length_take, List.length_cons] at this
          exact List.length_eq_zero_iff.mp (by omega)
        rw [hz]
        exact sws z (List.mem_of_mem_drop (List.mem_of_mem_take (by rw [e]; exact List.mem_cons_self)))
    have ee : PyData.eqv (.list (((ws.drop i).take 1).map PyData.str)) (.list [.str y]) = decide (ws[i]? = some y) := by
      cases e : ws[i]? with
      | none =>
        have : ws.drop i = [] := List.drop_eq_nil_of_le (List.getElem?_eq_none_iff.mp e)
        rw [this]
        simp [PyData.eqv, PyData.eqvAll]
      | some z =>
        have hlt := (List.getElem?_eq_some_iff.mp e).1
        have : (ws.drop i).take 1 = [z] := by
          rw [List.drop_eq_getElem_cons hlt]
          have := (List.getElem?_eq_some_iff.mp e).2
          simp [this]
        rw [this]
        simp [PyData.eqv, PyData.eqvAll]
        rfl
    rw [ee]
    have cc : Chg (fun b => b = p) H (upd (upd H c (.lst (((ws.map V.str).drop i).take 1))) d (.lst [.str y])) := Chg.of (s1.trans s2)
    by_cases hw : ws[i]? = some y
    · rw [decide_eq_true hw]
      rw [decide_eq_true hw, if_pos hw] at k
      refine iteT ⟨_, rfl, p, _, dx, _, _, rfl, hp2, cl, n2, rdF_pl _ _, _, _, rfl, rfl, dx, _, hp2, (by show 2 < 1000; decide), ?_⟩
      rw [rdF_put]
      have ntp : tk ≠ p := ne_of htk hp (by intro z; cases z)
      refine k _ ⟨dx, tk, upd_same, ?_⟩ cc.put1
      rw [upd_ne ntp]
      exact htk2
    · rw [decide_eq_false hw]
      rw [decide_eq_false hw, if_neg hw] at k
      exact iteF (k _ ⟨dx, tk, hp2, htk2⟩ cc)
def spToken (K : PySem.W.Frag) : Sp := fun vs H Q _ => ∃ (p : Addr) (y : Str) (ws : List Str) (i : Nat), vs = [.ref p] ∧ RdAt K H p ws i ∧ ws[i]? = some y ∧ ws.length ≤ 1000 ∧ ∀ H', RdAt K H' p ws (i + 1) → Chg (fun b => b = p) H H' → Q (.str y) H'
theorem ok_token (T : TX K mg) : MCal P w K mg base CX0 1 "Reader" "token" ["self"] (spToken K) := by
  refine MCal.of T in_Reader_token sc_Reader_token bd_Reader_token (fun vs H Q E h => ?_) (fun cdv A outer s H vs Q E hr h => ?_)
  · obtain ⟨a, b, c, d, rfl, _⟩ := h
    rfl
  · obtain ⟨p, y, ws, i, rfl, ⟨dx, tk, hp, htk⟩, hy, hl, k⟩ := h
    have cl := T.cl (x := "Reader") (by decide +kernel)
    have n1 := T.na (x := "Reader") (f := "tokens") (by decide +kernel)
    have n2 := T.na (x := "Reader") (f := "place") (by decide +kernel)
    have hi := (List.getElem?_eq_some_iff.mp hy).1
    refine ⟨_, pss_cons (ps_if (pt_cmpR op_eq (pe_fld (pv 0) rfl) (pe_callB call_len (by rfl) (T.fr (by decide +kernel)) PySem.boot_len (pa_cons (pe_fld (pv 0) rfl) pa_nil)) (nomark _)) pss_never pss_nil)
      (pss_cons (ps_fldaug (pv 0) pe_int L2.in_add) (pss_one (ps_ret (pe_ix ix_list (pe_fld (pv 0) rfl) (pe_op op_sub (pe_fld (pv 0) rfl) pe_int) (fun _ _ => rfl))))), ?_⟩
    refine ⟨_, rfl, p, _, dx, _, _, rfl, hp, cl, n2, rdF_pl _ _, _, rfl, p, _, dx, _, _, rfl, hp, cl, n1, rdF_tk _ _, .ref tk, _, rfl, .inl ⟨_, .inl (.inl htk), rfl⟩, rfl, _, rfl, ?_⟩
    rw [decide_eq_false (fun z : V.int (i : Int) = V.int (((ws.map V.str).length : Nat) : Int) => by
      have z2 := V.int.inj z
      rw [List.length_map] at z2
      omega)]
    refine iteF ⟨_, rfl, p, _, dx, _, _, rfl, hp, cl, n2, rdF_pl _ _, _, _, rfl, rfl, dx, _, hp, (by show 2 < 1000; decide), ?_⟩
    rw [rdF_put]
    have ntp : tk ≠ p := ne_of htk hp (by intro z; cases z)
    have ht2 : (upd H p (.ins (cR K) dx (rdF tk ((i : Int) + 1)))) tk = some (.lst (ws.map V.str)) := by
      rw [upd_ne ntp]
      exact htk
    refine ⟨_, rfl, p, _, dx, _, _, rfl, upd_same, cl, n1, rdF_tk _ _, _, rfl, p, _, dx, _, _, rfl, upd_same, cl, n2, rdF_pl _ _, _, _, rfl, rfl, ?_⟩
    refine ⟨tk, _, _, .str y, rfl, rfl, .inl (.inl ht2), ?_, k _ ⟨dx, tk, upd_same, ht2⟩ (Chg.refl H).put1⟩
    rw [show (i : Int) + 1 - 1 = (i : Int) by omega]
    exact atI_nat (by rw [List.getElem?_map, hy] <;> rfl)
/-! what number changes -/
def MR (K : PySem.W.Frag) (p : Addr) : Addr → Prop := fun b => b = p ∨ IsT K b
theorem RdAt.chg {H H' : Hp} {p : Addr} {ws : List Str} {i : Nat} (r : RdAt K H p ws i) (t : Tbs K H) (c : Chg (IsT K) H H') : RdAt K H' p ws i := by
  obtain ⟨dx, tk, h1, h2⟩ := r
  exact ⟨dx, tk, c.at h1 (notT t h1 fun _ z => by cases z), c.at h2 (notT t h2 fun _ z => by cases z)⟩
theorem Tbs.chgR {H H' : Hp} {p : Addr} {ws : List Str} {i : Nat} (t : Tbs K H) (r : RdAt K H p ws i) (c : Chg (fun b => b = p) H H') : Tbs K H' := by
  obtain ⟨dx, tk, h1, h2⟩ := r
  refine t.chg c fun b ps e z => ?_
  rw [e, h1] at z
  cases z
theorem RdAt.some_ {H : Hp} {p : Addr} {ws : List Str} {i : Nat} (r : RdAt K H p ws i) (t : Tbs K H) : ∀ c, MR K p c → H c ≠ none := by
  obtain ⟨dx, tk, h1, h2⟩ := r
  rintro c (rfl | h | h | h)
  · rw [h1]
    simp
  · obtain ⟨_, z, _⟩ := t.n
    rw [h, z]
    simp
  · obtain ⟨_, z, _⟩ := t.f
    rw [h, z]
    simp
  · obtain ⟨_, z, _⟩ := t.p
    rw [h, z]
    simp
theorem cR1 {H H' : Hp} {p : Addr} (c : Chg (fun b => b = p) H H') : Chg (MR K p) H H' := c.mono fun _ _ e => .inl e
theorem cR2 {H H' : Hp} {p : Addr} (c : Chg (IsT K) H H') : Chg (MR K p) H H' := c.mono fun _ _ e => .inr e
def spNumber (K : PySem.W.Frag) : Sp := fun vs H Q _ => ∃ (p : Addr) (q : Q2) (ws : List Str) (i : Nat), vs = [.ref p] ∧ RdAt K H p ws i ∧ ws[i]? = some (fmtQ q) ∧ ws.length ≤ 1000 ∧ q ∈ goodQs ∧ Tbs K H ∧
  ∀ v H', RdAt K H' p ws (i + 1) → Tbs K H' → Chg (MR K p) H H' → Dp K (New H H') v (qD q) → Q v H'
theorem ok_number (T : TX K mg) (B : BX K mg base) : MCal P w K mg base CX0 5 "Reader" "number" ["self"] (spNumber K) := by
  have GT : ∀ {P w}, MCal P w K mg base CX0 1 "Reader" "token" ["self"] (spToken K) := ok_token T
  have GF : ∀ {P w}, Cal P w K mg base CX0 4 "fraction_of" ["word"] (spFracOf K) := ok_fracOf T B
  refine MCal.of T in_Reader_number sc_Reader_number bd_Reader_number (fun vs H Q E h => ?_) (fun cdv A outer s H vs Q E hr h => ?_)
  · obtain ⟨a, b, c, d, rfl, _⟩ := h
    rfl
  · obtain ⟨p, q, ws, i, rfl, hrd, hy, hl, hq, hT, k⟩ := h
    have cl := T.cl (x := "Reader") (by decide +kernel)
    refine ⟨_, pss_cons (ps_set (i := 1) sc_Reader_number.nd rfl (.inl rfl) (pe_cal GF hr pass0 (pa_cons (pe_mcal0 (pv 0) cl (T.me in_Reader_token) GT (hr.mono (by decide)) pass0) pa_nil)))
      (pss_cons (ps_if (pt_cmp (pc_isN (pv 1))) pss_never pss_nil) (pss_one (ps_ret (pv 1)))), ?_⟩
    obtain ⟨dx, tk, hp, htk⟩ := id hrd
    refine ⟨_, rfl, p, dx, _, rfl, hp, rfl, p, fmtQ q, ws, i, rfl, hrd, hy, hl, fun H1 r1 c1 => ?_⟩
    have t1 := hT.chgR hrd c1
    refine ⟨q, rfl, hq, t1, fun v H2 t2 c2 d2 => ?_⟩
    have r2 := r1.chg t1 c2
    have dq : Dp K (New H H2) v (qD q) := dp_mono (new_mono (cR1 c1) (Chg.refl (M := MR K p) H2) (r1.some_ t1)) d2
    obtain ⟨b, rfl, _⟩ := dp_q d2
    refine ⟨_, rfl, _, rfl, ?_⟩
    rw [decide_eq_false (fun z => by cases z)]
    exact iteF ⟨_, rfl, k _ H2 r2 t2 ((cR1 c1).trans (cR2 c2)) dq⟩
theorem lift {H Ha Hb Hf : Hp} {M : Addr → Prop} {v : V} {d : PyData} (h : Dp K (New Ha Hb) v d) (a : Chg M H Ha) (b : Chg M Hb Hf) (hM : ∀ c, M c → Ha c ≠ none) : Dp K (New H Hf) v d := dp_mono (new_mono a b hM) h
def spStop (K : PySem.W.Frag) : Sp := fun vs H Q _ => ∃ (p : Addr) (l u : Option Q2), vs = [.ref p] ∧ RdAt K H p (wordsEl (.stop l u)) 1 ∧ GoodEl (.stop l u) ∧ Tbs K H ∧
  ∀ v H', RdAt K H' p (wordsEl (.stop l u)) (wordsEl (.stop l u)).length → Tbs K H' → Chg (MR K p) H H' → Dp K (New H H') v (elD (.stop l u)) → Q v H'
theorem ok_stop (T : TX K mg) (B : BX K mg base) : MCal P w K mg base CX0 6 "Reader" "stop" ["self"] (spStop K) := by
  have GX : ∀ {P w}, MCal P w K mg base CX0 1 "Reader" "is_next" ["self", "word"] (spNext K) := ok_next T
  have GN : ∀ {P w}, MCal P w K mg base CX0 5 "Reader" "number" ["self"] (spNumber K) := ok_number T B
  refine MCal.of T in_Reader_stop sc_Reader_stop bd_Reader_stop (fun vs H Q E h => ?_) (fun cdv A outer s H vs Q E hr h => ?_)
  · obtain ⟨a, b, c, rfl, _⟩ := h
    rfl
  · obtain ⟨p, l, u, rfl, hrd, hg, hT, k⟩ := h
    have cl := T.cl (x := "Reader") (by decide +kernel)
    refine ⟨_, pss_cons (ps_set (i := 1) sc_Reader_stop.nd rfl (.inl rfl) pe_non) (pss_cons (ps_set (i := 2) sc_Reader_stop.nd rfl (.inl rfl) pe_non)
      (pss_cons (ps_if (pt_val (pe_mcal (pv 0) cl (T.me in_Reader_is_next) GX (hr.mono (by decide)) pass0 (pa_cons pe_str pa_nil))) (pss_one (ps_set (i := 1) sc_Reader_stop.nd rfl (.inl rfl) (pe_mcal0 (pv 0) cl (T.me in_Reader_number) GN hr pass0))) pss_nil)
      (pss_cons (ps_if (pt_val (pe_mcal (pv 0) cl (T.me in_Reader_is_next) GX (hr.mono (by decide)) pass0 (pa_cons pe_str pa_nil))) (pss_one (ps_set (i := 2) sc_Reader_stop.nd rfl (.inl rfl) (pe_mcal0 (pv 0) cl (T.me in_Reader_number) GN hr pass0))) pss_nil)
      (pss_one (ps_ret (pe_tup (pa_cons pe_str (pa_cons (pv 1) (pa_cons (pv 2) pa_nil))))))))), ?_⟩
    have hs := words_shp hg
    have w1 : shpW "from" := by unfold shpW; decide +kernel
    have w2 : shpW "to" := by unfold shpW; decide +kernel
    have hl : (wordsEl (.stop l u)).length ≤ 1000 := by cases l <;> cases u <;> simp [wordsEl, stopW]
    obtain ⟨dx, tk, hp, htk⟩ := id hrd
    refine ⟨_, rfl, p, dx, _, rfl, hp, rfl, p, "from", _, 1, rfl, hrd, w1, hs, fun H1 r1 c1 => ?_⟩
    have t1 := hT.chgR hrd c1
    have three : ∀ a b c : V, [a, b, c].length ≤ sizeLine := fun _ _ _ => by show 3 ≤ sizeLine; decide
    cases l with
    | none =>
      cases u with
      | none => exact hg.elim
      | some u =>
        have e1 : (wordsEl (.stop none (some u)))[1]? = some ("to" : Str) := rfl
        rw [e1] at r1 ⊢
        rw [show decide (some ("to" : Str) = some ("from" : Str)) = false by decide +kernel]
        rw [if_neg (by decide +kernel)] at r1
        refine ⟨_, rfl, iteF ?_⟩
        obtain ⟨dx1, tk1, hp1, htk1⟩ := id r1
        refine ⟨_, rfl, p, dx1, _, rfl, hp1, rfl, p, "to", _, 1, rfl, r1, w2, hs, fun H2 r2 c2 => ?_⟩
        have t2 := t1.chgR r1 c2
        rw [e1] at r2 ⊢
        rw [show decide (some ("to" : Str) = some ("to" : Str)) = true by decide +kernel]
        rw [if_pos rfl] at r2
        refine ⟨_, rfl, iteT ?_⟩
        obtain ⟨dx2, tk2, hp2, htk2⟩ := id r2
        refine ⟨_, rfl, p, dx2, _, rfl, hp2, rfl, p, u, _, 2, rfl, r2, rfl, hl, up_good hg, t2, fun v H3 r3 t3 c3 d3 => ?_⟩
        refine ⟨_, rfl, _, rfl, three _ _ _, fun t nt => ?_⟩
        obtain ⟨dx3, tk3, hp3, htk3⟩ := id r3
        have cn : Chg (MR K p) H3 (upd H3 t (.tup [.str "stop", .non, v])) := (Chg.refl H3).new nt
        have c12 : Chg (MR K p) H H2 := (cR1 c1).trans (cR1 c2)
        refine k _ _ ⟨dx3, tk3, (same_new nt) _ _ hp3, (same_new nt) _ _ htk3⟩ (t3.new nt) ((c12.trans c3).trans cn) ?_
        exact .tup (.inl (.inl (new_at ((c12.trans c3).free nt) upd_same))) (.cons (.str _) (.cons .non (.cons (lift d3 c12 cn (r2.some_ t2)) .nil)))
    | some l =>
      have hlq : l ∈ goodQs := by
        cases u with
        | none => exact lo_good hg
        | some u => exact lo_good hg.1
      have e1 : (wordsEl (.stop (some l) u))[1]? = some ("from" : Str) := by cases u <;> rfl
      have e2 : (wordsEl (.stop (some l) u))[2]? = some (fmtQ l) := by cases u <;> rfl
      rw [e1] at r1 ⊢
      rw [show decide (some ("from" : Str) = some ("from" : Str)) = true by decide +kernel]
      rw [if_pos rfl] at r1
      refine ⟨_, rfl, iteT ?_⟩
      obtain ⟨dx1, tk1, hp1, htk1⟩ := id r1
      refine ⟨_, rfl, p, dx1, _, rfl, hp1, rfl, p, l, _, 2, rfl, r1, e2, hl, hlq, t1, fun v H2 r2 t2 c2 d2 => ?_⟩
      obtain ⟨dx2, tk2, hp2, htk2⟩ := id r2
      have c12 : Chg (MR K p) H H2 := (cR1 c1).trans c2
      refine ⟨_, rfl, p, dx2, _, rfl, hp2, rfl, p, "to", _, 3, rfl, r2, w2, hs, fun H3 r3 c3 => ?_⟩
      have t3 := t2.chgR r2 c3
      obtain ⟨dx3, tk3, hp3, htk3⟩ := id r3
      cases u with
      | none =>
        have e3 : (wordsEl (.stop (some l) none))[3]? = none := rfl
        rw [e3] at r3 ⊢
        rw [show decide ((none : Option Str) = some ("to" : Str)) = false by decide +kernel]
        rw [if_neg (by decide +kernel)] at r3
        refine ⟨_, rfl, iteF ⟨_, rfl, _, rfl, three _ _ _, fun t nt => ?_⟩⟩
        have cn : Chg (MR K p) H3 (upd H3 t (.tup [.str "stop", v, .non])) := (Chg.refl H3).new nt
        refine k _ _ ⟨dx3, tk3, (same_new nt) _ _ hp3, (same_new nt) _ _ htk3⟩ (t3.new nt) ((c12.trans (cR1 c3)).trans cn) ?_
        exact .tup (.inl (.inl (new_at ((c12.trans (cR1 c3)).free nt) upd_same))) (.cons (.str _) (.cons (lift d2 (cR1 c1) ((cR1 c3).trans cn) (r1.some_ t1)) (.cons .non .nil)))
      | some u =>
        have e3 : (wordsEl (.stop (some l) (some u)))[3]? = some ("to" : Str) := rfl
        rw [e3] at r3 ⊢
        rw [show decide (some ("to" : Str) = some ("to" : Str)) = true by decide +kernel]
        rw [if_pos rfl] at r3
        refine ⟨_, rfl, iteT ?_⟩
        refine ⟨_, rfl, p, dx3, _, rfl, hp3, rfl, p, u, _, 4, rfl, r3, rfl, hl, up_good hg.2.1, t3, fun v2 H4 r4 t4 c4 d4 => ?_⟩
        obtain ⟨dx4, tk4, hp4, htk4⟩ := id r4
        refine ⟨_, rfl, _, rfl, three _ _ _, fun t nt => ?_⟩
        have cn : Chg (MR K p) H4 (upd H4 t (.tup [.str "stop", v, v2])) := (Chg.refl H4).new nt
        have c13 := c12.trans (cR1 c3)
        refine k _ _ ⟨dx4, tk4, (same_new nt) _ _ hp4, (same_new nt) _ _ htk4⟩ (t4.new nt) ((c13.trans c4).trans cn) ?_
        exact .tup (.inl (.inl (new_at ((c13.trans c4).free nt) upd_same))) (.cons (.str _) (.cons (lift d2 (cR1 c1) (((cR1 c3).trans c4).trans cn) (r1.some_ t1)) (.cons (lift d4 c13 cn (r3.some_ t3)) .nil)))
def spElem (K : PySem.W.Frag) : Sp := fun vs H Q _ => ∃ (p : Addr) (e : El), vs = [.ref p] ∧ RdAt K H p (wordsEl e) 0 ∧ GoodEl e ∧ Tbs K H ∧
  ∀ v H', RdAt K H' p (wordsEl e) (wordsEl e).length → Tbs K H' → Chg (MR K p) H H' → Dp K (New H H') v (elD e) → Q v H'
theorem ok_elem (T : TX K mg) (B : BX K mg base) : MCal P w K mg base CX0 7 "Reader" "element" ["self"] (spElem K) := by
  have GT : ∀ {P w}, MCal P w K mg base CX0 1 "Reader" "token" ["self"] (spToken K) := ok_token T
  have GX : ∀ {P w}, MCal P w K mg base CX0 1 "Reader" "is_next" ["self", "word"] (spNext K) := ok_next T
  have GN : ∀ {P w}, MCal P w K mg base CX0 5 "Reader" "number" ["self"] (spNumber K) := ok_number T B
  have GS : ∀ {P w}, MCal P w K mg base CX0 6 "Reader" "stop" ["self"] (spStop K) := ok_stop T B
  refine MCal.of T in_Reader_element sc_Reader_element bd_Reader_element (fun vs H Q E h => ?_) (fun cdv A outer s H vs Q E hr h => ?_)
  · obtain ⟨a, b, rfl, _⟩ := h
    rfl
  · obtain ⟨p, e, rfl, hrd, hg, hT, k⟩ := h
    have cl := T.cl (x := "Reader") (by decide +kernel)
    have gZ := T.glo_ (in1 (x := "ZERO") (by decide +kernel))
    have gW := T.glo_ (in1 (x := "WORDS") (by decide +kernel))
    refine ⟨_, pss_cons (ps_set (i := 1) sc_Reader_element.nd rfl (.inl rfl) (pe_mcal0 (pv 0) cl (T.me in_Reader_token) GT (hr.mono (by decide)) pass0))
      (pss_cons (ps_if (pt_cmpR op_notIn_seq (pv 1) (pe_glob (v := .ref (He.ga K "WORDS")) rfl gW rfl) (by rfl)) pss_never pss_nil)
      (pss_cons (ps_if (pt_cmpR op_eq (pv 1) pe_str (nomark _)) (pss_one (ps_ret (pe_mcal0 (pv 0) cl (T.me in_Reader_stop) GS hr pass0))) pss_nil)
      (pss_cons (ps_set (i := 2) sc_Reader_element.nd rfl (.inl rfl) (pe_mcal0 (pv 0) cl (T.me in_Reader_number) GN (hr.mono (by decide)) pass0))
      (pss_cons (ps_if (pt_cmpR op_ne (pv 1) pe_str (nomark _)) (pss_one (ps_ret (pe_tup (pa_cons (pv 1) (pa_cons (pv 2) pa_nil))))) pss_nil)
      (pss_cons (ps_set (i := 3) sc_Reader_element.nd rfl (.inl rfl) (pe_glob (v := .ref (He.ga K "ZERO")) rfl gZ rfl))
      (pss_cons (ps_if (pt_val (pe_mcal (pv 0) cl (T.me in_Reader_is_next) GX (hr.mono (by decide)) pass0 (pa_cons pe_str pa_nil))) (pss_one (ps_set (i := 3) sc_Reader_element.nd rfl (.inl rfl) (pe_mcal0 (pv 0) cl (T.me in_Reader_number) GN (hr.mono (by decide)) pass0))) pss_nil)
      (pss_one (ps_ret (pe_tup (pa_cons (pv 1) (pa_cons (pv 2) (pa_cons (pv 3) pa_nil)))))))))))), ?_⟩
    have hs := words_shp hg
    have w2 : shpW "at" := by unfold shpW; decide +kernel
    have hl : (wordsEl e).length ≤ 1000 := by
      cases e with
      | stop l u => cases l <;> cases u <;> simp [wordsEl, stopW]
      | lens p c => by_cases hc : c = (0, 1) <;> simp [wordsEl, hc]
      | _ => simp [wordsEl]
    obtain ⟨dx, tk, hp, htk⟩ := id hrd
    cases e with
    | gap q =>
      refine ⟨_, rfl, p, dx, _, rfl, hp, rfl, p, "gap", _, 0, rfl, hrd, rfl, hl, fun H1 r1 c1 => ?_⟩
      have t1 := hT.chgR hrd c1
      obtain ⟨dx1, tk1, hp1, htk1⟩ := id r1
      refine ⟨_, rfl, _, _, rfl, .inr (sqT_mono (fun _ _ e => by cases e) T.words), rfl, by decide +kernel, _, rfl, ?_⟩
      rw [show (if true = true then !inV (V.str "gap") [.str "gap", .str "lens", .str "prism", .str "afocal", .str "stop"] else inV (V.str "gap") [.str "gap", .str "lens", .str "prism", .str "afocal", .str "stop"]) = false by decide +kernel]
      refine iteF ⟨_, rfl, rfl, _, rfl, ?_⟩
      rw [show decide (V.str "gap" = V.str "stop") = false by decide +kernel]
      refine iteF ⟨_, rfl, p, dx1, _, rfl, hp1, rfl, p, q, _, 1, rfl, r1, rfl, hl, lo_good hg, t1, fun v H2 r2 t2 c2 d2 => ?_⟩
      refine ⟨_, rfl, rfl, _, rfl, ?_⟩
      rw [show (!decide (V.str "gap" = V.str "lens")) = true by decide +kernel]
      refine iteT ⟨_, rfl, _, rfl, (by show 2 ≤ sizeLine; decide), fun t nt => ?_⟩
      obtain ⟨dx2, tk2, hp2, htk2⟩ := id r2
      have cn : Chg (MR K p) H2 (upd H2 t (.tup [.str "gap", v])) := (Chg.refl H2).new nt
      have c12 : Chg (MR K p) H H2 := (cR1 c1).trans c2
      refine k _ _ ⟨dx2, tk2, (same_new nt) _ _ hp2, (same_new nt) _ _ htk2⟩ (t2.new nt) (c12.trans cn) ?_
      exact .tup (.inl (.inl (new_at (c12.free nt) upd_same))) (.cons (.str _) (.cons (lift d2 (cR1 c1) cn (r1.some_ t1)) .nil))
    | prism q =>
      refine ⟨_, rfl, p, dx, _, rfl, hp, rfl, p, "prism", _, 0, rfl, hrd, rfl, hl, fun H1 r1 c1 => ?_⟩
      have t1 := hT.chgR hrd c1
      obtain ⟨dx1, tk1, hp1, htk1⟩ := id r1
      refine ⟨_, rfl, _, _, rfl, .inr (sqT_mono (fun _ _ e => by cases e) T.words), rfl, by decide +kernel, _, rfl, ?_⟩
      rw [show (if true = true then !inV (V.str "prism") [.str "gap", .str "lens", .str "prism", .str "afocal", .str "stop"] else inV (V.str "prism") [.str "gap", .str "lens", .str "prism", .str "afocal", .str "stop"]) = false by decide +kernel]
      refine iteF ⟨_, rfl, rfl, _, rfl, ?_⟩
      rw [show decide (V.str "prism" = V.str "stop") = false by decide +kernel]
      refine iteF ⟨_, rfl, p, dx1, _, rfl, hp1, rfl, p, q, _, 1, rfl, r1, rfl, hl, lo_good hg, t1, fun v H2 r2 t2 c2 d2 => ?_⟩
      refine ⟨_, rfl, rfl, _, rfl, ?_⟩
      rw [show (!decide (V.str "prism" = V.str "lens")) = true by decide +kernel]
      refine iteT ⟨_, rfl, _, rfl, (by show 2 ≤ sizeLine; decide), fun t nt => ?_⟩
      obtain ⟨dx2, tk2, hp2, htk2⟩ := id r2
      have cn : Chg (MR K p) H2 (upd H2 t (.tup [.str "prism", v])) := (Chg.refl H2).new nt
      have c12 : Chg (MR K p) H H2 := (cR1 c1).trans c2
      refine k _ _ ⟨dx2, tk2, (same_new nt) _ _ hp2, (same_new nt) _ _ htk2⟩ (t2.new nt) (c12.trans cn) ?_
      exact .tup (.inl (.inl (new_at (c12.free nt) upd_same))) (.cons (.str _) (.cons (lift d2 (cR1 c1) cn (r1.some_ t1)) .nil))
    | afocal q =>
      refine ⟨_, rfl, p, dx, _, rfl, hp, rfl, p, "afocal", _, 0, rfl, hrd, rfl, hl, fun H1 r1 c1 => ?_⟩
      have t1 := hT.chgR hrd c1
      obtain ⟨dx1, tk1, hp1, htk1⟩ := id r1
      refine ⟨_, rfl, _, _, rfl, .inr (sqT_mono (fun _ _ e => by cases e) T.words), rfl, by decide +kernel, _, rfl, ?_⟩
      rw [show (if true = true then !inV (V.str "afocal") [.str "gap", .str "lens", .str "prism", .str "afocal", .str "stop"] else inV (V.str "afocal") [.str "gap", .str "lens", .str "prism", .str "afocal", .str "stop"]) = false by decide +kernel]
      refine iteF ⟨_, rfl, rfl, _, rfl, ?_⟩
      rw [show decide (V.str "afocal" = V.str "stop") = false by decide +kernel]
      refine iteF ⟨_, rfl, p, dx1, _, rfl, hp1, rfl, p, q, _, 1, rfl, r1, rfl, hl, lo_good hg.1, t1, fun v H2 r2 t2 c2 d2 => ?_⟩
      refine ⟨_, rfl, rfl, _, rfl, ?_⟩
      rw [show (!decide (V.str "afocal" = V.str "lens")) = true by decide +kernel]
      refine iteT ⟨_, rfl, _, rfl, (by show 2 ≤ sizeLine; decide), fun t nt => ?_⟩
      obtain ⟨dx2, tk2, hp2, htk2⟩ := id r2
      have cn : Chg (MR K p) H2 (upd H2 t (.tup [.str "afocal", v])) := (Chg.refl H2).new nt
      have c12 : Chg (MR K p) H H2 := (cR1 c1).trans c2
      refine k _ _ ⟨dx2, tk2, (same_new nt) _ _ hp2, (same_new nt) _ _ htk2⟩ (t2.new nt) (c12.trans cn) ?_
      exact .tup (.inl (.inl (new_at (c12.free nt) upd_same))) (.cons (.str _) (.cons (lift d2 (cR1 c1) cn (r1.some_ t1)) .nil))
    | stop l u =>
      refine ⟨_, rfl, p, dx, _, rfl, hp, rfl, p, "stop", _, 0, rfl, hrd, rfl, hl, fun H1 r1 c1 => ?_⟩
      have t1 := hT.chgR hrd c1
      obtain ⟨dx1, tk1, hp1, htk1⟩ := id r1
      refine ⟨_, rfl, _, _, rfl, .inr (sqT_mono (fun _ _ e => by cases e) T.words), rfl, by decide +kernel, _, rfl, ?_⟩
      rw [show (if true = true then !inV (V.str "stop") [.str "gap", .str "lens", .str "prism", .str "afocal", .str "stop"] else inV (V.str "stop") [.str "gap", .str "lens", .str "prism", .str "afocal", .str "stop"]) = false by decide +kernel]
      refine iteF ⟨_, rfl, rfl, _, rfl, ?_⟩
      rw [show decide (V.str "stop" = V.str "stop") = true by decide +kernel]
      refine iteT ⟨_, rfl, p, dx1, _, rfl, hp1, rfl, p, l, u, rfl, r1, hg, t1, fun v H2 r2 t2 c2 d2 => ?_⟩
      exact k v H2 r2 t2 ((cR1 c1).trans c2) (lift d2 (cR1 c1) (Chg.refl (M := MR K p) H2) (r1.some_ t1))
    | lens q c =>
      have e0 : (wordsEl (.lens q c))[0]? = some ("lens" : Str) := by by_cases hc : c = (0, 1) <;> simp [wordsEl, hc]
      have e1 : (wordsEl (.lens q c))[1]? = some (fmtQ q) := by by_cases hc : c = (0, 1) <;> simp [wordsEl, hc]
      refine ⟨_, rfl, p, dx, _, rfl, hp, rfl, p, "lens", _, 0, rfl, hrd, e0, hl, fun H1 r1 c1 => ?_⟩
      have t1 := hT.chgR hrd c1
      obtain ⟨dx1, tk1, hp1, htk1⟩ := id r1
      refine ⟨_, rfl, _, _, rfl, .inr (sqT_mono (fun _ _ e => by cases e) T.words), rfl, by decide +kernel, _, rfl, ?_⟩
      rw [show (if true = true then !inV (V.str "lens") [.str "gap", .str "lens", .str "prism", .str "afocal", .str "stop"] else inV (V.str "lens") [.str "gap", .str "lens", .str "prism", .str "afocal", .str "stop"]) = false by decide +kernel]
      refine iteF ⟨_, rfl, rfl, _, rfl, ?_⟩
      rw [show decide (V.str "lens" = V.str "stop") = false by decide +kernel]
      refine iteF ⟨_, rfl, p, dx1, _, rfl, hp1, rfl, p, q, _, 1, rfl, r1, e1, hl, lo_good hg.1, t1, fun v H2 r2 t2 c2 d2 => ?_⟩
      refine ⟨_, rfl, rfl, _, rfl, ?_⟩
      rw [show (!decide (V.str "lens" = V.str "lens")) = false by decide +kernel]
      obtain ⟨dx2, tk2, hp2, htk2⟩ := id r2
      refine iteF ⟨_, rfl, p, dx2, _, rfl, hp2, rfl, p, "at", _, 2, rfl, r2, w2, hs, fun H3 r3 c3 => ?_⟩
      have t3 := t2.chgR r2 c3
      have c12 : Chg (MR K p) H H2 := (cR1 c1).trans c2
      have three : ∀ a b c : V, [a, b, c].length ≤ sizeLine := fun _ _ _ => by show 3 ≤ sizeLine; decide
      by_cases hc : c = (0, 1)
      · have ew : wordsEl (.lens q c) = (["lens", fmtQ q] : List Str) := if_pos hc
        have e2 : (wordsEl (.lens q c))[2]? = none := by rw [ew] <;> rfl
        rw [e2] at r3 ⊢
        rw [show decide ((none : Option Str) = some ("at" : Str)) = false by decide +kernel]
        rw [if_neg (by decide +kernel)] at r3
        obtain ⟨dx3, tk3, hp3, htk3⟩ := id r3
        refine ⟨_, rfl, iteF ⟨_, rfl, _, rfl, _, rfl, three _ _ _, fun t nt => ?_⟩⟩
        have cn : Chg (MR K p) H3 (upd H3 t (.tup [.str "lens", v, .ref (He.ga K "ZERO")])) := (Chg.refl H3).new nt
        have el : (wordsEl (.lens q c)).length = 2 := by rw [ew] <;> rfl
        rw [el] at k
        refine k _ _ ⟨dx3, tk3, (same_new nt) _ _ hp3, (same_new nt) _ _ htk3⟩ (t3.new nt) ((c12.trans (cR1 c3)).trans cn) ?_
        rw [hc]
        exact .tup (.inl (.inl (new_at ((c12.trans (cR1 c3)).free nt) upd_same))) (.cons (.str _) (.cons (lift d2 (cR1 c1) ((cR1 c3).trans cn) (r1.some_ t1)) (.cons (zero_dp T) .nil)))
      · have ew : wordsEl (.lens q c) = (["lens", fmtQ q, "at", fmtQ c] : List Str) := if_neg hc
        have e2 : (wordsEl (.lens q c))[2]? = some ("at" : Str) := by rw [ew] <;> rfl
        have e3 : (wordsEl (.lens q c))[3]? = some (fmtQ c) := by rw [ew] <;> rfl
        rw [e2] at r3 ⊢
        rw [show decide (some ("at" : Str) = some ("at" : Str)) = true by decide +kernel]
        rw [if_pos rfl] at r3
        obtain ⟨dx3, tk3, hp3, htk3⟩ := id r3
        refine ⟨_, rfl, iteT ⟨_, rfl, p, dx3, _, rfl, hp3, rfl, p, c, _, 3, rfl, r3, e3, hl, lo_good hg.2, t3, fun v2 H4 r4 t4 c4 d4 => ?_⟩⟩
        obtain ⟨dx4, tk4, hp4, htk4⟩ := id r4
        refine ⟨_, rfl, _, rfl, _, rfl, three _ _ _, fun t nt => ?_⟩
        have cn : Chg (MR K p) H4 (upd H4 t (.tup [.str "lens", v, v2])) := (Chg.refl H4).new nt
        have c13 := c12.trans (cR1 c3)
        have el : (wordsEl (.lens q c)).length = 4 := by rw [ew] <;> rfl
        rw [el] at k
        refine k _ _ ⟨dx4, tk4, (same_new nt) _ _ hp4, (same_new nt) _ _ htk4⟩ (t4.new nt) ((c13.trans c4).trans cn) ?_
        exact .tup (.inl (.inl (new_at ((c13.trans c4).free nt) upd_same))) (.cons (.str _) (.cons (lift d2 (cR1 c1) (((cR1 c3).trans c4).trans cn) (r1.some_ t1)) (.cons (lift d4 c13 cn (r3.some_ t3)) .nil)))
end
end RT
end
section
set_option Elab.async false
set_option linter.all false
set_option maxRecDepth 100000
set_option maxHeartbeats 2000000
/-! Y5: Reader.train, parse_train. -/
namespace RT
open PySem PySem.Spec PyProof.Rows L2
section
variable {P : Program} {w : World} {K : PySem.W.Frag} {mg : Str → Option Value} {base : Heap}
def spRTrain (K : PySem.W.Frag) : Sp := fun vs H Q _ => ∃ (p : Addr) (e : El), vs = [.ref p] ∧ RdAt K H p (wordsEl e) 0 ∧ GoodEl e ∧ Tbs K H ∧
  ∀ v f H', Tbs K H' → Chg (MR K p) H H' → H f = none → H' f = some (.lst [v]) → Dp K (New H H') v (elD e) → Q (.ref f) H'
theorem ok_rtrain (T : TX K mg) (B : BX K mg base) : MCal P w K mg base CX0 8 "Reader" "train" ["self"] (spRTrain K) := by
  have GE : ∀ {P w}, MCal P w K mg base CX0 7 "Reader" "element" ["self"] (spElem K) := ok_elem T B
  refine MCal.of T in_Reader_train sc_Reader_train bd_Reader_train (fun vs H Q E h => ?_) (fun cdv A outer s H vs Q E hr h => ?_)
  · obtain ⟨a, b, rfl, _⟩ := h
    rfl
  · obtain ⟨p, e, rfl, hrd, hg, hT, k⟩ := h
    have cl := T.cl (x := "Reader") (by decide +kernel)
    have n1 := T.na (x := "Reader") (f := "tokens") (by decide +kernel)
    have n2 := T.na (x := "Reader") (f := "place") (by decide +kernel)
    refine ⟨_, pss_cons (ps_if (pt_not (pt_truth (pe_fld (pv 0) rfl) (by intro _; rfl))) pss_never pss_nil)
      (pss_cons (ps_set (i := 1) sc_Reader_train.nd rfl (.inl rfl) (pe_lst (pa_cons (pe_mcal0 (pv 0) cl (T.me in_Reader_element) GE hr pass0) pa_nil)))
      (pss_cons (ps_while PassesOwn.never (pt_cmpR op_lt (pe_fld (pv 0) rfl) (pe_callB call_len (by rfl) (T.fr (by decide +kernel)) PySem.boot_len (pa_cons (pe_fld (pv 0) rfl) pa_nil)) (nomark _)) pss_never)
      (pss_one (ps_ret (pv 1))))), ?_⟩
    obtain ⟨dx, tk, hp, htk⟩ := id hrd
    refine ⟨_, rfl, p, _, dx, _, _, rfl, hp, cl, n1, rdF_tk _ _, _, .inl ⟨_, .inl (.inl htk), rfl⟩, ?_⟩
    have hne := (words_ok hg).1
    have ee : ((wordsEl e).map V.str).isEmpty = false := by
      cases h : wordsEl e with
      | nil => exact absurd h hne
      | cons a b => rfl
    rw [ee]
    refine iteF ⟨_, rfl, p, dx, _, rfl, hp, rfl, p, e, rfl, hrd, hg, hT, fun v H1 r1 t1 c1 d1 => ⟨by show 1 ≤ sizeLine; decide, fun f nf => ?_⟩⟩
    obtain ⟨dx1, tk1, hp1, htk1⟩ := id r1
    have s2 := same_new (o := .lst [v]) nf
    refine ⟨fun m σ H' => σ = [some (.ref p), some (.ref f)] ∧ H' = upd H1 f (.lst [v]), ⟨0, rfl, rfl⟩, ?_⟩
    rintro m σ H' ⟨rfl, rfl⟩
    refine ⟨_, rfl, p, _, dx1, _, _, rfl, s2 _ _ hp1, cl, n2, rdF_pl _ _, _, rfl, p, _, dx1, _, _, rfl, s2 _ _ hp1, cl, n1, rdF_tk _ _, .ref tk1, _, rfl, .inl ⟨_, .inl (.inl (s2 _ _ htk1)), rfl⟩, _, _, rfl, rfl, _, rfl, ?_⟩
    rw [List.length_map, decide_eq_false (by omega)]
    refine iteF ⟨_, rfl, k v f _ (t1.new nf) (c1.new nf) (c1.free nf) upd_same ?_⟩
    exact dp_mono (new_mono (Chg.refl (M := fun _ => False) H) (Chg.of s2) (fun _ z => z.elim)) d1
theorem el_word {H : Hp} {v : V} {e : El} (h : Dp K H v (elD e)) : ∃ a w r, v = .ref a ∧ SqT K H a (.str w :: r) := by
  have z : ∃ ww ds, elD e = .tuple (.str ww :: ds) := by cases e <;> exact ⟨_, _, rfl⟩
  obtain ⟨ww, ds, ez⟩ := z
  rw [ez] at h
  obtain ⟨a, xs, e1, h1, h2⟩ := dp_tup h
  cases h2 with
  | cons a1 a2 =>
    cases dp_str a1
    exact ⟨a, ww, _, e1, h1⟩
theorem atI0 {α : Type} {x : α} {r : List α} : atI (x :: r) (0 : Int) = some x := atI_nat (j := 0) rfl
theorem sc_parse : FnScope ["text", "train", "stops", "element"] ["text"] (defScope (top 39)) := ⟨rfl, rfl, rfl, by decide +kernel, rfl, by decide +kernel, by decide +kernel⟩
def spParse (K : PySem.W.Frag) : Sp := fun vs H Q _ => ∃ e : El, vs = [.str (fmtEl e)] ∧ GoodEl e ∧ Tbs K H ∧
  ∀ v f H', Tbs K H' → Chg (IsT K) H H' → H f = none → H' f = some (.lst [v]) → Dp K (New H H') v (elD e) → Q (.ref f) H'
theorem ok_parse (T : TX K mg) (B : BX K mg base) : Cal P w K mg base CX0 9 "parse_train" ["text"] (spParse K) := by
  have GI : ∀ {P w}, MCal P w K mg base CX0 2 "Reader" "__init__" ["self", "text"] (spRInit K) := ok_rinit T
  have GT : ∀ {P w}, MCal P w K mg base CX0 8 "Reader" "train" ["self"] (spRTrain K) := ok_rtrain T B
  refine Cal.ofT T in_parse_train sc_parse bd_parse_train (fun vs H Q E h => ?_) (fun A outer s H vs Q E hr h => ?_)
  · obtain ⟨a, rfl, _⟩ := h
    rfl
  · obtain ⟨e, rfl, hg, hT, k⟩ := h
    have cl := T.cl (x := "Reader") (by decide +kernel)
    obtain ⟨t1, m1⟩ := T.int (x := "ELEMENTS_MOST") (i := 16) (by decide +kernel)
    obtain ⟨t2, m2⟩ := T.int (x := "STOPS_MOST") (i := 8) (by decide +kernel)
    refine ⟨_, pss_cons (ps_set (i := 1) sc_parse.nd rfl (.inl rfl) (pe_mcal0 (pe_new (T.mkc (x := "Reader") (by decide +kernel)) GI (hr.mono (by decide)) rfl (T.gc (by decide +kernel)) pass0 (pa_cons (pv 0) pa_nil)) cl (T.me in_Reader_train) GT hr pass0))
      (pss_cons (ps_setLc (i := 2) (own := [("element", 3)]) (g := gName 3) (tt := tTest (tOp rEq (tOp (rIxT K) (tVar 3) (tC (.int 0))) (tC (.str "stop")))) (by rfl) sc_parse.nd rfl rfl (sw_true rfl rfl rfl (by decide +kernel)) (pi_list (pv 1)) (blkOk_by (own := [("element", 3)]) (N := ["text", "train", "stops", "element"]) (sc := defScope (top 39)) (by decide +kernel))
        (fun _ _ _ _ _ => pg_name (i := 3) sc_parse.nd rfl (Or.inl rfl)) (fun _ _ _ _ _ => pts_one (pt_cmpR op_eq (pe_ix ix_tup (pv 3) pe_int (fun _ _ => rfl)) pe_str (nomark _))) (fun _ _ _ _ _ => pv 3))
      (pss_cons (ps_if (PW.pt (pw_or (pt_cmpR op_gt (pe_callB call_len (by rfl) (T.fr (by decide +kernel)) PySem.boot_len (pa_cons (pv 1) pa_nil)) (pe_glob (v := .int 16) rfl m1 ⟨_, rfl⟩) (nomark _))
          (pw_or (pt_cmpR op_gt (pe_callB call_len (by rfl) (T.fr (by decide +kernel)) PySem.boot_len (pa_cons (pv 2) pa_nil)) (pe_glob (v := .int 8) rfl m2 ⟨_, rfl⟩) (nomark _))
          (pw_or1 (pt_not (pt_val (pe_allL hr (by rfl) (T.fr (by decide +kernel)) B.p rfl (gens rfl rfl (by decide +kernel) rfl rfl) (pv 1)))))))) pss_never pss_nil)
      (pss_one (ps_ret (pv 1))))), ?_⟩
    refine ⟨_, rfl, fun x dx nx ndx nex => ⟨x, dx, fmtEl e, rfl, upd_same, Nat.le_trans (fmtE_len hg) (by decide), fun H1 r1 c1 => ⟨rfl, ?_⟩⟩⟩
    rw [tok_el hg] at r1
    have s0 : Same H (upd (upd H dx (.own x)) x (.ins (cR K) dx [])) := (same_new ndx).trans (same_new (by rw [upd_ne nex.symm]; exact nx))
    have t0 := hT.same s0
    have t1 : Tbs K H1 := t0.chg c1 fun b ps eb z => by
      rw [eb, upd_same] at z
      cases z
    obtain ⟨dx1, tk1, hp1, htk1⟩ := id r1
    refine ⟨x, dx1, _, rfl, hp1, rfl, x, e, rfl, r1, hg, t1, fun v f H2 t2 c2 nf ef d2 => ?_⟩
    have c01 : Chg (MR K x) H H1 := (Chg.of s0).trans (cR1 c1)
    have cI : ∀ {H'}, Chg (MR K x) H H' → Chg (IsT K) H H' := fun c => c.mono fun b hb hm => by
      rcases hm with z | z
      · rw [z] at hb
        exact absurd nx hb
      · exact z
    have dv : Dp K H2 v (elD e) := dp_mono new_le d2
    obtain ⟨a, ww, r, rfl, ha⟩ := el_word dv
    refine ⟨_, rfl, f, rfl, ⟨_, .inl (.inl ef)⟩, fun D nD => ?_⟩
    refine lc_list (K := K) (a := f) (xs := [.ref a]) (fun i H' => Same H2 H' ∧ ∃ acc, acc.length ≤ i ∧ H' D = some (.lst acc)) ⟨same_new nD, [], Nat.le_refl _, upd_same⟩ (fun i H' _ ⟨sm, _⟩ => sm.seq (.inl (.inl ef))) ?_ ?_
    · rintro i y H' hi ⟨sm, acc, hl, hD⟩
      have hi0 : i = 0 ∧ y = .ref a := by
        cases i with
        | zero =>
          cases hi
          exact ⟨rfl, rfl⟩
        | succ i => cases hi
      obtain ⟨rfl, rfl⟩ := hi0
      refine ⟨rfl, _, rfl, a, _, _, _, rfl, rfl, sqT_mono sm ha, atI0, rfl, _, rfl, ?_⟩
      have cont : Same H2 H' ∧ ∃ acc, acc.length ≤ 0 + 1 ∧ H' D = some (.lst acc) := ⟨sm, acc, by omega, hD⟩
      refine ite2 (fun _ => ⟨_, rfl, acc, hD, Nat.lt_of_le_of_lt (by omega : _ ≤ 1) (by decide), fun b o z => ?_, _, ?_, upd_same⟩) fun _ => cont
      · rw [upd_ne (ne_of_none z nD)]
        exact sm _ _ z
      · rw [List.length_append]
        show acc.length + 1 ≤ 0 + 1
        omega
    · rintro H' ⟨sm, acc, hl, hD⟩
      have ef2 := sm _ _ ef
      have t3 := t2.same sm
      refine ⟨_, rfl, .ref f, _, rfl, .inl ⟨_, .inl (.inl ef2), rfl⟩, _, _, rfl, rfl, _, rfl, ?_⟩
      rw [show decide (((([V.ref a] : List V).length : Nat) : Int) > 16) = false from rfl]
      refine iteF ⟨_, rfl, .ref D, _, rfl, .inl ⟨_, .inl (.inl hD), rfl⟩, _, _, rfl, rfl, _, rfl, ?_⟩
      rw [decide_eq_false (by have : acc.length ≤ 1 := hl; omega)]
      refine iteF ?_
      intro pins
      refine ⟨_, rfl, f, [.ref a], fun _ => true, rfl, .inl (.inl ef2), t3.p, fun H3 h3 => ?_, fun s1 I => elt_good (k := 5) (els := [e]) T hr I ?_ (.cons (dp_mono sm dv) .nil) (by simpa using hg) rfl rfl rfl⟩
      · have ea : ((List.range [V.ref a].length).all fun _ => true) = true := rfl
        rw [ea]
        refine ⟨_, rfl, iteF ⟨_, rfl, ?_⟩⟩
        have c3 := chg_tabbed (K := K) (.inr (.inr rfl)) h3
        have ct : Chg (MR K x) H2 H3 := (Chg.of sm).trans (cR2 c3)
        refine k (.ref a) f H3 (t3.tabbed h3) (cI ((c01.trans c2).trans ct)) (c01.free nf) (c3.at ef2 (notT t3 ef2 fun _ z => by cases z)) ?_
        exact lift d2 c01 ct (r1.some_ t1)
      · obtain ⟨ps, hP, _⟩ := t3.p
        exact ⟨ps, hP⟩
end
end RT
end
section
set_option Elab.async false
set_option linter.all false
set_option maxRecDepth 100000
set_option maxHeartbeats 2000000
/-! Y6: octets of an operation. -/
namespace RT
open PySem PySem.Spec PyProof.Rows L2
/-- the octets of an element's text -/
def ce (e : El) : List Int := (fmtEl e).cps.toList.map Int.ofNat
def bodyO : Op → List Int
  | .undo => [4]
  | .take i => [2, i]
  | .put i e => 1 :: i :: ce e
  | .exch i e => 3 :: i :: ce e
def recO (o : Op) : List Int := [((bodyO o).length : Int) / 256, ((bodyO o).length : Int) % 256] ++ bodyO o ++ [(bodyO o).sum % 256, 170]
/-- an operation that the journal may hold -/
def GoodOp : Op → Prop
  | .undo => True
  | .take i => 0 ≤ i ∧ i ≤ 100
  | .put i e => 0 ≤ i ∧ i ≤ 100 ∧ GoodEl e
  | .exch i e => 0 ≤ i ∧ i ≤ 100 ∧ GoodEl e
/-- its element, if it has one, may be drawn -/
def ElOp : Op → Prop
  | .put _ e => GoodEl e
  | .exch _ e => GoodEl e
  | _ => True
theorem GoodOp.el {o : Op} (g : GoodOp o) : ElOp o := by
  cases o with
  | put i e => exact g.2.2
  | exch i e => exact g.2.2
  | _ => trivial
theorem ce_len {e : El} (g : GoodEl e) : (ce e).length ≤ 100 := by
  unfold ce
  rw [List.length_map, Array.length_toList]
  exact fmtE_len g
theorem body_len {o : Op} (g : ElOp o) : (bodyO o).length ≤ 102 := by
  cases o with
  | put i e =>
    have := ce_len (e := e) g
    simp only [bodyO, List.length_cons]
    omega
  | exch i e =>
    have := ce_len (e := e) g
    simp only [bodyO, List.length_cons]
    omega
  | _ => simp [bodyO]
theorem app1 {H : Hp} {a : Addr} {K : PySem.W.Frag} {xs : List V} (h : H a = some (.lst xs)) : SqL K H a xs := .inl (.inl h)
theorem app2 {H : Hp} {a : Addr} {K : PySem.W.Frag} {xs : List V} (h : H a = some (.tup xs)) : SqT K H a xs := .inl (.inl h)
/-- a comprehension over a text -/
theorem lc_str {z : Str} {g : TG} {tt : TT} {te : TE} {vs : List Nat} {σ : L2.St} {H1 : Hp} {D : Addr} {Qd : Hp → Prop} (Pv : Nat → Hp → Prop) (h0 : Pv 0 (upd H1 D (.lst [])))
    (hs : ∀ i c H, z.cps[i]? = some c → Pv i H → g (.str ⟨#[c]⟩) (wipe σ vs) H fun σ2 H2 => wipe σ2 vs = wipe σ vs ∧ tt σ2 H2 fun b H3 =>
      if b = true then te σ2 H3 fun y H4 => ∃ acc, H4 D = some (.lst acc) ∧ acc.length < sizeLine ∧ Pv (i + 1) (upd H4 D (.lst (acc ++ [y]))) else Pv (i + 1) H3) (hd : ∀ H, Pv z.cps.size H → Qd H) :
    ∃ W : Nat → Nat → Hp → Prop, (∃ m, W 0 m (upd H1 D (.lst []))) ∧ ∀ i m H, W i m H →
      ((Its z).stop i H ∧ Qd H) ∨ ((Its z).go i H ∧ ∃ Nx : Hp → Prop, (∀ H', Nx H' → ∃ m', m' < m ∧ W (i + 1) m' H') ∧ ∀ x H', (Its z).yld i H x H' → g x (wipe σ vs) H' fun σ2 H2 => wipe σ2 vs = wipe σ vs ∧ tt σ2 H2 fun b H3 =>
        if b = true then te σ2 H3 fun y H4 => ∃ acc, H4 D = some (.lst acc) ∧ acc.length < sizeLine ∧ Nx (upd H4 D (.lst (acc ++ [y]))) else Nx H3) := by
  refine ⟨fun i m H => m = z.cps.size - i ∧ i ≤ z.cps.size ∧ Pv i H, ⟨z.cps.size, by simp, Nat.zero_le _, h0⟩, ?_⟩
  rintro i m H ⟨rfl, hi, p⟩
  by_cases hlt : i < z.cps.size
  · refine .inr ⟨hlt, Pv (i + 1), fun H' p' => ⟨z.cps.size - (i + 1), by omega, rfl, hlt, p'⟩, fun x H' y => ?_⟩
    obtain ⟨e, c, hc, rfl⟩ := y
    subst e
    exact hs i c _ hc p
  · have e : i = z.cps.size := by omega
    subst e
    exact .inl ⟨Nat.le_refl _, hd H p⟩
section
variable {P : Program} {w : World} {K : PySem.W.Frag} {mg : Str → Option Value} {base : Heap}
def spSum (K : PySem.W.Frag) : Sp := fun vs H Q _ => ∃ (a : Addr) (ns : List Int), vs = [.ref a] ∧ SqL K H a (ns.map V.int) ∧ Q (.int (ns.sum % 256)) H
theorem ok_sum (T : TX K mg) : Cal P w K mg base CX0 1 "sum_of" ["octets"] (spSum K) := by
  refine Cal.of T in_sum_of sc_sum_of bd_sum_of (fun vs H Q E h => ?_) (fun cdv A outer s H vs Q E hr h => ?_)
  · obtain ⟨a, b, rfl, _⟩ := h
    rfl
  · obtain ⟨a, ns, rfl, ha, k⟩ := h
    refine ⟨_, pss_one (ps_ret (pe_op op_mod (pe_callB (cr_sum rfl) (by rfl) (T.fr (by decide +kernel)) (by decide +kernel) (pa_cons (pv 0) pa_nil)) pe_int)), ?_⟩
    exact ⟨_, rfl, a, ns, rfl, ha, _, _, rfl, rfl, (by show (0 : Int) < 256; decide), k⟩
/-! ### body_of, record_of -/
def spBody (K : PySem.W.Frag) : Sp := fun vs H Q _ => ∃ (v : V) (o : Op), vs = [v] ∧ Dp K H v (opD o) ∧ ElOp o ∧ ∀ p H', Same H H' → H p = none → H' p = some (.lst ((bodyO o).map V.int)) → Q (.ref p) H'
theorem dp_op {H : Hp} {v : V} {o : Op} (h : Dp K H v (opD o)) : ∃ a w r, v = .ref a ∧ SqT K H a (.str w :: r) ∧ match o with
    | .undo => w = "undo" ∧ r = []
    | .take i => w = "take" ∧ r = [.int i]
    | .put i e => w = "put" ∧ ∃ x, r = [.int i, x] ∧ Dp K H x (elD e)
    | .exch i e => w = "exchange" ∧ ∃ x, r = [.int i, x] ∧ Dp K H x (elD e) := by
  cases o with
  | undo =>
    obtain ⟨a, xs, e1, h1, h2⟩ := dp_tup h
    cases h2 with
    | cons a1 a2 =>
      cases dp_str a1
      cases a2
      exact ⟨a, _, _, e1, h1, rfl, rfl⟩
  | take i =>
    obtain ⟨a, v2, e1, h1, h2⟩ := dp_tup2 h
    cases dp_int h2
    exact ⟨a, _, _, e1, h1, rfl, rfl⟩
  | put i e =>
    obtain ⟨a, v2, v3, e1, h1, h2, h3⟩ := dp_tup3 h
    cases dp_int h2
    exact ⟨a, _, _, e1, h1, rfl, _, rfl, h3⟩
  | exch i e =>
    obtain ⟨a, v2, v3, e1, h1, h2, h3⟩ := dp_tup3 h
    cases dp_int h2
    exact ⟨a, _, _, e1, h1, rfl, _, rfl, h3⟩
theorem sc_body : FnScope ["operation", "kind", "sign"] ["operation"] (defScope (top 48)) := ⟨rfl, rfl, rfl, by decide +kernel, rfl, by decide +kernel, by decide +kernel⟩
theorem ok_body (T : TX K mg) : Cal P w K mg base CX0 4 "body_of" ["operation"] (spBody K) := by
  have GF : ∀ {P w base}, Cal P w K mg base CX0 3 "format_train" ["train"] (spFmtT K) := ok_fmtT T
  refine Cal.of T in_body_of sc_body bd_body_of (fun vs H Q E h => ?_) (fun cdv A outer s H vs Q E hr h => ?_)
  · obtain ⟨a, b, rfl, _⟩ := h
    rfl
  · obtain ⟨v, o, rfl, hd, hg, k⟩ := h
    obtain ⟨t1, m1⟩ := T.int (x := "UNDO") (i := 4) (by decide +kernel)
    obtain ⟨t2, m2⟩ := T.int (x := "TAKE") (i := 2) (by decide +kernel)
    obtain ⟨t3, m3⟩ := T.int (x := "PUT") (i := 1) (by decide +kernel)
    obtain ⟨t4, m4⟩ := T.int (x := "EXCHANGE") (i := 3) (by decide +kernel)
    refine ⟨_, pss_cons (ps_if (pt_cmpR op_eq (pe_ix ix_tup (pv 0) pe_int (fun _ _ => rfl)) pe_str (nomark _)) (pss_one (ps_ret (pe_lst (pa_cons (pe_glob (v := .int 4) rfl m1 ⟨_, rfl⟩) pa_nil)))) pss_nil)
      (pss_cons (ps_if (pt_cmpR op_eq (pe_ix ix_tup (pv 0) pe_int (fun _ _ => rfl)) pe_str (nomark _)) (pss_one (ps_ret (pe_lst (pa_cons (pe_glob (v := .int 2) rfl m2 ⟨_, rfl⟩) (pa_cons (pe_ix ix_tup (pv 0) pe_int (fun _ _ => rfl)) pa_nil))))) pss_nil)
      (pss_cons (ps_set (i := 1) sc_body.nd rfl (.inl rfl) (pe_glob (v := .int 1) rfl m3 ⟨_, rfl⟩))
      (pss_cons (ps_if (pt_cmpR op_eq (pe_ix ix_tup (pv 0) pe_int (fun _ _ => rfl)) pe_str (nomark _)) (pss_one (ps_set (i := 1) sc_body.nd rfl (.inl rfl) (pe_glob (v := .int 3) rfl m4 ⟨_, rfl⟩))) pss_nil)
      (pss_one (ps_ret (pe_op op_cat (pe_lst (pa_cons (pv 1) (pa_cons (pe_ix ix_tup (pv 0) pe_int (fun _ _ => rfl)) pa_nil)))
        (pe_lc (own := [("sign", 2)]) (g := gName 2) (tt := tYes) (by rfl) sc_body.nd (pi_str (pe_cal GF hr pass0 (pa_cons (pe_lst (pa_cons (pe_ix ix_tup (pv 0) pe_int (fun _ _ => rfl)) pa_nil)) pa_nil))) (blkOk_by (own := [("sign", 2)]) (N := ["operation", "kind", "sign"]) (sc := defScope (top 48)) (by decide +kernel))
          (fun _ _ _ _ _ => pg_name (i := 2) sc_body.nd rfl (Or.inl rfl)) (fun _ _ _ _ _ => pts_nil) (fun _ _ _ _ _ => pe_callB call_ord (by rfl) (T.fr (by decide +kernel)) (by decide +kernel) (pa_cons (pv 2) pa_nil))))))))), ?_⟩
    obtain ⟨a, ww, r, rfl, ha, ho⟩ := dp_op hd
    refine ⟨_, rfl, a, _, _, _, rfl, rfl, ha, atI0, rfl, _, rfl, ?_⟩
    cases o with
    | undo =>
      obtain ⟨rfl, rfl⟩ := ho
      rw [show decide (V.str "undo" = V.str "undo") = true by decide +kernel]
      exact iteT ⟨by show 1 ≤ sizeLine; decide, fun p np => k p _ (same_new np) np upd_same⟩
    | take i =>
      obtain ⟨rfl, rfl⟩ := ho
      rw [show decide (V.str "take" = V.str "undo") = false by decide +kernel]
      refine iteF ⟨_, rfl, a, _, _, _, rfl, rfl, ha, atI0, rfl, _, rfl, ?_⟩
      rw [show decide (V.str "take" = V.str "take") = true by decide +kernel]
      exact iteT ⟨_, rfl, a, _, _, _, rfl, rfl, ha, atI_nat (j := 1) rfl, by show 2 ≤ sizeLine; decide, fun p np => k p _ (same_new np) np upd_same⟩
    | put i e =>
      obtain ⟨rfl, x, rfl, hx⟩ := ho
      rw [show decide (V.str "put" = V.str "undo") = false by decide +kernel]
      refine iteF ⟨_, rfl, a, _, _, _, rfl, rfl, ha, atI0, rfl, _, rfl, ?_⟩
      rw [show decide (V.str "put" = V.str "take") = false by decide +kernel]
      refine iteF ⟨_, rfl, a, _, _, _, rfl, rfl, ha, atI0, rfl, _, rfl, ?_⟩
      rw [show decide (V.str "put" = V.str "exchange") = false by decide +kernel]
      refine iteF ?_
      refine ⟨_, rfl, _, rfl, a, _, _, _, rfl, rfl, ha, atI_nat (j := 1) rfl, (by show 2 ≤ sizeLine; decide), fun b nb => ?_⟩
      have s1 := same_new (o := .lst [.int 1, .int i]) nb
      refine ⟨_, rfl, a, _, _, _, rfl, rfl, sqT_mono s1 ha, atI_nat (j := 2) rfl, (by show 1 ≤ sizeLine; decide), fun c nc => ?_⟩
      have s2 := same_new (o := .lst [x]) nc
      refine ⟨c, x, e, rfl, app1 upd_same, dp_mono (s1.trans s2) hx, hg, fun H3 s3 => ⟨_, rfl, fun D nD => ?_⟩⟩
      have hcl : (fmtEl e).cps.toList.length = (fmtEl e).cps.size := by simp
      have hsz : (fmtEl e).cps.size ≤ 100 := fmtE_len hg
      refine lc_str (z := fmtEl e) (fun j H' => Same H3 H' ∧ H' D = some (.lst ((((fmtEl e).cps.toList.take j).map Int.ofNat).map V.int))) ⟨same_new nD, by rw [upd_same] <;> rfl⟩ ?_ ?_
      · rintro j ch H' hj ⟨sm, hD⟩
        have hj2 : (fmtEl e).cps.toList[j]? = some ch := by simpa using hj
        refine ⟨rfl, _, rfl, ⟨#[ch]⟩, rfl, rfl, _, hD, ?_, fun q o z => ?_, ?_⟩
        · rw [List.length_map, List.length_map, List.length_take]
          exact Nat.lt_of_le_of_lt (by omega : _ ≤ 100) (by decide)
        · rw [upd_ne (ne_of_none z nD)]
          exact sm _ _ z
        · rw [upd_same, List.take_add_one, hj2, List.map_append, List.map_append]
          rfl
      · rintro H' ⟨sm, hD⟩
        rw [← hcl, List.take_of_length_le (Nat.le_refl _)] at hD
        have sA := (s1.trans s2).trans (s3.trans sm)
        refine ⟨b, D, _, _, rfl, rfl, (s2.trans (s3.trans sm)) _ _ upd_same, hD, ?_, fun p np => ?_⟩
        · rw [List.length_map, List.length_map, hcl]
          exact Nat.le_trans (by show 2 + (fmtEl e).cps.size ≤ 102; omega) (by decide)
        · exact k p _ (sA.trans (same_new np)) (sA.free np) upd_same
    | exch i e =>
      obtain ⟨rfl, x, rfl, hx⟩ := ho
      rw [show decide (V.str "exchange" = V.str "undo") = false by decide +kernel]
      refine iteF ⟨_, rfl, a, _, _, _, rfl, rfl, ha, atI0, rfl, _, rfl, ?_⟩
      rw [show decide (V.str "exchange" = V.str "take") = false by decide +kernel]
      refine iteF ⟨_, rfl, a, _, _, _, rfl, rfl, ha, atI0, rfl, _, rfl, ?_⟩
      rw [show decide (V.str "exchange" = V.str "exchange") = true by decide +kernel]
      refine iteT ?_
      refine ⟨_, rfl, _, rfl, a, _, _, _, rfl, rfl, ha, atI_nat (j := 1) rfl, (by show 2 ≤ sizeLine; decide), fun b nb => ?_⟩
      have s1 := same_new (o := .lst [.int 3, .int i]) nb
      refine ⟨_, rfl, a, _, _, _, rfl, rfl, sqT_mono s1 ha, atI_nat (j := 2) rfl, (by show 1 ≤ sizeLine; decide), fun c nc => ?_⟩
      have s2 := same_new (o := .lst [x]) nc
      refine ⟨c, x, e, rfl, app1 upd_same, dp_mono (s1.trans s2) hx, hg, fun H3 s3 => ⟨_, rfl, fun D nD => ?_⟩⟩
      have hcl : (fmtEl e).cps.toList.length = (fmtEl e).cps.size := by simp
      have hsz : (fmtEl e).cps.size ≤ 100 := fmtE_len hg
      refine lc_str (z := fmtEl e) (fun j H' => Same H3 H' ∧ H' D = some (.lst ((((fmtEl e).cps.toList.take j).map Int.ofNat).map V.int))) ⟨same_new nD, by rw [upd_same] <;> rfl⟩ ?_ ?_
      · rintro j ch H' hj ⟨sm, hD⟩
        have hj2 : (fmtEl e).cps.toList[j]? = some ch := by simpa using hj
        refine ⟨rfl, _, rfl, ⟨#[ch]⟩, rfl, rfl, _, hD, ?_, fun q o z => ?_, ?_⟩
        · rw [List.length_map, List.length_map, List.length_take]
          exact Nat.lt_of_le_of_lt (by omega : _ ≤ 100) (by decide)
        · rw [upd_ne (ne_of_none z nD)]
          exact sm _ _ z
        · rw [upd_same, List.take_add_one, hj2, List.map_append, List.map_append]
          rfl
      · rintro H' ⟨sm, hD⟩
        rw [← hcl, List.take_of_length_le (Nat.le_refl _)] at hD
        have sA := (s1.trans s2).trans (s3.trans sm)
        refine ⟨b, D, _, _, rfl, rfl, (s2.trans (s3.trans sm)) _ _ upd_same, hD, ?_, fun p np => ?_⟩
        · rw [List.length_map, List.length_map, hcl]
          exact Nat.le_trans (by show 2 + (fmtEl e).cps.size ≤ 102; omega) (by decide)
        · exact k p _ (sA.trans (same_new np)) (sA.free np) upd_same
def spRec (K : PySem.W.Frag) : Sp := fun vs H Q _ => ∃ (v : V) (o : Op), vs = [v] ∧ Dp K H v (opD o) ∧ ElOp o ∧ ∀ p H', Same H H' → H p = none → H' p = some (.lst ((recO o).map V.int)) → Q (.ref p) H'
theorem ok_rec (T : TX K mg) : Cal P w K mg base CX0 5 "record_of" ["operation"] (spRec K) := by
  have GB : ∀ {P w base}, Cal P w K mg base CX0 4 "body_of" ["operation"] (spBody K) := ok_body T
  have GS : ∀ {P w base}, Cal P w K mg base CX0 1 "sum_of" ["octets"] (spSum K) := ok_sum T
  refine Cal.of T in_record_of sc_record_of bd_record_of (fun vs H Q E h => ?_) (fun cdv A outer s H vs Q E hr h => ?_)
  · obtain ⟨a, b, rfl, _⟩ := h
    rfl
  · obtain ⟨v, o, rfl, hd, hg, k⟩ := h
    obtain ⟨t1, m1⟩ := T.int (x := "MARK") (i := 170) (by decide +kernel)
    refine ⟨_, pss_cons (ps_set (i := 1) sc_record_of.nd rfl (.inl rfl) (pe_cal GB hr pass0 (pa_cons (pv 0) pa_nil)))
      (pss_one (ps_ret (pe_op op_cat (pe_op op_cat (pe_lst (pa_cons (pe_op op_fdiv (pe_callB call_len (by rfl) (T.fr (by decide +kernel)) PySem.boot_len (pa_cons (pv 1) pa_nil)) pe_int) (pa_cons (pe_op op_mod (pe_callB call_len (by rfl) (T.fr (by decide +kernel)) PySem.boot_len (pa_cons (pv 1) pa_nil)) pe_int) pa_nil))) (pv 1))
        (pe_lst (pa_cons (pe_cal GS (hr.mono (by decide)) pass0 (pa_cons (pv 1) pa_nil)) (pa_cons (pe_glob (v := .int 170) rfl m1 ⟨_, rfl⟩) pa_nil)))))), ?_⟩
    refine ⟨_, rfl, v, o, rfl, hd, hg, fun b H1 s1 nb eb => ?_⟩
    have hl := body_len hg
    have hlm : ((bodyO o).map V.int).length = (bodyO o).length := List.length_map ..
    refine ⟨_, rfl, .ref b, _, rfl, .inl ⟨_, app1 eb, rfl⟩, _, _, rfl, rfl, ⟨by decide, by decide⟩, _, rfl, .ref b, _, rfl, .inl ⟨_, app1 eb, rfl⟩, _, _, rfl, rfl, (by show (0 : Int) < 256; decide), (by show 2 ≤ sizeLine; decide), fun c nc => ?_⟩
    have s2 := same_new (o := .lst [.int ((((bodyO o).map V.int).length : Int) / 256), .int ((((bodyO o).map V.int).length : Int) % 256)]) nc
    refine ⟨_, rfl, c, b, _, _, rfl, rfl, upd_same, s2 _ _ eb, ?_, fun d nd => ?_⟩
    · rw [hlm]
      exact Nat.le_trans (by show 2 + (bodyO o).length ≤ 104; omega) (by decide)
    have s3 := same_new (o := .lst ([.int ((((bodyO o).map V.int).length : Int) / 256), .int ((((bodyO o).map V.int).length : Int) % 256)] ++ (bodyO o).map V.int)) nd
    refine ⟨_, rfl, b, bodyO o, rfl, app1 (s3 _ _ (s2 _ _ eb)), (by show 2 ≤ sizeLine; decide), fun e ne => ?_⟩
    have s4 := same_new (o := .lst [.int ((bodyO o).sum % 256), .int 170]) ne
    refine ⟨d, e, _, _, rfl, rfl, s4 _ _ upd_same, upd_same, ?_, fun p np => ?_⟩
    · rw [List.length_append, hlm]
      exact Nat.le_trans (by show 2 + (bodyO o).length + 2 ≤ 106; omega) (by decide)
    refine k p _ ((s1.trans s2).trans ((s3.trans s4).trans (same_new np))) (((s1.trans s2).trans (s3.trans s4)).free np) ?_
    rw [upd_same, hlm]
    unfold recO
    rw [List.map_append, List.map_append]
    rfl
end
end RT
end
section
set_option Elab.async false
set_option linter.all false
set_option maxRecDepth 100000
set_option maxHeartbeats 2000000
/-! Y7: an operation out of its octets. -/
namespace RT
open PySem PySem.Spec PyProof.Rows L2
section
variable {P : Program} {w : World} {K : PySem.W.Frag} {mg : Str → Option Value} {base : Heap}
def SGN : Str := "0123456789abcdefghijklmnopqrstuvwxyz -/;"
theorem SGN_eq : SGN.cps.toList = signs := by decide +kernel
def spSign : Sp := fun vs H Q _ => ∃ c : Nat, vs = [.int (c : Int)] ∧ c ∈ signs ∧ Q (.str ⟨#[c]⟩) H
theorem ok_sign (T : TX K mg) : Cal P w K mg base CX0 1 "sign_of" ["octet"] spSign := by
  refine Cal.of T in_sign_of sc_sign_of bd_sign_of (fun vs H Q E h => ?_) (fun cdv A outer s H vs Q E hr h => ?_)
  · obtain ⟨a, rfl, _⟩ := h
    rfl
  · obtain ⟨c, rfl, hc, k⟩ := h
    obtain ⟨t1, m1⟩ := T.str (x := "SIGNS") (z := SGN) (by decide +kernel)
    refine ⟨_, pss_cons (ps_for PassesOwn.never rfl (pi_str (pe_glob (v := .str SGN) rfl m1 ⟨_, rfl⟩)) (pg_name (i := 1) sc_sign_of.nd rfl (.inl rfl))
      (pss_one (ps_if (pt_cmpR op_eq (pe_callB call_ord (by rfl) (T.fr (by decide +kernel)) (by decide +kernel) (pa_cons (pv 1) pa_nil)) (pv 0) (nomark _)) (pss_one (ps_ret (pv 1))) pss_nil)))
      pss_never, ?_⟩
    refine ⟨SGN, rfl, for_str (x := SGN) (fun i σ H' => H' = H ∧ c ∉ SGN.cps.toList.take i ∧ ∃ v1, σ = [some (.int (c : Int)), v1]) ⟨rfl, by simp, none, rfl⟩ ?_ ?_⟩
    · rintro i d σ H' hd ⟨rfl, hn, v1, rfl⟩
      have hd2 : SGN.cps.toList[i]? = some d := by simpa using hd
      refine ⟨_, rfl, ⟨#[d]⟩, rfl, rfl, _, rfl, rfl, _, rfl, ?_⟩
      by_cases h : d = c
      · rw [decide_eq_true (by rw [h] <;> rfl)]
        refine iteT ⟨_, rfl, ?_⟩
        rw [h]
        exact k
      · rw [decide_eq_false (fun z => h (by
          have z2 := V.int.inj z
          have z3 : ((d : Nat) : Int) = (c : Int) := z2
          omega))]
        refine iteF ⟨rfl, ?_, _, rfl⟩
        rw [List.take_add_one, hd2]
        intro z
        rcases List.mem_append.mp z with z | z
        · exact hn z
        · simp at z
          exact h z.symm
    · rintro σ H' ⟨rfl, hn, v1, rfl⟩
      exfalso
      apply hn
      rw [List.take_of_length_le (by simp), SGN_eq]
      exact hc
/-! ### element_of -/
theorem join_signs : ∀ cs : List Nat, Txt.join "" (cs.map fun c => (⟨#[c]⟩ : Str)) = ⟨cs.toArray⟩
  | [] => by rfl
  | [c] => by rfl
  | c :: d :: r => by
    have ih := join_signs (d :: r)
    rw [join_eq'] at ih ⊢
    show (⟨#[c]⟩ : Str) ++ ("" : Str) ++ Str.join "" ((d :: r).map fun c => (⟨#[c]⟩ : Str)) = _
    rw [ih]
    show (⟨(#[c] ++ #[]) ++ (d :: r).toArray⟩ : Str) = _
    simp
theorem el_signs {e : El} (g : GoodEl e) : ∀ c ∈ (fmtEl e).cps.toList, c ∈ signs := by
  have kq : ∀ q ∈ goodQs, ((fmtQ q).cps.toList.all fun c => signs.contains c) = true := by decide +kernel
  have kw : ∀ x ∈ (["gap", "lens", "prism", "afocal", "stop", "from", "to", "at"] : List Str), (x.cps.toList.all fun c => signs.contains c) = true := by decide +kernel
  have k1 : ∀ x ∈ wordsEl e, ∀ c ∈ x.cps.toList, c ∈ signs := fun x hx c hc => by
    rcases words_in g x hx with h | ⟨q, hq, rfl⟩
    · simpa using List.all_eq_true.mp (kw x h) c hc
    · simpa using List.all_eq_true.mp (kq q hq) c hc
  have k2 : ∀ ws : List Str, (∀ x ∈ ws, ∀ c ∈ x.cps.toList, c ∈ signs) → ∀ c ∈ (Str.join " " ws).cps.toList, c ∈ signs := by
    intro ws
    induction ws with
    | nil => intro _ c hc; cases hc
    | cons x r ih =>
      intro hx c hc
      cases r with
      | nil => exact hx x List.mem_cons_self c hc
      | cons y r =>
        have e : (Str.join " " (x :: y :: r)).cps.toList = x.cps.toList ++ (32 :: (Str.join " " (y :: r)).cps.toList) := by
          show ((x.cps ++ (" " : Str).cps) ++ (Str.join " " (y :: r)).cps).toList = _
          rw [Array.toList_append, Array.toList_append]
          show (x.cps.toList ++ [32]) ++ _ = _
          simp
        rw [e] at hc
        rcases List.mem_append.mp hc with z | z
        · exact hx x List.mem_cons_self c z
        · rcases List.mem_cons.mp z with z | z
          · rw [z]
            decide
          · exact ih (fun u hu => hx u (List.mem_cons_of_mem _ hu)) c z
  intro c hc
  unfold fmtEl at hc
  rw [join_eq'] at hc
  exact k2 _ k1 c hc
theorem sc_elof : FnScope ["octets", "signs", "text", "train", "octet"] ["octets"] (defScope (top 51)) := ⟨rfl, rfl, rfl, by decide +kernel, rfl, by decide +kernel, by decide +kernel⟩
def spElOf (K : PySem.W.Frag) : Sp := fun vs H Q _ => ∃ (o : Addr) (e : El), vs = [.ref o] ∧ SqL K H o ((ce e).map V.int) ∧ GoodEl e ∧ Tbs K H ∧ ∀ v H', Tbs K H' → Chg (IsT K) H H' → Dp K (New H H') v (elD e) → Q v H'
theorem ok_elof (T : TX K mg) (B : BX K mg base) : Cal P w K mg base CX0 10 "element_of" ["octets"] (spElOf K) := by
  have GS : ∀ {P w base}, Cal P w K mg base CX0 1 "sign_of" ["octet"] spSign := ok_sign T
  have GP : ∀ {P w}, Cal P w K mg base CX0 9 "parse_train" ["text"] (spParse K) := ok_parse T B
  have GF : ∀ {P w base}, Cal P w K mg base CX0 3 "format_train" ["train"] (spFmtT K) := ok_fmtT T
  refine Cal.of T in_element_of sc_elof bd_element_of (fun vs H Q E h => ?_) (fun cdv A outer s H vs Q E hr h => ?_)
  · obtain ⟨a, b, rfl, _⟩ := h
    rfl
  · obtain ⟨o, e, rfl, ho, hg, hT, k⟩ := h
    refine ⟨_, pss_cons (ps_setLc (i := 1) (own := [("octet", 4)]) (g := gName 4) (tt := tYes) (by rfl) sc_elof.nd rfl rfl (sw_true rfl rfl rfl (by decide +kernel)) (pi_list (pv 0)) (blkOk_by (own := [("octet", 4)]) (N := ["octets", "signs", "text", "train", "octet"]) (sc := defScope (top 51)) (by decide +kernel))
        (fun _ _ _ _ _ => pg_name (i := 4) sc_elof.nd rfl (Or.inl rfl)) (fun _ _ _ _ _ => pts_nil) (fun _ _ _ _ _ => pe_cal GS (hr.mono (by decide)) pass0 (pa_cons (pv 4) pa_nil)))
      (pss_cons (ps_if (pt_cmpR op_in_seq pe_non (pv 1) (by rfl)) pss_never pss_nil)
      (pss_cons (ps_set (i := 2) sc_elof.nd rfl (.inl rfl) (pe_join pe_str (pv 1)))
      (pss_cons (ps_try_thru0 (pss_one (ps_set (i := 3) sc_elof.nd rfl (.inl rfl) (pe_cal GP hr pass0 (pa_cons (pv 2) pa_nil)))))
      (pss_cons (ps_if (PW.pt (pw_or (pt_cmpR op_ne (pe_callB call_len (by rfl) (T.fr (by decide +kernel)) PySem.boot_len (pa_cons (pv 3) pa_nil)) pe_int (nomark _)) (pw_or1 (pt_cmpR op_ne (pe_cal GF (hr.mono (by decide)) pass0 (pa_cons (pv 3) pa_nil)) (pv 2) (nomark _))))) pss_never pss_nil)
      (pss_one (ps_ret (pe_ix ix_list (pv 3) pe_int (fun _ _ => rfl)))))))), ?_⟩
    have hcl : (ce e).length ≤ 100 := ce_len hg
    have ecs : (ce e) = (fmtEl e).cps.toList.map Int.ofNat := rfl
    refine ⟨_, rfl, o, rfl, ⟨_, ho⟩, fun D nD => ?_⟩
    refine lc_list (K := K) (a := o) (xs := (ce e).map V.int) (fun i H' => Same H H' ∧ H' D = some (.lst ((((fmtEl e).cps.toList.take i).map fun c => (⟨#[c]⟩ : Str)).map V.str))) ⟨same_new nD, by rw [upd_same] <;> rfl⟩ (fun i H' _ ⟨sm, _⟩ => sm.seq ho) ?_ ?_
    · rintro i x H' hi ⟨sm, hD⟩
      rw [ecs, List.map_map, List.getElem?_map] at hi
      cases ec : (fmtEl e).cps.toList[i]? with
      | none => rw [ec] at hi; cases hi
      | some c =>
        rw [ec] at hi
        cases hi
        refine ⟨rfl, _, rfl, c, rfl, el_signs hg c (List.mem_of_getElem? ec), _, hD, ?_, fun b u z => ?_, ?_⟩
        · rw [List.length_map, List.length_map, List.length_take]
          have : (fmtEl e).cps.toList.length ≤ 100 := by
            rw [Array.length_toList]
            exact fmtE_len hg
          exact Nat.lt_of_le_of_lt (by omega : _ ≤ 100) (by decide)
        · rw [upd_ne (ne_of_none z nD)]
          exact sm _ _ z
        · rw [upd_same, List.take_add_one, ec, List.map_append, List.map_append]
          rfl
    · rintro H1 ⟨s1, hD⟩
      have hfl : (fmtEl e).cps.toList.length ≤ 100 := by
        rw [Array.length_toList]
        exact fmtE_len hg
      have hlen : ((ce e).map V.int).length = (fmtEl e).cps.toList.length := by rw [ecs, List.length_map, List.length_map]
      rw [hlen, List.take_of_length_le (Nat.le_refl _)] at hD
      have t1 := hT.same s1
      refine ⟨_, rfl, D, _, rfl, .inl (app1 hD), rfl, ?_, _, rfl, ?_⟩
      · rw [List.all_map, List.all_eq_true]
        intro z _
        rfl
      have ei : (if false = true then !inV V.non ((((fmtEl e).cps.toList).map fun c => (⟨#[c]⟩ : Str)).map V.str) else inV V.non ((((fmtEl e).cps.toList).map fun c => (⟨#[c]⟩ : Str)).map V.str)) = false := by
        rw [if_neg Bool.false_ne_true]
        unfold inV
        rw [List.any_map, List.any_eq_false]
        intro z _ q
        cases q
      rw [ei]
      refine iteF ⟨⟨_, rfl⟩, _, rfl, "", D, _, rfl, rfl, .inl (app1 hD), ?_, ?_⟩
      · have h0 : ("" : Str).length = 0 := rfl
        rw [h0, Nat.mul_zero, Nat.add_zero, List.map_map]
        have hs : ∀ l : List Nat, (l.map ((fun x : Str => x.length) ∘ fun c => (⟨#[c]⟩ : Str))).sum = l.length := fun l => by
          induction l with
          | nil => rfl
          | cons c l ih =>
            rw [List.map_cons, List.sum_cons, ih, List.length_cons]
            show 1 + l.length = l.length + 1
            omega
        rw [hs]
        omega
      rw [join_signs]
      refine ⟨_, rfl, e, rfl, hg, t1, fun v f H2 t2 c2 nf ef d2 => ?_⟩
      refine ⟨_, rfl, .ref f, _, rfl, .inl ⟨_, app1 ef, rfl⟩, rfl, _, rfl, ?_⟩
      rw [show (!decide (V.int (([v].length : Nat) : Int) = V.int 1)) = false from rfl]
      refine iteF ⟨_, rfl, f, v, e, rfl, app1 ef, dp_mono new_le d2, hg, fun H3 s3 => ⟨_, rfl, rfl, _, rfl, ?_⟩⟩
      rw [show (!decide (V.str (fmtEl e) = V.str ⟨((fmtEl e).cps.toList).toArray⟩)) = false by rw [decide_eq_true rfl] <;> rfl]
      refine iteF ⟨_, rfl, f, _, _, v, rfl, rfl, app1 (s3 _ _ ef), atI0, ?_⟩
      have c12 : Chg (IsT K) H H2 := (Chg.of s1).trans c2
      exact k v H3 (t2.same s3) (c12.trans (Chg.of s3)) (dp_mono (new_mono (Chg.of (M := fun _ => False) s1) (Chg.of s3) (fun _ z => z.elim)) d2)
/-! ### operation_of -/
theorem shp_ints (ns : List Int) : SeqAt.shaped (.list (ns.map PyData.int)) = true := by
  have h1 : PyData.canLayAll0 (ns.map PyData.int) = true := by
    induction ns with
    | nil => rfl
    | cons n ns ih => simp [PyData.canLayAll0, PyData.canLay0, ih]
  have h2 : PyData.depthAll (ns.map PyData.int) = 0 := by
    induction ns with
    | nil => rfl
    | cons n ns ih => simp [PyData.depthAll, PyData.depth, ih (by simpa [PyData.canLayAll0, PyData.canLay0] using h1)]
  unfold SeqAt.shaped
  simp [PyData.canLay0, PyData.depth, h1, h2]
theorem eqv_ints : ∀ ns ms : List Int, PyData.eqvAll (ns.map PyData.int) (ms.map PyData.int) = decide (ns = ms)
  | [], [] => by rfl
  | [], _ :: _ => by rfl
  | _ :: _, [] => by rfl
  | n :: ns, m :: ms => by
    have ih := eqv_ints ns ms
    show (PyData.eqv (.int n) (.int m) && PyData.eqvAll (ns.map PyData.int) (ms.map PyData.int)) = _
    rw [ih]
    have e1 : PyData.eqv (.int n) (.int m) = decide (n = m) := by
      simp [PyData.eqv]
      rfl
    rw [e1]
    by_cases h1 : n = m <;> by_cases h2 : ns = ms <;> simp [h1, h2]
theorem eqvL (ns ms : List Int) : PyData.eqv (.list (ns.map PyData.int)) (.list (ms.map PyData.int)) = decide (ns = ms) := by
  rw [← eqv_ints]
  simp [PyData.eqv]
theorem dp_ints {H : Hp} {a : Addr} {ns : List Int} (h : SqL K H a (ns.map V.int)) : Dp K H (.ref a) (.list (ns.map PyData.int)) := .lst h (dpAll_ints ns)
theorem cut_from (xs : List V) (n : Nat) : cutV xs (some (n : Int)) none = xs.drop n := by
  unfold cutV
  rw [HT.sIx_nat, HT.sIx_none]
  by_cases h : n ≤ xs.length
  · rw [Nat.min_eq_left h, List.take_of_length_le (by rw [List.length_drop]; omega)]
  · rw [Nat.min_eq_right (by omega), List.drop_eq_nil_of_le (Nat.le_refl _), List.drop_eq_nil_of_le (by omega), List.take_nil]
theorem ce_pos {e : El} (g : GoodEl e) : 1 ≤ (ce e).length := by
  have h := tok_el g
  have h2 := (words_ok g).1
  unfold ce
  rw [List.length_map]
  cases hc : (fmtEl e).cps.toList with
  | nil =>
    rw [hc] at h
    exact absurd h.symm h2
  | cons c r =>
    rw [List.length_cons]
    omega
def spOpOf (K : PySem.W.Frag) : Sp := fun vs H Q _ => ∃ (b : Addr) (o : Op), vs = [.ref b] ∧ SqL K H b ((bodyO o).map V.int) ∧ ElOp o ∧ Tbs K H ∧ ∀ v H', Tbs K H' → Chg (IsT K) H H' → Dp K (New H H') v (opD o) → Q v H'
theorem ok_opof (T : TX K mg) (B : BX K mg base) : Cal P w K mg base CX0 11 "operation_of" ["body"] (spOpOf K) := by
  have GE : ∀ {P w}, Cal P w K mg base CX0 10 "element_of" ["octets"] (spElOf K) := ok_elof T B
  refine Cal.of T in_operation_of sc_operation_of bd_operation_of (fun vs H Q E h => ?_) (fun cdv A outer s H vs Q E hr h => ?_)
  · obtain ⟨a, b, rfl, _⟩ := h
    rfl
  · obtain ⟨b, o, rfl, hb, hg, hT, k⟩ := h
    obtain ⟨t1, m1⟩ := T.int (x := "UNDO") (i := 4) (by decide +kernel)
    obtain ⟨t2, m2⟩ := T.int (x := "TAKE") (i := 2) (by decide +kernel)
    obtain ⟨t3, m3⟩ := T.int (x := "PUT") (i := 1) (by decide +kernel)
    obtain ⟨t4, m4⟩ := T.int (x := "EXCHANGE") (i := 3) (by decide +kernel)
    have mlen : mg "len" = none := T.fr (by decide +kernel)
    refine ⟨_, pss_cons (ps_if (pt_cmpR (op_eqD hr.units) (pv 0) (pe_lst (pa_cons (pe_glob (v := .int 4) rfl m1 ⟨_, rfl⟩) pa_nil)) (nomark _)) (pss_one (ps_ret (pe_tup (pa_cons pe_str pa_nil)))) pss_nil)
      (pss_cons (ps_if (PW.pt (pw_and (pt_cmpR op_eq (pe_callB call_len (by rfl) mlen PySem.boot_len (pa_cons (pv 0) pa_nil)) pe_int (nomark _)) (pw_and1 (pt_cmpR op_eq (pe_ix ix_list (pv 0) pe_int (fun _ _ => rfl)) (pe_glob (v := .int 2) rfl m2 ⟨_, rfl⟩) (nomark _)))))
        (pss_one (ps_ret (pe_tup (pa_cons pe_str (pa_cons (pe_ix ix_list (pv 0) pe_int (fun _ _ => rfl)) pa_nil))))) pss_nil)
      (pss_cons (ps_if (PW.pt (pw_and (pt_cmpR op_gt (pe_callB call_len (by rfl) mlen PySem.boot_len (pa_cons (pv 0) pa_nil)) pe_int (nomark _)) (pw_and1 (pt_cmpR op_in_seq (pe_ix ix_list (pv 0) pe_int (fun _ _ => rfl)) (pe_tup (pa_cons (pe_glob (v := .int 1) rfl m3 ⟨_, rfl⟩) (pa_cons (pe_glob (v := .int 3) rfl m4 ⟨_, rfl⟩) pa_nil))) (by rfl)))))
        (pss_cons (ps_set (i := 1) sc_operation_of.nd rfl (.inl rfl) (pe_cal GE hr pass0 (pa_cons (pe_slice sl_list (pv 0) (po_some pe_int) po_none) pa_nil)))
        (pss_one (ps_if (pt_cmp (pc_notN (pv 1))) (pss_one (ps_ret (pe_tup (pa_cons (pe_ix ix_list (pe_lst (pa_cons pe_str (pa_cons pe_str pa_nil))) (pe_callTy call_int1 (by rfl) (T.fr (by decide +kernel)) (by decide +kernel) (pa_cons (pe_cmpR op_eq (pe_ix ix_list (pv 0) pe_int (fun _ _ => rfl)) (pe_glob (v := .int 3) rfl m4 ⟨_, rfl⟩) (nomark _)) pa_nil)) (fun _ _ => rfl))
          (pa_cons (pe_ix ix_list (pv 0) pe_int (fun _ _ => rfl)) (pa_cons (pv 1) pa_nil)))))) pss_nil))) pss_nil)
      pss_never)), ?_⟩
    refine ⟨_, rfl, (by show 1 ≤ sizeLine; decide), fun c nc => ?_⟩
    have s1 := same_new (o := .lst [.int 4]) nc
    refine ⟨_, .list ([4].map PyData.int), dp_ints (s1.seq hb), dp_ints (ns := [4]) (app1 upd_same), shp_ints _, shp_ints _, _, rfl, ?_⟩
    rw [eqvL]
    cases o with
    | undo =>
      rw [show decide (bodyO .undo = [4]) = true from decide_eq_true rfl]
      refine iteT ⟨by show 1 ≤ sizeLine; decide, fun t nt => k _ _ ((hT.same s1).new nt) ((Chg.of s1).new nt) (.tup (app2 (new_at (s1.free nt) upd_same)) (.cons (.str _) .nil))⟩
    | take i =>
      rw [show decide (bodyO (.take i) = [4]) = false from decide_eq_false (fun z => by cases z)]
      refine iteF ⟨_, rfl, .ref b, _, rfl, .inl ⟨_, s1.seq hb, rfl⟩, rfl, _, rfl, ?_⟩
      rw [show decide (V.int ((((bodyO (.take i)).map V.int).length : Nat) : Int) = V.int 2) = true from rfl]
      refine iteT ⟨_, rfl, b, _, _, _, rfl, rfl, s1.seq hb, atI0, rfl, _, rfl, ?_⟩
      rw [show decide (V.int 2 = V.int 2) = true from rfl]
      refine iteT ⟨_, rfl, b, _, _, .int i, rfl, rfl, s1.seq hb, atI_nat (j := 1) rfl, by show 2 ≤ sizeLine; decide, fun t nt => ?_⟩
      exact k _ _ ((hT.same s1).new nt) ((Chg.of s1).new nt) (.tup (app2 (new_at (s1.free nt) upd_same)) (.cons (.str _) (.cons (.int i) .nil)))
    | put i e =>
      have hp := ce_pos (e := e) hg
      have hl : ((bodyO (.put i e)).map V.int).length = 2 + (ce e).length := by
        rw [List.length_map]
        show (ce e).length + 1 + 1 = _
        omega
      rw [show decide (bodyO (.put i e) = [4]) = false from decide_eq_false (fun z => by
        have := congrArg List.length z
        rw [← List.length_map (f := V.int), hl] at this
        simp only [List.length_cons, List.length_nil] at this
        omega)]
      refine iteF ⟨_, rfl, .ref b, _, rfl, .inl ⟨_, s1.seq hb, rfl⟩, rfl, _, rfl, ?_⟩
      rw [hl, decide_eq_false (fun z => by
        have := V.int.inj z
        omega)]
      refine iteF (iteF ⟨_, rfl, .ref b, _, rfl, .inl ⟨_, s1.seq hb, rfl⟩, _, _, rfl, rfl, _, rfl, ?_⟩)
      rw [hl, decide_eq_true (by omega)]
      refine iteT ⟨_, rfl, b, _, _, .int 1, rfl, rfl, s1.seq hb, atI0, (by show 2 ≤ sizeLine; decide), fun t nt => ?_⟩
      have s2 := same_new (o := .tup [.int 1, .int 3]) nt
      refine ⟨t, _, rfl, .inr (app2 upd_same), rfl, rfl, _, rfl, ?_⟩
      rw [show (if false = true then !inV (V.int 1) [.int 1, .int 3] else inV (V.int 1) [.int 1, .int 3]) = true from rfl]
      refine iteT ⟨_, rfl, 2, rfl, b, _, rfl, s2.seq (s1.seq hb), fun d nd => ?_⟩
      rw [show cutV ((bodyO (.put i e)).map V.int) (some 2) none = (ce e).map V.int from cut_from _ 2]
      have s3 := same_new (o := .lst ((ce e).map V.int)) nd
      have s13 := s1.trans (s2.trans s3)
      refine ⟨d, e, rfl, app1 upd_same, hg, hT.same s13, fun v H2 t2 c2 d2 => ?_⟩
      have hb2 : SqL K H2 b ((bodyO (.put i e)).map V.int) := by
        rcases s13.seq hb with (z | ⟨u, z⟩) | z
        · exact .inl (.inl (c2.at z (notT (hT.same s13) z fun _ q => by cases q)))
        · exact .inl (.inr ⟨u, c2.at z (notT (hT.same s13) z fun _ q => by cases q)⟩)
        · exact .inr z
      obtain ⟨va, vw, vr, rfl, _⟩ := el_word d2
      refine ⟨_, rfl, _, rfl, ?_⟩
      rw [show (!decide (V.ref va = V.non)) = true by rw [decide_eq_false (fun z => by cases z)] <;> rfl]
      refine iteT ⟨(by show 2 ≤ sizeLine; decide), fun q nq => ?_⟩
      have s4 := same_new (o := .lst [.str "put", .str "exchange"]) nq
      refine ⟨_, rfl, b, _, _, .int 1, rfl, rfl, s4.seq hb2, atI0, rfl, .inr ⟨_, rfl, ?_⟩⟩
      rw [show (if decide (V.int 1 = V.int 3) = true then (1 : Int) else 0) = 0 from rfl]
      refine ⟨q, _, _, .str "put", rfl, rfl, app1 upd_same, atI_nat (j := 0) rfl, _, rfl, b, _, _, .int i, rfl, rfl, s4.seq hb2, atI_nat (j := 1) rfl, _, rfl, (by show 3 ≤ sizeLine; decide), fun z nz => ?_⟩
      have c0 : Chg (IsT K) H H2 := (Chg.of s13).trans c2
      have ce4 : Chg (IsT K) H2 (upd (upd H2 q (.lst [.str "put", .str "exchange"])) z (.tup [.str "put", .int i, .ref va])) := (Chg.of s4).new nz
      refine k _ _ ((t2.same s4).new nz) (c0.trans ce4) (.tup (app2 (new_at ((c0.trans (Chg.of s4)).free nz) upd_same)) (.cons (.str _) (.cons (.int i) (.cons ?_ .nil))))
      exact lift d2 (Chg.of (M := IsT K) s13) ce4 fun cc hcc => by
        have tt := hT.same s13
        rcases hcc with z | z | z
        · obtain ⟨_, q1, _⟩ := tt.n
          rw [z, q1]
          simp
        · obtain ⟨_, q1, _⟩ := tt.f
          rw [z, q1]
          simp
        · obtain ⟨_, q1, _⟩ := tt.p
          rw [z, q1]
          simp
    | exch i e =>
      have hp := ce_pos (e := e) hg
      have hl : ((bodyO (.exch i e)).map V.int).length = 2 + (ce e).length := by
        rw [List.length_map]
        show (ce e).length + 1 + 1 = _
        omega
      rw [show decide (bodyO (.exch i e) = [4]) = false from decide_eq_false (fun z => by
        have := congrArg List.length z
        rw [← List.length_map (f := V.int), hl] at this
        simp only [List.length_cons, List.length_nil] at this
        omega)]
      refine iteF ⟨_, rfl, .ref b, _, rfl, .inl ⟨_, s1.seq hb, rfl⟩, rfl, _, rfl, ?_⟩
      rw [hl, decide_eq_false (fun z => by
        have := V.int.inj z
        omega)]
      refine iteF (iteF ⟨_, rfl, .ref b, _, rfl, .inl ⟨_, s1.seq hb, rfl⟩, _, _, rfl, rfl, _, rfl, ?_⟩)
      rw [hl, decide_eq_true (by omega)]
      refine iteT ⟨_, rfl, b, _, _, .int 3, rfl, rfl, s1.seq hb, atI0, (by show 2 ≤ sizeLine; decide), fun t nt => ?_⟩
      have s2 := same_new (o := .tup [.int 1, .int 3]) nt
      refine ⟨t, _, rfl, .inr (app2 upd_same), rfl, rfl, _, rfl, ?_⟩
      rw [show (if false = true then !inV (V.int 3) [.int 1, .int 3] else inV (V.int 3) [.int 1, .int 3]) = true from rfl]
      refine iteT ⟨_, rfl, 2, rfl, b, _, rfl, s2.seq (s1.seq hb), fun d nd => ?_⟩
      rw [show cutV ((bodyO (.exch i e)).map V.int) (some 2) none = (ce e).map V.int from cut_from _ 2]
      have s3 := same_new (o := .lst ((ce e).map V.int)) nd
      have s13 := s1.trans (s2.trans s3)
      refine ⟨d, e, rfl, app1 upd_same, hg, hT.same s13, fun v H2 t2 c2 d2 => ?_⟩
      have hb2 : SqL K H2 b ((bodyO (.exch i e)).map V.int) := by
        rcases s13.seq hb with (z | ⟨u, z⟩) | z
        · exact .inl (.inl (c2.at z (notT (hT.same s13) z fun _ q => by cases q)))
        · exact .inl (.inr ⟨u, c2.at z (notT (hT.same s13) z fun _ q => by cases q)⟩)
        · exact .inr z
      obtain ⟨va, vw, vr, rfl, _⟩ := el_word d2
      refine ⟨_, rfl, _, rfl, ?_⟩
      rw [show (!decide (V.ref va = V.non)) = true by rw [decide_eq_false (fun z => by cases z)] <;> rfl]
      refine iteT ⟨(by show 2 ≤ sizeLine; decide), fun q nq => ?_⟩
      have s4 := same_new (o := .lst [.str "put", .str "exchange"]) nq
      refine ⟨_, rfl, b, _, _, .int 3, rfl, rfl, s4.seq hb2, atI0, rfl, .inr ⟨_, rfl, ?_⟩⟩
      rw [show (if decide (V.int 3 = V.int 3) = true then (1 : Int) else 0) = 1 from rfl]
      refine ⟨q, _, _, .str "exchange", rfl, rfl, app1 upd_same, atI_nat (j := 1) rfl, _, rfl, b, _, _, .int i, rfl, rfl, s4.seq hb2, atI_nat (j := 1) rfl, _, rfl, (by show 3 ≤ sizeLine; decide), fun z nz => ?_⟩
      have c0 : Chg (IsT K) H H2 := (Chg.of s13).trans c2
      have ce4 : Chg (IsT K) H2 (upd (upd H2 q (.lst [.str "put", .str "exchange"])) z (.tup [.str "exchange", .int i, .ref va])) := (Chg.of s4).new nz
      refine k _ _ ((t2.same s4).new nz) (c0.trans ce4) (.tup (app2 (new_at ((c0.trans (Chg.of s4)).free nz) upd_same)) (.cons (.str _) (.cons (.int i) (.cons ?_ .nil))))
      exact lift d2 (Chg.of (M := IsT K) s13) ce4 fun cc hcc => by
        have tt := hT.same s13
        rcases hcc with z | z | z
        · obtain ⟨_, q1, _⟩ := tt.n
          rw [z, q1]
          simp
        · obtain ⟨_, q1, _⟩ := tt.f
          rw [z, q1]
          simp
        · obtain ⟨_, q1, _⟩ := tt.p
          rw [z, q1]
          simp
end
end RT
end
section
set_option Elab.async false
set_option linter.all false
set_option maxRecDepth 100000
set_option maxHeartbeats 2000000
/-! Y8: recovered. -/
namespace RT
open PySem PySem.Spec PyProof.Rows L2
def flatR (ops : List Op) : List Int := ops.flatMap recO
/-- octets in which no record begins -/
def Dead (t : List Int) : Prop := t.length < 2 ∨ ∃ a b r, t = a :: b :: r ∧ 0 ≤ a ∧ a ≤ 1000 ∧ (t.length : Int) < a * 256 + b + 4
theorem rec_len (o : Op) : (recO o).length = (bodyO o).length + 4 := by
  unfold recO
  simp only [List.length_append, List.length_cons, List.length_nil]
  omega
theorem flat_take_succ {ops : List Op} {i : Nat} {o : Op} (h : ops[i]? = some o) : flatR (ops.take (i + 1)) = flatR (ops.take i) ++ recO o := by
  unfold flatR
  rw [List.take_add_one, h, List.flatMap_append]
  simp
theorem flat_split {ops : List Op} {i : Nat} {o : Op} (h : ops[i]? = some o) : flatR ops = flatR (ops.take i) ++ recO o ++ flatR (ops.drop (i + 1)) := by
  have e : ops = ops.take (i + 1) ++ ops.drop (i + 1) := (List.take_append_drop _ _).symm
  rw [← flat_take_succ h]
  unfold flatR
  rw [← List.flatMap_append, ← e]
theorem mid_get {pre x post : List Int} {j : Nat} (h : j < x.length) : (pre ++ x ++ post)[pre.length + j]? = x[j]? := by
  rw [List.append_assoc, List.getElem?_append_right (by omega), Nat.add_sub_cancel_left, List.getElem?_append_left h]
/-- the record's octets by place -/
structure RecAt (octs : List Int) (pl : Nat) (o : Op) : Prop where
  a : octs[pl]? = some (((bodyO o).length : Int) / 256)
  b : octs[pl + 1]? = some (((bodyO o).length : Int) % 256)
  body : (octs.drop (pl + 2)).take (bodyO o).length = bodyO o
  s : octs[pl + (bodyO o).length + 2]? = some ((bodyO o).sum % 256)
  m : octs[pl + (bodyO o).length + 3]? = some 170
  len : pl + (bodyO o).length + 4 ≤ octs.length
theorem recAt {pre post : List Int} (o : Op) : RecAt (pre ++ recO o ++ post) pre.length o := by
  have hl := rec_len o
  have e : recO o = [((bodyO o).length : Int) / 256, ((bodyO o).length : Int) % 256] ++ bodyO o ++ [(bodyO o).sum % 256, 170] := rfl
  have g0 : (pre ++ recO o ++ post)[pre.length + 0]? = (recO o)[0]? := mid_get (by omega)
  have g1 : (pre ++ recO o ++ post)[pre.length + 1]? = (recO o)[1]? := mid_get (by omega)
  have g2 : (pre ++ recO o ++ post)[pre.length + ((bodyO o).length + 2)]? = (recO o)[(bodyO o).length + 2]? := mid_get (by omega)
  have g3 : (pre ++ recO o ++ post)[pre.length + ((bodyO o).length + 3)]? = (recO o)[(bodyO o).length + 3]? := mid_get (by omega)
  refine ⟨?_, ?_, ?_, ?_, ?_, ?_⟩
  · exact g0
  · exact g1
  · have d : pre ++ recO o ++ post = (pre ++ [((bodyO o).length : Int) / 256, ((bodyO o).length : Int) % 256]) ++ (bodyO o ++ ([(bodyO o).sum % 256, 170] ++ post)) := by
      rw [e]
      simp
    have dl : (pre ++ [((bodyO o).length : Int) / 256, ((bodyO o).length : Int) % 256]).length = pre.length + 2 := by simp
    rw [d, ← dl, List.drop_left, List.take_left]
  · rw [show pre.length + (bodyO o).length + 2 = pre.length + ((bodyO o).length + 2) by omega, g2, e]
    rw [List.getElem?_append_right (by simp)]
    simp
  · rw [show pre.length + (bodyO o).length + 3 = pre.length + ((bodyO o).length + 3) by omega, g3, e]
    rw [List.getElem?_append_right (by simp)]
    simp
  · simp only [List.length_append, hl]
    omega
theorem cut_mid (xs : List V) (i n : Nat) (h : i + n ≤ xs.length) : cutV xs (some (i : Int)) (some ((i + n : Nat) : Int)) = (xs.drop i).take n := by
  unfold cutV
  rw [HT.sIx_nat, HT.sIx_nat, Nat.min_eq_left h, Nat.min_eq_left (by omega : i ≤ xs.length)]
  congr 1
  omega
section
variable {P : Program} {w : World} {K : PySem.W.Frag} {mg : Str → Option Value} {base : Heap}
def spRecv (K : PySem.W.Frag) : Sp := fun vs H Q _ => ∃ (o : Addr) (ops : List Op) (tail : List Int), vs = [.ref o] ∧ SqL K H o ((flatR ops ++ tail).map V.int) ∧ (∀ x ∈ ops, ElOp x) ∧ ops.length ≤ 100 ∧ Dead tail ∧ Tbs K H ∧
  ∀ t l vs' H', Tbs K H' → Chg (IsT K) H H' → H t = none → H' t = some (.tup [.ref l, .int ((flatR ops).length : Nat)]) → H l = none → H' l = some (.lst vs') → DpAll K (New H H') vs' (ops.map opD) → Q (.ref t) H'
theorem seqT_chg {H H' : Hp} {b : Addr} {xs : List V} (h : SqL K H b xs) (t : Tbs K H) (c : Chg (IsT K) H H') : SqL K H' b xs := by
  rcases h with (z | ⟨u, z⟩) | z
  · exact .inl (.inl (c.at z (notT t z fun _ q => by cases q)))
  · exact .inl (.inr ⟨u, c.at z (notT t z fun _ q => by cases q)⟩)
  · exact .inr z
theorem Tbs.some_ {H : Hp} (tt : Tbs K H) : ∀ c, IsT K c → H c ≠ none := fun c hcc => by
  rcases hcc with z | z | z
  · obtain ⟨_, q1, _⟩ := tt.n
    rw [z, q1]
    simp
  · obtain ⟨_, q1, _⟩ := tt.f
    rw [z, q1]
    simp
  · obtain ⟨_, q1, _⟩ := tt.p
    rw [z, q1]
    simp
def ML (K : PySem.W.Frag) (l : Addr) : Addr → Prop := fun b => b = l ∨ IsT K b
theorem ok_recv (T : TX K mg) (B : BX K mg base) : Cal P w K mg base CX0 12 "recovered" ["octets"] (spRecv K) := by
  have GO : ∀ {P w}, Cal P w K mg base CX0 11 "operation_of" ["body"] (spOpOf K) := ok_opof T B
  have GS : ∀ {P w base}, Cal P w K mg base CX0 1 "sum_of" ["octets"] (spSum K) := ok_sum T
  refine Cal.of T in_recovered sc_recovered bd_recovered (fun vs H Q E h => ?_) (fun cdv A outer s H vs Q E hr h => ?_)
  · obtain ⟨a, b, c, rfl, _⟩ := h
    rfl
  · obtain ⟨o, ops, tail, rfl, ho, hel, hn, hdead, hT, k⟩ := h
    obtain ⟨t1, m1⟩ := T.int (x := "MARK") (i := 170) (by decide +kernel)
    have mlen : mg "len" = none := T.fr (by decide +kernel)
    refine ⟨_, pss_cons (ps_set (i := 1) sc_recovered.nd rfl (.inl rfl) (pe_lst pa_nil)) (pss_cons (ps_set (i := 2) sc_recovered.nd rfl (.inl rfl) pe_int)
      (pss_cons (ps_while PassesOwn.never (pt_cmpR op_le (pe_op op_add (pv 2) pe_int) (pe_callB call_len (by rfl) mlen PySem.boot_len (pa_cons (pv 0) pa_nil)) (nomark _))
        (pss_cons (ps_set (i := 3) sc_recovered.nd rfl (.inl rfl) (pe_op op_add (pe_op op_add (pe_op op_add (pe_op op_add (pv 2) pe_int) (pe_op op_mul (pe_ix ix_list (pv 0) (pv 2) (fun _ _ => rfl)) pe_int)) (pe_ix ix_list (pv 0) (pe_op op_add (pv 2) pe_int) (fun _ _ => rfl))) pe_int))
        (pss_cons (ps_if (pt_cmpR op_gt (pv 3) (pe_callB call_len (by rfl) mlen PySem.boot_len (pa_cons (pv 0) pa_nil)) (nomark _)) (pss_one ps_break) pss_nil)
        (pss_cons (ps_set (i := 4) sc_recovered.nd rfl (.inl rfl) (pe_slice sl_list (pv 0) (po_some (pe_op op_add (pv 2) pe_int)) (po_some (pe_op op_sub (pv 3) pe_int))))
        (pss_cons (ps_set (i := 5) sc_recovered.nd rfl (.inl rfl) (pe_cal GO hr pass0 (pa_cons (pv 4) pa_nil)))
        (pss_cons (ps_if (PW.pt (pw_or (pt_cmpR op_ne (pe_ix ix_list (pv 0) (pe_op op_sub (pv 3) pe_int) (fun _ _ => rfl)) (pe_glob (v := .int 170) rfl m1 ⟨_, rfl⟩) (nomark _)) (pw_or (pt_cmpR op_ne (pe_ix ix_list (pv 0) (pe_op op_sub (pv 3) pe_int) (fun _ _ => rfl)) (pe_cal GS (hr.mono (by decide)) pass0 (pa_cons (pv 4) pa_nil)) (nomark _))
          (pw_or1 (pt_cmp (pc_isN (pv 5))))))) pss_never pss_nil)
        (pss_cons (ps_expr (pe_bm PySem.F.plainAttrs_list PySem.F.slot_list_append PySem.F.type_list_append mt_append (pv 1) (pa_cons (pv 5) pa_nil)))
        (pss_one (ps_set (i := 2) sc_recovered.nd rfl (.inl rfl) (pv 3))))))))))
      (pss_one (ps_ret (pe_tup (pa_cons (pv 1) (pa_cons (pv 2) pa_nil))))))), ?_⟩
    refine ⟨Nat.zero_le _, fun l nl => ?_⟩
    have s0 := same_new (o := .lst []) nl
    refine ⟨fun m σ H' => ∃ (i : Nat) (vs' : List V) (e3 e4 e5 : Option V), i ≤ ops.length ∧ m = ops.length - i ∧ σ = [some (.ref o), some (.ref l), some (.int ((flatR (ops.take i)).length : Nat)), e3, e4, e5] ∧ Tbs K H' ∧ Chg (ML K l) (upd H l (.lst [])) H' ∧ H' l = some (.lst vs') ∧ DpAll K (New (upd H l (.lst [])) H') vs' ((ops.take i).map opD),
      ⟨ops.length, 0, [], none, none, none, Nat.zero_le _, rfl, rfl, hT.same s0, Chg.refl _, upd_same, .nil⟩, ?_⟩
    rintro m σ H' ⟨i, vs', e3, e4, e5, hi, rfl, rfl, t', cL, hl, hd⟩
    have toT : ∀ {H2}, Chg (ML K l) (upd H l (.lst [])) H2 → Chg (IsT K) H H2 := fun c => ((Chg.of (M := ML K l) s0).trans c).mono fun b hb hm => by
      rcases hm with z | z
      · rw [z] at hb
        exact absurd nl hb
      · exact z
    have someL : ∀ {H2}, Chg (ML K l) (upd H l (.lst [])) H2 → ∀ c, ML K l c → H2 c ≠ none := fun cc c hc => cc.2 c (by
      rcases hc with z | z
      · rw [z, upd_same]
        simp
      · exact (hT.same s0).some_ c z)
    have c' := toT cL
    have hO : SqL K H' o ((flatR ops ++ tail).map V.int) := seqT_chg ho hT c'
    have hlen : ((flatR ops ++ tail).map V.int).length = (flatR ops ++ tail).length := List.length_map ..
    have fin : ∀ (e3 e4 e5 : Option V), i = ops.length → tRet (tTup (tCons (tVar 1) (tCons (tVar 2) tNil))) { nx := fun _ H' => Q .non H', rt := Q } [some (.ref o), some (.ref l), some (.int ((flatR (ops.take i)).length : Nat)), e3, e4, e5] H' := by
      intro e3 e4 e5 hin
      have eall : ops.take i = ops := List.take_of_length_le (by omega)
      rw [eall] at hd ⊢
      refine ⟨_, rfl, _, rfl, (by show 2 ≤ sizeLine; decide), fun t nt => ?_⟩
      have cn : Chg (IsT K) H' (upd H' t (.tup [.ref l, .int ((flatR ops).length : Nat)])) := (Chg.refl H').new nt
      exact k t l vs' _ (t'.new nt) (c'.trans cn) (c'.free nt) upd_same nl ((same_new nt) _ _ hl) (dpAll_mono (new_mono (Chg.of (M := fun _ => False) s0) (Chg.of (same_new nt)) fun _ z => z.elim) hd)
    refine ⟨_, rfl, _, _, rfl, rfl, _, rfl, .ref o, _, rfl, .inl ⟨_, hO, rfl⟩, _, _, rfl, rfl, _, rfl, ?_⟩
    rw [hlen]
    by_cases hin : i < ops.length
    · obtain ⟨op, eop⟩ : ∃ op, ops[i]? = some op := ⟨_, List.getElem?_eq_getElem hin⟩
      have hgo : ElOp op := hel op (List.mem_of_getElem? eop)
      have hbl := body_len hgo
      have R : RecAt (flatR ops ++ tail) (flatR (ops.take i)).length op := by
        rw [flat_split eop, List.append_assoc]
        exact recAt op
      have hpl2 : (flatR (ops.take (i + 1))).length = (flatR (ops.take i)).length + (bodyO op).length + 4 := by
        rw [flat_take_succ eop, List.length_append, rec_len]
        omega
      generalize (flatR (ops.take i)).length = pl at R hpl2 fin ⊢
      generalize hoc : flatR ops ++ tail = octs at R hO hlen ⊢
      have hRl := R.len
      rw [decide_eq_true (by omega)]
      refine iteT ⟨fun σ' H2 => ∃ (vs' : List V) (e3 e4 e5 : Option V), σ' = [some (.ref o), some (.ref l), some (.int ((flatR (ops.take (i + 1))).length : Nat)), e3, e4, e5] ∧ Tbs K H2 ∧ Chg (ML K l) (upd H l (.lst [])) H2 ∧ H2 l = some (.lst vs') ∧ DpAll K (New (upd H l (.lst [])) H2) vs' ((ops.take (i + 1)).map opD),
        fun σ' H2 ⟨vs2, f3, f4, f5, q1, q2, q3, q4, q5⟩ => ⟨ops.length - (i + 1), by omega, i + 1, vs2, f3, f4, f5, hin, rfl, q1, q2, q3, q4, q5⟩, ?_⟩
      have vmap : ∀ {j : Nat} {x : Int}, octs[j]? = some x → (octs.map V.int)[j]? = some (.int x) := fun h => by
        rw [List.getElem?_map, h]
        rfl
      have A0 : atI (octs.map V.int) (pl : Int) = some (.int (((bodyO op).length : Int) / 256)) := atI_nat (vmap R.a)
      have A1 : atI (octs.map V.int) ((pl : Int) + 1) = some (.int (((bodyO op).length : Int) % 256)) := by
        rw [show (pl : Int) + 1 = ((pl + 1 : Nat) : Int) by omega]
        exact atI_nat (vmap R.b)
      have A2 : atI (octs.map V.int) (((pl + (bodyO op).length + 2 : Nat) : Int) + 2 - 2) = some (.int ((bodyO op).sum % 256)) := by
        rw [show ((pl + (bodyO op).length + 2 : Nat) : Int) + 2 - 2 = ((pl + (bodyO op).length + 2 : Nat) : Int) by omega]
        exact atI_nat (vmap R.s)
      have A3 : atI (octs.map V.int) (((pl + (bodyO op).length + 2 : Nat) : Int) + 2 - 1) = some (.int 170) := by
        rw [show ((pl + (bodyO op).length + 2 : Nat) : Int) + 2 - 1 = ((pl + (bodyO op).length + 3 : Nat) : Int) by omega]
        exact atI_nat (vmap R.m)
      have h64 : (1000 : Int) < 2 ^ 64 := by decide
      refine ⟨_, rfl, _, _, rfl, rfl, _, rfl, _, rfl, o, _, _, .int (((bodyO op).length : Int) / 256), rfl, rfl, hO, A0, _, _, rfl, rfl, .inl (by constructor <;> omega), _, _, rfl, rfl, _, rfl, _, rfl, _, _, rfl, rfl, o, _, _, .int (((bodyO op).length : Int) % 256), rfl, rfl, hO, A1, _, _, rfl, rfl, ((pl + (bodyO op).length + 2 : Nat) : Int), 2, congrArg V.int (by show (pl : Int) + 2 + ((bodyO op).length : Int) / 256 * 256 + ((bodyO op).length : Int) % 256 = _; omega), rfl, ?_⟩
      refine ⟨_, rfl, _, rfl, .ref o, _, rfl, .inl ⟨_, hO, rfl⟩, _, _, rfl, rfl, _, rfl, ?_⟩
      rw [hlen, decide_eq_false (by omega)]
      refine iteF ⟨_, rfl, _, rfl, _, _, rfl, rfl, _, rfl, _, rfl, _, _, rfl, rfl, _, rfl, o, _, rfl, hO, fun c nc => ?_⟩
      have ecut : cutV (octs.map V.int) (some ((pl : Int) + 2)) (some (((pl + (bodyO op).length + 2 : Nat) : Int) + 2 - 2)) = (bodyO op).map V.int := by
        rw [show (pl : Int) + 2 = ((pl + 2 : Nat) : Int) by omega, show ((pl + (bodyO op).length + 2 : Nat) : Int) + 2 - 2 = ((pl + 2 + (bodyO op).length : Nat) : Int) by omega, cut_mid _ _ _ (by rw [hlen]; omega), ← List.map_drop, ← List.map_take, R.body]
      rw [ecut]
      have s1 := same_new (o := .lst ((bodyO op).map V.int)) nc
      have t1' := t'.same s1
      refine ⟨_, rfl, c, op, rfl, app1 upd_same, hgo, t1', fun v H2 t2 c2 d2 => ?_⟩
      have hO2 : SqL K H2 o (octs.map V.int) := seqT_chg (s1.seq hO) t1' c2
      have hc2 : SqL K H2 c ((bodyO op).map V.int) := seqT_chg (app1 upd_same) t1' c2
      have hl2 : H2 l = some (.lst vs') := c2.at (s1 _ _ hl) (notT t1' (s1 _ _ hl) fun _ q => by cases q)
      refine ⟨_, rfl, _, rfl, _, _, rfl, rfl, o, _, _, .int 170, rfl, rfl, hO2, A3, rfl, _, rfl, ?_⟩
      rw [show (!decide (V.int 170 = V.int 170)) = false from rfl]
      refine iteF ⟨_, rfl, _, rfl, _, _, rfl, rfl, o, _, _, .int ((bodyO op).sum % 256), rfl, rfl, hO2, A2, _, rfl, c, bodyO op, rfl, hc2, rfl, _, rfl, ?_⟩
      rw [show (!decide (V.int ((bodyO op).sum % 256) = V.int ((bodyO op).sum % 256))) = false by rw [decide_eq_true rfl] <;> rfl]
      obtain ⟨va, vw, vr, rfl, _⟩ := dp_op d2
      refine iteF ⟨_, rfl, _, rfl, ?_⟩
      rw [decide_eq_false (fun z : V.ref va = V.non => by cases z)]
      have hvl : vs'.length = i := by
        rw [dpAll_len hd, List.length_map, List.length_take, Nat.min_eq_left hi]
      refine iteF ⟨.ref l, rfl, .inl ⟨rfl, _, app1 hl2⟩, _, rfl, l, _, _, rfl, rfl, hl2, Nat.lt_of_le_of_lt (by omega : _ ≤ 100) (by decide), ?_⟩
      have cT : ∀ {Ha Hb}, Chg (IsT K) Ha Hb → Chg (ML K l) Ha Hb := fun c => c.mono fun _ _ z => .inr z
      have cA : Chg (ML K l) (upd H l (.lst [])) H2 := (cL.trans (Chg.of s1)).trans (cT c2)
      have cP : Chg (ML K l) H2 (upd H2 l (.lst (vs' ++ [.ref va]))) := (Chg.refl H2).put (.inl rfl)
      refine ⟨_, rfl, vs' ++ [.ref va], _, _, _, by rw [hpl2]; rfl, t2.put hl2 (fun _ q => by cases q), cA.trans cP, upd_same, ?_⟩
      rw [List.take_add_one, eop, List.map_append]
      refine dpAll_app (dpAll_mono (new_mono (Chg.refl (M := ML K l) _) (((Chg.of s1).trans (cT c2)).trans cP) (someL (Chg.refl _))) hd) (.cons ?_ .nil)
      exact lift d2 (cL.trans (Chg.of s1)) cP (someL (cL.trans (Chg.of s1)))
    · have hin2 : i = ops.length := by omega
      have eall : ops.take i = ops := List.take_of_length_le (by omega)
      rw [eall] at hd fin ⊢
      rcases hdead with h2 | ⟨a, b, r, rfl, ha0, ha1, hab⟩
      · rw [decide_eq_false (by rw [List.length_append]; omega)]
        exact iteF (fin _ _ _ hin2)
      · have hl3 : (flatR ops ++ a :: b :: r).length = (flatR ops).length + (a :: b :: r).length := List.length_append
        have hl4 : (a :: b :: r).length = r.length + 2 := rfl
        rw [decide_eq_true (by rw [hl3, hl4]; omega)]
        have h64 : (1000 : Int) < 2 ^ 64 := by decide
        have A0 : atI ((flatR ops ++ a :: b :: r).map V.int) ((flatR ops).length : Int) = some (.int a) := atI_nat (by
          rw [List.getElem?_map, List.getElem?_append_right (Nat.le_refl _), Nat.sub_self]
          rfl)
        have A1 : atI ((flatR ops ++ a :: b :: r).map V.int) (((flatR ops).length : Int) + 1) = some (.int b) := by
          rw [show ((flatR ops).length : Int) + 1 = (((flatR ops).length + 1 : Nat) : Int) by omega]
          refine atI_nat ?_
          rw [List.getElem?_map, List.getElem?_append_right (by omega), Nat.add_sub_cancel_left]
          rfl
        refine iteT ⟨fun _ _ => False, fun _ _ z => z.elim, ?_⟩
        refine ⟨_, rfl, _, _, rfl, rfl, _, rfl, _, rfl, o, _, _, .int a, rfl, rfl, hO, A0, _, _, rfl, rfl, .inl (by constructor <;> omega), _, _, rfl, rfl, _, rfl, _, rfl, _, _, rfl, rfl, o, _, _, .int b, rfl, rfl, hO, A1, _, _, rfl, rfl, _, _, rfl, rfl, ?_⟩
        refine ⟨_, rfl, _, rfl, .ref o, _, rfl, .inl ⟨_, hO, rfl⟩, _, _, rfl, rfl, _, rfl, ?_⟩
        rw [hlen, hl3, decide_eq_true (by omega)]
        exact iteT (fin _ _ _ hin2)
end
end RT
end
section
set_option Elab.async false
set_option linter.all false
set_option maxRecDepth 100000
set_option maxHeartbeats 2000000
/-! Y9: the Bench. -/
namespace RT
open PySem PySem.Spec PyProof.Rows L2
/-- what is known of an own exception class with one field -/
structure OX (P : Program) (K : PySem.W.Frag) (x fld : Str) (l : Nat) : Prop where
  own : PySem.OwnX.Own K P fld l (He.ga K x) (He.ma K (He.ga K x) "__init__")
  exC : PySem.W.subIn K (.ref (He.ga K x)) (.type "BaseException") = some true
  tyC : PySem.W.typeIn K (.ref (He.ga K x)) = some (.type "type")
  hdi : PySem.W.hasDictIn K (He.ga K x) = true
  gat : PySem.W.findIn K (.ref (He.ga K x)) "__getattribute__" = some (some (.builtin "BaseException.__getattribute__"))
  get : PySem.W.findIn K (.ref (He.ga K x)) "__getattr__" = some none
structure EX (P : Program) (K : PySem.W.Frag) : Prop where
  el : OX P K "NoSuchElement" "index" 10
  po : OX P K "NoSuchPosition" "index" 15
  cut : OX P K "PowerCut" "written" 31
  top : (P.main.scope.names.lookup ("super" : Str)).isSome = false
/-- a heap of things that nobody changes grows with the heap -/
structure Ext (G H G' H' : Hp) : Prop where
  gg : Same G G'
  gh : Same G' H'
  nw : ∀ b, H b ≠ none → G b = none → G' b = none
theorem Ext.trans {G H G1 H1 G2 H2 : Hp} (a : Ext G H G1 H1) (c : ∀ b, H b ≠ none → H1 b ≠ none) (b : Ext G1 H1 G2 H2) : Ext G H G2 H2 :=
  ⟨a.gg.trans b.gg, b.gh, fun x h g => b.nw x (c x h) (a.nw x h g)⟩
theorem ext_new {M : Addr → Prop} {G H H' : Hp} {n : Addr} {o : HO} (s : Same G H) (c : Chg M H H') (hM : ∀ b, M b → G b = none) (hn : H n = none) (e : H' n = some o) : Ext G H (upd G n o) H' := by
  refine ⟨same_new (s.free hn), fun b u z => ?_, fun b h g => ?_⟩
  · by_cases hb : b = n
    · rw [hb, upd_same] at z
      cases z
      rw [hb]
      exact e
    · rw [upd_ne hb] at z
      exact c.at (s _ _ z) fun m => by rw [hM b m] at z; cases z
  · have hb : b ≠ n := fun z => h (z ▸ hn)
    rw [upd_ne hb]
    exact g
theorem ext_same {M : Addr → Prop} {G H H' : Hp} (s : Same G H) (c : Chg M H H') (hM : ∀ b, M b → G b = none) : Ext G H G H' :=
  ⟨Same.refl G, c.same s hM, fun _ _ g => g⟩
def elsD (t : List El) : PyData := .list (t.map elD)
theorem dp_lst {K : PySem.W.Frag} {H : Hp} {v : V} {ds : List PyData} (h : Dp K H v (.list ds)) : ∃ a xs, v = .ref a ∧ SqL K H a xs ∧ DpAll K H xs ds := by
  cases h with
  | lst h1 h2 => exact ⟨_, _, rfl, h1, h2⟩
section
variable {P : Program} {w : World} {K : PySem.W.Frag} {mg : Str → Option Value} {base : Heap}
abbrev cB (K : PySem.W.Frag) : Addr := He.ga K "Bench"
def bnF (a l : Addr) : List (Str × V) := [("initial", .ref a), ("later", .ref l)]
/-- a Bench stands at p, its later trains at l -/
structure BnAt (K : PySem.W.Frag) (G H : Hp) (p l : Addr) (T0 : List El) (L : List (List El)) : Prop where
  ob : ∃ dx a, H p = some (.ins (cB K) dx (bnF a l)) ∧ Dp K G (.ref a) (elsD T0)
  lt : ∃ rs, H l = some (.lst rs) ∧ DpAll K G rs (L.map elsD)
  gl : G l = none
theorem bnF_i (a l : Addr) : (bnF a l).lookup ("initial" : Str) = some (.ref a) := rfl
theorem bnF_l (a l : Addr) : (bnF a l).lookup ("later" : Str) = some (.ref l) := rfl
theorem BnAt.mono {G G' H H' : Hp} {p l : Addr} {T0 : List El} {L : List (List El)} (b : BnAt K G H p l T0 L) (g : Same G G') (e : G' l = none) (hp : ∀ o, H p = some o → H' p = some o) (hl : ∀ o, H l = some o → H' l = some o) : BnAt K G' H' p l T0 L := by
  obtain ⟨⟨dx, a, h1, h2⟩, ⟨rs, h3, h4⟩, _⟩ := b
  exact ⟨⟨dx, a, hp _ h1, dp_mono g h2⟩, ⟨rs, hl _ h3, dpAll_mono g h4⟩, e⟩
def curT (T0 : List El) (L : List (List El)) : List El := L.getLast?.getD T0
def spBInit (K : PySem.W.Frag) : Sp := fun vs H Q _ => ∃ (p dx t : Addr) (G : Hp) (xs : List V) (T0 : List El), vs = [.ref p, .ref t] ∧ H p = some (.ins (cB K) dx []) ∧ G p = none ∧ Same G H ∧ SqL K H t xs ∧ DpAll K G xs (T0.map elD) ∧ T0.length ≤ 20 ∧
  ∀ l G' H', BnAt K G' H' p l T0 [] → Ext G H G' H' → Chg (fun b => b = p) H H' → H l = none → Q .non H'
theorem ok_binit (T : TX K mg) : MCal P w K mg base CX0 1 "Bench" "__init__" ["self", "train"] (spBInit K) := by
  refine MCal.of T in_Bench_init sc_Bench_init bd_Bench_init (fun vs H Q E h => ?_) (fun cdv A outer s H vs Q E hr h => ?_)
  · obtain ⟨a, b, c, d, e, f, rfl, _⟩ := h
    rfl
  · obtain ⟨p, dx, t, G, xs, T0, rfl, hp, gp, sG, ht, hx, hl, k⟩ := h
    obtain ⟨t1, m1⟩ := T.int (x := "MOST") (i := 20) (by decide +kernel)
    have cl := T.cl (x := "Bench") (by decide +kernel)
    have n1 := T.na (x := "Bench") (f := "initial") (by decide +kernel)
    have n2 := T.na (x := "Bench") (f := "later") (by decide +kernel)
    refine ⟨_, pss_cons (ps_if (pt_cmpR op_gt (pe_callB call_len (by rfl) (T.fr (by decide +kernel)) PySem.boot_len (pa_cons (pv 1) pa_nil)) (pe_glob (v := .int 20) rfl m1 ⟨_, rfl⟩) (nomark _)) pss_never pss_nil)
      (pss_cons (ps_fld (pv 0) (pe_callTy call_list_of (by rfl) (T.fr (by decide +kernel)) (by decide +kernel) (pa_cons (pv 1) pa_nil)) rfl)
      (pss_one (ps_fld (pv 0) (pe_lst pa_nil) rfl))), ?_⟩
    refine ⟨_, rfl, .ref t, _, rfl, .inl ⟨_, ht, rfl⟩, _, _, rfl, rfl, _, rfl, ?_⟩
    have hxl : xs.length = T0.length := by rw [dpAll_len hx, List.length_map]
    rw [decide_eq_false (by omega)]
    refine iteF ⟨_, rfl, t, xs, rfl, .inl ht, fun a na => ?_⟩
    have npa : p ≠ a := ne_of_none hp na
    refine ⟨_, rfl, p, _, dx, [], rfl, (by rw [upd_ne npa]; exact hp), cl, n1, (by show 0 < 1000; decide), ?_⟩
    refine ⟨Nat.zero_le _, fun l nl => ?_⟩
    have npl : p ≠ l := ne_of_none upd_same nl
    have nal : a ≠ l := fun z => by
      rw [← z, upd_ne npa.symm, upd_same] at nl
      cases nl
    refine ⟨_, rfl, p, _, dx, _, rfl, (by rw [upd_ne npl]; exact upd_same), cl, n2, (by show 1 < 1000; decide), ?_⟩
    have cc : Chg (fun b => b = p) H (upd (upd (upd (upd H a (.lst xs)) p (.ins (cB K) dx (putF "initial" (.ref a) []))) l (.lst [])) p (.ins (cB K) dx (putF "later" (.ref l) (putF "initial" (.ref a) [])))) :=
      ((((Chg.refl H).new na).put1).new nl).put1
    have hl0 : H l = none := by
      rw [upd_ne npl.symm, upd_ne nal.symm] at nl
      exact nl
    have ea : (upd (upd (upd (upd H a (.lst xs)) p (.ins (cB K) dx (putF "initial" (.ref a) []))) l (.lst [])) p (.ins (cB K) dx (putF "later" (.ref l) (putF "initial" (.ref a) [])))) a = some (.lst xs) := by
      rw [upd_ne npa.symm, upd_ne nal, upd_ne npa.symm, upd_same]
    have ex := ext_new (n := a) (o := .lst xs) sG cc (fun b z => by rw [z]; exact gp) na ea
    refine k l _ _ ⟨⟨dx, a, ?_, .lst (app1 upd_same) (dpAll_mono ex.gg hx)⟩, ⟨[], ?_, .nil⟩, ?_⟩ ex cc hl0
    · rw [upd_same]
      rfl
    · rw [upd_ne npl.symm, upd_same]
    · rw [upd_ne nal.symm]
      exact sG.free hl0
def spTrain (K : PySem.W.Frag) : Sp := fun vs H Q _ => ∃ (p l : Addr) (G : Hp) (T0 : List El) (L : List (List El)), vs = [.ref p] ∧ BnAt K G H p l T0 L ∧ Same G H ∧
  ∀ t xs H', Same H H' → H t = none → H' t = some (.lst xs) → DpAll K G xs ((curT T0 L).map elD) → Q (.ref t) H'
theorem ok_train (T : TX K mg) : MCal P w K mg base CX0 1 "Bench" "train" ["self"] (spTrain K) := by
  refine MCal.of T in_Bench_train sc_Bench_train bd_Bench_train (fun vs H Q E h => ?_) (fun cdv A outer s H vs Q E hr h => ?_)
  · obtain ⟨a, b, c, d, e, rfl, _⟩ := h
    rfl
  · obtain ⟨p, l, G, T0, L, rfl, hB, sG, k⟩ := h
    have cl := T.cl (x := "Bench") (by decide +kernel)
    have n1 := T.na (x := "Bench") (f := "initial") (by decide +kernel)
    have n2 := T.na (x := "Bench") (f := "later") (by decide +kernel)
    refine ⟨_, pss_cons (ps_if (pt_truth (pe_fld (pv 0) rfl) (by intro _; rfl)) (pss_one (ps_ret (pe_callTy call_list_of (by rfl) (T.fr (by decide +kernel)) (by decide +kernel) (pa_cons (pe_ix ix_list (pe_fld (pv 0) rfl) (pe_un un_neg pe_int) (fun _ _ => rfl)) pa_nil)))) pss_nil)
      (pss_one (ps_ret (pe_callTy call_list_of (by rfl) (T.fr (by decide +kernel)) (by decide +kernel) (pa_cons (pe_fld (pv 0) rfl) pa_nil)))), ?_⟩
    obtain ⟨⟨dx, a, hp, ha⟩, ⟨rs, hl, hrs⟩, gl⟩ := hB
    refine ⟨_, rfl, p, _, dx, _, _, rfl, hp, cl, n2, bnF_l _ _, _, .inl ⟨_, app1 hl, rfl⟩, ?_⟩
    have hlen := dpAll_len hrs
    rw [List.length_map] at hlen
    rcases List.eq_nil_or_concat L with rfl | ⟨L', t', rfl⟩
    · have hr0 : rs = [] := List.length_eq_zero_iff.mp hlen
      rw [hr0]
      refine iteF ⟨_, rfl, p, _, dx, _, _, rfl, hp, cl, n1, bnF_i _ _, a, ?_⟩
      obtain ⟨a', xs, e1, h1, h2⟩ := dp_lst ha
      cases e1
      exact ⟨xs, rfl, .inl (sG.seq h1), fun t nt => k t xs _ (same_new nt) nt upd_same h2⟩
    · have hrs2 : rs ≠ [] := fun z => by
        rw [z] at hlen
        simp at hlen
      have ee : (!rs.isEmpty) = true := by
        cases rs with
        | nil => exact absurd rfl hrs2
        | cons _ _ => rfl
      rw [ee]
      obtain ⟨rs', r, rfl⟩ : ∃ rs' r, rs = rs' ++ [r] := by
        rcases List.eq_nil_or_concat rs with z | ⟨b, c, z⟩
        · exact absurd z hrs2
        · exact ⟨b, c, by simpa using z⟩
      have hr : Dp K G r (elsD t') := by
        have z := dpAll_drop rs'.length hrs
        rw [List.drop_left] at z
        have hl2 : rs'.length = (L'.map elsD).length := by
          simp at hlen
          simpa using hlen
        rw [hl2, List.concat_eq_append, List.map_append, List.drop_left] at z
        cases z with
        | cons z1 _ => exact z1
      obtain ⟨a', xs, rfl, h1, h2⟩ := dp_lst hr
      refine iteT ⟨_, rfl, p, _, dx, _, _, rfl, hp, cl, n2, bnF_l _ _, 1, rfl, l, _, _, _, rfl, rfl, app1 hl, atI_last _ _, a', xs, rfl, .inl (sG.seq h1), fun t nt => k t xs _ (same_new nt) nt upd_same ?_⟩
      unfold curT
      simpa using h2
def spOps (K : PySem.W.Frag) : Sp := fun vs H Q _ => ∃ (p l : Addr) (G : Hp) (T0 : List El) (L : List (List El)), vs = [.ref p] ∧ BnAt K G H p l T0 L ∧ Q (.int (L.length : Nat)) H
theorem ok_ops (T : TX K mg) : MCal P w K mg base CX0 1 "Bench" "operations" ["self"] (spOps K) := by
  refine MCal.of T in_Bench_operations sc_Bench_operations bd_Bench_operations (fun vs H Q E h => ?_) (fun cdv A outer s H vs Q E hr h => ?_)
  · obtain ⟨a, b, c, d, e, rfl, _⟩ := h
    rfl
  · obtain ⟨p, l, G, T0, L, rfl, hB, k⟩ := h
    have cl := T.cl (x := "Bench") (by decide +kernel)
    have n2 := T.na (x := "Bench") (f := "later") (by decide +kernel)
    refine ⟨_, pss_one (ps_ret (pe_callB call_len (by rfl) (T.fr (by decide +kernel)) PySem.boot_len (pa_cons (pe_fld (pv 0) rfl) pa_nil))), ?_⟩
    obtain ⟨⟨dx, a, hp, ha⟩, ⟨rs, hl, hrs⟩, gl⟩ := hB
    refine ⟨_, rfl, p, _, dx, _, _, rfl, hp, cl, n2, bnF_l _ _, .ref l, _, rfl, .inl ⟨_, app1 hl, rfl⟩, ?_⟩
    have hlen := dpAll_len hrs
    rw [List.length_map] at hlen
    rw [hlen]
    exact k
def putT (t : List El) (i : Nat) (e : El) : List El := t.take i ++ [e] ++ t.drop i
def takeT (t : List El) (i : Nat) : List El := t.take i ++ t.drop (i + 1)
def exchT (t : List El) (i : Nat) (e : El) : List El := t.take i ++ [e] ++ t.drop (i + 1)
theorem cut_to (xs : List V) (n : Nat) (h : n ≤ xs.length) : cutV xs none (some (n : Int)) = xs.take n := by
  unfold cutV
  rw [HT.sIx_nat, HT.sIx_none, Nat.min_eq_left h, Nat.sub_zero, List.drop_zero]
theorem BnAt.add {G G' H' : Hp} {p l n : Addr} {T0 : List El} {L : List (List El)} {t : List El} {xs rs : List V} (hob : ∃ dx a, H' p = some (.ins (cB K) dx (bnF a l)) ∧ Dp K G (.ref a) (elsD T0)) (hr : DpAll K G rs (L.map elsD)) (gg : Same G G')
    (hl : H' l = some (.lst (rs ++ [.ref n]))) (hn : G' n = some (.lst xs)) (hx : DpAll K G xs (t.map elD)) (gl : G' l = none) : BnAt K G' H' p l T0 (L ++ [t]) := by
  obtain ⟨dx, a, h1, h2⟩ := hob
  refine ⟨⟨dx, a, h1, dp_mono gg h2⟩, ⟨_, hl, ?_⟩, gl⟩
  rw [List.map_append]
  exact dpAll_app (dpAll_mono gg hr) (.cons (.lst (app1 hn) (dpAll_mono gg hx)) .nil)
def spPut (K : PySem.W.Frag) : Sp := fun vs H Q E => ∃ (p l : Addr) (G : Hp) (T0 : List El) (L : List (List El)) (i : Int) (v : V) (e : El), vs = [.ref p, .int i, v] ∧ BnAt K G H p l T0 L ∧ Same G H ∧ Dp K G v (elD e) ∧ i.natAbs ≤ 1000 ∧ (curT T0 L).length ≤ 20 ∧ L.length ≤ 100 ∧
  (¬ (0 ≤ i ∧ i ≤ ((curT T0 L).length : Nat)) → ∀ d H', Same H H' → H d = none → H' d = some (.xd [("index", .int i)]) → E (.ref (He.ga K "NoSuchPosition")) (some d) H') ∧
  (0 ≤ i ∧ i ≤ ((curT T0 L).length : Nat) → (curT T0 L).length = 20 → ∀ H', Same H H' → E (.ref (He.ga K "TrainFull")) none H') ∧
  (0 ≤ i ∧ i ≤ ((curT T0 L).length : Nat) → (curT T0 L).length < 20 → ∀ G' H', BnAt K G' H' p l T0 (L ++ [putT (curT T0 L) i.toNat e]) → Ext G H G' H' → Chg (fun b => b = l) H H' → Q (.int (((curT T0 L).length : Nat) + 1)) H')
theorem ok_put (T : TX K mg) (Z : EX P K) : MCal P w K mg base (L2.CX P w) 2 "Bench" "put" ["self", "index", "element"] (spPut K) := by
  have GT : MCal P w K mg base CX0 1 "Bench" "train" ["self"] (spTrain K) := ok_train T
  refine MCal.ofX T in_Bench_put sc_Bench_put bd_Bench_put (fun vs H Q E h => ?_) (fun cdv A outer s H vs Q E hr h => ?_)
  · obtain ⟨a, b, c, d, e, f, g, hh, rfl, _⟩ := h
    rfl
  · obtain ⟨p, l, G, T0, L, i, v, e, rfl, hB, sG, hv, hi, hlen, hL, k1, k2, k3⟩ := h
    obtain ⟨t1, m1⟩ := T.int (x := "MOST") (i := 20) (by decide +kernel)
    have cl := T.cl (x := "Bench") (by decide +kernel)
    have n2 := T.na (x := "Bench") (f := "later") (by decide +kernel)
    have mlen : mg "len" = none := T.fr (by decide +kernel)
    obtain ⟨f1, f2, f3, f4⟩ := T.full
    refine ⟨_, pss_cons (ps_set (i := 3) sc_Bench_put.nd rfl (.inl rfl) (pe_mcal0 (pv 0) cl (T.me in_Bench_train) GT hr pass0))
      (pss_cons (ps_if (pt_not (pt_chain op_le op_le pe_int (pv 1) (pe_callB call_len (by rfl) mlen PySem.boot_len (pa_cons (pv 3) pa_nil))))
        (pss_one (ps_raiseOwn rfl ⟨Z.po.own, .inr (.inl ⟨rfl, rfl⟩), T.ge (x := "NoSuchPosition") (by decide +kernel), T.ke (x := "NoSuchPosition") (by decide +kernel), Z.po.exC, Z.po.tyC, Z.top⟩ hr (takes_of rfl rfl rfl rfl) (pa_cons (pv 1) pa_nil) rfl)) pss_nil)
      (pss_cons (ps_if (pt_cmpR op_ge (pe_callB call_len (by rfl) mlen PySem.boot_len (pa_cons (pv 3) pa_nil)) (pe_glob (v := .int 20) rfl m1 ⟨_, rfl⟩) (nomark _))
        (pss_one (ps_raise rfl (takes_of rfl rfl rfl rfl) (pmk_own0 PySem.F.excBase_ValueError f1 (T.ge (x := "TrainFull") (by decide +kernel)) f2 (raises_own f3 f4) rfl))) pss_nil)
      (pss_cons (ps_expr (pe_bm PySem.F.plainAttrs_list PySem.F.slot_list_append PySem.F.type_list_append mt_append (pe_fld (pv 0) rfl) (pa_cons (pe_op op_cat (pe_op op_cat (pe_slice sl_list (pv 3) po_none (po_some (pv 1))) (pe_lst (pa_cons (pv 2) pa_nil))) (pe_slice sl_list (pv 3) (po_some (pv 1)) po_none)) pa_nil)))
      (pss_one (ps_ret (pe_op op_add (pe_callB call_len (by rfl) mlen PySem.boot_len (pa_cons (pv 3) pa_nil)) pe_int)))))), ?_⟩
    obtain ⟨⟨dx, a, hp, ha⟩, ⟨rs, hl, hrs⟩, gl⟩ := id hB
    refine ⟨_, rfl, p, dx, _, rfl, hp, rfl, p, l, G, T0, L, rfl, hB, sG, fun t xs H1 s1 nt et hx => ?_⟩
    have hxl : xs.length = (curT T0 L).length := by rw [dpAll_len hx, List.length_map]
    have hrl : rs.length = L.length := by rw [dpAll_len hrs, List.length_map]
    have big : i.natAbs < 10 ^ 100 := Nat.lt_of_le_of_lt hi (by decide +kernel)
    refine ⟨_, rfl, _, _, rfl, rfl, _, rfl, ?_⟩
    by_cases h0 : 0 ≤ i
    case neg =>
      rw [decide_eq_false h0]
      exact iteF ⟨_, rfl, iteT ⟨_, rfl, i, rfl, big, fun d nd => k1 (fun z => h0 z.1) d _ (s1.trans (same_new nd)) (s1.free nd) upd_same⟩⟩
    rw [decide_eq_true h0]
    refine iteT ⟨_, rfl, .ref t, _, rfl, .inl ⟨_, app1 et, rfl⟩, _, _, rfl, rfl, _, rfl, ?_⟩
    rw [hxl]
    by_cases h1 : i ≤ ((curT T0 L).length : Nat)
    case neg =>
      rw [decide_eq_false h1]
      exact iteT ⟨_, rfl, i, rfl, big, fun d nd => k1 (fun z => h1 z.2) d _ (s1.trans (same_new nd)) (s1.free nd) upd_same⟩
    rw [decide_eq_true h1]
    refine iteF ⟨_, rfl, .ref t, _, rfl, .inl ⟨_, app1 et, rfl⟩, _, _, rfl, rfl, _, rfl, ?_⟩
    rw [hxl]
    by_cases h20 : (curT T0 L).length = 20
    · rw [decide_eq_true (by omega)]
      exact iteT (k2 ⟨h0, h1⟩ h20 H1 s1)
    rw [decide_eq_false (by omega)]
    have hp1 := s1 _ _ hp
    have hl1 := s1 _ _ hl
    have ei : i = ((i.toNat : Nat) : Int) := by omega
    refine iteF ⟨_, rfl, p, _, dx, _, _, rfl, hp1, cl, n2, bnF_l _ _, .inl ⟨rfl, _, app1 hl1⟩, ?_⟩
    refine ⟨_, rfl, _, rfl, _, rfl, t, _, rfl, app1 et, fun A nA => ?_⟩
    have sA := same_new (o := .lst (cutV xs none (some i))) nA
    refine ⟨_, rfl, (by show 1 ≤ sizeLine; decide), fun B nB => ?_⟩
    have sB := same_new (o := .lst [v]) nB
    have hcA : cutV xs none (some i) = xs.take i.toNat := by
      rw [show some i = some ((i.toNat : Nat) : Int) from congrArg some ei]
      exact cut_to _ _ (by omega)
    have hcD : cutV xs (some i) none = xs.drop i.toNat := by
      rw [show some i = some ((i.toNat : Nat) : Int) from congrArg some ei]
      exact cut_from _ _
    have lz : ∀ n, n ≤ 200 → n ≤ sizeLine := fun n h => Nat.le_trans h (by decide)
    have lA : (cutV xs none (some i)).length ≤ 20 := by rw [hcA, List.length_take]; omega
    have lD : (cutV xs (some i) none).length ≤ 20 := by rw [hcD, List.length_drop]; omega
    refine ⟨A, B, _, _, rfl, rfl, sB _ _ upd_same, upd_same, lz _ (by show (cutV xs none (some i)).length + 1 ≤ 200; omega), fun C nC => ?_⟩
    have sC := same_new (o := .lst (cutV xs none (some i) ++ [v])) nC
    have sAC := sA.trans (sB.trans sC)
    refine ⟨_, rfl, _, rfl, _, rfl, t, _, rfl, app1 (sAC _ _ et), fun D nD => ?_⟩
    have sD := same_new (o := .lst (cutV xs (some i) none)) nD
    refine ⟨C, D, _, _, rfl, rfl, sD _ _ upd_same, upd_same, lz _ (by rw [List.length_append]; show (cutV xs none (some i)).length + 1 + _ ≤ 200; omega), fun N nN => ?_⟩
    have sN := same_new (o := .lst (cutV xs none (some i) ++ [v] ++ cutV xs (some i) none)) nN
    have sAll := s1.trans (sAC.trans (sD.trans sN))
    have hl2 := sAll _ _ hl
    refine ⟨l, _, _, rfl, rfl, hl2, Nat.lt_of_le_of_lt (by omega : _ ≤ 100) (by decide), ?_⟩
    have nNl : N ≠ l := fun z => by
      have := (s1.trans (sAC.trans sD)) _ _ hl
      rw [z, this] at nN
      cases nN
    have ntl : t ≠ l := fun z => by
      rw [z, hl] at nt
      cases nt
    refine ⟨_, rfl, .ref t, _, rfl, .inl ⟨_, app1 (by rw [upd_ne ntl]; exact (sAC.trans (sD.trans sN)) _ _ et), rfl⟩, _, _, rfl, rfl, ?_⟩
    rw [hxl]
    have cc : Chg (fun b => b = l) H (upd _ l (.lst (rs ++ [.ref N]))) := (Chg.of sAll).put1
    have hN0 : H N = none := (s1.trans (sAC.trans sD)).free nN
    have eN := (upd_ne (H := upd (upd (upd (upd (upd H1 A (.lst (cutV xs none (some i)))) B (.lst [v])) C (.lst (cutV xs none (some i) ++ [v]))) D (.lst (cutV xs (some i) none))) N (.lst (cutV xs none (some i) ++ [v] ++ cutV xs (some i) none))) (o := .lst (rs ++ [.ref N])) nNl).trans upd_same
    have ex := ext_new (n := N) sG cc (fun b z => by rw [z]; exact gl) hN0 eN
    have npl : p ≠ l := ne_of hp hl (by intro z; cases z)
    refine k3 ⟨h0, h1⟩ (by omega) _ _ (BnAt.add (n := N) ⟨dx, a, ?_, ha⟩ hrs ex.gg upd_same upd_same ?_ ?_) ex cc
    · rw [upd_ne npl]
      exact sAll _ _ hp
    · rw [hcA, hcD]
      unfold putT
      rw [List.map_append, List.map_append, List.map_take, List.map_drop]
      exact dpAll_app (dpAll_app (dpAll_take _ hx) (.cons hv .nil)) (dpAll_drop _ hx)
    · rw [upd_ne nNl.symm]
      exact gl
def spTake (K : PySem.W.Frag) : Sp := fun vs H Q E => ∃ (p l : Addr) (G : Hp) (T0 : List El) (L : List (List El)) (i : Int) , vs = [.ref p, .int i] ∧ BnAt K G H p l T0 L ∧ Same G H ∧ i.natAbs ≤ 1000 ∧ (curT T0 L).length ≤ 20 ∧ L.length ≤ 100 ∧
  (¬ (0 ≤ i ∧ i < ((curT T0 L).length : Nat)) → ∀ d H', Same H H' → H d = none → H' d = some (.xd [("index", .int i)]) → E (.ref (He.ga K "NoSuchElement")) (some d) H') ∧
  (0 ≤ i ∧ i < ((curT T0 L).length : Nat) → ∀ G' H' y x, BnAt K G' H' p l T0 (L ++ [takeT (curT T0 L) i.toNat]) → Ext G H G' H' → Chg (fun b => b = l) H H' → (curT T0 L)[i.toNat]? = some x → Dp K G' y (elD x) → Q y H')
theorem ok_take (T : TX K mg) (Z : EX P K) : MCal P w K mg base (L2.CX P w) 2 "Bench" "take" ["self", "index"] (spTake K) := by
  have GT : MCal P w K mg base CX0 1 "Bench" "train" ["self"] (spTrain K) := ok_train T
  refine MCal.ofX T in_Bench_take sc_Bench_take bd_Bench_take (fun vs H Q E h => ?_) (fun cdv A outer s H vs Q E hr h => ?_)
  · obtain ⟨a, b, c, d, e, f, rfl, _⟩ := h
    rfl
  · obtain ⟨p, l, G, T0, L, i, rfl, hB, sG, hi, hlen, hL, k1, k3⟩ := h
    have cl := T.cl (x := "Bench") (by decide +kernel)
    have n2 := T.na (x := "Bench") (f := "later") (by decide +kernel)
    have mlen : mg "len" = none := T.fr (by decide +kernel)
    refine ⟨_, pss_cons (ps_set (i := 2) sc_Bench_take.nd rfl (.inl rfl) (pe_mcal0 (pv 0) cl (T.me in_Bench_train) GT hr pass0))
      (pss_cons (ps_if (pt_not (pt_chain op_le op_lt pe_int (pv 1) (pe_callB call_len (by rfl) mlen PySem.boot_len (pa_cons (pv 2) pa_nil))))
        (pss_one (ps_raiseOwn rfl ⟨Z.el.own, .inl ⟨rfl, rfl⟩, T.ge (x := "NoSuchElement") (by decide +kernel), T.ke (x := "NoSuchElement") (by decide +kernel), Z.el.exC, Z.el.tyC, Z.top⟩ hr (takes_of rfl rfl rfl rfl) (pa_cons (pv 1) pa_nil) rfl)) pss_nil)
      (pss_cons (ps_expr (pe_bm PySem.F.plainAttrs_list PySem.F.slot_list_append PySem.F.type_list_append mt_append (pe_fld (pv 0) rfl) (pa_cons (pe_op op_cat (pe_slice sl_list (pv 2) po_none (po_some (pv 1))) (pe_slice sl_list (pv 2) (po_some (pe_op op_add (pv 1) pe_int)) po_none)) pa_nil)))
      (pss_one (ps_ret (pe_ix ix_list (pv 2) (pv 1) (fun _ _ => rfl)))))), ?_⟩
    obtain ⟨⟨dx, a, hp, ha⟩, ⟨rs, hl, hrs⟩, gl⟩ := id hB
    refine ⟨_, rfl, p, dx, _, rfl, hp, rfl, p, l, G, T0, L, rfl, hB, sG, fun t xs H1 s1 nt et hx => ?_⟩
    have hxl : xs.length = (curT T0 L).length := by rw [dpAll_len hx, List.length_map]
    have hrl : rs.length = L.length := by rw [dpAll_len hrs, List.length_map]
    have big : i.natAbs < 10 ^ 100 := Nat.lt_of_le_of_lt hi (by decide +kernel)
    refine ⟨_, rfl, _, _, rfl, rfl, _, rfl, ?_⟩
    by_cases h0 : 0 ≤ i
    case neg =>
      rw [decide_eq_false h0]
      exact iteF ⟨_, rfl, iteT ⟨_, rfl, i, rfl, big, fun d nd => k1 (fun z => h0 z.1) d _ (s1.trans (same_new nd)) (s1.free nd) upd_same⟩⟩
    rw [decide_eq_true h0]
    refine iteT ⟨_, rfl, .ref t, _, rfl, .inl ⟨_, app1 et, rfl⟩, _, _, rfl, rfl, _, rfl, ?_⟩
    rw [hxl]
    by_cases h1 : i < ((curT T0 L).length : Nat)
    case neg =>
      rw [decide_eq_false h1]
      exact iteT ⟨_, rfl, i, rfl, big, fun d nd => k1 (fun z => h1 z.2) d _ (s1.trans (same_new nd)) (s1.free nd) upd_same⟩
    rw [decide_eq_true h1]
    have hp1 := s1 _ _ hp
    have hl1 := s1 _ _ hl
    have ei : i = ((i.toNat : Nat) : Int) := by omega
    have ei1 : i + 1 = ((i.toNat + 1 : Nat) : Int) := by omega
    refine iteF ⟨_, rfl, p, _, dx, _, _, rfl, hp1, cl, n2, bnF_l _ _, .inl ⟨rfl, _, app1 hl1⟩, ?_⟩
    refine ⟨_, rfl, _, rfl, _, rfl, t, _, rfl, app1 et, fun A nA => ?_⟩
    have sA := same_new (o := .lst (cutV xs none (some i))) nA
    have hcA : cutV xs none (some i) = xs.take i.toNat := by
      rw [show some i = some ((i.toNat : Nat) : Int) from congrArg some ei]
      exact cut_to _ _ (by omega)
    have hcD : cutV xs (some (i + 1)) none = xs.drop (i.toNat + 1) := by
      rw [show some (i + 1) = some ((i.toNat + 1 : Nat) : Int) from congrArg some ei1]
      exact cut_from _ _
    have lz : ∀ n, n ≤ 200 → n ≤ sizeLine := fun n h => Nat.le_trans h (by decide)
    have lA : (cutV xs none (some i)).length ≤ 20 := by rw [hcA, List.length_take]; omega
    have lD : (cutV xs (some (i + 1)) none).length ≤ 20 := by rw [hcD, List.length_drop]; omega
    have sAC := sA
    refine ⟨_, rfl, _, rfl, _, _, rfl, rfl, _, rfl, t, _, rfl, app1 (sAC _ _ et), fun D nD => ?_⟩
    have sD := same_new (o := .lst (cutV xs (some (i + 1)) none)) nD
    refine ⟨A, D, _, _, rfl, rfl, sD _ _ upd_same, upd_same, lz _ (by omega), fun N nN => ?_⟩
    have sN := same_new (o := .lst (cutV xs none (some i) ++ cutV xs (some (i + 1)) none)) nN
    have sAll := s1.trans (sAC.trans (sD.trans sN))
    have hl2 := sAll _ _ hl
    refine ⟨l, _, _, rfl, rfl, hl2, Nat.lt_of_le_of_lt (by omega : _ ≤ 100) (by decide), ?_⟩
    have nNl : N ≠ l := fun z => by
      have := (s1.trans (sAC.trans sD)) _ _ hl
      rw [z, this] at nN
      cases nN
    have ntl : t ≠ l := fun z => by
      rw [z, hl] at nt
      cases nt
    have hN0 : H N = none := (s1.trans (sAC.trans sD)).free nN
    have eN := (upd_ne (H := (upd (upd (upd H1 A (.lst (cutV xs none (some i)))) D (.lst (cutV xs (some (i + 1)) none))) N (.lst (cutV xs none (some i) ++ cutV xs (some (i + 1)) none)))) (o := .lst (rs ++ [.ref N])) nNl).trans upd_same
    have cc : Chg (fun b => b = l) H (upd _ l (.lst (rs ++ [.ref N]))) := (Chg.of sAll).put1
    have ex := ext_new (n := N) sG cc (fun b z => by rw [z]; exact gl) hN0 eN
    have npl : p ≠ l := ne_of hp hl (by intro z; cases z)
    have hit : i.toNat < xs.length := by omega
    have hie : (curT T0 L)[i.toNat]? = some ((curT T0 L)[i.toNat]'(by omega)) := List.getElem?_eq_getElem (by omega)
    have hat : ∀ z, xs[i.toNat]? = some z → atI xs i = some z := fun z hz => by
      rw [show atI xs i = atI xs ((i.toNat : Nat) : Int) by rw [← ei]]
      exact atI_nat hz
    obtain ⟨yd, hy1, hy2⟩ := dpAll_get hx (List.getElem?_eq_getElem hit)
    rw [List.getElem?_map, hie] at hy1
    cases hy1
    refine ⟨_, rfl, _, rfl, t, _, _, xs[i.toNat], rfl, rfl, app1 (by rw [upd_ne ntl]; exact (sAC.trans (sD.trans sN)) _ _ et), (hat _ (List.getElem?_eq_getElem hit)), ?_⟩
    refine k3 ⟨h0, h1⟩ _ _ _ _ (BnAt.add (n := N) ⟨dx, a, ?_, ha⟩ hrs ex.gg upd_same upd_same ?_ ?_) ex cc hie (dp_mono ex.gg hy2)
    · rw [upd_ne npl]
      exact sAll _ _ hp
    · rw [hcA, hcD]
      unfold takeT
      rw [List.map_append, List.map_take, List.map_drop]
      exact dpAll_app (dpAll_take _ hx) (dpAll_drop _ hx)
    · rw [upd_ne nNl.symm]
      exact gl
def spExch (K : PySem.W.Frag) : Sp := fun vs H Q E => ∃ (p l : Addr) (G : Hp) (T0 : List El) (L : List (List El)) (i : Int) (v : V) (e : El), vs = [.ref p, .int i, v] ∧ BnAt K G H p l T0 L ∧ Same G H ∧ Dp K G v (elD e) ∧ i.natAbs ≤ 1000 ∧ (curT T0 L).length ≤ 20 ∧ L.length ≤ 100 ∧
  (¬ (0 ≤ i ∧ i < ((curT T0 L).length : Nat)) → ∀ d H', Same H H' → H d = none → H' d = some (.xd [("index", .int i)]) → E (.ref (He.ga K "NoSuchElement")) (some d) H') ∧
  (0 ≤ i ∧ i < ((curT T0 L).length : Nat) → ∀ G' H' y x, BnAt K G' H' p l T0 (L ++ [exchT (curT T0 L) i.toNat e]) → Ext G H G' H' → Chg (fun b => b = l) H H' → (curT T0 L)[i.toNat]? = some x → Dp K G' y (elD x) → Q y H')
theorem ok_exch (T : TX K mg) (Z : EX P K) : MCal P w K mg base (L2.CX P w) 2 "Bench" "exchange" ["self", "index", "element"] (spExch K) := by
  have GT : MCal P w K mg base CX0 1 "Bench" "train" ["self"] (spTrain K) := ok_train T
  refine MCal.ofX T in_Bench_exchange sc_Bench_exchange bd_Bench_exchange (fun vs H Q E h => ?_) (fun cdv A outer s H vs Q E hr h => ?_)
  · obtain ⟨a, b, c, d, e, f, g, hh, rfl, _⟩ := h
    rfl
  · obtain ⟨p, l, G, T0, L, i, v, e, rfl, hB, sG, hv, hi, hlen, hL, k1, k3⟩ := h
    have cl := T.cl (x := "Bench") (by decide +kernel)
    have n2 := T.na (x := "Bench") (f := "later") (by decide +kernel)
    have mlen : mg "len" = none := T.fr (by decide +kernel)
    refine ⟨_, pss_cons (ps_set (i := 3) sc_Bench_exchange.nd rfl (.inl rfl) (pe_mcal0 (pv 0) cl (T.me in_Bench_train) GT hr pass0))
      (pss_cons (ps_if (pt_not (pt_chain op_le op_lt pe_int (pv 1) (pe_callB call_len (by rfl) mlen PySem.boot_len (pa_cons (pv 3) pa_nil))))
        (pss_one (ps_raiseOwn rfl ⟨Z.el.own, .inl ⟨rfl, rfl⟩, T.ge (x := "NoSuchElement") (by decide +kernel), T.ke (x := "NoSuchElement") (by decide +kernel), Z.el.exC, Z.el.tyC, Z.top⟩ hr (takes_of rfl rfl rfl rfl) (pa_cons (pv 1) pa_nil) rfl)) pss_nil)
      (pss_cons (ps_expr (pe_bm PySem.F.plainAttrs_list PySem.F.slot_list_append PySem.F.type_list_append mt_append (pe_fld (pv 0) rfl) (pa_cons (pe_op op_cat (pe_op op_cat (pe_slice sl_list (pv 3) po_none (po_some (pv 1))) (pe_lst (pa_cons (pv 2) pa_nil))) (pe_slice sl_list (pv 3) (po_some (pe_op op_add (pv 1) pe_int)) po_none)) pa_nil)))
      (pss_one (ps_ret (pe_ix ix_list (pv 3) (pv 1) (fun _ _ => rfl)))))), ?_⟩
    obtain ⟨⟨dx, a, hp, ha⟩, ⟨rs, hl, hrs⟩, gl⟩ := id hB
    refine ⟨_, rfl, p, dx, _, rfl, hp, rfl, p, l, G, T0, L, rfl, hB, sG, fun t xs H1 s1 nt et hx => ?_⟩
    have hxl : xs.length = (curT T0 L).length := by rw [dpAll_len hx, List.length_map]
    have hrl : rs.length = L.length := by rw [dpAll_len hrs, List.length_map]
    have big : i.natAbs < 10 ^ 100 := Nat.lt_of_le_of_lt hi (by decide +kernel)
    refine ⟨_, rfl, _, _, rfl, rfl, _, rfl, ?_⟩
    by_cases h0 : 0 ≤ i
    case neg =>
      rw [decide_eq_false h0]
      exact iteF ⟨_, rfl, iteT ⟨_, rfl, i, rfl, big, fun d nd => k1 (fun z => h0 z.1) d _ (s1.trans (same_new nd)) (s1.free nd) upd_same⟩⟩
    rw [decide_eq_true h0]
    refine iteT ⟨_, rfl, .ref t, _, rfl, .inl ⟨_, app1 et, rfl⟩, _, _, rfl, rfl, _, rfl, ?_⟩
    rw [hxl]
    by_cases h1 : i < ((curT T0 L).length : Nat)
    case neg =>
      rw [decide_eq_false h1]
      exact iteT ⟨_, rfl, i, rfl, big, fun d nd => k1 (fun z => h1 z.2) d _ (s1.trans (same_new nd)) (s1.free nd) upd_same⟩
    rw [decide_eq_true h1]
    have hp1 := s1 _ _ hp
    have hl1 := s1 _ _ hl
    have ei : i = ((i.toNat : Nat) : Int) := by omega
    have ei1 : i + 1 = ((i.toNat + 1 : Nat) : Int) := by omega
    refine iteF ⟨_, rfl, p, _, dx, _, _, rfl, hp1, cl, n2, bnF_l _ _, .inl ⟨rfl, _, app1 hl1⟩, ?_⟩
    refine ⟨_, rfl, _, rfl, _, rfl, t, _, rfl, app1 et, fun A nA => ?_⟩
    have sA := same_new (o := .lst (cutV xs none (some i))) nA
    have hcA : cutV xs none (some i) = xs.take i.toNat := by
      rw [show some i = some ((i.toNat : Nat) : Int) from congrArg some ei]
      exact cut_to _ _ (by omega)
    have hcD : cutV xs (some (i + 1)) none = xs.drop (i.toNat + 1) := by
      rw [show some (i + 1) = some ((i.toNat + 1 : Nat) : Int) from congrArg some ei1]
      exact cut_from _ _
    have lz : ∀ n, n ≤ 200 → n ≤ sizeLine := fun n h => Nat.le_trans h (by decide)
    have lA : (cutV xs none (some i)).length ≤ 20 := by rw [hcA, List.length_take]; omega
    have lD : (cutV xs (some (i + 1)) none).length ≤ 20 := by rw [hcD, List.length_drop]; omega
    refine ⟨_, rfl, (by show 1 ≤ sizeLine; decide), fun B nB => ?_⟩
    have sB := same_new (o := .lst [v]) nB
    refine ⟨A, B, _, _, rfl, rfl, sB _ _ upd_same, upd_same, lz _ (by show (cutV xs none (some i)).length + 1 ≤ 200; omega), fun C nC => ?_⟩
    have sC := same_new (o := .lst (cutV xs none (some i) ++ [v])) nC
    have sAC := sA.trans (sB.trans sC)
    refine ⟨_, rfl, _, rfl, _, _, rfl, rfl, _, rfl, t, _, rfl, app1 (sAC _ _ et), fun D nD => ?_⟩
    have sD := same_new (o := .lst (cutV xs (some (i + 1)) none)) nD
    refine ⟨C, D, _, _, rfl, rfl, sD _ _ upd_same, upd_same, lz _ (by rw [List.length_append]; show (cutV xs none (some i)).length + 1 + _ ≤ 200; omega), fun N nN => ?_⟩
    have sN := same_new (o := .lst (cutV xs none (some i) ++ [v] ++ cutV xs (some (i + 1)) none)) nN
    have sAll := s1.trans (sAC.trans (sD.trans sN))
    have hl2 := sAll _ _ hl
    refine ⟨l, _, _, rfl, rfl, hl2, Nat.lt_of_le_of_lt (by omega : _ ≤ 100) (by decide), ?_⟩
    have nNl : N ≠ l := fun z => by
      have := (s1.trans (sAC.trans sD)) _ _ hl
      rw [z, this] at nN
      cases nN
    have ntl : t ≠ l := fun z => by
      rw [z, hl] at nt
      cases nt
    have hN0 : H N = none := (s1.trans (sAC.trans sD)).free nN
    have eN := (upd_ne (H := (upd (upd (upd (upd (upd H1 A (.lst (cutV xs none (some i)))) B (.lst [v])) C (.lst (cutV xs none (some i) ++ [v]))) D (.lst (cutV xs (some (i + 1)) none))) N (.lst (cutV xs none (some i) ++ [v] ++ cutV xs (some (i + 1)) none)))) (o := .lst (rs ++ [.ref N])) nNl).trans upd_same
    have cc : Chg (fun b => b = l) H (upd _ l (.lst (rs ++ [.ref N]))) := (Chg.of sAll).put1
    have ex := ext_new (n := N) sG cc (fun b z => by rw [z]; exact gl) hN0 eN
    have npl : p ≠ l := ne_of hp hl (by intro z; cases z)
    have hit : i.toNat < xs.length := by omega
    have hie : (curT T0 L)[i.toNat]? = some ((curT T0 L)[i.toNat]'(by omega)) := List.getElem?_eq_getElem (by omega)
    have hat : ∀ z, xs[i.toNat]? = some z → atI xs i = some z := fun z hz => by
      rw [show atI xs i = atI xs ((i.toNat : Nat) : Int) by rw [← ei]]
      exact atI_nat hz
    obtain ⟨yd, hy1, hy2⟩ := dpAll_get hx (List.getElem?_eq_getElem hit)
    rw [List.getElem?_map, hie] at hy1
    cases hy1
    refine ⟨_, rfl, _, rfl, t, _, _, xs[i.toNat], rfl, rfl, app1 (by rw [upd_ne ntl]; exact (sAC.trans (sD.trans sN)) _ _ et), (hat _ (List.getElem?_eq_getElem hit)), ?_⟩
    refine k3 ⟨h0, h1⟩ _ _ _ _ (BnAt.add (n := N) ⟨dx, a, ?_, ha⟩ hrs ex.gg upd_same upd_same ?_ ?_) ex cc hie (dp_mono ex.gg hy2)
    · rw [upd_ne npl]
      exact sAll _ _ hp
    · rw [hcA, hcD]
      unfold exchT
      rw [List.map_append, List.map_append, List.map_take, List.map_drop]
      exact dpAll_app (dpAll_app (dpAll_take _ hx) (.cons hv .nil)) (dpAll_drop _ hx)
    · rw [upd_ne nNl.symm]
      exact gl
def spUndo (K : PySem.W.Frag) : Sp := fun vs H Q _ => ∃ (p l : Addr) (G : Hp) (T0 : List El) (L : List (List El)), vs = [.ref p] ∧ BnAt K G H p l T0 L ∧ Same G H ∧ (L = [] → Q (.bl false) H) ∧
  (L ≠ [] → ∀ H', BnAt K G H' p l T0 L.dropLast → Same G H' → Chg (fun b => b = l) H H' → Q (.bl true) H')
theorem ok_undo (T : TX K mg) : MCal P w K mg base CX0 1 "Bench" "undo" ["self"] (spUndo K) := by
  refine MCal.of T in_Bench_undo sc_Bench_undo bd_Bench_undo (fun vs H Q E h => ?_) (fun cdv A outer s H vs Q E hr h => ?_)
  · obtain ⟨a, b, c, d, e, rfl, _⟩ := h
    rfl
  · obtain ⟨p, l, G, T0, L, rfl, hB, sG, k1, k2⟩ := h
    have cl := T.cl (x := "Bench") (by decide +kernel)
    have n2 := T.na (x := "Bench") (f := "later") (by decide +kernel)
    refine ⟨_, pss_cons (ps_if (pt_not (pt_truth (pe_fld (pv 0) rfl) (by intro _; rfl))) (pss_one (ps_ret pe_bl)) pss_nil)
      (pss_cons (ps_expr (pe_bm0 PySem.F.plainAttrs_list PySem.F.slot_list_pop PySem.F.type_list_pop mt_pop (pe_fld (pv 0) rfl))) (pss_one (ps_ret pe_bl))), ?_⟩
    obtain ⟨⟨dx, a, hp, ha⟩, ⟨rs, hl, hrs⟩, gl⟩ := id hB
    have hrl : rs.length = L.length := by rw [dpAll_len hrs, List.length_map]
    refine ⟨_, rfl, p, _, dx, _, _, rfl, hp, cl, n2, bnF_l _ _, _, .inl ⟨_, app1 hl, rfl⟩, ?_⟩
    by_cases hL : L = []
    · have hr0 : rs = [] := by
        rw [hL] at hrl
        exact List.length_eq_zero_iff.mp hrl
      rw [hr0]
      exact iteT (k1 hL)
    · have hr0 : rs ≠ [] := fun z => hL (by
        rw [z] at hrl
        exact List.length_eq_zero_iff.mp hrl.symm)
      have hpos : 0 < rs.length := List.length_pos_iff.mpr hr0
      have ee : rs.isEmpty = false := by
        cases rs with
        | nil => exact absurd rfl hr0
        | cons _ _ => rfl
      rw [ee]
      refine iteF ⟨_, rfl, p, _, dx, _, _, rfl, hp, cl, n2, bnF_l _ _, .inl ⟨rfl, _, app1 hl⟩, l, _, _, rfl, rfl, hl, List.getElem?_eq_getElem (by omega), ?_⟩
      have npl : p ≠ l := ne_of hp hl (by intro z; cases z)
      have cc : Chg (fun b => b = l) H (upd H l (.lst rs.dropLast)) := (Chg.refl H).put1
      refine k2 hL _ ⟨⟨dx, a, ?_, ha⟩, ⟨_, upd_same, ?_⟩, gl⟩ (cc.same sG fun b z => by rw [z]; exact gl) cc
      · rw [upd_ne npl]
        exact hp
      · rw [List.dropLast_eq_take, List.dropLast_eq_take, hrl, List.map_take]
        exact dpAll_take _ hrs
def msk (D : Addr) (H : Hp) : Hp := fun b => if b = D then none else H b
theorem msk_ne {D b : Addr} {H : Hp} (h : b ≠ D) : msk D H b = H b := if_neg h
theorem msk_le {D : Addr} {H : Hp} : Same (msk D H) H := fun b o e => by
  by_cases h : b = D
  · unfold msk at e
    rw [if_pos h] at e
    cases e
  · rw [msk_ne h] at e
    exact e
theorem msk_mono {D : Addr} {H H' : Hp} (c : Chg (fun b => b = D) H H') : Same (msk D H) (msk D H') := fun b o e => by
  by_cases h : b = D
  · unfold msk at e
    rw [if_pos h] at e
    cases e
  · rw [msk_ne h] at e ⊢
    exact c.at e h
abbrev rLstO (K : PySem.W.Frag) : List V → Hp → VK → Prop := fun xs H Q => ∃ p ys, xs = [.ref p] ∧ (SqL K H p ys ∨ SqT K H p ys) ∧ ∀ l, H l = none → Q (.ref l) (upd H l (.lst ys))
theorem sc_hist : FnScope ["self", "train"] ["self"] (defScope (mth 13 7)) := ⟨rfl, rfl, rfl, by decide +kernel, rfl, by decide +kernel, by decide +kernel⟩
def spHist (K : PySem.W.Frag) : Sp := fun vs H Q _ => ∃ (p l : Addr) (G : Hp) (T0 : List El) (L : List (List El)), vs = [.ref p] ∧ BnAt K G H p l T0 L ∧ Same G H ∧ L.length ≤ 100 ∧
  ∀ h hs H', Same H H' → H h = none → H' h = some (.lst hs) → DpAll K H' hs (L.map elsD) → Q (.ref h) H'
theorem ok_hist (T : TX K mg) : MCal P w K mg base CX0 1 "Bench" "history" ["self"] (spHist K) := by
  refine MCal.of T in_Bench_history sc_hist bd_Bench_history (fun vs H Q E h => ?_) (fun cdv A outer s H vs Q E hr h => ?_)
  · obtain ⟨a, b, c, d, e, rfl, _⟩ := h
    rfl
  · obtain ⟨p, l, G, T0, L, rfl, hB, sG, hLL, k⟩ := h
    have cl := T.cl (x := "Bench") (by decide +kernel)
    have n2 := T.na (x := "Bench") (f := "later") (by decide +kernel)
    refine ⟨_, pss_one (ps_ret (pe_lc (own := [("train", 1)]) (g := gName 1) (tt := tYes) (te := tCB (rLstO K) (tCons (tVar 1) tNil)) (by rfl) sc_hist.nd (pi_list (pe_fld (pv 0) rfl)) (blkOk_by (own := [("train", 1)]) (N := ["self", "train"]) (sc := defScope (mth 13 7)) (by decide +kernel))
      (fun _ _ _ _ _ => pg_name (i := 1) sc_hist.nd rfl (Or.inl rfl)) (fun _ _ _ _ _ => pts_nil) (fun _ _ _ _ _ => pe_callTy call_list_of (by rfl) (T.fr (by decide +kernel)) (by decide +kernel) (pa_cons (pv 1) pa_nil)))), ?_⟩
    obtain ⟨⟨dx, a, hp, ha⟩, ⟨rs, hl, hrs⟩, gl⟩ := id hB
    have hrl : rs.length = L.length := by rw [dpAll_len hrs, List.length_map]
    refine ⟨_, rfl, p, _, dx, _, _, rfl, hp, cl, n2, bnF_l _ _, l, rfl, ⟨_, app1 hl⟩, fun D nD => ?_⟩
    refine lc_list (K := K) (a := l) (xs := rs) (fun i H' => Same H H' ∧ ∃ acc, H' D = some (.lst acc) ∧ DpAll K (msk D H') acc ((L.map elsD).take i)) ⟨same_new nD, [], upd_same, .nil⟩ (fun i H' _ ⟨sm, _⟩ => app1 (sm _ _ hl)) ?_ ?_
    · rintro i x H' hi ⟨sm, acc, hD, hacc⟩
      obtain ⟨dd, e1, e2⟩ := dpAll_get hrs hi
      have hil := (List.getElem?_eq_some_iff.mp hi).1
      have ei : (L.map elsD)[i]? = some dd := e1
      rw [List.getElem?_map] at e1
      cases eL : L[i]? with
      | none => rw [eL] at e1; cases e1
      | some t =>
        rw [eL] at e1
        cases e1
        obtain ⟨a', xs, rfl, g1, g2⟩ := dp_lst e2
        refine ⟨rfl, _, rfl, a', xs, rfl, .inl (sm.seq (sG.seq g1)), fun q nq => ?_⟩
        have s2 := same_new (o := .lst xs) nq
        have nDq : D ≠ q := ne_of_none hD nq
        have al : acc.length ≤ 100 := by
          rw [dpAll_len hacc, List.length_take, List.length_map]
          omega
        refine ⟨acc, s2 _ _ hD, Nat.lt_of_le_of_lt al (by decide), fun b o z => ?_, _, upd_same, ?_⟩
        · rw [upd_ne (ne_of_none z nD)]
          exact s2 _ _ (sm _ _ z)
        · have cm : Chg (fun b => b = D) H' (upd (upd H' q (.lst xs)) D (.lst (acc ++ [.ref q]))) := ((Chg.refl H').new nq).put1
          rw [List.take_add_one, ei]
          have gD : Same G (msk D (upd (upd H' q (.lst xs)) D (.lst (acc ++ [.ref q])))) := fun b o z => by
            have hb : b ≠ D := ne_of_none (sG _ _ z) nD
            rw [msk_ne hb, upd_ne hb]
            exact s2 _ _ (sm _ _ (sG _ _ z))
          refine dpAll_app (dpAll_mono (msk_mono cm) hacc) (.cons (.lst (app1 ?_) (dpAll_mono gD g2)) .nil)
          rw [msk_ne nDq.symm, upd_ne nDq.symm, upd_same]
    · rintro H' ⟨sm, acc, hD, hacc⟩
      refine k D acc H' sm nD hD (dpAll_mono (msk_le (D := D)) ?_)
      rw [hrl, List.take_of_length_le (by rw [List.length_map]; exact Nat.le_refl _)] at hacc
      exact hacc
end
end RT
end
section
set_option Elab.async false
set_option linter.all false
set_option maxRecDepth 100000
set_option maxHeartbeats 2000000
/-! Y10: perform, the Device, the JournaledBench, opened. -/
namespace RT
open PySem PySem.Spec PyProof.Rows L2
inductive Res where
  | num (n : Int) | el (e : El) | flag (b : Bool)
def resD : Res → PyData
  | .num n => .int n
  | .el e => elD e
  | .flag b => .bool b
inductive Step where
  | ok (r : Res) (L : List (List El)) | pos (i : Int) | elem (i : Int) | full
/-- what a Bench answers -/
def stepO (T0 : List El) (L : List (List El)) : Op → Step
  | .undo => if L = [] then .ok (.flag false) L else .ok (.flag true) L.dropLast
  | .put i e => if 0 ≤ i ∧ i ≤ ((curT T0 L).length : Nat) then (if (curT T0 L).length = 20 then .full else .ok (.num (((curT T0 L).length : Nat) + 1)) (L ++ [putT (curT T0 L) i.toNat e])) else .pos i
  | .take i => if 0 ≤ i ∧ i < ((curT T0 L).length : Nat) then (match (curT T0 L)[i.toNat]? with | some x => .ok (.el x) (L ++ [takeT (curT T0 L) i.toNat]) | none => .elem i) else .elem i
  | .exch i e => if 0 ≤ i ∧ i < ((curT T0 L).length : Nat) then (match (curT T0 L)[i.toNat]? with | some x => .ok (.el x) (L ++ [exchT (curT T0 L) i.toNat e]) | none => .elem i) else .elem i
theorem st_put0 {T0 : List El} {L : List (List El)} {i : Int} {e : El} (h : ¬ (0 ≤ i ∧ i ≤ ((curT T0 L).length : Nat))) : stepO T0 L (.put i e) = .pos i := if_neg h
theorem st_put1 {T0 : List El} {L : List (List El)} {i : Int} {e : El} (h : 0 ≤ i ∧ i ≤ ((curT T0 L).length : Nat)) (h1 : (curT T0 L).length = 20) : stepO T0 L (.put i e) = .full := (if_pos h).trans (if_pos h1)
theorem st_put2 {T0 : List El} {L : List (List El)} {i : Int} {e : El} (h : 0 ≤ i ∧ i ≤ ((curT T0 L).length : Nat)) (h1 : (curT T0 L).length ≠ 20) : stepO T0 L (.put i e) = .ok (.num (((curT T0 L).length : Nat) + 1)) (L ++ [putT (curT T0 L) i.toNat e]) := (if_pos h).trans (if_neg h1)
theorem st_take0 {T0 : List El} {L : List (List El)} {i : Int} (h : ¬ (0 ≤ i ∧ i < ((curT T0 L).length : Nat))) : stepO T0 L (.take i) = .elem i := if_neg h
theorem st_take1 {T0 : List El} {L : List (List El)} {i : Int} {x : El} (h : 0 ≤ i ∧ i < ((curT T0 L).length : Nat)) (g : (curT T0 L)[i.toNat]? = some x) : stepO T0 L (.take i) = .ok (.el x) (L ++ [takeT (curT T0 L) i.toNat]) := (if_pos h).trans (by rw [g])
theorem st_exch0 {T0 : List El} {L : List (List El)} {i : Int} {e : El} (h : ¬ (0 ≤ i ∧ i < ((curT T0 L).length : Nat))) : stepO T0 L (.exch i e) = .elem i := if_neg h
theorem st_exch1 {T0 : List El} {L : List (List El)} {i : Int} {e x : El} (h : 0 ≤ i ∧ i < ((curT T0 L).length : Nat)) (g : (curT T0 L)[i.toNat]? = some x) : stepO T0 L (.exch i e) = .ok (.el x) (L ++ [exchT (curT T0 L) i.toNat e]) := (if_pos h).trans (by rw [g])
theorem st_undo0 {T0 : List El} {L : List (List El)} (h : L = []) : stepO T0 L .undo = .ok (.flag false) L := if_pos h
theorem st_undo1 {T0 : List El} {L : List (List El)} (h : L ≠ []) : stepO T0 L .undo = .ok (.flag true) L.dropLast := if_neg h
def idxO : Op → Int
  | .undo => 0
  | .put i _ => i
  | .take i => i
  | .exch i _ => i
section
variable {P : Program} {w : World} {K : PySem.W.Frag} {mg : Str → Option Value} {base : Heap}
/-- what is wanted of it -/
def WantS (K : PySem.W.Frag) (p l : Addr) (G H : Hp) (T0 : List El) (Q : VK) (E : XK) : Step → Prop
  | .ok r L' => ∀ G' H' y, BnAt K G' H' p l T0 L' → Ext G H G' H' → Chg (fun b => b = l) H H' → Dp K G' y (resD r) → Q y H'
  | .pos i => ∀ d H', Same H H' → H d = none → H' d = some (.xd [("index", .int i)]) → E (.ref (He.ga K "NoSuchPosition")) (some d) H'
  | .elem i => ∀ d H', Same H H' → H d = none → H' d = some (.xd [("index", .int i)]) → E (.ref (He.ga K "NoSuchElement")) (some d) H'
  | .full => ∀ H', Same H H' → E (.ref (He.ga K "TrainFull")) none H'
def spPerf (K : PySem.W.Frag) : Sp := fun vs H Q E => ∃ (p l : Addr) (G : Hp) (T0 : List El) (L : List (List El)) (v : V) (o : Op), vs = [.ref p, v] ∧ BnAt K G H p l T0 L ∧ Same G H ∧ Dp K G v (opD o) ∧ (idxO o).natAbs ≤ 1000 ∧ (curT T0 L).length ≤ 20 ∧ L.length ≤ 100 ∧ WantS K p l G H T0 Q E (stepO T0 L o)
theorem ok_perf (T : TX K mg) (Z : EX P K) : Cal P w K mg base (L2.CX P w) 3 "perform" ["bench", "operation"] (spPerf K) := by
  have GP : MCal P w K mg base (L2.CX P w) 2 "Bench" "put" ["self", "index", "element"] (spPut K) := ok_put T Z
  have GT : MCal P w K mg base (L2.CX P w) 2 "Bench" "take" ["self", "index"] (spTake K) := ok_take T Z
  have GE : MCal P w K mg base (L2.CX P w) 2 "Bench" "exchange" ["self", "index", "element"] (spExch K) := ok_exch T Z
  have GU : MCal P w K mg base CX0 1 "Bench" "undo" ["self"] (spUndo K) := ok_undo T
  refine Cal.ofX T in_perform sc_perform bd_perform (fun vs H Q E h => ?_) (fun cdv A outer s H vs Q E hr h => ?_)
  · obtain ⟨a, b, c, d, e, f, g, rfl, _⟩ := h
    rfl
  · obtain ⟨p, l, G, T0, L, v, o, rfl, hB, sG, hv, hi, hlen, hL, k⟩ := h
    have cl := T.cl (x := "Bench") (by decide +kernel)
    refine ⟨_, pss_cons (ps_if (pt_cmpR op_eq (pe_ix ix_tup (pv 1) pe_int (fun _ _ => rfl)) pe_str (nomark _)) (pss_one (ps_ret (pe_mcal (E := E) (pv 0) cl (T.me in_Bench_put) GP hr (passes_call (takes_of rfl rfl rfl rfl) fun _ _ _ _ z => z) (pa_cons (pe_ix ix_tup (pv 1) pe_int (fun _ _ => rfl)) (pa_cons (pe_ix ix_tup (pv 1) pe_int (fun _ _ => rfl)) pa_nil))))) pss_nil)
      (pss_cons (ps_if (pt_cmpR op_eq (pe_ix ix_tup (pv 1) pe_int (fun _ _ => rfl)) pe_str (nomark _)) (pss_one (ps_ret (pe_mcal (E := E) (pv 0) cl (T.me in_Bench_take) GT hr (passes_call (takes_of rfl rfl rfl rfl) fun _ _ _ _ z => z) (pa_cons (pe_ix ix_tup (pv 1) pe_int (fun _ _ => rfl)) pa_nil)))) pss_nil)
      (pss_cons (ps_if (pt_cmpR op_eq (pe_ix ix_tup (pv 1) pe_int (fun _ _ => rfl)) pe_str (nomark _)) (pss_one (ps_ret (pe_mcal (E := E) (pv 0) cl (T.me in_Bench_exchange) GE hr (passes_call (takes_of rfl rfl rfl rfl) fun _ _ _ _ z => z) (pa_cons (pe_ix ix_tup (pv 1) pe_int (fun _ _ => rfl)) (pa_cons (pe_ix ix_tup (pv 1) pe_int (fun _ _ => rfl)) pa_nil))))) pss_nil)
      (pss_one (ps_ret (pe_mcal0 (pv 0) cl (T.me in_Bench_undo) GU (hr.mono (by decide)) pass0))))), ?_⟩
    obtain ⟨⟨dx, a, hp, ha⟩, _, gl⟩ := id hB
    obtain ⟨ao, ww, r, rfl, hao, ho⟩ := dp_op hv
    have hao := sqT_mono sG hao
    refine ⟨_, rfl, ao, _, _, _, rfl, rfl, hao, atI0, rfl, _, rfl, ?_⟩
    cases o with
    | undo =>
      obtain ⟨rfl, rfl⟩ := ho
      rw [show decide (V.str "undo" = V.str "put") = false by decide +kernel]
      refine iteF ⟨_, rfl, ao, _, _, _, rfl, rfl, hao, atI0, rfl, _, rfl, ?_⟩
      rw [show decide (V.str "undo" = V.str "take") = false by decide +kernel]
      refine iteF ⟨_, rfl, ao, _, _, _, rfl, rfl, hao, atI0, rfl, _, rfl, ?_⟩
      rw [show decide (V.str "undo" = V.str "exchange") = false by decide +kernel]
      refine iteF ⟨_, rfl, p, dx, _, rfl, hp, rfl, p, l, G, T0, L, rfl, hB, sG, fun h0 => ?_, fun h0 H' b1 s1 c1 => ?_⟩
      · rw [st_undo0 h0] at k
        exact k G H _ hB ⟨Same.refl G, sG, fun _ _ z => z⟩ (Chg.refl H) (.bl false)
      · rw [st_undo1 h0] at k
        exact k G H' _ b1 ⟨Same.refl G, s1, fun _ _ z => z⟩ c1 (.bl true)
    | put i e =>
      obtain ⟨rfl, x, rfl, hx⟩ := ho
      rw [show decide (V.str "put" = V.str "put") = true by decide +kernel]
      refine iteT ⟨_, rfl, p, dx, _, rfl, hp, rfl, _, rfl, ao, _, _, .int i, rfl, rfl, hao, atI_nat (j := 1) rfl, _, rfl, ao, _, _, x, rfl, rfl, hao, atI_nat (j := 2) rfl, p, l, G, T0, L, i, x, e, rfl, hB, sG, hx, hi, hlen, hL, fun h0 d H' s1 nd ed => ?_, fun h0 h1 H' s1 => ?_, fun h0 h1 G' H' b1 e1 c1 => ?_⟩
      · rw [st_put0 h0] at k
        exact k d H' s1 nd ed
      · rw [st_put1 h0 h1] at k
        exact k H' s1
      · rw [st_put2 h0 (by omega)] at k
        exact k G' H' _ b1 e1 c1 (.int _)
    | take i =>
      obtain ⟨rfl, rfl⟩ := ho
      rw [show decide (V.str "take" = V.str "put") = false by decide +kernel]
      refine iteF ⟨_, rfl, ao, _, _, _, rfl, rfl, hao, atI0, rfl, _, rfl, ?_⟩
      rw [show decide (V.str "take" = V.str "take") = true by decide +kernel]
      refine iteT ⟨_, rfl, p, dx, _, rfl, hp, rfl, _, rfl, ao, _, _, .int i, rfl, rfl, hao, atI_nat (j := 1) rfl, p, l, G, T0, L, i, rfl, hB, sG, hi, hlen, hL, fun h0 d H' s1 nd ed => ?_, fun h0 G' H' y z b1 e1 c1 g1 d1 => ?_⟩
      · rw [st_take0 h0] at k
        exact k d H' s1 nd ed
      · rw [st_take1 h0 g1] at k
        exact k G' H' y b1 e1 c1 d1
    | exch i e =>
      obtain ⟨rfl, x, rfl, hx⟩ := ho
      rw [show decide (V.str "exchange" = V.str "put") = false by decide +kernel]
      refine iteF ⟨_, rfl, ao, _, _, _, rfl, rfl, hao, atI0, rfl, _, rfl, ?_⟩
      rw [show decide (V.str "exchange" = V.str "take") = false by decide +kernel]
      refine iteF ⟨_, rfl, ao, _, _, _, rfl, rfl, hao, atI0, rfl, _, rfl, ?_⟩
      rw [show decide (V.str "exchange" = V.str "exchange") = true by decide +kernel]
      refine iteT ⟨_, rfl, p, dx, _, rfl, hp, rfl, _, rfl, ao, _, _, .int i, rfl, rfl, hao, atI_nat (j := 1) rfl, _, rfl, ao, _, _, x, rfl, rfl, hao, atI_nat (j := 2) rfl, p, l, G, T0, L, i, x, e, rfl, hB, sG, hx, hi, hlen, hL, fun h0 d H' s1 nd ed => ?_, fun h0 G' H' y z b1 e1 c1 g1 d1 => ?_⟩
      · rw [st_exch0 h0] at k
        exact k d H' s1 nd ed
      · rw [st_exch1 h0 g1] at k
        exact k G' H' y b1 e1 c1 d1
end
/-! ### x is False -/
theorem is_bool_int {prog : Program} {w : World} {A : Around} {E : Value → Shared → Prop} {s : Shared} {Q : Value → Shared → Prop} {i : Int} {t : Tok} {d : Bool} (h : Q (.bool false) s) : wpAny (model prog w) A (compareOp .Is (.int i t) (.bool d)) Q E s := wpAny_pure h
theorem is_bool_ref {prog : Program} {w : World} {A : Around} {E : Value → Shared → Prop} {s : Shared} {Q : Value → Shared → Prop} {a : Addr} {d : Bool} (h : Q (.bool false) s) : wpAny (model prog w) A (compareOp .Is (.ref a) (.bool d)) Q E s := wpAny_pure h
def rIsF : R2 := fun x y H Q => ∃ b : Bool, y = .bl b ∧ ((∃ a, x = .bl a ∧ Q (.bl (a == b)) H) ∨ (∃ i, x = .int i ∧ Q (.bl false) H) ∨ ∃ a, x = .ref a ∧ Q (.bl false) H)
theorem op_isF {X : Cx} : OpR X (compareOp .Is) rIsF := by
  intro pins s σ H x y v u Q I rx ry h
  obtain ⟨b, rfl, h⟩ := h
  cases ry
  rcases h with ⟨a, rfl, q⟩ | ⟨i, rfl, q⟩ | ⟨a, rfl, q⟩
  · cases rx
    exact is_bool ⟨.bl _, H, I, rfl, q⟩
  · obtain ⟨t, rfl⟩ := rx
    exact is_bool_int ⟨.bl _, H, I, rfl, q⟩
  · cases rx
    exact is_bool_ref ⟨.bl _, H, I, rfl, q⟩
/-! ### o.m(e, ..) in a try's body -/
section
variable {X : Cx} {CX : CXT} {k : Nat} {c m : Str} {ps : List Str} {sp : Sp} {E : L2.St → XK} {pos apos : Pos} {e o : Expr} {es : List Expr} {ta : TE} {t : TA}
def tMethE (C : Addr) (m : Str) (sp : Sp) (E : L2.St → XK) (ta : TE) (t : TA) : TE := fun σ H Q => ta σ H fun x H1 => ∃ a dx fs, x = .ref a ∧ H1 a = some (.ins C dx fs) ∧ fs.lookup m = none ∧ t σ H1 fun vs H2 => sp (x :: vs) H2 Q (E σ)
theorem pe_mcalE {pl : Sem Bool} (he : PE X o ta) (cl : Cls X.K (He.ga X.K c)) (hm : Meth X.K (He.ga X.K c) m (He.ma X.K (He.ga X.K c) m)) (M : MCal X.prog X.w X.K X.mg X.base CX k c m ps sp) (hr : Room k X.A) (hx : ∀ σ, PassesAt CX X σ (E σ)) (ha : PA X (e :: es) t)
    (hst : starEach (e :: es) X.env = (false, eval e X.env) :: starEach es X.env := by rfl) (hpl : (backTo pos (starEach es X.env)).any (·.1) = false := by rfl)
    (ht : eval (.Call (.Attribute o m apos) (e :: es) [] pos) X.env = (do
      let ov ← eval o X.env
      standAt apos.atName
      let (f, first) ← holding [ov] (getMethod ov m pl)
      callWith pos f first (backTo pos (starEach (e :: es) X.env)) (backToKw pos (keywordEach [] X.env))) := by rfl) :
    PE X (.Call (.Attribute o m apos) (e :: es) [] pos) (tMethE (He.ga X.K c) m sp E ta t) := by
  obtain ⟨_, F, b⟩ := M.ex
  refine ⟨fun pins s σ H Q I h => ?_⟩
  refine PySem.W.methodCall_KW (pl := pl) (thn (he.run pins s σ H _ I h) fun u s1 ⟨x, H1, I1, rx, a, dx, fs, ex, ea, l, q⟩ => ?_) ht
  subst ex
  obtain rfl : u = Value.ref a := rx
  refine getmeth_ok I1 ea cl hm l ?_
  refine PySem.W.callWith_K (first := [.ref a]) (h₀ := X.base) I.ok.mod.kin hm.kp (thn (ha.run pos pins s1 σ H1 _ I1 q) fun us s2 ⟨vs, H2, I2, r, q2⟩ => ⟨I2.kIn, ?_⟩) hst hpl
  exact run_fnS (us := .ref a :: us) (vs := .ref a :: vs) F hr b (hx σ) I2 (.cons rfl r) q2
end
section
variable {P : Program} {w : World} {K : PySem.W.Frag} {mg : Str → Option Value} {base : Heap}
/-! ### the Device -/
abbrev cD (K : PySem.W.Frag) : Addr := He.ga K "Device"
def dvF (ol : Addr) (pw : Int) : List (Str × V) := [("octets", .ref ol), ("power", .int pw)]
structure DvAt (K : PySem.W.Frag) (H : Hp) (d ol : Addr) (oc : List Int) (pw : Int) : Prop where
  ob : ∃ dx, H d = some (.ins (cD K) dx (dvF ol pw))
  os : H ol = some (.lst (oc.map V.int))
theorem dvF_o (ol : Addr) (pw : Int) : (dvF ol pw).lookup ("octets" : Str) = some (.ref ol) := rfl
theorem dvF_p (ol : Addr) (pw : Int) : (dvF ol pw).lookup ("power" : Str) = some (.int pw) := by rfl
theorem dvF_put (ol : Addr) (i j : Int) : putF "power" (.int j) (dvF ol i) = dvF ol j := by
  have k : ¬ (("octets" : Str) = "power") := by decide +kernel
  show (if ("octets" : Str) = "power" then [(("octets" : Str), V.int j)] else (("octets" : Str), V.ref ol) :: (if ("power" : Str) = "power" then [(("power" : Str), V.int j)] else _)) = dvF ol j
  rw [if_neg k, if_pos rfl]
  rfl
def spDInit (K : PySem.W.Frag) : Sp := fun vs H Q _ => ∃ (d dx o : Addr) (oc : List Int) (pw : Int), vs = [.ref d, .ref o, .int pw] ∧ H d = some (.ins (cD K) dx []) ∧ SqL K H o (oc.map V.int) ∧
  ∀ ol H', DvAt K H' d ol oc pw → Chg (fun b => b = d) H H' → H ol = none → Q .non H'
theorem ok_dinit (T : TX K mg) : MCal P w K mg base CX0 1 "Device" "__init__" ["self", "octets", "power"] (spDInit K) := by
  refine MCal.of T in_Device_init sc_Device_init bd_Device_init (fun vs H Q E h => ?_) (fun cdv A outer s H vs Q E hr h => ?_)
  · obtain ⟨a, b, c, d, e, rfl, _⟩ := h
    rfl
  · obtain ⟨d, dx, o, oc, pw, rfl, hd, ho, k⟩ := h
    have cl := T.cl (x := "Device") (by decide +kernel)
    have n1 := T.na (x := "Device") (f := "octets") (by decide +kernel)
    have n2 := T.na (x := "Device") (f := "power") (by decide +kernel)
    refine ⟨_, pss_cons (ps_fld (pv 0) (pe_callTy call_list_of (by rfl) (T.fr (by decide +kernel)) (by decide +kernel) (pa_cons (pv 1) pa_nil)) rfl) (pss_one (ps_fld (pv 0) (pv 2) rfl)), ?_⟩
    refine ⟨_, rfl, o, _, rfl, .inl ho, fun l nl => ?_⟩
    have ndl : d ≠ l := ne_of_none hd nl
    refine ⟨_, rfl, d, _, dx, [], rfl, (by rw [upd_ne ndl]; exact hd), cl, n1, (by show 0 < 1000; decide), ?_⟩
    refine ⟨_, rfl, _, rfl, d, _, dx, _, rfl, upd_same, cl, n2, (by show 1 < 1000; decide), ?_⟩
    refine k l _ ⟨⟨dx, ?_⟩, ?_⟩ (((Chg.refl H).new nl).put1.put1) nl
    · rw [upd_same]
      rfl
    · rw [upd_ne ndl.symm, upd_ne ndl.symm, upd_same]
def spDApp (K : PySem.W.Frag) : Sp := fun vs H Q E => ∃ (d ol : Addr) (oc : List Int) (pw : Int) (x : Int), vs = [.ref d, .int x] ∧ DvAt K H d ol oc pw ∧ oc.length ≤ 10000 ∧
  (pw ≤ 0 → ∀ e H', Same H H' → H e = none → H' e = some (.xd [("written", .int (oc.length : Nat))]) → E (.ref (He.ga K "PowerCut")) (some e) H') ∧
  (0 < pw → ∀ H', DvAt K H' d ol (oc ++ [x]) (pw - 1) → Chg (fun b => b = d ∨ b = ol) H H' → Q .non H')
theorem ok_dapp (T : TX K mg) (Z : EX P K) : MCal P w K mg base (L2.CX P w) 1 "Device" "append" ["self", "octet"] (spDApp K) := by
  refine MCal.ofX T in_Device_append sc_Device_append bd_Device_append (fun vs H Q E h => ?_) (fun cdv A outer s H vs Q E hr h => ?_)
  · obtain ⟨a, b, c, d, e, rfl, _⟩ := h
    rfl
  · obtain ⟨d, ol, oc, pw, x, rfl, ⟨⟨dx, hd⟩, ho⟩, hoc, k1, k2⟩ := h
    have cl := T.cl (x := "Device") (by decide +kernel)
    have n1 := T.na (x := "Device") (f := "octets") (by decide +kernel)
    have n2 := T.na (x := "Device") (f := "power") (by decide +kernel)
    refine ⟨_, pss_cons (ps_if (pt_cmpR op_le (pe_fld (pv 0) rfl) pe_int (nomark _)) (pss_one (ps_raiseOwn rfl ⟨Z.cut.own, .inr (.inr ⟨rfl, rfl⟩), T.ge (x := "PowerCut") (by decide +kernel), T.ke (x := "PowerCut") (by decide +kernel), Z.cut.exC, Z.cut.tyC, Z.top⟩ hr (takes_of rfl rfl rfl rfl) (pa_cons (pe_callB call_len (by rfl) (T.fr (by decide +kernel)) PySem.boot_len (pa_cons (pe_fld (pv 0) rfl) pa_nil)) pa_nil) rfl)) pss_nil)
      (pss_cons (ps_fldaug (pv 0) pe_int in_sub) (pss_one (ps_expr (pe_bm PySem.F.plainAttrs_list PySem.F.slot_list_append PySem.F.type_list_append mt_append (pe_fld (pv 0) rfl) (pa_cons (pv 1) pa_nil))))), ?_⟩
    refine ⟨_, rfl, d, _, dx, _, _, rfl, hd, cl, n2, dvF_p _ _, _, _, rfl, rfl, _, rfl, ?_⟩
    by_cases hp : pw ≤ 0
    · rw [decide_eq_true hp]
      refine iteT ⟨_, rfl, d, _, dx, _, _, rfl, hd, cl, n1, dvF_o _ _, .ref ol, _, rfl, .inl ⟨_, app1 ho, rfl⟩, _, rfl, ?_, fun e ne => k1 hp e _ (same_new ne) ne ?_⟩
      · rw [List.length_map]
        exact Nat.lt_of_le_of_lt (by omega : _ ≤ 10000) (by decide +kernel)
      · rw [upd_same, List.length_map]
    · rw [decide_eq_false hp]
      refine iteF ⟨_, rfl, d, _, dx, _, _, rfl, hd, cl, n2, dvF_p _ _, _, _, rfl, rfl, dx, _, hd, (by show 2 < 1000; decide), ?_⟩
      rw [dvF_put]
      have nod : ol ≠ d := ne_of ho hd (by intro z; cases z)
      have ho2 : (upd H d (.ins (cD K) dx (dvF ol (pw - 1)))) ol = some (.lst (oc.map V.int)) := by
        rw [upd_ne nod]
        exact ho
      refine ⟨_, rfl, d, _, dx, _, _, rfl, upd_same, cl, n1, dvF_o _ _, .inl ⟨rfl, _, app1 ho2⟩, _, rfl, ol, _, _, rfl, rfl, ho2, ?_, ?_⟩
      · rw [List.length_map]
        exact Nat.lt_of_le_of_lt hoc (by decide)
      · refine k2 (by omega) _ ⟨⟨dx, ?_⟩, ?_⟩ (((Chg.refl H).put (.inl rfl)).put (.inr rfl))
        · rw [upd_ne nod.symm]
          exact upd_same
        · rw [upd_same, List.map_append]
          rfl
end
end RT
end
section
set_option Elab.async false
set_option linter.all false
set_option maxRecDepth 100000
set_option maxHeartbeats 2000000
/-! Y11: the JournaledBench. -/
namespace RT
open PySem PySem.Spec PyProof.Rows L2
section
variable {P : Program} {w : World} {K : PySem.W.Frag} {mg : Str → Option Value} {base : Heap}
abbrev cJ (K : PySem.W.Frag) : Addr := He.ga K "JournaledBench"
def jbF (b d : Addr) (s : Bool) : List (Str × V) := [("bench", .ref b), ("device", .ref d), ("shut", .bl s)]
def JbAt (K : PySem.W.Frag) (H : Hp) (j b d : Addr) (s : Bool) : Prop := ∃ dx, H j = some (.ins (cJ K) dx (jbF b d s))
theorem jbF_b (b d : Addr) (s : Bool) : (jbF b d s).lookup ("bench" : Str) = some (.ref b) := rfl
theorem jbF_d (b d : Addr) (s : Bool) : (jbF b d s).lookup ("device" : Str) = some (.ref d) := by rfl
theorem jbF_s (b d : Addr) (s : Bool) : (jbF b d s).lookup ("shut" : Str) = some (.bl s) := by rfl
theorem jbF_put (b d : Addr) (s : Bool) : putF "shut" (.bl true) (jbF b d s) = jbF b d true := by
  have k1 : ¬ (("bench" : Str) = "shut") := by decide +kernel
  have k2 : ¬ (("device" : Str) = "shut") := by decide +kernel
  show (if ("bench" : Str) = "shut" then _ else (("bench" : Str), V.ref b) :: (if ("device" : Str) = "shut" then _ else (("device" : Str), V.ref d) :: (if ("shut" : Str) = "shut" then [(("shut" : Str), V.bl true)] else _))) = jbF b d true
  rw [if_neg k1, if_neg k2, if_pos rfl]
  rfl
def spJInit (K : PySem.W.Frag) : Sp := fun vs H Q _ => ∃ (j dx b d : Addr), vs = [.ref j, .ref b, .ref d] ∧ H j = some (.ins (cJ K) dx []) ∧ ∀ H', JbAt K H' j b d false → Chg (fun x => x = j) H H' → Q .non H'
theorem ok_jinit (T : TX K mg) : MCal P w K mg base CX0 1 "JournaledBench" "__init__" ["self", "bench", "device"] (spJInit K) := by
  refine MCal.of T in_JournaledBench_init sc_JournaledBench_init bd_JournaledBench_init (fun vs H Q E h => ?_) (fun cdv A outer s H vs Q E hr h => ?_)
  · obtain ⟨a, b, c, d, rfl, _⟩ := h
    rfl
  · obtain ⟨j, dx, b, d, rfl, hj, k⟩ := h
    have cl := T.cl (x := "JournaledBench") (by decide +kernel)
    have n1 := T.na (x := "JournaledBench") (f := "bench") (by decide +kernel)
    have n2 := T.na (x := "JournaledBench") (f := "device") (by decide +kernel)
    have n3 := T.na (x := "JournaledBench") (f := "shut") (by decide +kernel)
    refine ⟨_, pss_cons (ps_fld (pv 0) (pv 1) rfl) (pss_cons (ps_fld (pv 0) (pv 2) rfl) (pss_one (ps_fld (pv 0) pe_bl rfl))), ?_⟩
    refine ⟨_, rfl, _, rfl, j, _, dx, [], rfl, hj, cl, n1, (by show 0 < 1000; decide), ?_⟩
    refine ⟨_, rfl, _, rfl, j, _, dx, _, rfl, upd_same, cl, n2, (by show 1 < 1000; decide), ?_⟩
    refine ⟨_, rfl, j, _, dx, _, rfl, upd_same, cl, n3, (by show 2 < 1000; decide), ?_⟩
    refine k _ ⟨dx, ?_⟩ ((Chg.refl H).put1.put1.put1)
    rw [upd_same]
    rfl
/-- what it may change -/
def FM (l d ol j : Addr) : Addr → Prop := fun x => x = l ∨ x = d ∨ x = ol ∨ x = j
def WantJ (K : PySem.W.Frag) (j b d l ol : Addr) (G H : Hp) (T0 : List El) (oc : List Int) (pw : Nat) (o : Op) (Q : VK) (E : XK) : Step → Prop
  | .ok (.flag false) L' => ∀ G' H', BnAt K G' H' b l T0 L' → JbAt K H' j b d false → DvAt K H' d ol oc pw → Ext G H G' H' → Chg (FM l d ol j) H H' → Q (.bl false) H'
  | .ok r L' => ((recO o).length ≤ pw → ∀ G' H' y, BnAt K G' H' b l T0 L' → JbAt K H' j b d false → DvAt K H' d ol (oc ++ recO o) ((pw - (recO o).length : Nat) : Int) → Ext G H G' H' → Chg (FM l d ol j) H H' → Dp K G' y (resD r) → Q y H') ∧
      (pw < (recO o).length → ∀ G' H' e n, BnAt K G' H' b l T0 L' → JbAt K H' j b d true → DvAt K H' d ol (oc ++ (recO o).take pw) 0 → Ext G H G' H' → Chg (FM l d ol j) H H' → H' e = some (.xd [("written", .int n)]) → E (.ref (He.ga K "PowerCut")) (some e) H')
  | .pos i => ∀ e H', Same H H' → H e = none → H' e = some (.xd [("index", .int i)]) → E (.ref (He.ga K "NoSuchPosition")) (some e) H'
  | .elem i => ∀ e H', Same H H' → H e = none → H' e = some (.xd [("index", .int i)]) → E (.ref (He.ga K "NoSuchElement")) (some e) H'
  | .full => ∀ H', Same H H' → E (.ref (He.ga K "TrainFull")) none H'
def spJPerf (K : PySem.W.Frag) : Sp := fun vs H Q E => ∃ (j b d l ol : Addr) (G : Hp) (T0 : List El) (L : List (List El)) (oc : List Int) (pw : Nat) (v : V) (o : Op), vs = [.ref j, v] ∧ JbAt K H j b d false ∧ BnAt K G H b l T0 L ∧ DvAt K H d ol oc pw ∧ Same G H ∧ (G d = none ∧ G ol = none ∧ G j = none ∧ l ≠ ol) ∧ Dp K G v (opD o) ∧
  ElOp o ∧ (idxO o).natAbs ≤ 1000 ∧ (curT T0 L).length ≤ 20 ∧ L.length ≤ 100 ∧ oc.length ≤ 9000 ∧ WantJ K j b d l ol G H T0 oc pw o Q E (stepO T0 L o)
def tTry (K : PySem.W.Frag) (E : XK) : TS := fun D σ H => (fun W : WX => tFor (iList K (tCall (spRec K) [] E0 (tCons (tVar 1) tNil))) (gName 3) (tDrop (tMethE (cD K) "append" (spDApp K) (WE W) (tFld K (tVar 0) "device") (tCons (tVar 3) tNil))))
  (wMix K D (fun cls d _ H => E cls d H) [(.ref (He.ga K "PowerCut"), wBack (fun cls d _ H => E cls d H) (fun _ _ _ => sFld K (tVar 0) (tC (.bl true)) "shut"))]) D σ H
theorem rec_len110 {o : Op} (g : ElOp o) : (recO o).length ≤ 110 := by
  have := rec_len o
  have := body_len g
  omega
theorem Ext.chg {M : Addr → Prop} {G H G' H1 H2 : Hp} (e : Ext G H G' H1) (c : Chg M H1 H2) (hM : ∀ b, M b → G' b = none) : Ext G H G' H2 := ⟨e.gg, c.same e.gh hM, e.nw⟩
theorem j_tail (T : TX K mg) {j b d l ol : Addr} {G H G1 H1 : Hp} {T0 : List El} {L' : List (List El)} {oc : List Int} {pw : Nat} {o : Op} {v y : V} {Q : VK} {E : XK} {dr : PyData} (hj : JbAt K H1 j b d false) (hB : BnAt K G1 H1 b l T0 L') (hD : DvAt K H1 d ol oc pw)
    (gd : G1 d = none) (gol : G1 ol = none) (gj : G1 j = none) (nlo : l ≠ ol) (e1 : Ext G H G1 H1) (c1 : Chg (FM l d ol j) H H1) (hv : Dp K G1 v (opD o)) (hel : ElOp o) (hoc : oc.length ≤ 9000) (d1 : Dp K G1 y dr)
    (k1 : (recO o).length ≤ pw → ∀ G' H' y, BnAt K G' H' b l T0 L' → JbAt K H' j b d false → DvAt K H' d ol (oc ++ recO o) ((pw - (recO o).length : Nat) : Int) → Ext G H G' H' → Chg (FM l d ol j) H H' → Dp K G' y dr → Q y H')
    (k2 : pw < (recO o).length → ∀ G' H' e n, BnAt K G' H' b l T0 L' → JbAt K H' j b d true → DvAt K H' d ol (oc ++ (recO o).take pw) 0 → Ext G H G' H' → Chg (FM l d ol j) H H' → H' e = some (.xd [("written", .int n)]) → E (.ref (He.ga K "PowerCut")) (some e) H') :
    tSeq (tTry K E) (tRet (tVar 2)) { nx := fun _ H' => Q .non H', rt := Q } [some (.ref j), some v, some y, none] H1 := by
  have cl := T.cl (x := "JournaledBench") (by decide +kernel)
  have n2 := T.na (x := "JournaledBench") (f := "device") (by decide +kernel)
  have n3 := T.na (x := "JournaledBench") (f := "shut") (by decide +kernel)
  have hrl := rec_len110 hel
  refine ⟨_, rfl, v, o, rfl, dp_mono e1.gh hv, hel, fun r H2 s2 nr er => ⟨r, rfl, ⟨_, app1 er⟩, ?_⟩⟩
  obtain ⟨dxj, hj1⟩ := hj
  obtain ⟨⟨dxd, hd1⟩, ho1⟩ := hD
  obtain ⟨⟨dxb, ab, hb1, hab⟩, ⟨rs, hl1, hrs⟩, gl⟩ := id hB
  have nrd : r ≠ d := fun z => by rw [z, hd1] at nr; cases nr
  have nrj : r ≠ j := fun z => by rw [z, hj1] at nr; cases nr
  have nro : r ≠ ol := fun z => by rw [z, ho1] at nr; cases nr
  have njd : j ≠ d := fun z => by
    rw [z, hd1] at hj1
    have z2 := congrArg (fun o : Option HO => match o with | some (.ins _ _ fs) => fs.length | _ => 0) hj1
    exact absurd (show (2 : Nat) = 3 from z2) (by decide)
  have njo : j ≠ ol := ne_of hj1 ho1 (by intro z; cases z)
  have nbd : b ≠ d := fun z => by
    rw [z, hd1] at hb1
    have z2 := congrArg (fun o : Option HO => match o with | some (.ins _ _ fs) => fs.map Prod.fst | _ => ([] : List Str)) hb1
    exact absurd (show (["octets", "power"] : List Str) = (["initial", "later"] : List Str) from z2) (by decide +kernel)
  have nbo : b ≠ ol := ne_of hb1 ho1 (by intro z; cases z)
  have nbj : b ≠ j := fun z => by
    rw [z, hj1] at hb1
    have z2 := congrArg (fun o : Option HO => match o with | some (.ins _ _ fs) => fs.length | _ => 0) hb1
    exact absurd (show (3 : Nat) = 2 from z2) (by decide)
  have nld : l ≠ d := ne_of hl1 hd1 (by intro z; cases z)
  have nlj : l ≠ j := ne_of hl1 hj1 (by intro z; cases z)
  -- what stands at the i-th octet
  have after : ∀ {H3 : Hp}, Chg (fun x => x = d ∨ x = ol) H2 H3 → BnAt K G1 H3 b l T0 L' ∧ JbAt K H3 j b d false ∧ Ext G H G1 H3 ∧ Chg (FM l d ol j) H H3 := fun {H3} c3 => by
    refine ⟨hB.mono (Same.refl _) gl (fun o z => c3.at (s2 _ _ z) ?_) (fun o z => c3.at (s2 _ _ z) ?_), ⟨dxj, c3.at (s2 _ _ hj1) ?_⟩, (e1.chg (Chg.of (M := fun _ => False) s2) fun _ z => z.elim).chg c3 fun x hx => ?_, (c1.trans (Chg.of s2)).trans (c3.mono fun x _ hx => ?_)⟩
    · rintro (z | z)
      · exact nbd z
      · exact nbo z
    · rintro (z | z)
      · exact nld z
      · exact nlo z
    · rintro (z | z)
      · exact njd z
      · exact njo z
    · rcases hx with z | z
      · rw [z]
        exact gd
      · rw [z]
        exact gol
    · rcases hx with z | z
      · exact .inr (.inl z)
      · exact .inr (.inr (.inl z))
  refine for_list (K := K) (a := r) (xs := (recO o).map V.int) (fun i σ H' => i ≤ pw ∧ Chg (fun x => x = d ∨ x = ol) H2 H' ∧ DvAt K H' d ol (oc ++ (recO o).take i) ((pw - i : Nat) : Int) ∧ ∃ v3, σ = [some (.ref j), some v, some y, v3])
    ⟨Nat.zero_le _, Chg.refl _, ⟨⟨dxd, s2 _ _ hd1⟩, by rw [List.take_zero, List.append_nil]; exact s2 _ _ ho1⟩, none, rfl⟩ (fun i σ H' _ ⟨_, c3, _⟩ => app1 (c3.at er (by
      rintro (z | z)
      · exact nrd z
      · exact nro z))) ?_ ?_
  · rintro i x σ H' hi ⟨hip, c3, hD3, v3, rfl⟩
    obtain ⟨bA, jA, eA, cA⟩ := after c3
    obtain ⟨dx3, hj3⟩ := id jA
    obtain ⟨dxd3, hd3⟩ := hD3.ob
    rw [List.getElem?_map] at hi
    cases en : (recO o)[i]? with
    | none => rw [en] at hi; cases hi
    | some n =>
      rw [en] at hi
      cases hi
      have hil := (List.getElem?_eq_some_iff.mp en).1
      refine ⟨_, rfl, j, _, dx3, _, _, rfl, hj3, cl, n2, jbF_d _ _ _, d, dxd3, _, rfl, hd3, rfl, _, rfl, d, ol, _, _, n, rfl, hD3, ?_, fun hp e H4 s4 ne ee => ?_, fun hp H4 hD4 c4 => ?_⟩
      · rw [List.length_append, List.length_take]
        omega
      · have hpi : pw = i := by omega
        refine ⟨true, T.exm (x := "PowerCut") (y := "PowerCut") (by decide +kernel), fun _ a na => ?_, fun q => nomatch q⟩
        have c4 : Chg (fun x => x = d ∨ x = ol) H2 H4 := c3.trans (Chg.of s4)
        obtain ⟨bB, ⟨dx4, hj4⟩, eB, cB⟩ := after c4
        refine ⟨_, rfl, j, _, dx4, _, rfl, hj4, cl, n3, (by show 3 < 1000; decide), ?_⟩
        rw [jbF_put]
        have cp : Chg (fun x => x = j) H4 (upd H4 j (.ins (cJ K) dx4 (jbF b d true))) := (Chg.refl H4).put1
        have nej : e ≠ j := fun z => by
          rw [z, hj4] at ee
          cases ee
        have hpz : ((pw - i : Nat) : Int) = 0 := by omega
        rw [hpz] at hd3
        refine k2 (by omega) G1 _ e _ (bB.mono (Same.refl _) gl (fun o z => cp.at z nbj) (fun o z => cp.at z nlj)) ⟨dx4, upd_same⟩ ⟨⟨dxd3, cp.at (s4 _ _ hd3) njd.symm⟩, by rw [hpi]; exact cp.at (s4 _ _ hD3.os) njo.symm⟩ (eB.chg cp fun x hx => by rw [hx]; exact gj) (cB.trans (cp.mono fun x _ hx => .inr (.inr (.inr hx)))) (cp.at ee nej)
      · refine ⟨by omega, c3.trans c4, ?_, _, rfl⟩
        have e5 : ((pw - i : Nat) : Int) - 1 = ((pw - (i + 1) : Nat) : Int) := by omega
        rw [e5] at hD4
        have e6 : oc ++ (recO o).take (i + 1) = oc ++ (recO o).take i ++ [n] := by
          rw [List.take_add_one, en, List.append_assoc]
          rfl
        rw [e6]
        exact hD4
  · rintro σ H' ⟨hip, c3, hD3, v3, rfl⟩
    rw [List.length_map] at hip hD3
    obtain ⟨bA, jA, eA, cA⟩ := after c3
    rw [List.take_of_length_le (Nat.le_refl _)] at hD3
    exact ⟨_, rfl, k1 hip G1 H' y bA jA hD3 eA cA d1⟩
theorem ok_jperf (T : TX K mg) (Z : EX P K) : MCal P w K mg base (L2.CX P w) 6 "JournaledBench" "perform" ["self", "operation"] (spJPerf K) := by
  have GP : Cal P w K mg base (L2.CX P w) 3 "perform" ["bench", "operation"] (spPerf K) := ok_perf T Z
  have GR : Cal P w K mg base CX0 5 "record_of" ["operation"] (spRec K) := ok_rec T
  have GA : MCal P w K mg base (L2.CX P w) 1 "Device" "append" ["self", "octet"] (spDApp K) := ok_dapp T Z
  obtain ⟨fdP, FP, bP⟩ := GP.ex
  refine MCal.ofX T in_JournaledBench_perform sc_JournaledBench_perform bd_JournaledBench_perform (fun vs H Q E h => ?_) (fun cdv A outer s H vs Q E hr h => ?_)
  · obtain ⟨a, b, c, d, e, f, g, h1, h2, h3, h4, h5, rfl, _⟩ := h
    rfl
  · obtain ⟨j, b, d, l, ol, G, T0, L, oc, pw, v, o, rfl, hj, hB, hD, sG, ⟨gd, gol, gj, nlo⟩, hv, hel, hi, hlen, hL, hoc, k⟩ := h
    have cl := T.cl (x := "JournaledBench") (by decide +kernel)
    have clD := T.cl (x := "Device") (by decide +kernel)
    have n1 := T.na (x := "JournaledBench") (f := "bench") (by decide +kernel)
    have n2 := T.na (x := "JournaledBench") (f := "device") (by decide +kernel)
    have n3 := T.na (x := "JournaledBench") (f := "shut") (by decide +kernel)
    refine ⟨_, pss_cons (ps_if (pt_val (pe_fld (pv 0) rfl)) pss_never pss_nil)
      (pss_cons (ps_set (i := 2) sc_JournaledBench_perform.nd rfl (.inl rfl) (pe_call (E := E) FP (hr.mono (by decide)) rfl T.al_jn GP.kp bP .nil (passes_call (takes_of rfl rfl rfl rfl) fun _ _ _ _ z => z) (pa_cons (pe_fld (pv 0) rfl) (pa_cons (pv 1) pa_nil))))
      (pss_cons (ps_if (pt_cmpR op_isF (pv 2) pe_bl (nomark _)) (pss_one (ps_ret (pv 2))) pss_nil)
      (pss_cons (ps_try_mix (tb := fun W => tFor (iList K (tCall (spRec K) [] E0 (tCons (tVar 1) tNil))) (gName 3) (tDrop (tMethE (cD K) "append" (spDApp K) (WE W) (tFld K (tVar 0) "device") (tCons (tVar 3) tNil)))) rfl rfl (takes_of rfl rfl rfl rfl)
        (fun W pn xe tk po => pss_one (ps_for po rfl (pi_list (pe_cal GR hr pass0 (pa_cons (pv 1) pa_nil))) (pg_name (i := 3) sc_JournaledBench_perform.nd rfl (.inl rfl))
          (pss_one (ps_expr (pe_mcalE (pe_fld (pv 0) rfl) clD (T.me in_Device_append) GA (hr.mono (by decide)) (fun σ => passAt tk σ) (pa_cons (pv 3) pa_nil))))))
        (HdL.back (c := .ref (He.ga K "PowerCut")) (ts := fun _ _ _ => sFld K (tVar 0) (tC (.bl true)) "shut") ⟨rfl, by decide, .inl (T.ge (x := "PowerCut") (by decide +kernel))⟩ (fun a oe cls dd pn _ _ => ps_fld (pv 0) pe_bl rfl) (fun hd => L2H.passesAt_of rfl hd) rfl HdL.nil))
      (pss_one (ps_ret (pv 2)))))), ?_⟩
    obtain ⟨dxj, hj0⟩ := id hj
    obtain ⟨⟨dxd, hd0⟩, ho0⟩ := id hD
    obtain ⟨⟨dxb, ab, hb0, hab⟩, ⟨rs, hl0, hrs⟩, gl⟩ := id hB
    refine ⟨_, rfl, j, _, dxj, _, _, rfl, hj0, cl, n3, jbF_s _ _ _, _, rfl, iteF ?_⟩
    refine ⟨_, rfl, j, _, dxj, _, _, rfl, hj0, cl, n1, jbF_b _ _ _, _, rfl, b, l, G, T0, L, v, o, rfl, hB, sG, hv, hi, hlen, hL, ?_⟩
    have nld : d ≠ l := ne_of hd0 hl0 (by intro z; cases z)
    have nlj : j ≠ l := ne_of hj0 hl0 (by intro z; cases z)
    have nlb : b ≠ l := ne_of hb0 hl0 (by intro z; cases z)
    have someD : H d ≠ none := by rw [hd0]; simp
    have someO : H ol ≠ none := by rw [ho0]; simp
    have someJ : H j ≠ none := by rw [hj0]; simp
    generalize stepO T0 L o = st at k ⊢
    cases st with
    | pos i => exact k
    | elem i => exact k
    | full => exact k
    | ok r L' =>
      intro G1 H1 y b1 e1 c1 d1
      have j1 : JbAt K H1 j b d false := ⟨dxj, c1.at hj0 nlj⟩
      have v1 : DvAt K H1 d ol oc pw := ⟨⟨dxd, c1.at hd0 nld⟩, c1.at ho0 nlo.symm⟩
      have cF : Chg (FM l d ol j) H H1 := c1.mono fun _ _ z => .inl z
      have rest : ∀ {dr : PyData}, Dp K G1 y dr → _ → _ → _ := fun {dr} dd q1 q2 => j_tail (E := E) (Q := Q) T j1 b1 v1 (e1.nw d someD gd) (e1.nw ol someO gol) (e1.nw j someJ gj) nlo e1 cF (dp_mono e1.gg hv) hel hoc dd q1 q2
      cases r with
      | num n =>
        cases dp_int d1
        refine ⟨_, rfl, false, rfl, .inr (.inl ⟨_, rfl, _, rfl, iteF ?_⟩)⟩
        exact rest d1 k.1 k.2
      | el e =>
        obtain ⟨va, vw, vr, rfl, _⟩ := el_word d1
        refine ⟨_, rfl, false, rfl, .inr (.inr ⟨_, rfl, _, rfl, iteF ?_⟩)⟩
        exact rest d1 k.1 k.2
      | flag f =>
        cases d1
        cases f with
        | true =>
          refine ⟨_, rfl, false, rfl, .inl ⟨true, rfl, _, rfl, iteF ?_⟩⟩
          exact rest (.bl true) k.1 k.2
        | false =>
          refine ⟨_, rfl, false, rfl, .inl ⟨false, rfl, _, rfl, iteT ⟨_, rfl, ?_⟩⟩⟩
          exact k G1 H1 b1 j1 v1 e1 cF
end
end RT
end
section
set_option Elab.async false
set_option linter.all false
set_option maxRecDepth 100000
set_option maxHeartbeats 2000000
/-! Y12: opened. -/
namespace RT
open PySem PySem.Spec PyProof.Rows L2
/-- operations done one after the other -/
inductive Rep (T0 : List El) : List (List El) → List Op → List (List El) → Prop
  | nil (L) : Rep T0 L [] L
  | cons {L : List (List El)} {o : Op} {r : Res} {L1 : List (List El)} {os : List Op} {L2 : List (List El)} (h : stepO T0 L o = .ok r L1) (hi : (idxO o).natAbs ≤ 1000) (h1 : (curT T0 L).length ≤ 20) (h2 : L.length ≤ 100) (t : Rep T0 L1 os L2) : Rep T0 L (o :: os) L2
def gro (G H H' : Hp) : Hp := fun b => match G b with
  | some o => some o
  | none => New H H' b
theorem gro_some {G H H' : Hp} {b : Addr} {o : HO} (h : G b = some o) : gro G H H' b = some o := by
  unfold gro
  rw [h]
theorem gro_none {G H H' : Hp} {b : Addr} (h : G b = none) : gro G H H' b = New H H' b := by
  unfold gro
  rw [h]
theorem ext_gro {M : Addr → Prop} {G H H' : Hp} (s : Same G H) (c : Chg M H H') (hM : ∀ b, M b → G b = none) : Ext G H (gro G H H') H' ∧ Same (New H H') (gro G H H') := by
  refine ⟨⟨fun b o e => gro_some e, fun b o e => ?_, fun b h g => ?_⟩, fun b o e => ?_⟩
  · cases g : G b with
    | some u =>
      rw [gro_some g] at e
      cases e
      exact c.same s hM b _ g
    | none =>
      rw [gro_none g] at e
      exact new_le b o e
  · rw [gro_none g]
    exact new_free h
  · have g : G b = none := by
      cases q : G b with
      | none => rfl
      | some u =>
        rw [new_free (by rw [s _ _ q]; simp)] at e
        cases e
    rw [gro_none g]
    exact e
section
variable {P : Program} {w : World} {K : PySem.W.Frag} {mg : Str → Option Value} {base : Heap}
theorem Ext.pre {G H H0 G' H' : Hp} (e : Ext G H0 G' H') (s : Same H H0) : Ext G H G' H' := ⟨e.gg, e.gh, fun b h g => e.nw b (fun z => h (s.free z)) g⟩
def spOpened (K : PySem.W.Frag) : Sp := fun vs H Q _ => ∃ (t o : Addr) (pw : Nat) (G : Hp) (xs : List V) (T0 : List El) (ops : List Op) (tail : List Int) (L : List (List El)), vs = [.ref t, .ref o, .int pw] ∧ SqL K H t xs ∧ DpAll K G xs (T0.map elD) ∧ Same G H ∧ T0.length ≤ 20 ∧
  H o = some (.lst ((flatR ops ++ tail).map V.int)) ∧ Dead tail ∧ (∀ x ∈ ops, ElOp x) ∧ ops.length ≤ 100 ∧ Rep T0 [] ops L ∧ Tbs K H ∧ (∀ b, IsT K b → G b = none) ∧
  ∀ j b d l ol G' H', JbAt K H' j b d false → BnAt K G' H' b l T0 L → DvAt K H' d ol (flatR ops) pw → Ext G H G' H' → Chg (IsT K) H H' → Tbs K H' → (H j = none ∧ H b = none ∧ H d = none ∧ H l = none ∧ H ol = none) → (G' d = none ∧ G' ol = none ∧ G' j = none ∧ l ≠ ol) → Q (.ref j) H'
theorem ok_opened (T : TX K mg) (Z : EX P K) (B : BX K mg base) : Cal P w K mg base (L2.CX P w) 13 "opened" ["train", "octets", "power"] (spOpened K) := by
  have GB : MCal P w K mg base CX0 1 "Bench" "__init__" ["self", "train"] (spBInit K) := ok_binit T
  have GD : MCal P w K mg base CX0 1 "Device" "__init__" ["self", "octets", "power"] (spDInit K) := ok_dinit T
  have GJ : MCal P w K mg base CX0 1 "JournaledBench" "__init__" ["self", "bench", "device"] (spJInit K) := ok_jinit T
  have GR : Cal P w K mg base CX0 12 "recovered" ["octets"] (spRecv K) := ok_recv T B
  have GP : Cal P w K mg base (L2.CX P w) 3 "perform" ["bench", "operation"] (spPerf K) := ok_perf T Z
  obtain ⟨fdP, FP, bP⟩ := GP.ex
  refine Cal.ofX T in_opened sc_opened bd_opened (fun vs H Q E h => ?_) (fun cdv A outer s H vs Q E hr h => ?_)
  · obtain ⟨a, b, c, d, e, f, g, h1, h2, rfl, _⟩ := h
    rfl
  · obtain ⟨t, o, pw, G, xs, T0, ops, tail, L, rfl, ht, hx, sG, hT0, ho, hdead, hel, hn, hrep, hT, gT, k⟩ := h
    refine ⟨_, pss_cons (ps_set (i := 3) sc_opened.nd rfl (.inl rfl) (pe_new (T.mkc (x := "Bench") (by decide +kernel)) GB (hr.mono (by decide)) rfl (T.gc (x := "Bench") (by decide +kernel)) pass0 (pa_cons (pv 0) pa_nil)))
      (pss_cons (ps_asg (pe_cal GR hr pass0 (pa_cons (pv 1) pa_nil)) (pg_tup rfl (pgs_cons (pg_name (i := 4) sc_opened.nd rfl (.inl rfl)) (pgs_cons (pg_name (i := 5) sc_opened.nd rfl (.inl rfl)) pgs_nil))))
      (pss_cons (ps_for (passes_of rfl) rfl (pi_list (pv 4)) (pg_name (i := 6) sc_opened.nd rfl (.inl rfl))
        (pss_one (ps_expr (pe_call (E := E) FP (hr.mono (by decide)) rfl T.al_jn GP.kp bP .nil (passes_call (takes_of rfl rfl rfl rfl) fun _ _ _ _ z => z) (pa_cons (pv 3) (pa_cons (pv 6) pa_nil))))))
      (pss_one (ps_ret (pe_new (T.mkc (x := "JournaledBench") (by decide +kernel)) GJ (hr.mono (by decide)) rfl (T.gc (x := "JournaledBench") (by decide +kernel)) pass0 (pa_cons (pv 3) (pa_cons
        (pe_new (T.mkc (x := "Device") (by decide +kernel)) GD (hr.mono (by decide)) rfl (T.gc (x := "Device") (by decide +kernel)) pass0 (pa_cons (pe_slice sl_list (pv 1) po_none (po_some (pv 5))) (pa_cons (pv 2) pa_nil))) pa_nil))))))), ?_⟩
    refine ⟨_, rfl, fun b dxb nb ndb neb => ?_⟩
    have s0 : Same H (upd (upd H dxb (.own b)) b (.ins (cB K) dxb [])) := (same_new ndb).trans (same_new (by rw [upd_ne neb.symm]; exact nb))
    refine ⟨b, dxb, t, G, xs, T0, rfl, upd_same, sG.free nb, sG.trans s0, s0.seq ht, hx, hT0, fun l G1 H1 b1 e1 c1 nl => ⟨rfl, ?_⟩⟩
    obtain ⟨H0, hH0⟩ : ∃ H0, H0 = upd (upd H dxb (.own b)) b (.ins (cB K) dxb []) := ⟨_, rfl⟩
    have e1 : Ext G H0 G1 H1 := by rw [hH0]; exact e1
    have c1 : Chg (fun x => x = b) H0 H1 := by rw [hH0]; exact c1
    have nl : H0 l = none := by rw [hH0]; exact nl
    rw [← hH0] at s0
    have hb0 : H0 b = some (.ins (cB K) dxb []) := by rw [hH0, upd_same]
    have t0 := hT.same s0
    have t1 : Tbs K H1 := t0.chg c1 fun x ps ex z => by
      rw [ex, hb0] at z
      cases z
    have ho1 : H1 o = some (.lst ((flatR ops ++ tail).map V.int)) := c1.at (s0 _ _ ho) (ne_of (s0 _ _ ho) hb0 (by intro z; cases z))
    have gT1 : ∀ x, IsT K x → G1 x = none := fun x hx => e1.nw x (t0.some_ x hx) (gT x hx)
    refine ⟨_, rfl, o, ops, tail, rfl, app1 ho1, hel, hn, hdead, t1, fun tt lo vs' H2 t2 c2 ntt ett nlo elo dops => ?_⟩
    refine ⟨tt, [.ref lo, .int ((flatR ops).length : Nat)], rfl, app2 ett, rfl, .ref lo, [.int ((flatR ops).length : Nat)], rfl, .int ((flatR ops).length : Nat), [], rfl, rfl, ?_⟩
    obtain ⟨e2, n2⟩ := ext_gro e1.gh c2 gT1
    have dG := dpAll_mono n2 dops
    generalize gro G1 H1 H2 = G2 at e2 dG
    obtain ⟨⟨dxb1, ab, hb1, hab⟩, ⟨rs, hl1, hrs⟩, gl1⟩ := id b1
    have b2 : BnAt K G2 H2 b l T0 [] := b1.mono e2.gg (e2.nw l (by rw [hl1]; simp) gl1) (fun u z => c2.at z (notT t1 hb1 fun _ q => by cases q)) (fun u z => c2.at z (notT t1 hl1 fun _ q => by cases q))
    have hl2 := c2.at hl1 (notT t1 hl1 fun _ q => by cases q)
    have hb2 := c2.at hb1 (notT t1 hb1 fun _ q => by cases q)
    have nlol : lo ≠ l := fun z => by rw [z, hl1] at nlo; cases nlo
    have ho2 : H2 o = some (.lst ((flatR ops ++ tail).map V.int)) := c2.at ho1 (notT t1 ho1 fun _ q => by cases q)
    have nol : o ≠ l := fun z => by rw [← z, s0 _ _ ho] at nl; cases nl
    have hlv : vs'.length = ops.length := by rw [dpAll_len dG, List.length_map]
    refine ⟨_, rfl, lo, rfl, ⟨_, app1 elo⟩, for_list (K := K) (a := lo) (xs := vs') (fun i σ H' => ∃ (G' : Hp) (Li : List (List El)) (v6 : Option V), σ = [some (.ref t), some (.ref o), some (.int pw), some (.ref b), some (.ref lo), some (.int ((flatR ops).length : Nat)), v6] ∧
        BnAt K G' H' b l T0 Li ∧ Ext G2 H2 G' H' ∧ Chg (fun x => x = l) H2 H' ∧ Rep T0 Li (ops.drop i) L)
      ⟨G2, [], none, rfl, b2, ⟨Same.refl _, e2.gh, fun _ _ z => z⟩, Chg.refl _, hrep⟩ (fun i σ H' _ ⟨_, _, _, _, _, _, cA, _⟩ => app1 (cA.at elo nlol)) ?_ ?_⟩
    · rintro i x σ H' hi ⟨G', Li, v6, rfl, bA, eA, cA, rA⟩
      obtain ⟨dd, f1, f2⟩ := dpAll_get dG hi
      rw [List.getElem?_map] at f1
      cases eo : ops[i]? with
      | none => rw [eo] at f1; cases f1
      | some op =>
        rw [eo] at f1
        cases f1
        have hil := (List.getElem?_eq_some_iff.mp eo).1
        have ed : ops.drop i = op :: ops.drop (i + 1) := by
          rw [List.drop_eq_getElem_cons hil]
          congr 1
          exact (List.getElem?_eq_some_iff.mp eo).2
        rw [ed] at rA
        cases rA with
        | cons hst hi2 g1 g2 rest =>
          rename_i r L1
          refine ⟨_, rfl, _, rfl, b, l, G', T0, Li, x, op, rfl, bA, eA.gh, dp_mono eA.gg f2, hi2, g1, g2, ?_⟩
          rw [hst]
          intro G3 H3 y b3 e3 c3 d3
          exact ⟨G3, L1, _, rfl, b3, eA.trans cA.2 e3, cA.trans c3, rest⟩
    · rintro σ H3 ⟨G3, Li, v6, rfl, b3, e3, c3, r3⟩
      rw [hlv, List.drop_eq_nil_of_le (Nat.le_refl _)] at r3
      cases r3
      have ho3 : H3 o = some (.lst ((flatR ops ++ tail).map V.int)) := c3.at ho2 nol
      have t3 : Tbs K H3 := t2.chg c3 fun x ps ex z => by
        rw [ex, hl2] at z
        cases z
      refine ⟨_, rfl, _, rfl, _, rfl, _, rfl, o, _, rfl, app1 ho3, fun sl nsl => ⟨_, rfl, fun d dxd nd ndd ned => ?_⟩⟩
      have ecut : cutV ((flatR ops ++ tail).map V.int) none (some ((flatR ops).length : Nat)) = (flatR ops).map V.int := by
        rw [cut_to _ _ (by rw [List.length_map, List.length_append]; omega), ← List.map_take, List.take_left]
      rw [ecut] at nd ndd ⊢
      have s4 := same_new (o := .lst ((flatR ops).map V.int)) nsl
      have s5 : Same (upd H3 sl (.lst ((flatR ops).map V.int))) (upd (upd (upd H3 sl (.lst ((flatR ops).map V.int))) dxd (.own d)) d (.ins (cD K) dxd [])) := (same_new ndd).trans (same_new (by rw [upd_ne ned.symm]; exact nd))
      refine ⟨d, dxd, sl, flatR ops, pw, rfl, upd_same, app1 (s5 _ _ upd_same), fun ol H5 v5 c5 nol5 => ⟨rfl, fun j dxj nj ndj nej => ?_⟩⟩
      have c5 : Chg (fun x => x = d) (upd (upd (upd H3 sl (.lst ((flatR ops).map V.int))) dxd (.own d)) d (.ins (cD K) dxd [])) H5 := c5
      have nol5 : (upd (upd (upd H3 sl (.lst ((flatR ops).map V.int))) dxd (.own d)) d (.ins (cD K) dxd [])) ol = none := nol5
      have s45 := s4.trans s5
      generalize (upd (upd (upd H3 sl (.lst ((flatR ops).map V.int))) dxd (.own d)) d (.ins (cD K) dxd [])) = H4 at c5 nol5 s45
      have nd3 : H3 d = none := s4.free nd
      have s6 : Same H5 (upd (upd H5 dxj (.own j)) j (.ins (cJ K) dxj [])) := (same_new ndj).trans (same_new (by rw [upd_ne nej.symm]; exact nj))
      refine ⟨j, dxj, b, d, rfl, upd_same, fun H6 j6 c6 => ⟨rfl, ?_⟩⟩
      have c6 : Chg (fun x => x = j) (upd (upd H5 dxj (.own j)) j (.ins (cJ K) dxj [])) H6 := c6
      generalize (upd (upd H5 dxj (.own j)) j (.ins (cJ K) dxj [])) = H5' at c6 s6
      -- from H3 to the end
      have c36 : Chg (fun x => x = d ∨ x = j) H3 H6 := (((Chg.of s45).trans (c5.mono fun _ _ z => .inl z)).trans (Chg.of s6)).trans (c6.mono fun _ _ z => .inr z)
      have nj3 : H3 j = none := (Chg.of (M := fun x => x = d) s45 |>.trans c5).free nj
      have off : ∀ {x : Addr}, H3 x ≠ none → ¬ (x = d ∨ x = j) := fun h z => by
        rcases z with z | z
        · exact h (z ▸ nd3)
        · exact h (z ▸ nj3)
      have keep3 : ∀ x u, H3 x = some u → H6 x = some u := fun x u e => c36.at e (off (by rw [e]; simp))
      have s36 : Same H3 H6 := keep3
      have hd5 : ∀ dxd, H5 d = some (.ins (cD K) dxd (dvF ol pw)) → H6 d = some (.ins (cD K) dxd (dvF ol pw)) := fun dxd e => c6.at (s6 _ _ e) fun z => by
        rw [z] at e
        rw [e] at nj
        cases nj
      have nolj : ol ≠ j := fun z => by
        have := v5.os
        rw [z, nj] at this
        cases this
      have v6 : DvAt K H6 d ol (flatR ops) pw := ⟨let ⟨q, e⟩ := v5.ob; ⟨q, hd5 q e⟩, c6.at (s6 _ _ v5.os) nolj⟩
      have b6 : BnAt K G3 H6 b l T0 L := b3.mono (Same.refl _) b3.gl (fun u z => s36 _ _ z) (fun u z => s36 _ _ z)
      have e36 : Ext G3 H3 G3 H6 := ⟨Same.refl _, e3.gh.trans s36, fun _ _ z => z⟩
      have c03 : Chg (fun x => (x = b ∨ x = l) ∨ IsT K x) H H3 := (((Chg.of s0).trans (c1.mono fun _ _ z => .inl (.inl z))).trans (c2.mono fun _ _ z => .inr z)).trans (c3.mono fun _ _ z => .inl (.inr z))
      have hl0 : H l = none := s0.free nl
      have call : Chg (IsT K) H H6 := (c03.trans (Chg.of s36)).mono fun x hx z => by
        rcases z with (z | z) | z
        · rw [z] at hx
          exact absurd nb hx
        · rw [z] at hx
          exact absurd hl0 hx
        · exact z
      have c01 : Chg (fun x => x = b ∨ IsT K x) H H1 := (Chg.of s0).trans (c1.mono fun _ _ z => .inl z)
      have c02 : Chg (fun x => x = b ∨ IsT K x) H H2 := c01.trans (c2.mono fun _ _ z => .inr z)
      have eall : Ext G H G3 H6 := (((e1.pre s0).trans c01.2 e2).trans c02.2 e3).trans c03.2 e36
      have fo : H ol = none := c03.free (s45.free nol5)
      have g3 : ∀ {x : Addr}, H3 x = none → G3 x = none := fun z => e3.gh.free z
      have nol4 : H3 ol = none := s45.free nol5
      have hl3 : H3 l ≠ none := by
        obtain ⟨_, ⟨rs3, z, _⟩, _⟩ := b3
        rw [z]
        simp
      exact k j b d l ol G3 H6 j6 b6 v6 eall call (t3.same s36) ⟨c03.free nj3, nb, c03.free nd3, hl0, fo⟩ ⟨g3 nd3, g3 nol4, g3 nj3, fun z => hl3 (z ▸ nol4)⟩
end
end RT
end
section
set_option Elab.async false
set_option linter.all false
set_option maxRecDepth 100000
set_option maxHeartbeats 2000000
/-! Z1: the law's numbers. -/
namespace RT
open PySem PySem.Spec PyProof.Rows L2
section
variable {P : Program} {w : World} {K : PySem.W.Frag} {mg : Str → Option Value} {base : Heap}
def spCell (K : PySem.W.Frag) : Sp := fun vs H Q _ => ∃ (a : Addr) (ns : List Int) (k : Nat), vs = [.ref a, .int k] ∧ SqL K H a (ns.map V.int) ∧ ∀ n, Q (.int n) H
theorem ok_cell (T : TX K mg) : Cal P w K mg base CX0 1 "_law_cell" ["_law_script", "_law_k"] (spCell K) := by
  refine Cal.of T in_law_cell sc_law_cell bd_law_cell (fun vs H Q E h => ?_) (fun cdv A outer s H vs Q E hr h => ?_)
  · obtain ⟨a, b, c, rfl, _⟩ := h
    rfl
  · obtain ⟨a, ns, k, rfl, ha, q⟩ := h
    refine ⟨_, pss_cons (ps_if (pt_cmpR op_lt (pv 1) (pe_callB call_len (by rfl) (T.fr (by decide +kernel)) PySem.boot_len (pa_cons (pv 0) pa_nil)) (nomark _)) (pss_one (ps_ret (pe_ix ix_list (pv 0) (pv 1) (fun _ _ => rfl)))) pss_nil) (pss_one (ps_ret pe_int)), ?_⟩
    refine ⟨_, rfl, _, rfl, .ref a, _, rfl, .inl ⟨_, ha, rfl⟩, _, _, rfl, rfl, _, rfl, ?_⟩
    rw [List.length_map]
    by_cases h : (k : Int) < (ns.length : Nat)
    · rw [decide_eq_true h]
      have hk : k < ns.length := by omega
      exact iteT ⟨_, rfl, _, rfl, a, _, _, .int ns[k], rfl, rfl, ha, atI_nat (by rw [List.getElem?_map, List.getElem?_eq_getElem hk] <;> rfl), q _⟩
    · rw [decide_eq_false h]
      exact iteF (q 0)
/-- a row of the law: a new list of whole numbers -/
def spRow : Sp := fun vs H Q _ => ∃ (c k : Int), vs = [.int c, .int k, .int 12] ∧ k.natAbs ≤ 1000 ∧ ∀ (p : Addr) (ns : List Int) (H' : Hp), Same H H' → H p = none → H' p = some (.lst (ns.map V.int)) → ns.length ≤ 60 → Q (.ref p) H'
theorem ok_row (T : TX K mg) : Cal P w K mg base CX0 1 "_law_row" ["_law_cell_here", "_law_k", "_law_many"] spRow := by
  refine Cal.of T in_law_row sc_law_row bd_law_row (fun vs H Q E h => ?_) (fun cdv A outer s H vs Q E hr h => ?_)
  · obtain ⟨a, b, rfl, _⟩ := h
    rfl
  · obtain ⟨c, k, rfl, hk, q⟩ := h
    have mint : mg "int" = none := T.fr (by decide +kernel)
    refine ⟨_, pss_cons (ps_set (i := 3) sc_law_row.nd rfl (.inl rfl) (pe_lst pa_nil))
      (pss_cons (ps_if (pt_cmpR op_lt (pv 0) pe_int (nomark _)) (pss_one (ps_set (i := 0) sc_law_row.nd rfl (.inl rfl) (pe_op op_sub pe_int (pe_op op_mul pe_int (pv 0))))) pss_nil)
      (pss_cons (ps_if (pt_cmpR op_ge (pv 0) (pe_op op_pow pe_int pe_int) (nomark _))
        (pss_cons (ps_for PassesOwn.never rfl (pi_range1 rfl (T.fr (by decide +kernel)) (pa_cons pe_int pa_nil)) (pg_name (i := 4) sc_law_row.nd rfl (.inl rfl))
          (pss_one (ps_if (PW.pt (pw_and (pt_cmpR op_gt (pv 0) pe_int (nomark _)) (pw_and1 (pt_cmpR op_lt (pe_callB call_len (by rfl) (T.fr (by decide +kernel)) PySem.boot_len (pa_cons (pv 3) pa_nil)) (pv 2) (nomark _)))))
            (pss_cons (ps_expr (pe_bm PySem.F.plainAttrs_list PySem.F.slot_list_append PySem.F.type_list_append mt_append (pv 3) (pa_cons (pe_op op_mod (pe_callTy call_int1 (by rfl) mint (by decide +kernel) (pa_cons (pv 0) pa_nil)) pe_int) pa_nil)))
            (pss_one (ps_set (i := 0) sc_law_row.nd rfl (.inl rfl) (pe_op op_fdiv (pv 0) pe_int)))) pss_nil)))
        (pss_one (ps_ret (pv 3)))) pss_nil)
      (pss_cons (ps_set (i := 5) sc_law_row.nd rfl (.inl rfl) (pe_op op_mod (pe_callTy call_int1 (by rfl) mint (by decide +kernel) (pa_cons (pe_op op_add (pe_op op_add (pe_op op_mul (pv 0) pe_int) (pe_op op_mul (pv 1) pe_int)) pe_int) pa_nil)) pe_int))
      (pss_cons (ps_for PassesOwn.never rfl (pi_range1 rfl (T.fr (by decide +kernel)) (pa_cons (pv 2) pa_nil)) (pg_name (i := 4) sc_law_row.nd rfl (.inl rfl))
        (pss_cons (ps_set (i := 5) sc_law_row.nd rfl (.inl rfl) (pe_op op_mod (pe_callTy call_int1 (by rfl) mint (by decide +kernel) (pa_cons (pe_op op_add (pe_op op_add (pe_op op_mul (pv 5) pe_int) (pe_op op_mul pe_int (pv 4))) pe_int) pa_nil)) pe_int))
        (pss_one (ps_expr (pe_bm PySem.F.plainAttrs_list PySem.F.slot_list_append PySem.F.type_list_append mt_append (pv 3) (pa_cons (pe_op op_mod (pe_callTy call_int1 (by rfl) mint (by decide +kernel) (pa_cons (pe_op op_fdiv (pv 5) pe_int) pa_nil)) pe_int) pa_nil))))))
      (pss_one (ps_ret (pv 3))))))), ?_⟩
    refine ⟨Nat.zero_le _, fun p np => ?_⟩
    have s0 := same_new (o := .lst []) np
    have put : ∀ {H' : Hp} {o : HO}, Same H H' → Same H (upd H' p o) := fun sm b u z => by
      rw [upd_ne (ne_of_none z np)]
      exact sm _ _ z
    have lz : ∀ {ns : List Int}, ns.length ≤ 60 → (ns.map V.int).length < sizeLine := fun h => by
      rw [List.length_map]
      exact Nat.lt_of_le_of_lt h (by decide)
    refine ⟨_, rfl, _, _, rfl, rfl, _, rfl, ?_⟩
    refine ite2 (fun _ => ⟨_, rfl, _, _, rfl, rfl, .inl ⟨by decide, by decide⟩, _, _, rfl, rfl, ?_⟩) (fun _ => ?_)
    all_goals
      refine ⟨_, rfl, _, _, rfl, rfl, ⟨by decide, by decide, by decide⟩, _, _, rfl, rfl, _, rfl, ?_⟩
      refine ite2 (fun _ => ?_) (fun _ => ?_)
      · refine ⟨60, rfl, by decide, by decide, for_range (n := 60) (fun i σ H' => ∃ (c : Int) (ns : List Int) (v4 : Option V), σ = [some (.int c), some (.int k), some (.int 12), some (.ref p), v4, none] ∧ Same H H' ∧ H' p = some (.lst (ns.map V.int)) ∧ ns.length ≤ i)
          ⟨_, [], none, rfl, s0, upd_same, Nat.le_refl _⟩ ?_ ?_⟩
        · rintro i σ H' hi ⟨c, ns, v4, rfl, sm, hp, hl⟩
          refine ⟨_, rfl, _, _, rfl, rfl, _, rfl, ?_⟩
          refine ite2 (fun _ => ⟨_, rfl, .ref p, _, rfl, .inl ⟨_, app1 hp, rfl⟩, _, rfl, _, _, rfl, rfl, _, rfl, ?_⟩) (fun _ => ⟨c, ns, _, rfl, sm, hp, by omega⟩)
          refine ite2 (fun _ => ?_) (fun _ => ⟨c, ns, _, rfl, sm, hp, by omega⟩)
          refine ⟨.ref p, rfl, .inl ⟨rfl, _, app1 hp⟩, _, rfl, .inl ⟨_, rfl, _, _, rfl, rfl, (by show (0 : Int) < 1000; decide), p, _, _, rfl, rfl, hp, lz (by omega), ?_⟩⟩
          refine ⟨_, rfl, _, _, rfl, rfl, ⟨by decide, by decide⟩, _, ns ++ [c % 1000], _, rfl, put sm, ?_, by rw [List.length_append]; show ns.length + 1 ≤ i + 1; omega⟩
          rw [upd_same, List.map_append]
          rfl
        · rintro σ H' ⟨c, ns, v4, rfl, sm, hp, hl⟩
          exact ⟨_, rfl, q p ns H' sm np hp hl⟩
      · refine ⟨_, rfl, _, _, rfl, rfl, .inr ⟨by decide, by decide⟩, _, rfl, _, _, rfl, rfl, .inr ⟨by decide, by decide⟩, _, _, rfl, rfl, _, _, rfl, rfl, .inl ⟨_, rfl, _, _, rfl, rfl, (by show (0 : Int) < 2147483647; decide), ?_⟩⟩
        refine ⟨_, rfl, 12, rfl, by decide, by decide, for_range (n := 12) (fun i σ H' => ∃ (c seed : Int) (ns : List Int) (v4 : Option V), σ = [some (.int c), some (.int k), some (.int 12), some (.ref p), v4, some (.int seed)] ∧ Same H H' ∧ H' p = some (.lst (ns.map V.int)) ∧ ns.length ≤ i)
          ⟨_, _, [], none, rfl, s0, upd_same, Nat.le_refl _⟩ ?_ ?_⟩
        · rintro i σ H' hi ⟨c, seed, ns, v4, rfl, sm, hp, hl⟩
          refine ⟨_, rfl, _, _, rfl, rfl, .inr ⟨by decide, by decide⟩, _, rfl, _, _, rfl, rfl, .inl ⟨by decide, by decide⟩, _, _, rfl, rfl, _, _, rfl, rfl, .inl ⟨_, rfl, _, _, rfl, rfl, (by show (0 : Int) < 2147483647; decide), ?_⟩⟩
          refine ⟨.ref p, rfl, .inl ⟨rfl, _, app1 hp⟩, _, rfl, _, _, rfl, rfl, ⟨by decide, by decide⟩, .inl ⟨_, rfl, _, _, rfl, rfl, (by show (0 : Int) < 1000; decide), p, _, _, rfl, rfl, hp, lz (by omega), ?_⟩⟩
          exact ⟨c, _, ns ++ [_], _, rfl, put sm, by rw [upd_same, List.map_append]; rfl, by rw [List.length_append]; show ns.length + 1 ≤ i + 1; omega⟩
        · rintro σ H' ⟨c, seed, ns, v4, rfl, sm, hp, hl⟩
          exact ⟨_, rfl, q p ns H' sm np hp (by omega)⟩
/-- the box: where it is, where its row is, the row's numbers -/
structure Bx where
  a : Addr
  rw : Addr
  ns : List Int
/-- the box: a list of a row and a place -/
def BoxAt (H : Hp) (bx : Bx) : Prop := ∃ at_ : Nat, H bx.a = some (.lst [.ref bx.rw, .int at_]) ∧ H bx.rw = some (.lst (bx.ns.map V.int))
theorem BoxAt.ne {H : Hp} {bx : Bx} (h : BoxAt H bx) : bx.rw ≠ bx.a := fun e => by
  obtain ⟨at_, h, h2⟩ := h
  rw [e, h] at h2
  cases hns : bx.ns with
  | nil =>
    rw [hns] at h2
    cases h2
  | cons n ns =>
    rw [hns] at h2
    have z := HO.lst.inj (Option.some.inj h2)
    have z2 := (List.cons.inj z).1
    cases z2
theorem BoxAt.same {H H' : Hp} {bx : Bx} (b : BoxAt H bx) (s : Same H H') : BoxAt H' bx := let ⟨a, h1, h2⟩ := b; ⟨a, s _ _ h1, s _ _ h2⟩
theorem BoxAt.some_ {H : Hp} {bx : Bx} (b : BoxAt H bx) : H bx.a ≠ none := by
  obtain ⟨_, e, _⟩ := b
  rw [e]
  simp
theorem BoxAt.off {H : Hp} {bx : Bx} {D : Addr} {o : HO} (b : BoxAt H bx) (h1 : D ≠ bx.a) (h2 : D ≠ bx.rw) : BoxAt (upd H D o) bx := let ⟨a, e1, e2⟩ := b; ⟨a, by rw [upd_ne h1.symm]; exact e1, by rw [upd_ne h2.symm]; exact e2⟩
def spBox (K : PySem.W.Frag) : Sp := fun vs H Q _ => ∃ (a : Addr) (ns : List Int), vs = [.ref a, .int 0, .int 50] ∧ SqL K H a (ns.map V.int) ∧ ∀ bx H', BoxAt H' bx → Same H H' → H bx.a = none → Q (.ref bx.a) H'
theorem ok_box (T : TX K mg) : Cal P w K mg base CX0 2 "_law_box" ["_law_script", "_law_first", "_law_last"] (spBox K) := by
  have GC : ∀ {P w base}, Cal P w K mg base CX0 1 "_law_cell" ["_law_script", "_law_k"] (spCell K) := ok_cell T
  have GR : ∀ {P w base}, Cal P w K mg base CX0 1 "_law_row" ["_law_cell_here", "_law_k", "_law_many"] spRow := ok_row T
  refine Cal.of T in_law_box sc_law_box bd_law_box (fun vs H Q E h => ?_) (fun cdv A outer s H vs Q E hr h => ?_)
  · obtain ⟨a, b, rfl, _⟩ := h
    rfl
  · obtain ⟨a, ns, rfl, ha, q⟩ := h
    refine ⟨_, pss_cons (ps_set (i := 3) sc_law_box.nd rfl (.inl rfl) (pe_lst pa_nil))
      (pss_cons (ps_for PassesOwn.never rfl (pi_range2 (by rfl) (T.fr (by decide +kernel)) (pa_cons (pv 1) (pa_cons (pv 2) pa_nil))) (pg_name (i := 4) sc_law_box.nd rfl (.inl rfl))
        (pss_one (ps_set (i := 3) sc_law_box.nd rfl (.inl rfl) (pe_op op_cat (pv 3) (pe_cal GR hr pass0 (pa_cons (pe_cal GC hr pass0 (pa_cons (pv 0) (pa_cons (pv 4) pa_nil))) (pa_cons (pv 4) (pa_cons pe_int pa_nil))))))))
      (pss_one (ps_ret (pe_lst (pa_cons (pv 3) (pa_cons pe_int pa_nil)))))), ?_⟩
    refine ⟨Nat.zero_le _, fun p np => ?_⟩
    refine ⟨_, rfl, _, rfl, 0, 50, rfl, ⟨by decide, by decide, by decide, by decide⟩, for_range (lo := 0) (n := 50) (fun i σ H' => ∃ (r : Addr) (ms : List Int) (v4 : Option V), σ = [some (.ref a), some (.int 0), some (.int 50), some (.ref r), v4] ∧ Same H H' ∧ H' r = some (.lst (ms.map V.int)) ∧ ms.length ≤ 60 * i)
      ⟨p, [], none, rfl, same_new np, upd_same, Nat.zero_le _⟩ ?_ ?_⟩
    · rintro i σ H' hi ⟨r, ms, v4, rfl, sm, hp, hl⟩
      refine ⟨_, rfl, _, rfl, _, rfl, a, ns, i, by rw [Int.zero_add] <;> rfl, sm.seq ha, fun c => ⟨_, rfl, c, (0 : Int) + (i : Nat), rfl, by omega, fun p2 m2 H2 s2 n2 e2 l2 => ?_⟩⟩
      refine ⟨r, p2, _, _, rfl, rfl, s2 _ _ hp, e2, ?_, fun p3 n3 => ⟨p3, ms ++ m2, _, rfl, (sm.trans s2).trans (same_new n3), ?_, ?_⟩⟩
      · rw [List.length_map, List.length_map]
        exact Nat.le_trans (by omega : _ ≤ 3060) (by decide)
      · rw [upd_same, List.map_append]
      · rw [List.length_append]
        omega
    · rintro σ H' ⟨r, ms, v4, rfl, sm, hp, hl⟩
      exact ⟨_, rfl, by show 2 ≤ sizeLine; decide, fun bx nb => q ⟨bx, r, ms⟩ _ ⟨0, upd_same, (same_new nb) _ _ hp⟩ (sm.trans (same_new nb)) (sm.free nb)⟩
def spDraw : Sp := fun vs H Q _ => ∃ (bx : Bx) (many : Int), vs = [.ref bx.a, .int many] ∧ BoxAt H bx ∧ 0 < many ∧ ∀ n H', 0 ≤ n → n < many → BoxAt H' bx → Chg (fun b => b = bx.a) H H' → Q (.int n) H'
theorem ok_draw (T : TX K mg) : Cal P w K mg base CX0 1 "_law_draw" ["_law_box_here", "_law_many"] spDraw := by
  refine Cal.of T in_law_draw sc_law_draw bd_law_draw (fun vs H Q E h => ?_) (fun cdv A outer s H vs Q E hr h => ?_)
  · obtain ⟨a, b, rfl, _⟩ := h
    rfl
  · obtain ⟨bx, many, rfl, hBox, hm, k⟩ := h
    obtain ⟨at_, hb, hrw⟩ := id hBox
    have mint : mg "int" = none := T.fr (by decide +kernel)
    refine ⟨_, pss_cons (ps_set (i := 2) sc_law_draw.nd rfl (.inl rfl) (pe_ix ix_list (pv 0) pe_int (fun _ _ => rfl)))
      (pss_cons (ps_asg (pe_op op_add (pv 2) pe_int) (pg_sub (pv 0) pe_int set_list))
      (pss_cons (ps_if (pt_cmpR op_lt (pv 2) (pe_callB call_len (by rfl) (T.fr (by decide +kernel)) PySem.boot_len (pa_cons (pe_ix ix_list (pv 0) pe_int (fun _ _ => rfl)) pa_nil)) (nomark _))
        (pss_one (ps_ret (pe_op op_mod (pe_callTy call_int1 (by rfl) mint (by decide +kernel) (pa_cons (pe_ix ix_list (pe_ix ix_list (pv 0) pe_int (fun _ _ => rfl)) (pv 2) (fun _ _ => rfl)) pa_nil)) (pv 1)))) pss_nil)
      (pss_one (ps_ret (pe_op op_mod (pe_callTy call_int1 (by rfl) mint (by decide +kernel) (pa_cons (pe_op op_add (pe_op op_mul (pv 2) pe_int) pe_int) pa_nil)) (pv 1)))))), ?_⟩
    have nrb : bx.rw ≠ bx.a := hBox.ne
    refine ⟨_, rfl, bx.a, _, _, .int at_, rfl, rfl, app1 hb, atI_nat (j := 1) rfl, ?_⟩
    refine ⟨_, rfl, _, _, rfl, rfl, _, rfl, bx.a, _, _, 1, rfl, rfl, hb, rfl, ?_⟩
    have hrw2 : (upd H bx.a (.lst ([V.ref bx.rw, .int at_].set 1 (.int ((at_ : Int) + 1))))) bx.rw = some (.lst (bx.ns.map V.int)) := by
      rw [upd_ne nrb]
      exact hrw
    have hB : BoxAt (upd H bx.a (.lst ([V.ref bx.rw, .int at_].set 1 (.int ((at_ : Int) + 1))))) bx := ⟨at_ + 1, upd_same, hrw2⟩
    have cc : Chg (fun b => b = bx.a) H (upd H bx.a (.lst ([V.ref bx.rw, .int at_].set 1 (.int ((at_ : Int) + 1))))) := (Chg.refl H).put1
    refine ⟨_, rfl, _, rfl, bx.a, _, _, .ref bx.rw, rfl, rfl, app1 upd_same, atI_nat (j := 0) rfl, .ref bx.rw, _, rfl, .inl ⟨_, app1 hrw2, rfl⟩, _, _, rfl, rfl, _, rfl, ?_⟩
    rw [List.length_map]
    have fin : ∀ z : Int, 0 ≤ z % many ∧ z % many < many := fun z => ⟨Int.emod_nonneg _ (by omega), Int.emod_lt_of_pos _ hm⟩
    by_cases h : (at_ : Int) < (bx.ns.length : Nat)
    · rw [decide_eq_true h]
      have hk : at_ < bx.ns.length := by omega
      exact iteT ⟨_, rfl, bx.a, _, _, .ref bx.rw, rfl, rfl, app1 upd_same, atI_nat (j := 0) rfl, _, rfl, bx.rw, _, _, .int bx.ns[at_], rfl, rfl, app1 hrw2, atI_nat (by rw [List.getElem?_map, List.getElem?_eq_getElem hk] <;> rfl), .inl ⟨_, rfl, _, rfl, _, _, rfl, rfl, hm, k _ _ (fin _).1 (fin _).2 hB cc⟩⟩
    · rw [decide_eq_false h]
      exact iteF ⟨_, rfl, _, _, rfl, rfl, .inr ⟨by decide, by decide⟩, _, _, rfl, rfl, .inl ⟨_, rfl, _, rfl, _, _, rfl, rfl, hm, k _ _ (fin _).1 (fin _).2 hB cc⟩⟩
theorem ok_lfrac (T : TX K mg) : Cal P w K mg base CX0 1 "_law_frac" ["_law_top", "_law_bottom"] spFrac := by
  refine Cal.of T in_law_frac sc_law_frac bd_law_frac (fun vs H Q E h => ?_) (fun cdv A outer s H vs Q E hr h => ?_)
  · obtain ⟨a, b, rfl, _⟩ := h
    rfl
  · obtain ⟨a, b, rfl, hb, hb2, q⟩ := h
    obtain ⟨g0, g1⟩ := gcd_small (a := a) hb hb2
    have mint : mg "int" = none := T.fr (by decide +kernel)
    refine ⟨_, pss_cons (ps_set (i := 2) sc_law_frac.nd rfl (.inl rfl) (pe_callB call_abs (by rfl) (T.fr (by decide +kernel)) (by decide +kernel) (pa_cons (pv 0) pa_nil)))
      (pss_cons (ps_set (i := 3) sc_law_frac.nd rfl (.inl rfl) (pe_callB call_abs (by rfl) (T.fr (by decide +kernel)) (by decide +kernel) (pa_cons (pv 1) pa_nil)))
      (pss_cons (ps_while PassesOwn.never (pt_cmpR op_gt (pv 3) pe_int (nomark _)) (pss_one (ps_par (i := 2) (j := 3) rfl sc_law_frac.nd rfl rfl (by decide) rfl rfl (pa_cons (pv 3) (pa_cons (pe_op op_modN (pe_callTy call_int1 (by rfl) mint (by decide +kernel) (pa_cons (pv 2) pa_nil)) (pe_callTy call_int1 (by rfl) mint (by decide +kernel) (pa_cons (pv 3) pa_nil))) pa_nil)) (by rfl))))
      (pss_cons (ps_if (pt_cmpR op_lt (pv 1) pe_int (nomark _)) pss_never pss_nil)
      (pss_one (ps_ret (pe_tup (pa_cons (pe_op op_fdivN (pv 0) (pv 2)) (pa_cons (pe_op op_fdivN (pv 1) (pv 2)) pa_nil)))))))), ?_⟩
    refine ⟨_, rfl, a, rfl, _, rfl, b, rfl, ?_⟩
    rw [abs_nat, abs_nat]
    refine ⟨fun m σ H' => ∃ p r : Nat, σ = [some (.int a), some (.int b), some (.int p), some (.int r)] ∧ Int.gcd p r = Int.gcd a b ∧ m = r ∧ H' = H, ⟨b.natAbs, a.natAbs, b.natAbs, rfl, by rw [Int.gcd_natCast_natCast] <;> rfl, rfl, rfl⟩, ?_⟩
    rintro m σ H' ⟨p, r, rfl, hg, rfl, rfl⟩
    refine ⟨_, rfl, _, _, rfl, rfl, _, rfl, ?_⟩
    by_cases hr0 : m = 0
    · have e : decide ((m : Int) > 0) = false := decide_eq_false (by omega)
      rw [e]
      have e2 : (p : Int) = ((Int.gcd a b : Nat) : Int) := by
        rw [← hg, hr0]
        simp
      rw [e2]
      refine iteF ⟨_, rfl, _, _, rfl, rfl, _, rfl, ?_⟩
      rw [decide_eq_false (by omega)]
      refine iteF ⟨_, rfl, _, rfl, _, _, rfl, rfl, ⟨g0, g1⟩, _, rfl, _, rfl, _, _, rfl, rfl, ⟨g0, g1⟩, (by show 2 ≤ sizeLine; decide), fun t ht => ?_⟩
      have z := q t ht
      rw [fracQ_pos hb] at z
      exact z
    · have e : decide ((m : Int) > 0) = true := decide_eq_true (by omega)
      rw [e]
      refine iteT ⟨fun σ' H2 => ∃ p r : Nat, σ' = [some (.int a), some (.int b), some (.int p), some (.int r)] ∧ Int.gcd p r = Int.gcd a b ∧ r < m ∧ H2 = H', fun σ' H2 ⟨p', r', e1, e2, e3, e4⟩ => ⟨r', e3, p', r', e1, e2, rfl, e4⟩, ?_⟩
      refine ⟨_, rfl, _, rfl, .inl ⟨_, rfl, _, rfl, .inl ⟨_, rfl, _, _, rfl, rfl, (by omega), _, _, rfl, ?_⟩⟩⟩
      have em : (p : Int).fmod (m : Int) = ((p % m : Nat) : Int) := by
        rw [Int.fmod_eq_emod_of_nonneg _ (Int.natCast_nonneg m)]
        exact (Int.natCast_emod p m).symm
      refine ⟨m, p % m, ?_, ?_, Nat.mod_lt _ (by omega), rfl⟩
      · rw [← em] <;> rfl
      · rw [← em, gcd_step, hg]
def spLAdd (K : PySem.W.Frag) : Sp := fun vs H Q _ => ∃ (v1 v2 : V) (p q : Q2), vs = [v1, v2] ∧ Dp K H v1 (qD p) ∧ Dp K H v2 (qD q) ∧ Sml p ∧ Sml q ∧ ∀ t, H t = none → Q (.ref t) (upd H t (.tup [.int (addQ p q).1, .int (addQ p q).2]))
theorem ok_ladd (T : TX K mg) : Cal P w K mg base CX0 2 "_law_add" ["_law_one", "_law_other"] (spLAdd K) := by
  have GF : ∀ {P w base}, Cal P w K mg base CX0 1 "_law_frac" ["_law_top", "_law_bottom"] spFrac := ok_lfrac T
  refine Cal.of T in_law_add sc_law_add bd_law_add (fun vs H Q E h => ?_) (fun cdv A outer s H vs Q E hr h => ?_)
  · obtain ⟨a, b, c, d, rfl, _⟩ := h
    rfl
  · obtain ⟨v1, v2, p, q, rfl, h1, h2, hp, hq, k⟩ := h
    obtain ⟨a, rfl, ha⟩ := dp_q h1
    obtain ⟨b, rfl, hb⟩ := dp_q h2
    obtain ⟨p1, p2, p3, p4⟩ := hp
    obtain ⟨q1, q2, q3, q4⟩ := hq
    have hd0 : 0 < p.2 * q.2 := Int.mul_pos p1 q1
    have hd1 : p.2 * q.2 ≤ 900 * 900 := Int.mul_le_mul p2 q2 (by omega) (by omega)
    have h64 : (1000000 : Int) < 2 ^ 64 := by decide
    refine ⟨_, pss_one (ps_ret (pe_cal GF hr pass0 (pa_cons (pe_op op_add (pe_op op_mul (pe_ix ix_tup (pv 0) pe_int (fun _ _ => rfl)) (pe_ix ix_tup (pv 1) pe_int (fun _ _ => rfl))) (pe_op op_mul (pe_ix ix_tup (pv 1) pe_int (fun _ _ => rfl)) (pe_ix ix_tup (pv 0) pe_int (fun _ _ => rfl))))
      (pa_cons (pe_op op_mul (pe_ix ix_tup (pv 0) pe_int (fun _ _ => rfl)) (pe_ix ix_tup (pv 1) pe_int (fun _ _ => rfl))) pa_nil)))), ?_⟩
    exact ⟨_, rfl, a, _, _, .int p.1, rfl, rfl, ha, atI0, _, rfl, b, _, _, .int q.2, rfl, rfl, hb, atI_nat (j := 1) rfl, _, _, rfl, rfl, .inl (by constructor <;> omega),
      _, rfl, b, _, _, .int q.1, rfl, rfl, hb, atI0, _, rfl, a, _, _, .int p.2, rfl, rfl, ha, atI_nat (j := 1) rfl, _, _, rfl, rfl, .inl (by constructor <;> omega), _, _, rfl, rfl,
      _, rfl, a, _, _, .int p.2, rfl, rfl, ha, atI_nat (j := 1) rfl, _, rfl, b, _, _, .int q.2, rfl, rfl, hb, atI_nat (j := 1) rfl, _, _, rfl, rfl, .inl (by constructor <;> omega),
      _, _, rfl, hd0, by show p.2 * q.2 < 1000000; omega, k⟩
end
end RT
end
section
set_option Elab.async false
set_option linter.all false
set_option maxRecDepth 100000
set_option maxHeartbeats 2000000
/-! Z2: the law's elements. -/
namespace RT
open PySem PySem.Spec PyProof.Rows L2
section
variable {P : Program} {w : World} {K : PySem.W.Frag} {mg : Str → Option Value} {base : Heap}
theorem lift' {H Ha Hb Hf : Hp} {bx : Bx} {v : V} {d : PyData} (h : Dp K (New Ha Hb) v d) (a : Chg (fun b => b = bx.a) H Ha) (b : Chg (fun b => b = bx.a) Hb Hf) (hb : BoxAt Ha bx) : Dp K (New H Hf) v d :=
  lift h a b fun c hc => by
    rw [hc]
    exact hb.some_
theorem half_sml {n : Int} (h0 : 0 ≤ n) (h1 : n < 9) : Sml (fracQ n 2) := by
  have e : ∀ q ∈ halves, decide (0 < q.2 ∧ q.2 ≤ 900 ∧ -1000 ≤ q.1 ∧ q.1 ≤ 1000) = true := by decide +kernel
  have z := of_decide_eq_true (e _ (half_in h0 h1))
  exact z
theorem den_at (n : Int) (h0 : 0 ≤ n) (h1 : n < 4) : ∃ b : Int, b ∈ dens ∧ atI [V.int 1, V.int 1, V.int 2, V.int 3] n = some (.int b) ∧ 0 < b ∧ b < 1000000 := by
  have : n = 0 ∨ n = 1 ∨ n = 2 ∨ n = 3 := by omega
  rcases this with rfl | rfl | rfl | rfl
  · exact ⟨1, by decide, rfl, by decide, by decide⟩
  · exact ⟨1, by decide, rfl, by decide, by decide⟩
  · exact ⟨2, by decide, rfl, by decide, by decide⟩
  · exact ⟨3, by decide, rfl, by decide, by decide⟩
def spLFr (K : PySem.W.Frag) : Sp := fun vs H Q _ => ∃ bx : Bx, vs = [.ref bx.a] ∧ BoxAt H bx ∧ ∀ v q H', BoxAt H' bx → Chg (fun b => b = bx.a) H H' → q ∈ loQs → Dp K (New H H') v (qD q) → Q v H'
theorem ok_lfr (T : TX K mg) : Cal P w K mg base CX0 2 "_law_fraction" ["_law_box_here"] (spLFr K) := by
  have GD : ∀ {P w base}, Cal P w K mg base CX0 1 "_law_draw" ["_law_box_here", "_law_many"] spDraw := ok_draw T
  have GF : ∀ {P w base}, Cal P w K mg base CX0 1 "_law_frac" ["_law_top", "_law_bottom"] spFrac := ok_lfrac T
  refine Cal.of T in_law_fraction sc_law_fraction bd_law_fraction (fun vs H Q E h => ?_) (fun cdv A outer s H vs Q E hr h => ?_)
  · obtain ⟨a, rfl, _⟩ := h
    rfl
  · obtain ⟨bx, rfl, hB, k⟩ := h
    refine ⟨_, pss_one (ps_ret (pe_cal GF hr pass0 (pa_cons (pe_op op_sub (pe_cal GD hr pass0 (pa_cons (pv 0) (pa_cons pe_int pa_nil))) pe_int)
      (pa_cons (pe_ix ix_list (pe_lst (pa_cons pe_int (pa_cons pe_int (pa_cons pe_int (pa_cons pe_int pa_nil))))) (pe_cal GD hr pass0 (pa_cons (pv 0) (pa_cons pe_int pa_nil))) (fun _ _ => rfl)) pa_nil)))), ?_⟩
    refine ⟨_, rfl, bx, 9, rfl, hB, by decide, fun n1 H1 a0 a1 b1 c1 => ⟨_, _, rfl, rfl, by show 4 ≤ sizeLine; decide, fun l nl => ?_⟩⟩
    have s2 := same_new (o := .lst [.int 1, .int 1, .int 2, .int 3]) nl
    refine ⟨_, rfl, bx, 4, rfl, b1.same s2, by decide, fun n2 H2 a2 a3 b2 c2 => ?_⟩
    obtain ⟨b, g1, g2, g3, g4⟩ := den_at n2 a2 a3
    have nlb : l ≠ bx.a := fun z => by
      exact b1.some_ (z ▸ nl)
    refine ⟨l, _, _, .int b, rfl, rfl, app1 (c2.at upd_same nlb), g2, n1 - 4, b, rfl, g3, g4, fun t nt => ?_⟩
    have c02 : Chg (fun x => x = bx.a) H H2 := (c1.trans (Chg.of s2)).trans c2
    exact k (.ref t) (fracQ (n1 - 4) b) _ (b2.same (same_new nt)) (c02.new nt) (frac_in a0 a1 g1) (dp_qi (app2 (new_at (c02.free nt) upd_same)))
def spNz (K : PySem.W.Frag) : Sp := fun vs H Q _ => ∃ bx : Bx, vs = [.ref bx.a] ∧ BoxAt H bx ∧ ∀ v q H', BoxAt H' bx → Chg (fun b => b = bx.a) H H' → q ∈ loQs → q ≠ (0, 1) → Dp K (New H H') v (qD q) → Q v H'
theorem ok_nz (T : TX K mg) : Cal P w K mg base CX0 3 "_law_nonzero" ["_law_box_here"] (spNz K) := by
  have GF : ∀ {P w base}, Cal P w K mg base CX0 2 "_law_fraction" ["_law_box_here"] (spLFr K) := ok_lfr T
  refine Cal.of T in_law_nonzero sc_law_nonzero bd_law_nonzero (fun vs H Q E h => ?_) (fun cdv A outer s H vs Q E hr h => ?_)
  · obtain ⟨a, rfl, _⟩ := h
    rfl
  · obtain ⟨bx, rfl, hB, k⟩ := h
    refine ⟨_, pss_cons (ps_set (i := 1) sc_law_nonzero.nd rfl (.inl rfl) (pe_cal GF hr pass0 (pa_cons (pv 0) pa_nil)))
      (pss_cons (ps_if (pt_cmpR op_eq (pe_ix ix_tup (pv 1) pe_int (fun _ _ => rfl)) pe_int (nomark _)) (pss_one (ps_ret (pe_tup (pa_cons pe_int (pa_cons pe_int pa_nil))))) pss_nil) (pss_one (ps_ret (pv 1)))), ?_⟩
    refine ⟨_, rfl, bx, rfl, hB, fun v q H1 b1 c1 hq d1 => ?_⟩
    obtain ⟨a, rfl, ha⟩ := dp_q (dp_mono new_le d1)
    refine ⟨_, rfl, a, _, _, .int q.1, rfl, rfl, ha, atI0, rfl, _, rfl, ?_⟩
    by_cases h : q.1 = 0
    · rw [decide_eq_true (congrArg V.int h)]
      refine iteT ⟨by show 2 ≤ sizeLine; decide, fun t nt => ?_⟩
      exact k (.ref t) (1, 2) _ (b1.same (same_new nt)) (c1.new nt) lo_half (by decide) (dp_qi (app2 (new_at (c1.free nt) upd_same)))
    · rw [decide_eq_false (fun z => h (V.int.inj z))]
      exact iteF ⟨_, rfl, k _ q H1 b1 c1 hq (fun z => h (by rw [z])) d1⟩
def spLEl (K : PySem.W.Frag) : Sp := fun vs H Q _ => ∃ bx : Bx, vs = [.ref bx.a] ∧ BoxAt H bx ∧ ∀ v e H', BoxAt H' bx → Chg (fun b => b = bx.a) H H' → GoodEl e → Dp K (New H H') v (elD e) → Q v H'
theorem ok_lstop (T : TX K mg) : Cal P w K mg base CX0 3 "_law_stop" ["_law_box_here"] (spLEl K) := by
  have GD : ∀ {P w base}, Cal P w K mg base CX0 1 "_law_draw" ["_law_box_here", "_law_many"] spDraw := ok_draw T
  have GF : ∀ {P w base}, Cal P w K mg base CX0 2 "_law_fraction" ["_law_box_here"] (spLFr K) := ok_lfr T
  have GR : ∀ {P w base}, Cal P w K mg base CX0 1 "_law_frac" ["_law_top", "_law_bottom"] spFrac := ok_lfrac T
  have GA : ∀ {P w base}, Cal P w K mg base CX0 2 "_law_add" ["_law_one", "_law_other"] (spLAdd K) := ok_ladd T
  refine Cal.of T in_law_stop sc_law_stop bd_law_stop (fun vs H Q E h => ?_) (fun cdv A outer s H vs Q E hr h => ?_)
  · obtain ⟨a, rfl, _⟩ := h
    rfl
  · obtain ⟨bx, rfl, hB, k⟩ := h
    refine ⟨_, pss_cons (ps_set (i := 1) sc_law_stop.nd rfl (.inl rfl) (pe_cal GF hr pass0 (pa_cons (pv 0) pa_nil)))
      (pss_cons (ps_set (i := 2) sc_law_stop.nd rfl (.inl rfl) (pe_cal GA hr pass0 (pa_cons (pv 1) (pa_cons (pe_cal GR (hr.mono (by decide)) pass0 (pa_cons (pe_cal GD (hr.mono (by decide)) pass0 (pa_cons (pv 0) (pa_cons pe_int pa_nil))) (pa_cons pe_int pa_nil))) pa_nil))))
      (pss_cons (ps_set (i := 3) sc_law_stop.nd rfl (.inl rfl) (pe_cal GD (hr.mono (by decide)) pass0 (pa_cons (pv 0) (pa_cons pe_int pa_nil))))
      (pss_cons (ps_if (pt_cmpR op_eq (pv 3) pe_int (nomark _)) (pss_one (ps_ret (pe_tup (pa_cons pe_str (pa_cons pe_non (pa_cons (pv 2) pa_nil)))))) pss_nil)
      (pss_cons (ps_if (pt_cmpR op_eq (pv 3) pe_int (nomark _)) (pss_one (ps_ret (pe_tup (pa_cons pe_str (pa_cons (pv 1) (pa_cons pe_non pa_nil)))))) pss_nil)
      (pss_one (ps_ret (pe_tup (pa_cons pe_str (pa_cons (pv 1) (pa_cons (pv 2) pa_nil)))))))))), ?_⟩
    refine ⟨_, rfl, bx, rfl, hB, fun vl lq H1 b1 c1 hq d1 => ?_⟩
    refine ⟨_, rfl, _, rfl, bx, 9, rfl, b1, by decide, fun n2 H2 a0 a1 b2 c2 => ⟨n2, 2, rfl, by decide, by decide, fun u nu => ?_⟩⟩
    have s3 := same_new (o := .tup [.int (fracQ n2 2).1, .int (fracQ n2 2).2]) nu
    have someB : ∀ {Hx : Hp}, BoxAt Hx bx → ∀ c, c = bx.a → Hx c ≠ none := fun hb c hc => by
      rw [hc]
      exact hb.some_
    have c23 : Chg (fun b => b = bx.a) H1 (upd H2 u (.tup [.int (fracQ n2 2).1, .int (fracQ n2 2).2])) := c2.trans (Chg.of s3)
    have dl3 : Dp K (New H (upd H2 u (.tup [.int (fracQ n2 2).1, .int (fracQ n2 2).2]))) vl (qD lq) := lift' d1 (Chg.refl H) c23 hB
    refine ⟨_, _, lq, fracQ n2 2, rfl, dp_mono new_le dl3, dp_qi (app2 upd_same), good_sml (lo_good hq), half_sml a0 a1, fun t nt => ?_⟩
    have s4 := same_new (o := .tup [.int (addQ lq (fracQ n2 2)).1, .int (addQ lq (fracQ n2 2)).2]) nt
    have c04 : Chg (fun b => b = bx.a) H (upd (upd H2 u (.tup [.int (fracQ n2 2).1, .int (fracQ n2 2).2])) t (.tup [.int (addQ lq (fracQ n2 2)).1, .int (addQ lq (fracQ n2 2)).2])) := (c1.trans c23).trans (Chg.of s4)
    have du4 : Dp K (New H (upd (upd H2 u (.tup [.int (fracQ n2 2).1, .int (fracQ n2 2).2])) t (.tup [.int (addQ lq (fracQ n2 2)).1, .int (addQ lq (fracQ n2 2)).2]))) (.ref t) (qD (addQ lq (fracQ n2 2))) := dp_qi (app2 (new_at ((c1.trans c23).free nt) upd_same))
    refine ⟨_, rfl, bx, 8, rfl, (b2.same s3).same s4, by decide, fun n5 H5 a2 a3 b5 c5 => ?_⟩
    have three : ∀ a b c : V, [a, b, c].length ≤ sizeLine := fun _ _ _ => by show 3 ≤ sizeLine; decide
    have c05 := c04.trans c5
    have dl5 : ∀ {Hf : Hp}, Chg (fun b => b = bx.a) H5 Hf → Dp K (New H Hf) vl (qD lq) := fun c => lift' d1 (Chg.refl H) (((c23.trans (Chg.of s4)).trans c5).trans c) hB
    have du5 : ∀ {Hf : Hp}, Chg (fun b => b = bx.a) H5 Hf → Dp K (New H Hf) (.ref t) (qD (addQ lq (fracQ n2 2))) := fun c => lift' du4 (Chg.refl H) (c5.trans c) hB
    have fin : ∀ (y1 y2 : V) (e : El) (d1 d2 : PyData), elD e = .tuple [.str "stop", d1, d2] → GoodEl e → (∀ {Hf : Hp}, Chg (fun b => b = bx.a) H5 Hf → Dp K (New H Hf) y1 d1) → (∀ {Hf : Hp}, Chg (fun b => b = bx.a) H5 Hf → Dp K (New H Hf) y2 d2) → ∀ r, H5 r = none → Q (.ref r) (upd H5 r (.tup [.str "stop", y1, y2])) := fun y1 y2 e d1 d2 he hg q1 q2 r nr => by
      have cn : Chg (fun b => b = bx.a) H5 (upd H5 r (.tup [.str "stop", y1, y2])) := (Chg.refl H5).new nr
      refine k (.ref r) e _ (b5.same (same_new nr)) (c05.trans cn) hg ?_
      rw [he]
      exact .tup (app2 (new_at (c05.free nr) upd_same)) (.cons (.str _) (.cons (q1 cn) (.cons (q2 cn) .nil)))
    have hup := up_in hq a0 a1
    refine ⟨_, rfl, rfl, _, rfl, ite2 (fun _ => ?_) (fun _ => ⟨_, rfl, rfl, _, rfl, ite2 (fun _ => ?_) (fun _ => ?_)⟩)⟩
    · exact ⟨_, rfl, three _ _ _, fin _ _ (.stop none (some (addQ lq (fracQ n2 2)))) _ _ rfl hup (fun _ => .non) du5⟩
    · exact ⟨_, rfl, three _ _ _, fin _ _ (.stop (some lq) none) _ _ rfl hq dl5 (fun _ => .non)⟩
    · exact ⟨_, rfl, _, rfl, three _ _ _, fin _ _ (.stop (some lq) (some (addQ lq (fracQ n2 2)))) _ _ rfl ⟨hq, hup, up_less hq a0 a1⟩ dl5 du5⟩
theorem ok_lel (T : TX K mg) : Cal P w K mg base CX0 4 "_law_element" ["_law_box_here"] (spLEl K) := by
  have GD : ∀ {P w base}, Cal P w K mg base CX0 1 "_law_draw" ["_law_box_here", "_law_many"] spDraw := ok_draw T
  have GF : ∀ {P w base}, Cal P w K mg base CX0 2 "_law_fraction" ["_law_box_here"] (spLFr K) := ok_lfr T
  have GN : ∀ {P w base}, Cal P w K mg base CX0 3 "_law_nonzero" ["_law_box_here"] (spNz K) := ok_nz T
  have GS : ∀ {P w base}, Cal P w K mg base CX0 3 "_law_stop" ["_law_box_here"] (spLEl K) := ok_lstop T
  refine Cal.of T in_law_element sc_law_element bd_law_element (fun vs H Q E h => ?_) (fun cdv A outer s H vs Q E hr h => ?_)
  · obtain ⟨a, rfl, _⟩ := h
    rfl
  · obtain ⟨bx, rfl, hB, k⟩ := h
    refine ⟨_, pss_cons (ps_set (i := 1) sc_law_element.nd rfl (.inl rfl) (pe_cal GD (hr.mono (by decide)) pass0 (pa_cons (pv 0) (pa_cons pe_int pa_nil))))
      (pss_cons (ps_if (pt_cmpR op_lt (pv 1) pe_int (nomark _)) (pss_one (ps_ret (pe_tup (pa_cons pe_str (pa_cons (pe_cal GF (hr.mono (by decide)) pass0 (pa_cons (pv 0) pa_nil)) pa_nil))))) pss_nil)
      (pss_cons (ps_if (pt_cmpR op_lt (pv 1) pe_int (nomark _)) (pss_one (ps_ret (pe_tup (pa_cons pe_str (pa_cons (pe_cal GF (hr.mono (by decide)) pass0 (pa_cons (pv 0) pa_nil))
        (pa_cons (pe_ix ix_list (pe_lst (pa_cons (pe_tup (pa_cons pe_int (pa_cons pe_int pa_nil))) (pa_cons (pe_cal GF (hr.mono (by decide)) pass0 (pa_cons (pv 0) pa_nil)) pa_nil))) (pe_cal GD (hr.mono (by decide)) pass0 (pa_cons (pv 0) (pa_cons pe_int pa_nil))) (fun _ _ => rfl)) pa_nil)))))) pss_nil)
      (pss_cons (ps_if (pt_cmpR op_eq (pv 1) pe_int (nomark _)) (pss_one (ps_ret (pe_tup (pa_cons pe_str (pa_cons (pe_cal GF (hr.mono (by decide)) pass0 (pa_cons (pv 0) pa_nil)) pa_nil))))) pss_nil)
      (pss_cons (ps_if (pt_cmpR op_eq (pv 1) pe_int (nomark _)) (pss_one (ps_ret (pe_tup (pa_cons pe_str (pa_cons (pe_cal GN hr pass0 (pa_cons (pv 0) pa_nil)) pa_nil))))) pss_nil)
      (pss_one (ps_ret (pe_cal GS hr pass0 (pa_cons (pv 0) pa_nil)))))))), ?_⟩
    refine ⟨_, rfl, bx, 9, rfl, hB, by decide, fun n1 H1 a0 a1 b1 c1 => ?_⟩
    have two : ∀ a b : V, [a, b].length ≤ sizeLine := fun _ _ => by show 2 ≤ sizeLine; decide
    have pair : ∀ (wd : Str) (e : El) (v : V) (q : Q2) (H2 : Hp), elD e = .tuple [.str wd, qD q] → GoodEl e → BoxAt H2 bx → Chg (fun b => b = bx.a) H1 H2 → Dp K (New H1 H2) v (qD q) → ∀ t, H2 t = none → Q (.ref t) (upd H2 t (.tup [.str wd, v])) := fun wd e v q H2 he hg b2 c2 d2 t nt => by
      have cn : Chg (fun b => b = bx.a) H2 (upd H2 t (.tup [.str wd, v])) := (Chg.refl H2).new nt
      refine k (.ref t) e _ (b2.same (same_new nt)) ((c1.trans c2).trans cn) hg ?_
      rw [he]
      exact .tup (app2 (new_at ((c1.trans c2).free nt) upd_same)) (.cons (.str _) (.cons (lift' d2 c1 cn b1) .nil))
    refine ⟨_, rfl, _, _, rfl, rfl, _, rfl, ite2 (fun _ => ?_) (fun _ => ⟨_, rfl, _, _, rfl, rfl, _, rfl, ite2 (fun _ => ?_) (fun _ => ⟨_, rfl, rfl, _, rfl, ite2 (fun _ => ?_) (fun _ => ⟨_, rfl, rfl, _, rfl, ite2 (fun _ => ?_) (fun _ => ?_)⟩)⟩)⟩)⟩
    · exact ⟨_, rfl, bx, rfl, b1, fun v q H2 b2 c2 hq d2 => ⟨two _ _, pair "gap" (.gap q) v q H2 rfl hq b2 c2 d2⟩⟩
    · refine ⟨_, rfl, bx, rfl, b1, fun v q H2 b2 c2 hq d2 => ⟨two _ _, fun z nz => ?_⟩⟩
      have s3 := same_new (o := .tup [.int 0, .int 1]) nz
      refine ⟨_, rfl, bx, rfl, b2.same s3, fun v2 q2 H3 b3 c3 hq2 d3 => ⟨two _ _, fun l nl => ?_⟩⟩
      have s4 := same_new (o := .lst [.ref z, v2]) nl
      refine ⟨_, rfl, bx, 2, rfl, b3.same s4, by decide, fun n5 H5 a2 a3 b5 c5 => ?_⟩
      have nlb : l ≠ bx.a := fun y => by
        exact b3.some_ (y ▸ nl)
      have hl5 := c5.at (upd_same (H := H3) (a := l) (o := .lst [.ref z, v2])) nlb
      have three : ∀ a b c : V, [a, b, c].length ≤ sizeLine := fun _ _ _ => by show 3 ≤ sizeLine; decide
      have c45 : Chg (fun b => b = bx.a) H3 H5 := (Chg.of s4).trans c5
      have c35 : Chg (fun b => b = bx.a) (upd H2 z (.tup [.int 0, .int 1])) H5 := c3.trans c45
      have c25 : Chg (fun b => b = bx.a) H2 H5 := (Chg.of s3).trans c35
      have c02 := c1.trans c2
      have c05 := c02.trans c25
      have dz : Dp K (New H (upd H2 z (.tup [.int 0, .int 1]))) (.ref z) (qD (0, 1)) := dp_qi (app2 (new_at (c02.free nz) upd_same))
      have fin : ∀ (y : V) (cq : Q2), cq ∈ loQs → (∀ {Hf : Hp}, Chg (fun b => b = bx.a) H5 Hf → Dp K (New H Hf) y (qD cq)) → ∀ t, H5 t = none → Q (.ref t) (upd H5 t (.tup [.str "lens", v, y])) := fun y cq hcq dy t nt => by
        have cn : Chg (fun b => b = bx.a) H5 (upd H5 t (.tup [.str "lens", v, y])) := (Chg.refl H5).new nt
        exact k (.ref t) (.lens q cq) _ (b5.same (same_new nt)) (c05.trans cn) ⟨hq, hcq⟩ (.tup (app2 (new_at (c05.free nt) upd_same)) (.cons (.str _) (.cons (lift' d2 c1 (c25.trans cn) b1) (.cons (dy cn) .nil))))
      have hn : n5 = 0 ∨ n5 = 1 := by omega
      rcases hn with rfl | rfl
      · exact ⟨l, _, _, .ref z, rfl, rfl, app1 hl5, atI0, three _ _ _, fin _ _ lo_zero fun c => lift' dz (Chg.refl H) (c35.trans c) hB⟩
      · exact ⟨l, _, _, v2, rfl, rfl, app1 hl5, atI_nat (j := 1) rfl, three _ _ _, fin _ _ hq2 fun c => lift' d3 (c02.trans (Chg.of s3)) (c45.trans c) (b2.same s3)⟩
    · exact ⟨_, rfl, bx, rfl, b1, fun v q H2 b2 c2 hq d2 => ⟨two _ _, pair "prism" (.prism q) v q H2 rfl hq b2 c2 d2⟩⟩
    · exact ⟨_, rfl, bx, rfl, b1, fun v q H2 b2 c2 hq hz d2 => ⟨two _ _, pair "afocal" (.afocal q) v q H2 rfl ⟨hq, hz⟩ b2 c2 d2⟩⟩
    · exact ⟨_, rfl, bx, rfl, b1, fun v e H2 b2 c2 hg d2 => k v e H2 b2 (c1.trans c2) hg (lift' d2 c1 (Chg.refl H2) b1)⟩
theorem sc_ltrain : FnScope ["_law_box_here", "_law_most", "_law_turn"] ["_law_box_here", "_law_most"] (defScope (top 70)) := ⟨rfl, rfl, rfl, by decide +kernel, rfl, by decide +kernel, by decide +kernel⟩
def spLTrain (K : PySem.W.Frag) : Sp := fun vs H Q _ => ∃ (bx : Bx) (most : Nat), vs = [.ref bx.a, .int most] ∧ BoxAt H bx ∧ most ≤ 20 ∧ ∀ t xs (Tr : List El) H', BoxAt H' bx → Chg (fun b => b = bx.a) H H' → H t = none → H' t = some (.lst xs) → DpAll K (New H H') xs (Tr.map elD) → (∀ e ∈ Tr, GoodEl e) → Tr.length ≤ most → Q (.ref t) H'
theorem ok_ltrain (T : TX K mg) : Cal P w K mg base CX0 5 "_law_train" ["_law_box_here", "_law_most"] (spLTrain K) := by
  have GD : ∀ {P w base}, Cal P w K mg base CX0 1 "_law_draw" ["_law_box_here", "_law_many"] spDraw := ok_draw T
  have GE : ∀ {P w base}, Cal P w K mg base CX0 4 "_law_element" ["_law_box_here"] (spLEl K) := ok_lel T
  refine Cal.of T in_law_train sc_ltrain bd_law_train (fun vs H Q E h => ?_) (fun cdv A outer s H vs Q E hr h => ?_)
  · obtain ⟨a, b, rfl, _⟩ := h
    rfl
  · obtain ⟨bx, most, rfl, hB, hm, k⟩ := h
    refine ⟨_, pss_one (ps_ret (pe_lc (own := [("_law_turn", 2)]) (g := gName 2) (tt := tYes) (by rfl) sc_ltrain.nd (pi_range1 rfl (T.fr (by decide +kernel)) (pa_cons (pe_cal GD (hr.mono (by decide)) pass0 (pa_cons (pv 0) (pa_cons (pe_op op_add (pv 1) pe_int) pa_nil))) pa_nil))
      (blkOk_by (own := [("_law_turn", 2)]) (N := ["_law_box_here", "_law_most", "_law_turn"]) (sc := defScope (top 70)) (by decide +kernel)) (fun _ _ _ _ _ => pg_name (i := 2) sc_ltrain.nd rfl (Or.inl rfl)) (fun _ _ _ _ _ => pts_nil) (fun _ _ _ _ _ => pe_cal GE hr pass0 (pa_cons (pv 0) pa_nil)))), ?_⟩
    refine ⟨_, rfl, _, rfl, _, _, rfl, rfl, bx, (most : Int) + 1, rfl, hB, by omega, fun n H1 a0 a1 b1 c1 => ⟨n, rfl, by omega, by omega, fun D nD => ?_⟩⟩
    have nDa : D ≠ bx.a := fun z => b1.some_ (z ▸ nD)
    have nDr : D ≠ bx.rw := fun z => by
      obtain ⟨_, _, e⟩ := b1
      rw [← z, nD] at e
      cases e
    have s1 := same_new (o := .lst []) nD
    have someD : ∀ {Hx : Hp}, Chg (fun b => b = bx.a ∨ b = D) (upd H1 D (.lst [])) Hx → ∀ c, (c = bx.a ∨ c = D) → Hx c ≠ none := fun c x hx => c.2 x (by
      rcases hx with z | z
      · rw [z]
        exact (b1.same s1).some_
      · rw [z, upd_same]
        simp)
    refine lc_range (lo := 0) (n := n.toNat) (fun i H' => BoxAt H' bx ∧ Chg (fun b => b = bx.a ∨ b = D) (upd H1 D (.lst [])) H' ∧ ∃ (acc : List V) (Tr : List El), H' D = some (.lst acc) ∧ DpAll K (New (upd H1 D (.lst [])) H') acc (Tr.map elD) ∧ (∀ e ∈ Tr, GoodEl e) ∧ Tr.length ≤ i)
      ⟨b1.same s1, Chg.refl _, [], [], upd_same, .nil, by simp, Nat.le_refl _⟩ ?_ ?_
    · rintro i H' hi ⟨b', c', acc, Tr, hD, hacc, hg, hl⟩
      refine ⟨rfl, _, rfl, bx, rfl, b', fun v e H2 b2 c2 he d2 => ?_⟩
      have c2' : Chg (fun b => b = bx.a ∨ b = D) H' H2 := c2.mono fun _ _ z => .inl z
      have cP : Chg (fun b => b = bx.a ∨ b = D) H2 (upd H2 D (.lst (acc ++ [v]))) := (Chg.refl H2).put (.inr rfl)
      have al : acc.length ≤ 100 := by
        rw [dpAll_len hacc, List.length_map]
        omega
      refine ⟨acc, c2.at hD nDa, Nat.lt_of_le_of_lt al (by decide), b2.off nDa nDr, (c'.trans c2').trans cP, acc ++ [v], Tr ++ [e], upd_same, ?_, ?_, ?_⟩
      · rw [List.map_append]
        exact dpAll_app (dpAll_mono (new_mono (Chg.refl (M := fun b => b = bx.a ∨ b = D) _) (c2'.trans cP) (someD (Chg.refl _))) hacc) (.cons (lift d2 c' cP (someD c')) .nil)
      · intro x hx
        rcases List.mem_append.mp hx with z | z
        · exact hg x z
        · rw [List.mem_singleton.mp z]
          exact he
      · rw [List.length_append]
        show Tr.length + 1 ≤ i + 1
        omega
    · rintro H' ⟨b', c', acc, Tr, hD, hacc, hg, hl⟩
      have cH : Chg (fun b => b = bx.a) H H' := ((c1.mono fun _ _ z => (Or.inl z : _ = bx.a ∨ _ = D)).trans ((Chg.of s1).trans c')).mono fun x hx z => by
        rcases z with z | z
        · exact z
        · rw [z] at hx
          exact absurd (c1.free nD) hx
      refine k D acc Tr H' b' cH (c1.free nD) hD (dpAll_mono (new_mono (c1.trans (Chg.of s1)) (Chg.refl H') fun c hc => ?_) hacc) hg (by omega)
      rw [hc]
      exact (b1.same s1).some_
end
end RT
end
section
set_option Elab.async false
set_option linter.all false
set_option maxRecDepth 100000
set_option maxHeartbeats 2000000
/-! Z3: the law's operations. -/
namespace RT
open PySem PySem.Spec PyProof.Rows L2
section
variable {P : Program} {w : World} {K : PySem.W.Frag} {mg : Str → Option Value} {base : Heap}
def spLOp (K : PySem.W.Frag) : Sp := fun vs H Q _ => ∃ (bx : Bx) (many : Nat), vs = [.ref bx.a, .int many] ∧ BoxAt H bx ∧ many ≤ 50 ∧ ∀ v o H', BoxAt H' bx → Chg (fun b => b = bx.a) H H' → ElOp o → (idxO o).natAbs ≤ 100 → Dp K (New H H') v (opD o) → Q v H'
theorem ok_lop (T : TX K mg) : Cal P w K mg base CX0 5 "_law_operation" ["_law_box_here", "_law_many"] (spLOp K) := by
  have GD : ∀ {P w base}, Cal P w K mg base CX0 1 "_law_draw" ["_law_box_here", "_law_many"] spDraw := ok_draw T
  have GE : ∀ {P w base}, Cal P w K mg base CX0 4 "_law_element" ["_law_box_here"] (spLEl K) := ok_lel T
  refine Cal.of T in_law_operation sc_law_operation bd_law_operation (fun vs H Q E h => ?_) (fun cdv A outer s H vs Q E hr h => ?_)
  · obtain ⟨a, b, rfl, _⟩ := h
    rfl
  · obtain ⟨bx, many, rfl, hB, hm, k⟩ := h
    refine ⟨_, pss_cons (ps_set (i := 2) sc_law_operation.nd rfl (.inl rfl) (pe_cal GD (hr.mono (by decide)) pass0 (pa_cons (pv 0) (pa_cons pe_int pa_nil))))
      (pss_cons (ps_set (i := 3) sc_law_operation.nd rfl (.inl rfl) (pe_cal GD (hr.mono (by decide)) pass0 (pa_cons (pv 0) (pa_cons (pe_op op_add (pv 1) pe_int) pa_nil))))
      (pss_cons (ps_if (pt_cmpR op_eq (pe_cal GD (hr.mono (by decide)) pass0 (pa_cons (pv 0) (pa_cons pe_int pa_nil))) pe_int (nomark _))
        (pss_one (ps_set (i := 3) sc_law_operation.nd rfl (.inl rfl) (pe_ix ix_list (pe_lst (pa_cons (pe_un un_neg pe_int) (pa_cons (pe_op op_add (pv 1) pe_int) (pa_cons (pv 1) (pa_cons pe_int pa_nil))))) (pe_cal GD (hr.mono (by decide)) pass0 (pa_cons (pv 0) (pa_cons pe_int pa_nil))) (fun _ _ => rfl)))) pss_nil)
      (pss_cons (ps_if (pt_cmpR op_lt (pv 2) pe_int (nomark _)) (pss_one (ps_ret (pe_tup (pa_cons pe_str (pa_cons (pv 3) (pa_cons (pe_cal GE hr pass0 (pa_cons (pv 0) pa_nil)) pa_nil)))))) pss_nil)
      (pss_cons (ps_if (pt_cmpR op_lt (pv 2) pe_int (nomark _)) (pss_one (ps_ret (pe_tup (pa_cons pe_str (pa_cons (pv 3) pa_nil))))) pss_nil)
      (pss_cons (ps_if (pt_cmpR op_lt (pv 2) pe_int (nomark _)) (pss_one (ps_ret (pe_tup (pa_cons pe_str (pa_cons (pv 3) (pa_cons (pe_cal GE hr pass0 (pa_cons (pv 0) pa_nil)) pa_nil)))))) pss_nil)
      (pss_one (ps_ret (pe_tup (pa_cons pe_str pa_nil))))))))), ?_⟩
    have three : ∀ a b c : V, [a, b, c].length ≤ sizeLine := fun _ _ _ => by show 3 ≤ sizeLine; decide
    -- what follows the index
    have fin : ∀ (kd ix : Int) (H4 : Hp), ix.natAbs ≤ 100 → BoxAt H4 bx → Chg (fun b => b = bx.a) H H4 →
        tSeq (tIfS (tTest (tOp (rI0 fun i j => .bl (decide (i < j))) (tVar 2) (tC (.int 4)))) (tRet (tTup (tCons (tC (.str "put")) (tCons (tVar 3) (tCons (tCall (spLEl K) [] E0 (tCons (tVar 0) tNil)) tNil))))) tNext)
          (tSeq (tIfS (tTest (tOp (rI0 fun i j => .bl (decide (i < j))) (tVar 2) (tC (.int 6)))) (tRet (tTup (tCons (tC (.str "take")) (tCons (tVar 3) tNil)))) tNext)
          (tSeq (tIfS (tTest (tOp (rI0 fun i j => .bl (decide (i < j))) (tVar 2) (tC (.int 8)))) (tRet (tTup (tCons (tC (.str "exchange")) (tCons (tVar 3) (tCons (tCall (spLEl K) [] E0 (tCons (tVar 0) tNil)) tNil))))) tNext)
          (tRet (tTup (tCons (tC (.str "undo")) tNil))))) { nx := fun _ H' => Q .non H', rt := Q } [some (.ref bx.a), some (.int many), some (.int kd), some (.int ix)] H4 := by
      intro kd ix H4 hix b4 c4
      refine ⟨_, rfl, _, _, rfl, rfl, _, rfl, ite2 (fun _ => ?_) (fun _ => ⟨_, rfl, _, _, rfl, rfl, _, rfl, ite2 (fun _ => ?_) (fun _ => ⟨_, rfl, _, _, rfl, rfl, _, rfl, ite2 (fun _ => ?_) (fun _ => ?_)⟩)⟩)⟩
      · refine ⟨_, rfl, _, rfl, bx, rfl, b4, fun v e H5 b5 c5 he d5 => ⟨three _ _ _, fun t nt => ?_⟩⟩
        have cn : Chg (fun b => b = bx.a) H5 (upd H5 t (.tup [.str "put", .int ix, v])) := (Chg.refl H5).new nt
        exact k (.ref t) (.put ix e) _ (b5.same (same_new nt)) ((c4.trans c5).trans cn) he hix (.tup (app2 (new_at ((c4.trans c5).free nt) upd_same)) (.cons (.str _) (.cons (.int _) (.cons (lift' d5 c4 cn b4) .nil))))
      · refine ⟨_, rfl, (by show 2 ≤ sizeLine; decide), fun t nt => ?_⟩
        exact k (.ref t) (.take ix) _ (b4.same (same_new nt)) (c4.new nt) trivial hix (.tup (app2 (new_at (c4.free nt) upd_same)) (.cons (.str _) (.cons (.int _) .nil)))
      · refine ⟨_, rfl, _, rfl, bx, rfl, b4, fun v e H5 b5 c5 he d5 => ⟨three _ _ _, fun t nt => ?_⟩⟩
        have cn : Chg (fun b => b = bx.a) H5 (upd H5 t (.tup [.str "exchange", .int ix, v])) := (Chg.refl H5).new nt
        exact k (.ref t) (.exch ix e) _ (b5.same (same_new nt)) ((c4.trans c5).trans cn) he hix (.tup (app2 (new_at ((c4.trans c5).free nt) upd_same)) (.cons (.str _) (.cons (.int _) (.cons (lift' d5 c4 cn b4) .nil))))
      · refine ⟨(by show 1 ≤ sizeLine; decide), fun t nt => ?_⟩
        exact k (.ref t) .undo _ (b4.same (same_new nt)) (c4.new nt) trivial (by decide) (.tup (app2 (new_at (c4.free nt) upd_same)) (.cons (.str _) .nil))
    refine ⟨_, rfl, bx, 9, rfl, hB, by decide, fun kd H1 a0 a1 b1 c1 => ?_⟩
    refine ⟨_, rfl, _, rfl, _, _, rfl, rfl, bx, (many : Int) + 1, rfl, b1, by omega, fun ix H2 a2 a3 b2 c2 => ?_⟩
    refine ⟨_, rfl, bx, 8, rfl, b2, by decide, fun n3 H3 a4 a5 b3 c3 => ⟨rfl, _, rfl, ite2 (fun _ => ?_) (fun _ => ?_)⟩⟩
    · refine ⟨_, rfl, _, rfl, _, _, rfl, rfl, _, rfl, (by show 4 ≤ sizeLine; decide), fun l nl => ?_⟩
      have s4 := same_new (o := .lst [.int (-1), .int ((many : Int) + 1), .int many, .int 30]) nl
      refine ⟨_, rfl, bx, 4, rfl, b3.same s4, by decide, fun n5 H5 a6 a7 b5 c5 => ?_⟩
      have nla : l ≠ bx.a := fun z => b3.some_ (z ▸ nl)
      have hl5 := c5.at (upd_same (H := H3) (a := l) (o := .lst [.int (-1), .int ((many : Int) + 1), .int many, .int 30])) nla
      have hc : ∃ y : Int, atI [V.int (-1), V.int ((many : Int) + 1), V.int many, V.int 30] n5 = some (.int y) ∧ y.natAbs ≤ 100 := by
        have : n5 = 0 ∨ n5 = 1 ∨ n5 = 2 ∨ n5 = 3 := by omega
        rcases this with rfl | rfl | rfl | rfl
        · exact ⟨-1, rfl, by decide⟩
        · exact ⟨(many : Int) + 1, rfl, by omega⟩
        · exact ⟨many, rfl, by omega⟩
        · exact ⟨30, rfl, by decide⟩
      obtain ⟨y, hy, hy2⟩ := hc
      refine ⟨l, _, _, .int y, rfl, rfl, app1 hl5, hy, ?_⟩
      exact fin kd y H5 hy2 b5 (((c1.trans c2).trans c3).trans ((Chg.of s4).trans c5))
    · exact fin kd ix H3 (by omega) b3 ((c1.trans c2).trans c3)
def lrKvs : List (Key × V) := [(Sum.inr "put", .int 1), (Sum.inr "take", .int 2), (Sum.inr "exchange", .int 3)]
theorem lr_put : valV (mergeK [] lrKvs) (Sum.inr ("put" : Str)) = some (.int 1) := by rfl
theorem lr_take : valV (mergeK [] lrKvs) (Sum.inr ("take" : Str)) = some (.int 2) := by rfl
theorem lr_exch : valV (mergeK [] lrKvs) (Sum.inr ("exchange" : Str)) = some (.int 3) := by rfl
theorem sc_lrec : FnScope ["_law_operation_here", "_law_body", "_law_sign"] ["_law_operation_here"] (defScope (top 74)) := ⟨rfl, rfl, rfl, by decide +kernel, rfl, by decide +kernel, by decide +kernel⟩
theorem ok_lrec (T : TX K mg) : Cal P w K mg base CX0 4 "_law_record" ["_law_operation_here"] (spRec K) := by
  have GF : ∀ {P w base}, Cal P w K mg base CX0 3 "format_train" ["train"] (spFmtT K) := ok_fmtT T
  refine Cal.of T in_law_record sc_lrec bd_law_record (fun vs H Q E h => ?_) (fun cdv A outer s H vs Q E hr h => ?_)
  · obtain ⟨a, b, rfl, _⟩ := h
    rfl
  · obtain ⟨v, o, rfl, hd, hg, k⟩ := h
    have hu := hu_of hr
    have mint : mg "int" = none := T.fr (by decide +kernel)
    have mlen : mg "len" = none := T.fr (by decide +kernel)
    refine ⟨_, pss_cons (ps_set (i := 1) sc_lrec.nd rfl (.inl rfl) (pe_lst (pa_cons pe_int pa_nil)))
      (pss_cons (ps_if (pt_cmpR op_ne (pe_ix ix_tup (pv 0) pe_int (fun _ _ => rfl)) pe_str (nomark _))
        (pss_one (ps_set (i := 1) sc_lrec.nd rfl (.inl rfl) (pe_lst (pa_cons (pe_dget hu (pe_disp (pps_cons pe_str pe_int (pps_cons pe_str pe_int (pps_cons pe_str pe_int pps_nil))) (by rfl) (by rfl) (fun z => by cases z) (by decide)) (pe_ix ix_tup (pv 0) pe_int (fun _ _ => rfl)) (fun _ _ => rfl))
          (pa_cons (pe_ix ix_tup (pv 0) pe_int (fun _ _ => rfl)) pa_nil))))) pss_nil)
      (pss_cons (ps_if (pt_cmpR op_in_seq (pe_ix ix_tup (pv 0) pe_int (fun _ _ => rfl)) (pe_lst (pa_cons pe_str (pa_cons pe_str pa_nil))) (by rfl))
        (pss_one (ps_set (i := 1) sc_lrec.nd rfl (.inl rfl) (pe_op op_cat (pv 1) (pe_lc (own := [("_law_sign", 2)]) (g := gName 2) (tt := tYes) (by rfl) sc_lrec.nd (pi_str (pe_cal GF hr pass0 (pa_cons (pe_lst (pa_cons (pe_ix ix_tup (pv 0) pe_int (fun _ _ => rfl)) pa_nil)) pa_nil)))
          (blkOk_by (own := [("_law_sign", 2)]) (N := ["_law_operation_here", "_law_body", "_law_sign"]) (sc := defScope (top 74)) (by decide +kernel)) (fun _ _ _ _ _ => pg_name (i := 2) sc_lrec.nd rfl (Or.inl rfl)) (fun _ _ _ _ _ => pts_nil)
          (fun _ _ _ _ _ => pe_callB call_ord (by rfl) (T.fr (by decide +kernel)) (by decide +kernel) (pa_cons (pv 2) pa_nil)))))) pss_nil)
      (pss_one (ps_ret (pe_op op_cat (pe_op op_cat (pe_lst (pa_cons (pe_op op_fdiv (pe_callB call_len (by rfl) mlen PySem.boot_len (pa_cons (pv 1) pa_nil)) pe_int) (pa_cons (pe_op op_mod (pe_callTy call_int1 (by rfl) mint (by decide +kernel) (pa_cons (pe_callB call_len (by rfl) mlen PySem.boot_len (pa_cons (pv 1) pa_nil)) pa_nil)) pe_int) pa_nil))) (pv 1))
        (pe_lst (pa_cons (pe_op op_mod (pe_callTy call_int1 (by rfl) mint (by decide +kernel) (pa_cons (pe_callB (cr_sum rfl) (by rfl) (T.fr (by decide +kernel)) (by decide +kernel) (pa_cons (pv 1) pa_nil)) pa_nil)) pe_int) (pa_cons pe_int pa_nil)))))))), ?_⟩
    obtain ⟨a, ww, r, rfl, ha, ho⟩ := dp_op hd
    have hbl := body_len hg
    refine ⟨(by show 1 ≤ sizeLine; decide), fun b0 nb0 => ?_⟩
    have s0 := same_new (o := .lst [.int 4]) nb0
    refine ⟨_, rfl, a, _, _, _, rfl, rfl, sqT_mono s0 ha, atI0, rfl, _, rfl, ?_⟩
    have two : ∀ a b : V, [a, b].length ≤ sizeLine := fun _ _ => by show 2 ≤ sizeLine; decide
    cases o with
    | undo =>
      obtain ⟨rfl, rfl⟩ := ho
      rw [show (!decide (V.str "undo" = V.str "undo")) = false by decide +kernel]
      refine iteF ⟨_, rfl, a, _, _, _, rfl, rfl, sqT_mono s0 ha, atI0, two _ _, fun q nq => ?_⟩
      have sq := same_new (o := .lst [.str "put", .str "exchange"]) nq
      refine ⟨q, _, rfl, .inl (app1 upd_same), rfl, rfl, _, rfl, ?_⟩
      rw [show (if false = true then !inV (V.str "undo") [.str "put", .str "exchange"] else inV (V.str "undo") [.str "put", .str "exchange"]) = false by decide +kernel]
      refine iteF ?_
      have eb : (upd (upd H b0 (.lst [.int 4])) q (.lst [.str "put", .str "exchange"])) b0 = some (.lst ((bodyO .undo).map V.int)) := sq _ _ upd_same
      have sX := s0.trans sq
      refine ⟨_, rfl, .ref b0, _, rfl, .inl ⟨_, app1 eb, rfl⟩, _, _, rfl, rfl, ⟨by decide, by decide⟩, _, rfl, .ref b0, _, rfl, .inl ⟨_, app1 eb, rfl⟩, .inl ⟨_, rfl, _, _, rfl, rfl, (by show (0 : Int) < 256; decide), two _ _, fun c nc => ?_⟩⟩
      have s2 := same_new (o := .lst [.int ((((bodyO .undo).map V.int).length : Int) / 256), .int ((((bodyO .undo).map V.int).length : Int) % 256)]) nc
      have hlm : ((bodyO .undo).map V.int).length = (bodyO .undo).length := List.length_map ..
      refine ⟨_, rfl, c, b0, _, _, rfl, rfl, upd_same, s2 _ _ eb, ?_, fun d nd => ?_⟩
      · rw [hlm]
        exact Nat.le_trans (by show 2 + (bodyO .undo).length ≤ 104; omega) (by decide)
      have s3 := same_new (o := .lst ([.int ((((bodyO .undo).map V.int).length : Int) / 256), .int ((((bodyO .undo).map V.int).length : Int) % 256)] ++ (bodyO .undo).map V.int)) nd
      refine ⟨_, rfl, b0, bodyO .undo, rfl, app1 (s3 _ _ (s2 _ _ eb)), .inl ⟨_, rfl, _, _, rfl, rfl, (by show (0 : Int) < 256; decide), two _ _, fun f0 nf0 => ?_⟩⟩
      have s4 := same_new (o := .lst [.int ((bodyO .undo).sum % 256), .int 170]) nf0
      refine ⟨d, f0, _, _, rfl, rfl, s4 _ _ upd_same, upd_same, ?_, fun p np => ?_⟩
      · rw [List.length_append, hlm]
        exact Nat.le_trans (by show 2 + (bodyO .undo).length + 2 ≤ 106; omega) (by decide)
      refine k p _ ((sX.trans s2).trans ((s3.trans s4).trans (same_new np))) (((sX.trans s2).trans (s3.trans s4)).free np) ?_
      rw [upd_same, hlm]
      unfold recO
      rw [List.map_append, List.map_append]
      rfl
    | take i =>
      obtain ⟨rfl, rfl⟩ := ho
      rw [show (!decide (V.str "take" = V.str "undo")) = true by decide +kernel]
      refine iteT (fun dp ndp => ⟨upd_same, lrKvs, rfl, by decide, ?_⟩)
      have sd : Same (upd H b0 (.lst [.int 4])) (upd (upd (upd H b0 (.lst [.int 4])) dp (.dK [])) dp (.dK (mergeK [] lrKvs))) := by
        rw [upd_upd]
        exact same_new ndp
      have s0d := s0.trans sd
      refine ⟨_, rfl, a, _, _, _, rfl, rfl, sqT_mono s0d ha, atI0, dp, .int 2, rfl, (by rw [← lr_take]; exact DGet.k (k := Sum.inr ("take" : Str)) upd_same), ?_⟩
      refine ⟨_, rfl, a, _, _, .int i, rfl, rfl, sqT_mono s0d ha, atI_nat (j := 1) rfl, two _ _, fun b1 nb1 => ?_⟩
      have s1 := s0d.trans (same_new (o := .lst [.int 2, .int i]) nb1)
      refine ⟨_, rfl, a, _, _, _, rfl, rfl, sqT_mono s1 ha, atI0, two _ _, fun q nq => ?_⟩
      have sq := same_new (o := .lst [.str "put", .str "exchange"]) nq
      have s1q := s1.trans sq
      refine ⟨q, _, rfl, .inl (app1 upd_same), rfl, rfl, _, rfl, ?_⟩
      rw [show (if false = true then !inV (V.str "take") [.str "put", .str "exchange"] else inV (V.str "take") [.str "put", .str "exchange"]) = false by decide +kernel]
      refine iteF ?_
      have eb : (upd (upd (upd (upd (upd H b0 (.lst [.int 4])) dp (.dK [])) dp (.dK (mergeK [] lrKvs))) b1 (.lst [.int 2, .int i])) q (.lst [.str "put", .str "exchange"])) b1 = some (.lst ((bodyO (.take i)).map V.int)) := sq _ _ upd_same
      have sX := s1q
      refine ⟨_, rfl, .ref b1, _, rfl, .inl ⟨_, app1 eb, rfl⟩, _, _, rfl, rfl, ⟨by decide, by decide⟩, _, rfl, .ref b1, _, rfl, .inl ⟨_, app1 eb, rfl⟩, .inl ⟨_, rfl, _, _, rfl, rfl, (by show (0 : Int) < 256; decide), two _ _, fun c nc => ?_⟩⟩
      have s2 := same_new (o := .lst [.int ((((bodyO (.take i)).map V.int).length : Int) / 256), .int ((((bodyO (.take i)).map V.int).length : Int) % 256)]) nc
      have hlm : ((bodyO (.take i)).map V.int).length = (bodyO (.take i)).length := List.length_map ..
      refine ⟨_, rfl, c, b1, _, _, rfl, rfl, upd_same, s2 _ _ eb, ?_, fun d nd => ?_⟩
      · rw [hlm]
        exact Nat.le_trans (by show 2 + (bodyO (.take i)).length ≤ 104; omega) (by decide)
      have s3 := same_new (o := .lst ([.int ((((bodyO (.take i)).map V.int).length : Int) / 256), .int ((((bodyO (.take i)).map V.int).length : Int) % 256)] ++ (bodyO (.take i)).map V.int)) nd
      refine ⟨_, rfl, b1, bodyO (.take i), rfl, app1 (s3 _ _ (s2 _ _ eb)), .inl ⟨_, rfl, _, _, rfl, rfl, (by show (0 : Int) < 256; decide), two _ _, fun f0 nf0 => ?_⟩⟩
      have s4 := same_new (o := .lst [.int ((bodyO (.take i)).sum % 256), .int 170]) nf0
      refine ⟨d, f0, _, _, rfl, rfl, s4 _ _ upd_same, upd_same, ?_, fun p np => ?_⟩
      · rw [List.length_append, hlm]
        exact Nat.le_trans (by show 2 + (bodyO (.take i)).length + 2 ≤ 106; omega) (by decide)
      refine k p _ ((sX.trans s2).trans ((s3.trans s4).trans (same_new np))) (((sX.trans s2).trans (s3.trans s4)).free np) ?_
      rw [upd_same, hlm]
      unfold recO
      rw [List.map_append, List.map_append]
      rfl
    | put i e =>
      obtain ⟨rfl, x, rfl, hx⟩ := ho
      rw [show (!decide (V.str "put" = V.str "undo")) = true by decide +kernel]
      refine iteT (fun dp ndp => ⟨upd_same, lrKvs, rfl, by decide, ?_⟩)
      have sd : Same (upd H b0 (.lst [.int 4])) (upd (upd (upd H b0 (.lst [.int 4])) dp (.dK [])) dp (.dK (mergeK [] lrKvs))) := by
        rw [upd_upd]
        exact same_new ndp
      have s0d := s0.trans sd
      refine ⟨_, rfl, a, _, _, _, rfl, rfl, sqT_mono s0d ha, atI0, dp, .int 1, rfl, (by rw [← lr_put]; exact DGet.k (k := Sum.inr ("put" : Str)) upd_same), ?_⟩
      refine ⟨_, rfl, a, _, _, .int i, rfl, rfl, sqT_mono s0d ha, atI_nat (j := 1) rfl, two _ _, fun b1 nb1 => ?_⟩
      have s1 := s0d.trans (same_new (o := .lst [.int 1, .int i]) nb1)
      refine ⟨_, rfl, a, _, _, _, rfl, rfl, sqT_mono s1 ha, atI0, two _ _, fun q nq => ?_⟩
      have sq := same_new (o := .lst [.str "put", .str "exchange"]) nq
      have s1q := s1.trans sq
      refine ⟨q, _, rfl, .inl (app1 upd_same), rfl, rfl, _, rfl, ?_⟩
      rw [show (if false = true then !inV (V.str "put") [.str "put", .str "exchange"] else inV (V.str "put") [.str "put", .str "exchange"]) = true by decide +kernel]
      refine iteT ⟨_, rfl, _, rfl, a, _, _, x, rfl, rfl, sqT_mono s1q ha, atI_nat (j := 2) rfl, (by show 1 ≤ sizeLine; decide), fun c0 nc0 => ?_⟩
      have sc := same_new (o := .lst [x]) nc0
      refine ⟨c0, x, e, rfl, app1 upd_same, dp_mono (s1q.trans sc) hx, hg, fun H3 s3 => ⟨_, rfl, fun D nD => ?_⟩⟩
      have hcl : (fmtEl e).cps.toList.length = (fmtEl e).cps.size := by simp
      have hsz : (fmtEl e).cps.size ≤ 100 := fmtE_len hg
      refine lc_str (z := fmtEl e) (fun j H' => Same H3 H' ∧ H' D = some (.lst ((((fmtEl e).cps.toList.take j).map Int.ofNat).map V.int))) ⟨same_new nD, by rw [upd_same] <;> rfl⟩ ?_ ?_
      · rintro j ch H' hj ⟨sm, hD⟩
        have hj2 : (fmtEl e).cps.toList[j]? = some ch := by simpa using hj
        refine ⟨rfl, _, rfl, ⟨#[ch]⟩, rfl, rfl, _, hD, ?_, fun q o z => ?_, ?_⟩
        · rw [List.length_map, List.length_map, List.length_take]
          exact Nat.lt_of_le_of_lt (by omega : _ ≤ 100) (by decide)
        · rw [upd_ne (ne_of_none z nD)]
          exact sm _ _ z
        · rw [upd_same, List.take_add_one, hj2, List.map_append, List.map_append]
          rfl
      · rintro H' ⟨sm, hD⟩
        rw [← hcl, List.take_of_length_le (Nat.le_refl _)] at hD
        have sA := s1q.trans (sc.trans (s3.trans sm))
        have eb1 : H' b1 = some (.lst [.int 1, .int i]) := (sq.trans (sc.trans (s3.trans sm))) _ _ upd_same
        refine ⟨b1, D, _, _, rfl, rfl, eb1, hD, ?_, fun b2 nb2 => ?_⟩
        · rw [List.length_map, List.length_map, hcl]
          exact Nat.le_trans (by show 2 + (fmtEl e).cps.size ≤ 102; omega) (by decide)
        have eb : (upd H' b2 (.lst ([.int 1, .int i] ++ (((fmtEl e).cps.toList).map Int.ofNat).map V.int))) b2 = some (.lst ((bodyO (.put i e)).map V.int)) := upd_same
        have sX := sA.trans (same_new (o := .lst ([.int 1, .int i] ++ (((fmtEl e).cps.toList).map Int.ofNat).map V.int)) nb2)
        refine ⟨_, rfl, .ref b2, _, rfl, .inl ⟨_, app1 eb, rfl⟩, _, _, rfl, rfl, ⟨by decide, by decide⟩, _, rfl, .ref b2, _, rfl, .inl ⟨_, app1 eb, rfl⟩, .inl ⟨_, rfl, _, _, rfl, rfl, (by show (0 : Int) < 256; decide), two _ _, fun c nc => ?_⟩⟩
        have s2 := same_new (o := .lst [.int ((((bodyO (.put i e)).map V.int).length : Int) / 256), .int ((((bodyO (.put i e)).map V.int).length : Int) % 256)]) nc
        have hlm : ((bodyO (.put i e)).map V.int).length = (bodyO (.put i e)).length := List.length_map ..
        refine ⟨_, rfl, c, b2, _, _, rfl, rfl, upd_same, s2 _ _ eb, ?_, fun d nd => ?_⟩
        · rw [hlm]
          exact Nat.le_trans (by show 2 + (bodyO (.put i e)).length ≤ 104; omega) (by decide)
        have s3 := same_new (o := .lst ([.int ((((bodyO (.put i e)).map V.int).length : Int) / 256), .int ((((bodyO (.put i e)).map V.int).length : Int) % 256)] ++ (bodyO (.put i e)).map V.int)) nd
        refine ⟨_, rfl, b2, bodyO (.put i e), rfl, app1 (s3 _ _ (s2 _ _ eb)), .inl ⟨_, rfl, _, _, rfl, rfl, (by show (0 : Int) < 256; decide), two _ _, fun f0 nf0 => ?_⟩⟩
        have s4 := same_new (o := .lst [.int ((bodyO (.put i e)).sum % 256), .int 170]) nf0
        refine ⟨d, f0, _, _, rfl, rfl, s4 _ _ upd_same, upd_same, ?_, fun p np => ?_⟩
        · rw [List.length_append, hlm]
          exact Nat.le_trans (by show 2 + (bodyO (.put i e)).length + 2 ≤ 106; omega) (by decide)
        refine k p _ ((sX.trans s2).trans ((s3.trans s4).trans (same_new np))) (((sX.trans s2).trans (s3.trans s4)).free np) ?_
        rw [upd_same, hlm]
        unfold recO
        rw [List.map_append, List.map_append]
        rfl
    | exch i e =>
      obtain ⟨rfl, x, rfl, hx⟩ := ho
      rw [show (!decide (V.str "exchange" = V.str "undo")) = true by decide +kernel]
      refine iteT (fun dp ndp => ⟨upd_same, lrKvs, rfl, by decide, ?_⟩)
      have sd : Same (upd H b0 (.lst [.int 4])) (upd (upd (upd H b0 (.lst [.int 4])) dp (.dK [])) dp (.dK (mergeK [] lrKvs))) := by
        rw [upd_upd]
        exact same_new ndp
      have s0d := s0.trans sd
      refine ⟨_, rfl, a, _, _, _, rfl, rfl, sqT_mono s0d ha, atI0, dp, .int 3, rfl, (by rw [← lr_exch]; exact DGet.k (k := Sum.inr ("exchange" : Str)) upd_same), ?_⟩
      refine ⟨_, rfl, a, _, _, .int i, rfl, rfl, sqT_mono s0d ha, atI_nat (j := 1) rfl, two _ _, fun b1 nb1 => ?_⟩
      have s1 := s0d.trans (same_new (o := .lst [.int 3, .int i]) nb1)
      refine ⟨_, rfl, a, _, _, _, rfl, rfl, sqT_mono s1 ha, atI0, two _ _, fun q nq => ?_⟩
      have sq := same_new (o := .lst [.str "put", .str "exchange"]) nq
      have s1q := s1.trans sq
      refine ⟨q, _, rfl, .inl (app1 upd_same), rfl, rfl, _, rfl, ?_⟩
      rw [show (if false = true then !inV (V.str "exchange") [.str "put", .str "exchange"] else inV (V.str "exchange") [.str "put", .str "exchange"]) = true by decide +kernel]
      refine iteT ⟨_, rfl, _, rfl, a, _, _, x, rfl, rfl, sqT_mono s1q ha, atI_nat (j := 2) rfl, (by show 1 ≤ sizeLine; decide), fun c0 nc0 => ?_⟩
      have sc := same_new (o := .lst [x]) nc0
      refine ⟨c0, x, e, rfl, app1 upd_same, dp_mono (s1q.trans sc) hx, hg, fun H3 s3 => ⟨_, rfl, fun D nD => ?_⟩⟩
      have hcl : (fmtEl e).cps.toList.length = (fmtEl e).cps.size := by simp
      have hsz : (fmtEl e).cps.size ≤ 100 := fmtE_len hg
      refine lc_str (z := fmtEl e) (fun j H' => Same H3 H' ∧ H' D = some (.lst ((((fmtEl e).cps.toList.take j).map Int.ofNat).map V.int))) ⟨same_new nD, by rw [upd_same] <;> rfl⟩ ?_ ?_
      · rintro j ch H' hj ⟨sm, hD⟩
        have hj2 : (fmtEl e).cps.toList[j]? = some ch := by simpa using hj
        refine ⟨rfl, _, rfl, ⟨#[ch]⟩, rfl, rfl, _, hD, ?_, fun q o z => ?_, ?_⟩
        · rw [List.length_map, List.length_map, List.length_take]
          exact Nat.lt_of_le_of_lt (by omega : _ ≤ 100) (by decide)
        · rw [upd_ne (ne_of_none z nD)]
          exact sm _ _ z
        · rw [upd_same, List.take_add_one, hj2, List.map_append, List.map_append]
          rfl
      · rintro H' ⟨sm, hD⟩
        rw [← hcl, List.take_of_length_le (Nat.le_refl _)] at hD
        have sA := s1q.trans (sc.trans (s3.trans sm))
        have eb1 : H' b1 = some (.lst [.int 3, .int i]) := (sq.trans (sc.trans (s3.trans sm))) _ _ upd_same
        refine ⟨b1, D, _, _, rfl, rfl, eb1, hD, ?_, fun b2 nb2 => ?_⟩
        · rw [List.length_map, List.length_map, hcl]
          exact Nat.le_trans (by show 2 + (fmtEl e).cps.size ≤ 102; omega) (by decide)
        have eb : (upd H' b2 (.lst ([.int 3, .int i] ++ (((fmtEl e).cps.toList).map Int.ofNat).map V.int))) b2 = some (.lst ((bodyO (.exch i e)).map V.int)) := upd_same
        have sX := sA.trans (same_new (o := .lst ([.int 3, .int i] ++ (((fmtEl e).cps.toList).map Int.ofNat).map V.int)) nb2)
        refine ⟨_, rfl, .ref b2, _, rfl, .inl ⟨_, app1 eb, rfl⟩, _, _, rfl, rfl, ⟨by decide, by decide⟩, _, rfl, .ref b2, _, rfl, .inl ⟨_, app1 eb, rfl⟩, .inl ⟨_, rfl, _, _, rfl, rfl, (by show (0 : Int) < 256; decide), two _ _, fun c nc => ?_⟩⟩
        have s2 := same_new (o := .lst [.int ((((bodyO (.exch i e)).map V.int).length : Int) / 256), .int ((((bodyO (.exch i e)).map V.int).length : Int) % 256)]) nc
        have hlm : ((bodyO (.exch i e)).map V.int).length = (bodyO (.exch i e)).length := List.length_map ..
        refine ⟨_, rfl, c, b2, _, _, rfl, rfl, upd_same, s2 _ _ eb, ?_, fun d nd => ?_⟩
        · rw [hlm]
          exact Nat.le_trans (by show 2 + (bodyO (.exch i e)).length ≤ 104; omega) (by decide)
        have s3 := same_new (o := .lst ([.int ((((bodyO (.exch i e)).map V.int).length : Int) / 256), .int ((((bodyO (.exch i e)).map V.int).length : Int) % 256)] ++ (bodyO (.exch i e)).map V.int)) nd
        refine ⟨_, rfl, b2, bodyO (.exch i e), rfl, app1 (s3 _ _ (s2 _ _ eb)), .inl ⟨_, rfl, _, _, rfl, rfl, (by show (0 : Int) < 256; decide), two _ _, fun f0 nf0 => ?_⟩⟩
        have s4 := same_new (o := .lst [.int ((bodyO (.exch i e)).sum % 256), .int 170]) nf0
        refine ⟨d, f0, _, _, rfl, rfl, s4 _ _ upd_same, upd_same, ?_, fun p np => ?_⟩
        · rw [List.length_append, hlm]
          exact Nat.le_trans (by show 2 + (bodyO (.exch i e)).length + 2 ≤ 106; omega) (by decide)
        refine k p _ ((sX.trans s2).trans ((s3.trans s4).trans (same_new np))) (((sX.trans s2).trans (s3.trans s4)).free np) ?_
        rw [upd_same, hlm]
        unfold recO
        rw [List.map_append, List.map_append]
        rfl
end
end RT
end
section
set_option Elab.async false
set_option linter.all false
set_option maxRecDepth 100000
set_option maxHeartbeats 2000000
/-! Z4: what the law holds to be due. -/
namespace RT
open PySem PySem.Spec PyProof.Rows L2
section
variable {P : Program} {w : World} {K : PySem.W.Frag} {mg : Str → Option Value} {base : Heap}
def dueD : Step → PyData
  | .ok r _ => .tuple [.str "told", resD r]
  | .pos i => .tuple [.str "position", .int i]
  | .elem i => .tuple [.str "element", .int i]
  | .full => .tuple [.str "full"]
def rowsL (L : List (List El)) : Step → List (List El)
  | .ok _ L' => L'
  | _ => L
theorem cur_last (T0 : List El) (L : List (List El)) : ∃ init, T0 :: L = init ++ [curT T0 L] := by
  rcases List.eq_nil_or_concat L with rfl | ⟨L', t, rfl⟩
  · exact ⟨[], rfl⟩
  · refine ⟨T0 :: L', ?_⟩
    unfold curT
    simp
theorem gro_at {G H H' : Hp} {b : Addr} {o : HO} (s : Same G H) (h : H b = none) (e : H' b = some o) : gro G H H' b = some o := by
  rw [gro_none (s.free h)]
  exact new_at h e
theorem cut_last (xs : List V) : cutV xs none (some (-1)) = xs.dropLast := by
  unfold cutV
  rw [HT.sIx_none, Nat.sub_zero, List.drop_zero, List.dropLast_eq_take]
  congr 1
  show (if (-1 : Int) < 0 then ((-1 : Int) + (xs.length : Int)).toNat else min (-1 : Int).toNat xs.length) = xs.length - 1
  rw [if_pos (by decide)]
  omega
def spDone (K : PySem.W.Frag) : Sp := fun vs H Q _ => ∃ (G : Hp) (ra : Addr) (rs : List V) (v : V) (o : Op) (T0 : List El) (L : List (List El)), vs = [.ref ra, v] ∧ Same G H ∧ G ra = some (.lst rs) ∧ DpAll K G rs ((T0 :: L).map elsD) ∧ Dp K G v (opD o) ∧ (curT T0 L).length ≤ 20 ∧ L.length ≤ 100 ∧
  ∀ t d r rs' G' H', Same H H' → Ext G H G' H' → H t = none → H' t = some (.lst [d, .ref r]) → Dp K G' d (dueD (stepO T0 L o)) → G' r = some (.lst rs') → DpAll K G' rs' ((T0 :: rowsL L (stepO T0 L o)).map elsD) → Q (.ref t) H'
theorem ok_done (T : TX K mg) : Cal P w K mg base CX0 1 "_law_done" ["_law_rows", "_law_operation_here"] (spDone K) := by
  refine Cal.of T in_law_done sc_law_done bd_law_done (fun vs H Q E h => ?_) (fun cdv A outer s H vs Q E hr h => ?_)
  · obtain ⟨a, b, c, d, e, f, g, rfl, _⟩ := h
    rfl
  · obtain ⟨G, ra, rs, v, o, T0, L, rfl, sG, hra, hrs, hv, hlen, hL, k⟩ := h
    have mlen : mg "len" = none := T.fr (by decide +kernel)
    refine ⟨_, pss_cons (ps_set (i := 2) sc_law_done.nd rfl (.inl rfl) (pe_ix ix_list (pv 0) (pe_un un_neg pe_int) (fun _ _ => rfl)))
      (pss_cons (ps_if (pt_cmpR op_eq (pe_ix ix_tup (pv 1) pe_int (fun _ _ => rfl)) pe_str (nomark _))
        (pss_cons (ps_if (pt_cmpR op_eq (pe_callB call_len (by rfl) mlen PySem.boot_len (pa_cons (pv 0) pa_nil)) pe_int (nomark _)) (pss_one (ps_ret (pe_lst (pa_cons (pe_tup (pa_cons pe_str (pa_cons pe_bl pa_nil))) (pa_cons (pv 0) pa_nil))))) pss_nil)
        (pss_one (ps_ret (pe_lst (pa_cons (pe_tup (pa_cons pe_str (pa_cons pe_bl pa_nil))) (pa_cons (pe_slice sl_list (pv 0) po_none (po_some (pe_un un_neg pe_int))) pa_nil)))))) pss_nil)
      (pss_cons (ps_set (i := 3) sc_law_done.nd rfl (.inl rfl) (pe_ix ix_tup (pv 1) pe_int (fun _ _ => rfl)))
      (pss_cons (ps_if (pt_cmpR op_eq (pe_ix ix_tup (pv 1) pe_int (fun _ _ => rfl)) pe_str (nomark _))
        (pss_cons (ps_if (pt_not (pt_chain op_le op_le pe_int (pv 3) (pe_callB call_len (by rfl) mlen PySem.boot_len (pa_cons (pv 2) pa_nil)))) (pss_one (ps_ret (pe_lst (pa_cons (pe_tup (pa_cons pe_str (pa_cons (pv 3) pa_nil))) (pa_cons (pv 0) pa_nil))))) pss_nil)
        (pss_cons (ps_if (pt_cmpR op_eq (pe_callB call_len (by rfl) mlen PySem.boot_len (pa_cons (pv 2) pa_nil)) pe_int (nomark _)) (pss_one (ps_ret (pe_lst (pa_cons (pe_tup (pa_cons pe_str pa_nil)) (pa_cons (pv 0) pa_nil))))) pss_nil)
        (pss_one (ps_ret (pe_lst (pa_cons (pe_tup (pa_cons pe_str (pa_cons (pe_op op_add (pe_callB call_len (by rfl) mlen PySem.boot_len (pa_cons (pv 2) pa_nil)) pe_int) pa_nil)))
          (pa_cons (pe_op op_cat (pv 0) (pe_lst (pa_cons (pe_op op_cat (pe_op op_cat (pe_slice sl_list (pv 2) po_none (po_some (pv 3))) (pe_lst (pa_cons (pe_ix ix_tup (pv 1) pe_int (fun _ _ => rfl)) pa_nil))) (pe_slice sl_list (pv 2) (po_some (pv 3)) po_none)) pa_nil))) pa_nil))))))) pss_nil)
      (pss_cons (ps_if (pt_not (pt_chain op_le op_lt pe_int (pv 3) (pe_callB call_len (by rfl) mlen PySem.boot_len (pa_cons (pv 2) pa_nil)))) (pss_one (ps_ret (pe_lst (pa_cons (pe_tup (pa_cons pe_str (pa_cons (pv 3) pa_nil))) (pa_cons (pv 0) pa_nil))))) pss_nil)
      (pss_cons (ps_set (i := 4) sc_law_done.nd rfl (.inl rfl) (pe_ix ix_list (pe_lst (pa_cons (pe_lst pa_nil) (pa_cons (pe_lst (pa_cons (pe_ix ix_tup (pv 1) (pe_un un_neg pe_int) (fun _ _ => rfl)) pa_nil)) pa_nil))) (pe_callTy call_int1 (by rfl) (T.fr (by decide +kernel)) (by decide +kernel) (pa_cons (pe_cmpR op_eq (pe_ix ix_tup (pv 1) pe_int (fun _ _ => rfl)) pe_str (nomark _)) pa_nil)) (fun _ _ => rfl)))
      (pss_one (ps_ret (pe_lst (pa_cons (pe_tup (pa_cons pe_str (pa_cons (pe_ix ix_list (pv 2) (pv 3) (fun _ _ => rfl)) pa_nil)))
          (pa_cons (pe_op op_cat (pv 0) (pe_lst (pa_cons (pe_op op_cat (pe_op op_cat (pe_slice sl_list (pv 2) po_none (po_some (pv 3))) (pv 4)) (pe_slice sl_list (pv 2) (po_some (pe_op op_add (pv 3) pe_int)) po_none)) pa_nil))) pa_nil)))))))))), ?_⟩
    obtain ⟨init, hinit⟩ := cur_last T0 L
    have hrl : rs.length = L.length + 1 := by
      rw [dpAll_len hrs, List.length_map]
      rfl
    obtain ⟨rsi, rl, hrs2, hlast⟩ : ∃ rsi rl, rs = rsi ++ [rl] ∧ Dp K G rl (elsD (curT T0 L)) := by
      rcases List.eq_nil_or_concat rs with z | ⟨b, c, z⟩
      · rw [z] at hrl
        simp at hrl
      · refine ⟨b, c, by simpa using z, ?_⟩
        have q := dpAll_drop b.length hrs
        have hbl : b.length = (init.map elsD).length := by
          have h1 := congrArg List.length hinit
          rw [z] at hrl
          simp at hrl h1 ⊢
          omega
        rw [z, hbl, hinit, List.concat_eq_append, List.map_append, ← hbl, List.drop_left, hbl, List.drop_left] at q
        cases q with
        | cons q1 _ => exact q1
    obtain ⟨tl, xs, rfl, htl, hx⟩ := dp_lst hlast
    have hxl : xs.length = (curT T0 L).length := by rw [dpAll_len hx, List.length_map]
    obtain ⟨ao, ww, r, rfl, hao, ho⟩ := dp_op hv
    have hraH := sG _ _ hra
    have haoH := sqT_mono sG hao
    have htlH := sG.seq htl
    have two : ∀ a b : V, [a, b].length ≤ sizeLine := fun _ _ => by show 2 ≤ sizeLine; decide
    -- no new row
    have fin1 : ∀ (ys : List V) (ds : List PyData), DpAll K G ys ds → dueD (stepO T0 L o) = .tuple ds → rowsL L (stepO T0 L o) = L → ∀ d, H d = none → ∀ t, (upd H d (.tup ys)) t = none → Q (.ref t) (upd (upd H d (.tup ys)) t (.lst [.ref d, .ref ra])) := fun ys ds hy hdue hrow d nd t nt => by
      have sH : Same H (upd (upd H d (.tup ys)) t (.lst [.ref d, .ref ra])) := (same_new nd).trans (same_new nt)
      obtain ⟨ex, _⟩ := ext_gro (M := fun _ => False) sG (Chg.of sH) fun _ z => z.elim
      have ndt : d ≠ t := ne_of_none upd_same nt
      refine k t (.ref d) ra rs _ _ sH ex ((same_new nd).free nt) upd_same ?_ (ex.gg _ _ hra) ?_
      · rw [hdue]
        exact .tup (app2 (gro_at sG nd (by rw [upd_ne ndt, upd_same]))) (dpAll_mono ex.gg hy)
      · rw [hrow]
        exact dpAll_mono ex.gg hrs
    -- a new row
    have fin2 : ∀ (Hf : Hp) (d r n : Addr) (ys zs : List V) (ds : List PyData) (T' : List El), Same H Hf → H d = none → Hf d = some (.tup ys) → H r = none → Hf r = some (.lst (rs ++ [.ref n])) → H n = none → Hf n = some (.lst zs) → DpAll K G ys ds → DpAll K G zs (T'.map elD) →
        dueD (stepO T0 L o) = .tuple ds → rowsL L (stepO T0 L o) = L ++ [T'] → ∀ t, Hf t = none → Q (.ref t) (upd Hf t (.lst [.ref d, .ref r])) := fun Hf d r n ys zs ds T' sf nd ed nr er nn en hy hz hdue hrow t nt => by
      have sn := same_new (o := .lst [.ref d, .ref r]) nt
      have sH := sf.trans sn
      obtain ⟨ex, _⟩ := ext_gro (M := fun _ => False) sG (Chg.of sH) fun _ z => z.elim
      refine k t (.ref d) r (rs ++ [.ref n]) _ _ sH ex (sf.free nt) upd_same ?_ (gro_at sG nr (sn _ _ er)) ?_
      · rw [hdue]
        exact .tup (app2 (gro_at sG nd (sn _ _ ed))) (dpAll_mono ex.gg hy)
      · rw [hrow]
        rw [show T0 :: (L ++ [T']) = (T0 :: L) ++ [T'] from rfl, List.map_append]
        exact dpAll_app (dpAll_mono ex.gg hrs) (.cons (.lst (app1 (gro_at sG nn (sn _ _ en))) (dpAll_mono ex.gg hz)) .nil)
    have sumz : ∀ n, n ≤ 300 → n ≤ sizeLine := fun n h => Nat.le_trans h (by decide)
    refine ⟨_, rfl, 1, rfl, ra, _, _, .ref tl, rfl, rfl, app1 hraH, by rw [hrs2]; exact atI_last _ _, ?_⟩
    refine ⟨_, rfl, ao, _, _, _, rfl, rfl, haoH, atI0, rfl, _, rfl, ?_⟩
    cases o with
    | undo =>
      obtain ⟨rfl, rfl⟩ := ho
      rw [show decide (V.str "undo" = V.str "undo") = true by decide +kernel]
      refine iteT ⟨_, rfl, .ref ra, _, rfl, .inl ⟨_, app1 hraH, rfl⟩, rfl, _, rfl, ?_⟩
      by_cases h0 : L = []
      · have h1 : rs.length = 1 := by rw [hrl, h0] <;> rfl
        rw [h1, show decide (V.int ((1 : Nat) : Int) = V.int 1) = true from rfl]
        exact iteT ⟨two _ _, fun d nd => ⟨_, rfl, two _ _, fin1 _ _ (.cons (.str _) (.cons (.bl false) .nil)) (by rw [st_undo0 h0] <;> rfl) (by rw [st_undo0 h0] <;> rfl) d nd⟩⟩
      · have h1 : ¬ V.int (rs.length : Nat) = V.int 1 := fun z => h0 (by
          have z2 := V.int.inj z
          exact List.length_eq_zero_iff.mp (by omega))
        rw [decide_eq_false h1]
        refine iteF ⟨two _ _, fun d nd => ⟨_, rfl, 1, rfl, _, rfl, ra, _, rfl, app1 ((same_new nd) _ _ hraH), fun r nr => ⟨two _ _, fun t nt => ?_⟩⟩⟩
        have sd := same_new (o := .tup [.str "told", .bl true]) nd
        have sr := same_new (o := .lst (cutV rs none (some (-1)))) nr
        have sH := (sd.trans sr).trans (same_new (o := .lst [.ref d, .ref r]) nt)
        obtain ⟨ex, _⟩ := ext_gro (M := fun _ => False) sG (Chg.of sH) fun _ z => z.elim
        have ndr : d ≠ r := ne_of_none upd_same nr
        have ndt : d ≠ t := ne_of_none (sr _ _ upd_same) nt
        have nrt : r ≠ t := ne_of_none upd_same nt
        refine k t (.ref d) r (cutV rs none (some (-1))) _ _ sH ex ((sd.trans sr).free nt) upd_same ?_ (gro_at sG (sd.free nr) (by rw [upd_ne nrt, upd_same])) ?_
        · rw [st_undo1 h0]
          exact .tup (app2 (gro_at sG nd (by rw [upd_ne ndt, upd_ne ndr, upd_same]))) (.cons (.str _) (.cons (.bl true) .nil))
        · rw [st_undo1 h0]
          show DpAll K _ _ ((T0 :: L.dropLast).map elsD)
          have e1 : T0 :: L.dropLast = (T0 :: L).take (L.length + 1 - 1) := by
            rw [List.dropLast_eq_take]
            cases L with
            | nil => exact absurd rfl h0
            | cons a b => simp
          have ecut : cutV rs none (some (-1)) = rs.take (L.length + 1 - 1) := by rw [cut_last, List.dropLast_eq_take, hrl]
          have z := dpAll_mono ex.gg (dpAll_take (L.length + 1 - 1) hrs)
          rw [← ecut] at z
          rw [e1, List.map_take]
          exact z
    | put i e =>
      obtain ⟨rfl, x, rfl, hxe⟩ := ho
      rw [show decide (V.str "put" = V.str "undo") = false by decide +kernel]
      refine iteF ⟨_, rfl, ao, _, _, .int i, rfl, rfl, haoH, atI_nat (j := 1) rfl, ?_⟩
      refine ⟨_, rfl, ao, _, _, _, rfl, rfl, haoH, atI0, rfl, _, rfl, ?_⟩
      rw [show decide (V.str "put" = V.str "put") = true by decide +kernel]
      refine iteT ⟨_, rfl, _, _, rfl, rfl, _, rfl, ?_⟩
      have neg : ¬ (0 ≤ i ∧ i ≤ ((curT T0 L).length : Nat)) → ∀ d, H d = none → ∀ t, (upd H d (.tup [.str "position", .int i])) t = none → Q (.ref t) (upd (upd H d (.tup [.str "position", .int i])) t (.lst [.ref d, .ref ra])) := fun h d nd => fin1 _ _ (.cons (.str _) (.cons (.int i) .nil)) (by rw [st_put0 h] <;> rfl) (by rw [st_put0 h] <;> rfl) d nd
      by_cases h0 : 0 ≤ i
      case neg =>
        rw [decide_eq_false h0]
        exact iteF ⟨_, rfl, iteT ⟨_, rfl, two _ _, fun d nd => ⟨_, rfl, two _ _, neg (fun z => h0 z.1) d nd⟩⟩⟩
      rw [decide_eq_true h0]
      refine iteT ⟨_, rfl, .ref tl, _, rfl, .inl ⟨_, htlH, rfl⟩, _, _, rfl, rfl, _, rfl, ?_⟩
      rw [hxl]
      by_cases h1 : i ≤ ((curT T0 L).length : Nat)
      case neg =>
        rw [decide_eq_false h1]
        exact iteT ⟨_, rfl, two _ _, fun d nd => ⟨_, rfl, two _ _, neg (fun z => h1 z.2) d nd⟩⟩
      rw [decide_eq_true h1]
      refine iteF ⟨_, rfl, .ref tl, _, rfl, .inl ⟨_, htlH, rfl⟩, rfl, _, rfl, ?_⟩
      rw [hxl]
      by_cases h20 : (curT T0 L).length = 20
      · rw [h20, show decide (V.int ((20 : Nat) : Int) = V.int 20) = true from rfl]
        exact iteT ⟨by show 1 ≤ sizeLine; decide, fun d nd => ⟨_, rfl, two _ _, fin1 _ _ (.cons (.str _) .nil) (by rw [st_put1 ⟨h0, h1⟩ h20] <;> rfl) (by rw [st_put1 ⟨h0, h1⟩ h20] <;> rfl) d nd⟩⟩
      rw [decide_eq_false (fun z => h20 (by
        have z2 := V.int.inj z
        omega))]
      refine iteF ⟨_, rfl, .ref tl, _, rfl, .inl ⟨_, htlH, rfl⟩, _, _, rfl, rfl, ?_⟩
      rw [hxl]
      refine ⟨two _ _, fun d nd => ?_⟩
      have sd := same_new (o := .tup [.str "told", .int (((curT T0 L).length : Nat) + 1)]) nd
      have ei : i = ((i.toNat : Nat) : Int) := by omega
      have hcA : cutV xs none (some i) = xs.take i.toNat := by
        rw [show some i = some ((i.toNat : Nat) : Int) from congrArg some ei]
        exact cut_to _ _ (by omega)
      have hcD : cutV xs (some i) none = xs.drop i.toNat := by
        rw [show some i = some ((i.toNat : Nat) : Int) from congrArg some ei]
        exact cut_from _ _
      have lA : (cutV xs none (some i)).length ≤ 20 := by rw [hcA, List.length_take]; omega
      have lD : (cutV xs (some i) none).length ≤ 20 := by rw [hcD, List.length_drop]; omega
      refine ⟨_, rfl, _, rfl, _, rfl, _, rfl, tl, _, rfl, sd.seq htlH, fun A nA => ?_⟩
      have sA := same_new (o := .lst (cutV xs none (some i))) nA
      refine ⟨_, rfl, ao, _, _, x, rfl, rfl, sqT_mono (sd.trans sA) haoH, atI_nat (j := 2) rfl, (by show 1 ≤ sizeLine; decide), fun B nB => ?_⟩
      have sB := same_new (o := .lst [x]) nB
      refine ⟨A, B, _, _, rfl, rfl, sB _ _ upd_same, upd_same, sumz _ (by show (cutV xs none (some i)).length + 1 ≤ 300; omega), fun C nC => ?_⟩
      have sC := same_new (o := .lst (cutV xs none (some i) ++ [x])) nC
      have sAC := sd.trans (sA.trans (sB.trans sC))
      refine ⟨_, rfl, _, rfl, _, rfl, tl, _, rfl, sAC.seq htlH, fun D nD => ?_⟩
      have sD := same_new (o := .lst (cutV xs (some i) none)) nD
      refine ⟨C, D, _, _, rfl, rfl, sD _ _ upd_same, upd_same, sumz _ (by rw [List.length_append]; show (cutV xs none (some i)).length + 1 + _ ≤ 300; omega), fun N nN => ?_⟩
      have sN := same_new (o := .lst (cutV xs none (some i) ++ [x] ++ cutV xs (some i) none)) nN
      refine ⟨by show 1 ≤ sizeLine; decide, fun F nF => ?_⟩
      have sF := same_new (o := .lst [.ref N]) nF
      have s5 := sAC.trans (sD.trans (sN.trans sF))
      refine ⟨ra, F, _, _, rfl, rfl, s5 _ _ hraH, upd_same, sumz _ (by show rs.length + 1 ≤ 300; omega), fun R nR => ⟨two _ _, ?_⟩⟩
      have sR := same_new (o := .lst (rs ++ [.ref N])) nR
      refine fin2 _ d R N [.str "told", .int (((curT T0 L).length : Nat) + 1)] (cutV xs none (some i) ++ [x] ++ cutV xs (some i) none) [.str "told", .int (((curT T0 L).length : Nat) + 1)] (putT (curT T0 L) i.toNat e) (s5.trans sR) nd ((sA.trans (sB.trans (sC.trans (sD.trans (sN.trans (sF.trans sR)))))) _ _ upd_same) (s5.free nR) upd_same ((sAC.trans sD).free nN) ((sF.trans sR) _ _ upd_same) (.cons (.str _) (.cons (.int _) .nil)) ?_ (by rw [st_put2 ⟨h0, h1⟩ h20] <;> rfl) (by rw [st_put2 ⟨h0, h1⟩ h20] <;> rfl)
      rw [hcA, hcD]
      unfold putT
      rw [List.map_append, List.map_append, List.map_take, List.map_drop]
      exact dpAll_app (dpAll_app (dpAll_take _ hx) (.cons hxe .nil)) (dpAll_drop _ hx)
    | take i =>
      obtain ⟨rfl, rfl⟩ := ho
      rw [show decide (V.str "take" = V.str "undo") = false by decide +kernel]
      refine iteF ⟨_, rfl, ao, _, _, .int i, rfl, rfl, haoH, atI_nat (j := 1) rfl, ?_⟩
      refine ⟨_, rfl, ao, _, _, _, rfl, rfl, haoH, atI0, rfl, _, rfl, ?_⟩
      rw [show decide (V.str "take" = V.str "put") = false by decide +kernel]
      refine iteF ⟨_, rfl, _, _, rfl, rfl, _, rfl, ?_⟩
      have neg : ¬ (0 ≤ i ∧ i < ((curT T0 L).length : Nat)) → ∀ d, H d = none → ∀ t, (upd H d (.tup [.str "element", .int i])) t = none → Q (.ref t) (upd (upd H d (.tup [.str "element", .int i])) t (.lst [.ref d, .ref ra])) := fun h d nd => fin1 _ _ (.cons (.str _) (.cons (.int i) .nil)) (by rw [st_take0 h] <;> rfl) (by rw [st_take0 h] <;> rfl) d nd
      by_cases h0 : 0 ≤ i
      case neg =>
        rw [decide_eq_false h0]
        exact iteF ⟨_, rfl, iteT ⟨_, rfl, two _ _, fun d nd => ⟨_, rfl, two _ _, neg (fun z => h0 z.1) d nd⟩⟩⟩
      rw [decide_eq_true h0]
      refine iteT ⟨_, rfl, .ref tl, _, rfl, .inl ⟨_, htlH, rfl⟩, _, _, rfl, rfl, _, rfl, ?_⟩
      rw [hxl]
      by_cases h1 : i < ((curT T0 L).length : Nat)
      case neg =>
        rw [decide_eq_false h1]
        exact iteT ⟨_, rfl, two _ _, fun d nd => ⟨_, rfl, two _ _, neg (fun z => h1 z.2) d nd⟩⟩
      rw [decide_eq_true h1]
      have ei : i = ((i.toNat : Nat) : Int) := by omega
      have ei1 : i + 1 = ((i.toNat + 1 : Nat) : Int) := by omega
      have hit : i.toNat < xs.length := by omega
      have hie : (curT T0 L)[i.toNat]? = some ((curT T0 L)[i.toNat]'(by omega)) := List.getElem?_eq_getElem (by omega)
      have hat : ∀ z, xs[i.toNat]? = some z → atI xs i = some z := fun z hz => by
        rw [show atI xs i = atI xs ((i.toNat : Nat) : Int) by rw [← ei]]
        exact atI_nat hz
      obtain ⟨yd, hy1, hy2⟩ := dpAll_get hx (List.getElem?_eq_getElem hit)
      rw [List.getElem?_map, hie] at hy1
      cases hy1
      -- more
      refine iteF ⟨Nat.zero_le _, fun m0 nm0 => ?_⟩
      have s0 := same_new (o := .lst []) nm0
      refine ⟨_, rfl, 1, rfl, ao, _, _, .int i, rfl, rfl, sqT_mono s0 haoH, rfl, (by show 1 ≤ sizeLine; decide), fun m1 nm1 => ?_⟩
      have s1 := same_new (o := .lst [.int i]) nm1
      refine ⟨two _ _, fun ml nml => ?_⟩
      have s2 := same_new (o := .lst [.ref m0, .ref m1]) nml
      have s02 := s0.trans (s1.trans s2)
      refine ⟨_, rfl, ao, _, _, _, rfl, rfl, sqT_mono s02 haoH, atI0, rfl, .inr ⟨_, rfl, ?_⟩⟩
      rw [show (if decide (V.str "take" = V.str "exchange") = true then (1 : Int) else 0) = 0 by decide +kernel]
      refine ⟨ml, _, _, .ref m0, rfl, rfl, app1 upd_same, atI_nat (j := 0) rfl, ?_⟩
      have em : (upd (upd (upd H m0 (.lst [])) m1 (.lst [.int i])) ml (.lst [.ref m0, .ref m1])) m0 = some (.lst []) := (s1.trans s2) _ _ upd_same
      have lm : ([] : List V).length ≤ 1 := Nat.zero_le _
      refine ⟨_, rfl, _, rfl, tl, _, _, xs[i.toNat], rfl, rfl, s02.seq htlH, hat _ (List.getElem?_eq_getElem hit), two _ _, fun d nd => ?_⟩
      have sd := same_new (o := .tup [.str "told", xs[i.toNat]]) nd
      have hcA : cutV xs none (some i) = xs.take i.toNat := by
        rw [show some i = some ((i.toNat : Nat) : Int) from congrArg some ei]
        exact cut_to _ _ (by omega)
      have hcD : cutV xs (some (i + 1)) none = xs.drop (i.toNat + 1) := by
        rw [show some (i + 1) = some ((i.toNat + 1 : Nat) : Int) from congrArg some ei1]
        exact cut_from _ _
      have lA : (cutV xs none (some i)).length ≤ 20 := by rw [hcA, List.length_take]; omega
      have lD : (cutV xs (some (i + 1)) none).length ≤ 20 := by rw [hcD, List.length_drop]; omega
      have s0d := s02.trans sd
      refine ⟨_, rfl, _, rfl, _, rfl, _, rfl, tl, _, rfl, s0d.seq htlH, fun A nA => ?_⟩
      have sA := same_new (o := .lst (cutV xs none (some i))) nA
      refine ⟨_, rfl, A, m0, _, _, rfl, rfl, upd_same, (sd.trans sA) _ _ em, sumz _ (by omega), fun C nC => ?_⟩
      have sC := same_new (o := .lst (cutV xs none (some i) ++ [])) nC
      have sAC := s0d.trans (sA.trans sC)
      refine ⟨_, rfl, _, rfl, _, _, rfl, rfl, _, rfl, tl, _, rfl, sAC.seq htlH, fun D nD => ?_⟩
      have sD := same_new (o := .lst (cutV xs (some (i + 1)) none)) nD
      refine ⟨C, D, _, _, rfl, rfl, sD _ _ upd_same, upd_same, sumz _ (by rw [List.length_append]; omega), fun N nN => ?_⟩
      have sN := same_new (o := .lst (cutV xs none (some i) ++ [] ++ cutV xs (some (i + 1)) none)) nN
      refine ⟨by show 1 ≤ sizeLine; decide, fun F nF => ?_⟩
      have sF := same_new (o := .lst [.ref N]) nF
      have s5 := sAC.trans (sD.trans (sN.trans sF))
      refine ⟨ra, F, _, _, rfl, rfl, s5 _ _ hraH, upd_same, sumz _ (by show rs.length + 1 ≤ 300; omega), fun R nR => ⟨two _ _, ?_⟩⟩
      have sR := same_new (o := .lst (rs ++ [.ref N])) nR
      refine fin2 _ d R N [.str "told", xs[i.toNat]] (cutV xs none (some i) ++ [] ++ cutV xs (some (i + 1)) none) [.str "told", elD ((curT T0 L)[i.toNat]'(by omega))] (takeT (curT T0 L) i.toNat) (s5.trans sR) (s02.free nd) ((sA.trans (sC.trans (sD.trans (sN.trans (sF.trans sR))))) _ _ upd_same) (s5.free nR) upd_same ((sAC.trans sD).free nN) ((sF.trans sR) _ _ upd_same) (.cons (.str _) (.cons hy2 .nil)) ?_ (by rw [st_take1 ⟨h0, h1⟩ hie] <;> rfl) (by rw [st_take1 ⟨h0, h1⟩ hie] <;> rfl)
      rw [hcA, hcD]
      unfold takeT
      rw [List.map_append, List.map_take, List.map_drop, List.append_nil]
      exact dpAll_app (dpAll_take _ hx) (dpAll_drop _ hx)
    | exch i e =>
      obtain ⟨rfl, x, rfl, hxe⟩ := ho
      rw [show decide (V.str "exchange" = V.str "undo") = false by decide +kernel]
      refine iteF ⟨_, rfl, ao, _, _, .int i, rfl, rfl, haoH, atI_nat (j := 1) rfl, ?_⟩
      refine ⟨_, rfl, ao, _, _, _, rfl, rfl, haoH, atI0, rfl, _, rfl, ?_⟩
      rw [show decide (V.str "exchange" = V.str "put") = false by decide +kernel]
      refine iteF ⟨_, rfl, _, _, rfl, rfl, _, rfl, ?_⟩
      have neg : ¬ (0 ≤ i ∧ i < ((curT T0 L).length : Nat)) → ∀ d, H d = none → ∀ t, (upd H d (.tup [.str "element", .int i])) t = none → Q (.ref t) (upd (upd H d (.tup [.str "element", .int i])) t (.lst [.ref d, .ref ra])) := fun h d nd => fin1 _ _ (.cons (.str _) (.cons (.int i) .nil)) (by rw [st_exch0 h] <;> rfl) (by rw [st_exch0 h] <;> rfl) d nd
      by_cases h0 : 0 ≤ i
      case neg =>
        rw [decide_eq_false h0]
        exact iteF ⟨_, rfl, iteT ⟨_, rfl, two _ _, fun d nd => ⟨_, rfl, two _ _, neg (fun z => h0 z.1) d nd⟩⟩⟩
      rw [decide_eq_true h0]
      refine iteT ⟨_, rfl, .ref tl, _, rfl, .inl ⟨_, htlH, rfl⟩, _, _, rfl, rfl, _, rfl, ?_⟩
      rw [hxl]
      by_cases h1 : i < ((curT T0 L).length : Nat)
      case neg =>
        rw [decide_eq_false h1]
        exact iteT ⟨_, rfl, two _ _, fun d nd => ⟨_, rfl, two _ _, neg (fun z => h1 z.2) d nd⟩⟩
      rw [decide_eq_true h1]
      have ei : i = ((i.toNat : Nat) : Int) := by omega
      have ei1 : i + 1 = ((i.toNat + 1 : Nat) : Int) := by omega
      have hit : i.toNat < xs.length := by omega
      have hie : (curT T0 L)[i.toNat]? = some ((curT T0 L)[i.toNat]'(by omega)) := List.getElem?_eq_getElem (by omega)
      have hat : ∀ z, xs[i.toNat]? = some z → atI xs i = some z := fun z hz => by
        rw [show atI xs i = atI xs ((i.toNat : Nat) : Int) by rw [← ei]]
        exact atI_nat hz
      obtain ⟨yd, hy1, hy2⟩ := dpAll_get hx (List.getElem?_eq_getElem hit)
      rw [List.getElem?_map, hie] at hy1
      cases hy1
      -- more
      refine iteF ⟨Nat.zero_le _, fun m0 nm0 => ?_⟩
      have s0 := same_new (o := .lst []) nm0
      refine ⟨_, rfl, 1, rfl, ao, _, _, x, rfl, rfl, sqT_mono s0 haoH, rfl, (by show 1 ≤ sizeLine; decide), fun m1 nm1 => ?_⟩
      have s1 := same_new (o := .lst [x]) nm1
      refine ⟨two _ _, fun ml nml => ?_⟩
      have s2 := same_new (o := .lst [.ref m0, .ref m1]) nml
      have s02 := s0.trans (s1.trans s2)
      refine ⟨_, rfl, ao, _, _, _, rfl, rfl, sqT_mono s02 haoH, atI0, rfl, .inr ⟨_, rfl, ?_⟩⟩
      rw [show (if decide (V.str "exchange" = V.str "exchange") = true then (1 : Int) else 0) = 1 by decide +kernel]
      refine ⟨ml, _, _, .ref m1, rfl, rfl, app1 upd_same, atI_nat (j := 1) rfl, ?_⟩
      have em : (upd (upd (upd H m0 (.lst [])) m1 (.lst [x])) ml (.lst [.ref m0, .ref m1])) m1 = some (.lst [x]) := s2 _ _ upd_same
      have lm : ([x] : List V).length ≤ 1 := Nat.le_refl 1
      refine ⟨_, rfl, _, rfl, tl, _, _, xs[i.toNat], rfl, rfl, s02.seq htlH, hat _ (List.getElem?_eq_getElem hit), two _ _, fun d nd => ?_⟩
      have sd := same_new (o := .tup [.str "told", xs[i.toNat]]) nd
      have hcA : cutV xs none (some i) = xs.take i.toNat := by
        rw [show some i = some ((i.toNat : Nat) : Int) from congrArg some ei]
        exact cut_to _ _ (by omega)
      have hcD : cutV xs (some (i + 1)) none = xs.drop (i.toNat + 1) := by
        rw [show some (i + 1) = some ((i.toNat + 1 : Nat) : Int) from congrArg some ei1]
        exact cut_from _ _
      have lA : (cutV xs none (some i)).length ≤ 20 := by rw [hcA, List.length_take]; omega
      have lD : (cutV xs (some (i + 1)) none).length ≤ 20 := by rw [hcD, List.length_drop]; omega
      have s0d := s02.trans sd
      refine ⟨_, rfl, _, rfl, _, rfl, _, rfl, tl, _, rfl, s0d.seq htlH, fun A nA => ?_⟩
      have sA := same_new (o := .lst (cutV xs none (some i))) nA
      refine ⟨_, rfl, A, m1, _, _, rfl, rfl, upd_same, (sd.trans sA) _ _ em, sumz _ (by omega), fun C nC => ?_⟩
      have sC := same_new (o := .lst (cutV xs none (some i) ++ [x])) nC
      have sAC := s0d.trans (sA.trans sC)
      refine ⟨_, rfl, _, rfl, _, _, rfl, rfl, _, rfl, tl, _, rfl, sAC.seq htlH, fun D nD => ?_⟩
      have sD := same_new (o := .lst (cutV xs (some (i + 1)) none)) nD
      refine ⟨C, D, _, _, rfl, rfl, sD _ _ upd_same, upd_same, sumz _ (by rw [List.length_append]; omega), fun N nN => ?_⟩
      have sN := same_new (o := .lst (cutV xs none (some i) ++ [x] ++ cutV xs (some (i + 1)) none)) nN
      refine ⟨by show 1 ≤ sizeLine; decide, fun F nF => ?_⟩
      have sF := same_new (o := .lst [.ref N]) nF
      have s5 := sAC.trans (sD.trans (sN.trans sF))
      refine ⟨ra, F, _, _, rfl, rfl, s5 _ _ hraH, upd_same, sumz _ (by show rs.length + 1 ≤ 300; omega), fun R nR => ⟨two _ _, ?_⟩⟩
      have sR := same_new (o := .lst (rs ++ [.ref N])) nR
      refine fin2 _ d R N [.str "told", xs[i.toNat]] (cutV xs none (some i) ++ [x] ++ cutV xs (some (i + 1)) none) [.str "told", elD ((curT T0 L)[i.toNat]'(by omega))] (exchT (curT T0 L) i.toNat e) (s5.trans sR) (s02.free nd) ((sA.trans (sC.trans (sD.trans (sN.trans (sF.trans sR))))) _ _ upd_same) (s5.free nR) upd_same ((sAC.trans sD).free nN) ((sF.trans sR) _ _ upd_same) (.cons (.str _) (.cons hy2 .nil)) ?_ (by rw [st_exch1 ⟨h0, h1⟩ hie] <;> rfl) (by rw [st_exch1 ⟨h0, h1⟩ hie] <;> rfl)
      rw [hcA, hcD]
      unfold exchT
      rw [List.map_append, List.map_append, List.map_take, List.map_drop]
      exact dpAll_app (dpAll_app (dpAll_take _ hx) (.cons hxe .nil)) (dpAll_drop _ hx)
end
end RT
end
section
set_option Elab.async false
set_option linter.all false
set_option maxRecDepth 100000
set_option maxHeartbeats 2000000
/-! Z5: _law_same, _law_performed. -/
namespace RT
open PySem PySem.Spec PyProof.Rows L2
/-- data that repr takes: depth at most k, its text at most n -/
structure Dk (k n : Nat) (d : PyData) : Prop where
  s : d.showable = true
  h : d.hasDict = false
  p : d.depth ≤ k
  l : d.shown.length ≤ n
theorem Dk.mono {k n k' n' : Nat} {d : PyData} (x : Dk k n d) (h1 : k ≤ k') (h2 : n ≤ n') : Dk k' n' d := ⟨x.s, x.h, Nat.le_trans x.p h1, Nat.le_trans x.l h2⟩
theorem dk_int {i : Int} (h : i.natAbs < 10 ^ 100) : Dk 0 101 (.int i) := by
  refine ⟨?_, rfl, Nat.le_refl _, PySem.OwnX.short_text h⟩
  unfold PyData.showable
  exact decide_eq_true (PySem.OwnX.small_log h)
theorem dk_bool (b : Bool) : Dk 0 101 (.bool b) := by cases b <;> exact ⟨rfl, rfl, Nat.le_refl _, by decide +kernel⟩
theorem dk_none : Dk 0 101 .none := ⟨rfl, rfl, Nat.le_refl _, by decide +kernel⟩
theorem dk_str {x : Str} (h : (reprText x).length ≤ 101) : Dk 0 101 (.str x) := ⟨rfl, rfl, Nat.le_refl _, h⟩
theorem all_dk {k n : Nat} : ∀ {ds : List PyData}, (∀ d ∈ ds, Dk k n d) → PyData.showableAll ds = true ∧ PyData.hasDictAll ds = false ∧ PyData.depthAll ds ≤ k ∧ (∀ x ∈ PyData.shownAll ds, x.length ≤ n) ∧ (PyData.shownAll ds).length = ds.length
  | [], _ => ⟨rfl, rfl, Nat.zero_le _, fun _ h => (nomatch h), rfl⟩
  | d :: ds, h => by
    obtain ⟨a, b, c, e, f⟩ := all_dk fun x hx => h x (List.mem_cons_of_mem _ hx)
    have hd := h d List.mem_cons_self
    refine ⟨?_, ?_, ?_, fun x hx => ?_, ?_⟩
    · show (d.showable && PyData.showableAll ds) = true
      rw [hd.s, a]
      rfl
    · show (d.hasDict || PyData.hasDictAll ds) = false
      rw [hd.h, b]
      rfl
    · show max d.depth (PyData.depthAll ds) ≤ k
      exact Nat.max_le.mpr ⟨hd.p, c⟩
    · rcases List.mem_cons.mp hx with rfl | hx
      · exact hd.l
      · exact e x hx
    · show (PyData.shownAll ds).length + 1 = ds.length + 1
      rw [f]
theorem textFrom_le (n : Nat) : ∀ (ts : List Str) (k : Nat) (acc : Str), (∀ x ∈ ts, x.length ≤ n) → (textFrom k acc ts).length ≤ acc.length + ts.length * (n + 2)
  | [], k, acc, _ => by
    show acc.length ≤ _
    omega
  | t :: r, k, acc, h => by
    have ih := textFrom_le n r (k + 1) (acc ++ (if k > 0 then ", " else "" : String) ++ t) fun x hx => h x (List.mem_cons_of_mem _ hx)
    have ht := h t List.mem_cons_self
    have e : (acc ++ (if k > 0 then ", " else "" : String) ++ t).length ≤ acc.length + 2 + t.length := by
      rw [strLen_append, strLen_append]
      have : ((if k > 0 then ", " else "" : String) : Str).length ≤ 2 := by
        split
        · exact Nat.le_refl 2
        · exact Nat.zero_le 2
      omega
    show (textFrom (k + 1) (acc ++ (if k > 0 then ", " else "" : String) ++ t) r).length ≤ acc.length + (r.length + 1) * (n + 2)
    rw [Nat.succ_mul]
    omega
theorem join_le (n : Nat) : ∀ ts : List Str, (∀ x ∈ ts, x.length ≤ n) → (Str.join ", " ts).length ≤ ts.length * (n + 2)
  | [], _ => Nat.zero_le _
  | [x], h => by
    have := h x List.mem_cons_self
    show x.length ≤ 1 * (n + 2)
    omega
  | x :: y :: r, h => by
    have ih := join_le n (y :: r) fun z hz => h z (List.mem_cons_of_mem _ hz)
    have := h x List.mem_cons_self
    have e2 : ((", " : String) : Str).length = 2 := rfl
    show (x ++ ", " ++ Str.join ", " (y :: r)).length ≤ ((y :: r).length + 1) * (n + 2)
    rw [strLen_append, strLen_append, Nat.succ_mul]
    omega
theorem dk_list {k n : Nat} {ds : List PyData} (h : ∀ d ∈ ds, Dk k n d) : Dk (k + 1) (ds.length * (n + 2) + 2) (.list ds) := by
  obtain ⟨a, b, c, e, f⟩ := all_dk h
  refine ⟨a, b, Nat.succ_le_succ c, ?_⟩
  have z := textFrom_le n (PyData.shownAll ds) 0 "[" e
  rw [f] at z
  show (textFrom 0 "[" (PyData.shownAll ds) ++ "]").length ≤ _
  rw [strLen_append]
  have e1 : (("[" : String) : Str).length = 1 := rfl
  have e2 : (("]" : String) : Str).length = 1 := rfl
  omega
theorem dk_tuple {k n : Nat} {ds : List PyData} (h : ∀ d ∈ ds, Dk k n d) : Dk (k + 1) (ds.length * (n + 2) + 3) (.tuple ds) := by
  obtain ⟨a, b, c, e, f⟩ := all_dk h
  refine ⟨a, b, Nat.succ_le_succ c, ?_⟩
  have z := join_le n (PyData.shownAll ds) e
  rw [f] at z
  show (("(" : Str) ++ Str.join ", " (PyData.shownAll ds) ++ (if (PyData.shownAll ds).length == 1 then ",)" else ")" : String)).length ≤ _
  rw [strLen_append, strLen_append]
  have e1 : (("(" : String) : Str).length = 1 := rfl
  have e2 : ((if (PyData.shownAll ds).length == 1 then ",)" else ")" : String) : Str).length ≤ 2 := by
    split
    · exact Nat.le_refl 2
    · exact Nat.le_succ 1
  omega
theorem dk_q {q : Q2} (h : q ∈ goodQs) : Dk 1 209 (qD q) := by
  obtain ⟨g1, g2, g3, _⟩ := okq h
  have b1 : q.1.natAbs < 10 ^ 100 := Nat.lt_of_le_of_lt g3 (by decide +kernel)
  have b2 : q.2.natAbs < 10 ^ 100 := Nat.lt_of_le_of_lt (by omega : q.2.natAbs ≤ 1000) (by decide +kernel)
  have z : Dk 1 (2 * 103 + 3) (qD q) := dk_tuple (ds := [.int q.1, .int q.2]) (n := 101) (k := 0) fun d hd => by
    rcases List.mem_cons.mp hd with rfl | hd
    · exact dk_int b1
    · rw [List.mem_singleton.mp hd]
      exact dk_int b2
  exact z
theorem dk_el {e : El} (g : GoodEl e) : Dk 2 636 (elD e) := by
  have w : ∀ x ∈ (["gap", "lens", "prism", "afocal", "stop"] : List Str), Dk 1 209 (.str x) := fun x hx => by
    have z : ∀ x ∈ (["gap", "lens", "prism", "afocal", "stop"] : List Str), (reprText x).length ≤ 101 := by decide +kernel
    exact (dk_str (z x hx)).mono (by decide) (by decide)
  have t2 : ∀ {x : Str} {d : PyData}, Dk 1 209 (.str x) → Dk 1 209 d → Dk 2 636 (.tuple [.str x, d]) := fun h1 h2 => (dk_tuple (n := 209) (k := 1) fun y hy => by
    rcases List.mem_cons.mp hy with rfl | hy
    · exact h1
    · rw [List.mem_singleton.mp hy]
      exact h2).mono (by decide) (by show 2 * 211 + 3 ≤ 636; decide)
  have t3 : ∀ {x : Str} {d d' : PyData}, Dk 1 209 (.str x) → Dk 1 209 d → Dk 1 209 d' → Dk 2 636 (.tuple [.str x, d, d']) := fun h1 h2 h3 => (dk_tuple (n := 209) (k := 1) fun y hy => by
    rcases List.mem_cons.mp hy with rfl | hy
    · exact h1
    · rcases List.mem_cons.mp hy with rfl | hy
      · exact h2
      · rw [List.mem_singleton.mp hy]
        exact h3).mono (by decide) (by show 3 * 211 + 3 ≤ 636; decide)
  have nn : Dk 1 209 .none := dk_none.mono (by decide) (by decide)
  cases e with
  | gap q => exact t2 (w _ (by decide +kernel)) (dk_q (lo_good g))
  | prism q => exact t2 (w _ (by decide +kernel)) (dk_q (lo_good g))
  | afocal q => exact t2 (w _ (by decide +kernel)) (dk_q (lo_good g.1))
  | lens p c => exact t3 (w _ (by decide +kernel)) (dk_q (lo_good g.1)) (dk_q (lo_good g.2))
  | stop l u =>
    cases l with
    | none =>
      cases u with
      | none => exact g.elim
      | some u => exact t3 (w _ (by decide +kernel)) nn (dk_q (up_good g))
    | some l =>
      cases u with
      | none => exact t3 (w _ (by decide +kernel)) (dk_q (lo_good g)) nn
      | some u => exact t3 (w _ (by decide +kernel)) (dk_q (lo_good g.1)) (dk_q (up_good g.2.1))
def GoodT (t : List El) : Prop := (∀ e ∈ t, GoodEl e) ∧ t.length ≤ 20
theorem dk_els {t : List El} (g : GoodT t) : Dk 3 12762 (elsD t) := by
  have z := dk_list (ds := t.map elD) (k := 2) (n := 636) fun d hd => by
    obtain ⟨e, he, rfl⟩ := List.mem_map.mp hd
    exact dk_el (g.1 e he)
  rw [List.length_map] at z
  exact z.mono (Nat.le_refl _) (by have := g.2; omega)
theorem dk_rows {L : List (List El)} (g : ∀ t ∈ L, GoodT t) (hl : L.length ≤ 100) : Dk 4 1276402 (.list (L.map elsD)) := by
  have z := dk_list (ds := L.map elsD) (k := 3) (n := 12762) fun d hd => by
    obtain ⟨t, ht, rfl⟩ := List.mem_map.mp hd
    exact dk_els (g t ht)
  rw [List.length_map] at z
  exact z.mono (Nat.le_refl _) (by omega)
section
variable {P : Program} {w : World} {K : PySem.W.Frag} {mg : Str → Option Value} {base : Heap}
/-- a def that may be called by its name, no repr under way -/
structure CalG (P : Program) (w : World) (K : PySem.W.Frag) (mg : Str → Option Value) (base : Heap) (CX : CXT) (k : Nat) (x : Str) (ps : List Str) (sp : Sp) : Prop where
  ex : ∃ fd, FnG P w K mg base CX k (He.ga K x) fd ps sp ∧ Binds K fd ps []
  mg : mg x = some (.ref (He.ga K x))
  kp : PySem.W.keepIn K (.ref (He.ga K x)) = true
def spSame (K : PySem.W.Frag) : Sp := fun vs H Q _ => ∃ (v1 v2 : V) (d1 d2 : PyData), vs = [v1, v2] ∧ Dp K H v1 d1 ∧ Dp K H v2 d2 ∧ Dk 8 16777216 d1 ∧ Dk 8 16777216 d2 ∧ Q (.bl (decide (d1.shown = d2.shown))) H
theorem ok_same (T : TX K mg) : CalG P w K mg base CX0 1 "_law_same" ["_law_one", "_law_other"] (spSame K) := by
  obtain ⟨fd, F⟩ := T.df in_law_same
  refine ⟨⟨fd, FnG.of F sc_law_same (fun vs H Q E h => ?_) (fun cdv A outer s H vs Q E hgd hr h => ?_), F.bindsN bd_law_same⟩, T.gd in_law_same, F.kp⟩
  · obtain ⟨a, b, c, d, rfl, _⟩ := h
    rfl
  · obtain ⟨v1, v2, d1, d2, rfl, h1, h2, k1, k2, k⟩ := h
    refine ⟨_, PSs.nox (pss_one (ps_ret (pe_cmpR op_eq (pe_callB (call_reprD hr hgd) (by rfl) (T.fr (by decide +kernel)) (by decide +kernel) (pa_cons (pv 0) pa_nil)) (pe_callB (call_reprD hr hgd) (by rfl) (T.fr (by decide +kernel)) (by decide +kernel) (pa_cons (pv 1) pa_nil)) (nomark _)))), ?_⟩
    refine ⟨_, rfl, v1, d1, rfl, h1, k1.s, k1.h, k1.p, Nat.le_trans k1.l (by decide : 16777216 ≤ sizeLine), _, rfl, v2, d2, rfl, h2, k2.s, k2.h, k2.p, Nat.le_trans k2.l (by decide : 16777216 ≤ sizeLine), rfl, ?_⟩
    show Q (.bl (decide (V.str d1.shown = V.str d2.shown))) H
    rw [str_dec]
    exact k
end
end RT
end
section
set_option Elab.async false
set_option linter.all false
set_option maxRecDepth 100000
set_option maxHeartbeats 2000000
/-! Z6: _law_performed. -/
namespace RT
open PySem PySem.Spec PyProof.Rows L2
section
variable {P : Program} {w : World} {K : PySem.W.Frag} {mg : Str → Option Value} {base : Heap}
def WantP (K : PySem.W.Frag) (j b d l ol : Addr) (G H : Hp) (T0 : List El) (oc : List Int) (pw : Nat) (o : Op) (Q : VK) : Step → Prop
  | .ok (.flag false) L' => ∀ G' H' t, BnAt K G' H' b l T0 L' → JbAt K H' j b d false → DvAt K H' d ol oc pw → Ext G H G' H' → Chg (FM l d ol j) H H' → H' t = some (.tup [.str "told", .bl false]) → Q (.ref t) H'
  | .ok r L' => ((recO o).length ≤ pw → ∀ G' H' t y, BnAt K G' H' b l T0 L' → JbAt K H' j b d false → DvAt K H' d ol (oc ++ recO o) ((pw - (recO o).length : Nat) : Int) → Ext G H G' H' → Chg (FM l d ol j) H H' → Dp K G' y (resD r) → H' t = some (.tup [.str "told", y]) → Q (.ref t) H') ∧
      (pw < (recO o).length → ∀ G' H' t n, BnAt K G' H' b l T0 L' → JbAt K H' j b d true → DvAt K H' d ol (oc ++ (recO o).take pw) 0 → Ext G H G' H' → Chg (FM l d ol j) H H' → H' t = some (.tup [.str "cut", .int n]) → Q (.ref t) H')
  | .pos i => ∀ H' t, Same H H' → H' t = some (.tup [.str "position", .int i]) → Q (.ref t) H'
  | .elem i => ∀ H' t, Same H H' → H' t = some (.tup [.str "element", .int i]) → Q (.ref t) H'
  | .full => ∀ H' t, Same H H' → H' t = some (.tup [.str "full"]) → Q (.ref t) H'
def spLPerf (K : PySem.W.Frag) : Sp := fun vs H Q _ => ∃ (j b d l ol : Addr) (G : Hp) (T0 : List El) (L : List (List El)) (oc : List Int) (pw : Nat) (v : V) (o : Op), vs = [.ref j, v] ∧ JbAt K H j b d false ∧ BnAt K G H b l T0 L ∧ DvAt K H d ol oc pw ∧ Same G H ∧ (G d = none ∧ G ol = none ∧ G j = none ∧ l ≠ ol) ∧ Dp K G v (opD o) ∧
  ElOp o ∧ (idxO o).natAbs ≤ 1000 ∧ (curT T0 L).length ≤ 20 ∧ L.length ≤ 100 ∧ oc.length ≤ 9000 ∧ WantP K j b d l ol G H T0 oc pw o Q (stepO T0 L o)
theorem ok_lperf (T : TX K mg) (Z : EX P K) : Cal P w K mg base CX0 7 "_law_performed" ["_law_journaled", "_law_operation_here"] (spLPerf K) := by
  have GJ : MCal P w K mg base (L2.CX P w) 6 "JournaledBench" "perform" ["self", "operation"] (spJPerf K) := ok_jperf T Z
  refine Cal.of T in_law_performed sc_law_performed bd_law_performed (fun vs H Q E h => ?_) (fun cdv A outer s H vs Q E hr h => ?_)
  · obtain ⟨a, b, c, d, e, f, g, h1, h2, h3, h4, h5, rfl, _⟩ := h
    rfl
  · obtain ⟨j, b, d, l, ol, G, T0, L, oc, pw, v, o, rfl, hj, hB, hD, sG, hgn, hv, hel, hi, hlen, hL, hoc, k⟩ := h
    have clJ := T.cl (x := "JournaledBench") (by decide +kernel)
    refine ⟨_, pss_one (ps_try_mix (tb := fun W => tRet (tTup (tCons (tC (.str "told")) (tCons (tMethE (cJ K) "perform" (spJPerf K) (WE W) (tVar 0) (tCons (tVar 1) tNil)) tNil)))) rfl rfl takes0
      (fun W pn xe tk po => pss_one (ps_ret (pe_tup (pa_cons pe_str (pa_cons (pe_mcalE (pv 0) clJ (T.me in_JournaledBench_perform) GJ hr (fun σ => passAt tk σ) (pa_cons (pv 1) pa_nil)) pa_nil)))))
      (HdL.named (c := .ref (He.ga K "PowerCut")) (i := 2) (ts := fun a cls dd => tRet (tTup (tCons (tC (.str "cut")) (tCons (tOfOwn (He.ga K "PowerCut") "written" a cls dd (tVar 2)) tNil)))) ⟨rfl, by decide, .inl (T.ge (x := "PowerCut") (by decide +kernel))⟩ sc_law_performed.nd rfl rfl
          (fun a oe cls dd pn hz hf => pss_one (ps_ret (pe_tup (pa_cons pe_str (pa_cons (pe_ofOwn ⟨Z.cut.own, .inr (.inr ⟨rfl, rfl⟩), T.ge (x := "PowerCut") (by decide +kernel), T.ke (x := "PowerCut") (by decide +kernel), Z.cut.exC, Z.cut.tyC, Z.top⟩ Z.cut.hdi Z.cut.gat Z.cut.get hz hf (pv 2)) pa_nil)))))
      (HdL.plain (c := .ref (He.ga K "ShutError")) (ts := fun _ _ _ => tRet (tTup (tCons (tC (.str "shut")) tNil))) ⟨rfl, by decide, .inl (T.ge (x := "ShutError") (by decide +kernel))⟩ (fun a oe cls dd pn hz hf => pss_one (ps_ret (pe_tup (pa_cons pe_str pa_nil))))
      (HdL.named (c := .ref (He.ga K "NoSuchPosition")) (i := 2) (ts := fun a cls dd => tRet (tTup (tCons (tC (.str "position")) (tCons (tOfOwn (He.ga K "NoSuchPosition") "index" a cls dd (tVar 2)) tNil)))) ⟨rfl, by decide, .inl (T.ge (x := "NoSuchPosition") (by decide +kernel))⟩ sc_law_performed.nd rfl rfl
          (fun a oe cls dd pn hz hf => pss_one (ps_ret (pe_tup (pa_cons pe_str (pa_cons (pe_ofOwn ⟨Z.po.own, .inr (.inl ⟨rfl, rfl⟩), T.ge (x := "NoSuchPosition") (by decide +kernel), T.ke (x := "NoSuchPosition") (by decide +kernel), Z.po.exC, Z.po.tyC, Z.top⟩ Z.po.hdi Z.po.gat Z.po.get hz hf (pv 2)) pa_nil)))))
      (HdL.named (c := .ref (He.ga K "NoSuchElement")) (i := 2) (ts := fun a cls dd => tRet (tTup (tCons (tC (.str "element")) (tCons (tOfOwn (He.ga K "NoSuchElement") "index" a cls dd (tVar 2)) tNil)))) ⟨rfl, by decide, .inl (T.ge (x := "NoSuchElement") (by decide +kernel))⟩ sc_law_performed.nd rfl rfl
          (fun a oe cls dd pn hz hf => pss_one (ps_ret (pe_tup (pa_cons pe_str (pa_cons (pe_ofOwn ⟨Z.el.own, .inl ⟨rfl, rfl⟩, T.ge (x := "NoSuchElement") (by decide +kernel), T.ke (x := "NoSuchElement") (by decide +kernel), Z.el.exC, Z.el.tyC, Z.top⟩ Z.el.hdi Z.el.gat Z.el.get hz hf (pv 2)) pa_nil)))))
      (HdL.plain (c := .ref (He.ga K "TrainFull")) (ts := fun _ _ _ => tRet (tTup (tCons (tC (.str "full")) tNil))) ⟨rfl, by decide, .inl (T.ge (x := "TrainFull") (by decide +kernel))⟩ (fun a oe cls dd pn hz hf => pss_one (ps_ret (pe_tup (pa_cons pe_str pa_nil))))
      HdL.nil)))))), ?_⟩
    obtain ⟨dxj, hj0⟩ := id hj
    have two : ∀ a b : V, [a, b].length ≤ sizeLine := fun _ _ => by show 2 ≤ sizeLine; decide
    refine ⟨_, rfl, j, dxj, _, rfl, hj0, rfl, _, rfl, j, b, d, l, ol, G, T0, L, oc, pw, v, o, rfl, hj, hB, hD, sG, hgn, hv, hel, hi, hlen, hL, hoc, ?_⟩
    have bMono : ∀ {G' H1 H2 : Hp} {L' : List (List El)}, BnAt K G' H1 b l T0 L' → Same H1 H2 → BnAt K G' H2 b l T0 L' := fun hb s => hb.mono (Same.refl _) hb.gl (fun u z => s _ _ z) (fun u z => s _ _ z)
    have jMono : ∀ {H1 H2 : Hp} {q : Bool}, JbAt K H1 j b d q → Same H1 H2 → JbAt K H2 j b d q := fun hb s => let ⟨x, z⟩ := hb; ⟨x, s _ _ z⟩
    have dMono : ∀ {H1 H2 : Hp} {q : List Int} {z : Int}, DvAt K H1 d ol q z → Same H1 H2 → DvAt K H2 d ol q z := fun hb s => ⟨let ⟨x, z⟩ := hb.ob; ⟨x, s _ _ z⟩, s _ _ hb.os⟩
    have eMono : ∀ {G' H1 H2 : Hp}, Ext G H G' H1 → Same H1 H2 → Ext G H G' H2 := fun e s => ⟨e.gg, e.gh.trans s, e.nw⟩
    generalize stepO T0 L o = st at k ⊢
    cases st with
    | pos i =>
      intro e H' s1 ne ee
      exact ⟨false, T.exm (x := "NoSuchPosition") (y := "PowerCut") (by decide +kernel), (fun q => nomatch q), fun _ => ⟨false, T.exm (x := "NoSuchPosition") (y := "ShutError") (by decide +kernel), (fun q => nomatch q), fun _ =>
        ⟨true, T.exm (x := "NoSuchPosition") (y := "NoSuchPosition") (by decide +kernel), (fun _ a na => ⟨_, rfl, rfl, rfl, e, _, rfl, ee, two _ _, fun t nt => k _ t (s1.trans (same_new nt)) upd_same⟩), fun q => nomatch q⟩⟩⟩
    | elem i =>
      intro e H' s1 ne ee
      exact ⟨false, T.exm (x := "NoSuchElement") (y := "PowerCut") (by decide +kernel), (fun q => nomatch q), fun _ => ⟨false, T.exm (x := "NoSuchElement") (y := "ShutError") (by decide +kernel), (fun q => nomatch q), fun _ =>
        ⟨false, T.exm (x := "NoSuchElement") (y := "NoSuchPosition") (by decide +kernel), (fun q => nomatch q), fun _ => ⟨true, T.exm (x := "NoSuchElement") (y := "NoSuchElement") (by decide +kernel), (fun _ a na => ⟨_, rfl, rfl, rfl, e, _, rfl, ee, two _ _, fun t nt => k _ t (s1.trans (same_new nt)) upd_same⟩), fun q => nomatch q⟩⟩⟩⟩
    | full =>
      intro H' s1
      exact ⟨false, T.exm (x := "TrainFull") (y := "PowerCut") (by decide +kernel), (fun q => nomatch q), fun _ => ⟨false, T.exm (x := "TrainFull") (y := "ShutError") (by decide +kernel), (fun q => nomatch q), fun _ =>
        ⟨false, T.exm (x := "TrainFull") (y := "NoSuchPosition") (by decide +kernel), (fun q => nomatch q), fun _ => ⟨false, T.exm (x := "TrainFull") (y := "NoSuchElement") (by decide +kernel), (fun q => nomatch q), fun _ =>
        ⟨true, T.exm (x := "TrainFull") (y := "TrainFull") (by decide +kernel), (fun _ a na => ⟨(by show 1 ≤ sizeLine; decide), fun t nt => k _ t (s1.trans (same_new nt)) upd_same⟩), fun q => nomatch q⟩⟩⟩⟩⟩
    | ok r L' =>
      have c0 : ∀ {dr : PyData} (kk : (recO o).length ≤ pw → ∀ G' H' t y, BnAt K G' H' b l T0 L' → JbAt K H' j b d false → DvAt K H' d ol (oc ++ recO o) ((pw - (recO o).length : Nat) : Int) → Ext G H G' H' → Chg (FM l d ol j) H H' → Dp K G' y dr → H' t = some (.tup [.str "told", y]) → Q (.ref t) H'),
          (recO o).length ≤ pw → ∀ G' H' y, BnAt K G' H' b l T0 L' → JbAt K H' j b d false → DvAt K H' d ol (oc ++ recO o) ((pw - (recO o).length : Nat) : Int) → Ext G H G' H' → Chg (FM l d ol j) H H' → Dp K G' y dr → [V.str "told", y].length ≤ sizeLine ∧ ∀ t, H' t = none → Q (.ref t) (upd H' t (.tup [.str "told", y])) := fun kk hpw G' H' y q1 q2 q3 q4 q5 q6 =>
        ⟨two _ _, fun t nt => kk hpw G' _ t y (bMono q1 (same_new nt)) (jMono q2 (same_new nt)) (dMono q3 (same_new nt)) (eMono q4 (same_new nt)) (q5.new nt) q6 upd_same⟩
      cases r with
      | num n => exact ⟨c0 k.1, fun hpw G' H' e n q1 q2 q3 q4 q5 ee => ⟨true, T.exm (x := "PowerCut") (y := "PowerCut") (by decide +kernel), (fun _ a na => ⟨_, rfl, rfl, rfl, e, _, rfl, ee, two _ _, fun t nt => k.2 hpw G' _ t n (bMono q1 (same_new nt)) (jMono q2 (same_new nt)) (dMono q3 (same_new nt)) (eMono q4 (same_new nt)) (q5.new nt) upd_same⟩), fun q => nomatch q⟩⟩
      | el x => exact ⟨c0 k.1, fun hpw G' H' e n q1 q2 q3 q4 q5 ee => ⟨true, T.exm (x := "PowerCut") (y := "PowerCut") (by decide +kernel), (fun _ a na => ⟨_, rfl, rfl, rfl, e, _, rfl, ee, two _ _, fun t nt => k.2 hpw G' _ t n (bMono q1 (same_new nt)) (jMono q2 (same_new nt)) (dMono q3 (same_new nt)) (eMono q4 (same_new nt)) (q5.new nt) upd_same⟩), fun q => nomatch q⟩⟩
      | flag f =>
        cases f with
        | true => exact ⟨c0 k.1, fun hpw G' H' e n q1 q2 q3 q4 q5 ee => ⟨true, T.exm (x := "PowerCut") (y := "PowerCut") (by decide +kernel), (fun _ a na => ⟨_, rfl, rfl, rfl, e, _, rfl, ee, two _ _, fun t nt => k.2 hpw G' _ t n (bMono q1 (same_new nt)) (jMono q2 (same_new nt)) (dMono q3 (same_new nt)) (eMono q4 (same_new nt)) (q5.new nt) upd_same⟩), fun q => nomatch q⟩⟩
        | false => exact fun G' H' q1 q2 q3 q4 q5 => ⟨two _ _, fun t nt => k G' _ t (bMono q1 (same_new nt)) (jMono q2 (same_new nt)) (dMono q3 (same_new nt)) (eMono q4 (same_new nt)) (q5.new nt) upd_same⟩
end
end RT
end
section
set_option Elab.async false
set_option linter.all false
set_option maxRecDepth 100000
set_option maxHeartbeats 4000000
/-! Z7a: what stands through the law. -/
namespace RT
open PySem PySem.Spec PyProof.Rows L2
/-- what stands through the whole law -/
structure Com (K : PySem.W.Frag) (bx : Bx) (t : Addr) (xs0 : List V) (T0 : List El) (n : Nat) (G H : Hp) (ra wh : Addr) (rs : List V) (L : List (List El)) (ops : List Op) : Prop where
  box : BoxAt H bx
  tbs : Tbs K H
  gh : Same G H
  gbx : G bx.a = none
  gT : ∀ b, IsT K b → G b = none
  tr : G t = some (.lst xs0)
  tx : DpAll K G xs0 (T0.map elD)
  rw : G ra = some (.lst rs)
  rx : DpAll K G rs ((T0 :: L).map elsD)
  wh : G wh = some (.lst ((flatR ops).map V.int))
  rep : Rep T0 [] ops L
  el : ∀ o ∈ ops, ElOp o
  on : ops.length ≤ n
  ln : L.length ≤ n
  gt : ∀ x ∈ T0 :: L, GoodT x
theorem Com.step {K : PySem.W.Frag} {bx : Bx} {t : Addr} {xs0 : List V} {T0 : List El} {n : Nat} {G H G' H' : Hp} {ra wh : Addr} {rs : List V} {L : List (List El)} {ops : List Op} (c : Com K bx t xs0 T0 n G H ra wh rs L ops) (e : Ext G H G' H') (b : BoxAt H' bx) (tb : Tbs K H') : Com K bx t xs0 T0 n G' H' ra wh rs L ops :=
  ⟨b, tb, e.gh, e.nw _ c.box.some_ c.gbx, fun x hx => e.nw x (c.tbs.some_ x hx) (c.gT x hx), e.gg _ _ c.tr, dpAll_mono e.gg c.tx, e.gg _ _ c.rw, dpAll_mono e.gg c.rx, e.gg _ _ c.wh, c.rep, c.el, c.on, c.ln, c.gt⟩
theorem Com.ext {K : PySem.W.Frag} {bx : Bx} {t : Addr} {xs0 : List V} {T0 : List El} {n : Nat} {G H H' : Hp} {ra wh : Addr} {rs : List V} {L : List (List El)} {ops : List Op} (c : Com K bx t xs0 T0 n G H ra wh rs L ops) (s : Same H H') : Ext G H G H' := ⟨Same.refl _, c.gh.trans s, fun _ _ z => z⟩
theorem Com.same {K : PySem.W.Frag} {bx : Bx} {t : Addr} {xs0 : List V} {T0 : List El} {n : Nat} {G H H' : Hp} {ra wh : Addr} {rs : List V} {L : List (List El)} {ops : List Op} (c : Com K bx t xs0 T0 n G H ra wh rs L ops) (s : Same H H') : Com K bx t xs0 T0 n G H' ra wh rs L ops :=
  c.step (c.ext s) (c.box.same s) (c.tbs.same s)
theorem tbs_box {K : PySem.W.Frag} {bx : Bx} {H H' : Hp} (t : Tbs K H) (b : BoxAt H bx) (ch : Chg (fun x => x = bx.a) H H') : Tbs K H' := t.chg ch fun x ps e z => by
  obtain ⟨_, e1, _⟩ := b
  rw [e, e1] at z
  cases z
theorem Com.draw {K : PySem.W.Frag} {bx : Bx} {t : Addr} {xs0 : List V} {T0 : List El} {n : Nat} {G H H' : Hp} {ra wh : Addr} {rs : List V} {L : List (List El)} {ops : List Op} (c : Com K bx t xs0 T0 n G H ra wh rs L ops) (b : BoxAt H' bx) (ch : Chg (fun x => x = bx.a) H H') : Com K bx t xs0 T0 n G H' ra wh rs L ops :=
  c.step (ext_same c.gh ch fun x z => by rw [z]; exact c.gbx) b (tbs_box c.tbs c.box ch)
/-- .. with what the draw has made -/
theorem Com.drawn {K : PySem.W.Frag} {bx : Bx} {t : Addr} {xs0 : List V} {T0 : List El} {n : Nat} {G H H' : Hp} {ra wh : Addr} {rs : List V} {L : List (List El)} {ops : List Op} (c : Com K bx t xs0 T0 n G H ra wh rs L ops) (b : BoxAt H' bx) (ch : Chg (fun x => x = bx.a) H H') :
    Com K bx t xs0 T0 n (gro G H H') H' ra wh rs L ops ∧ Ext G H (gro G H H') H' ∧ Same (New H H') (gro G H H') := by
  obtain ⟨e, s⟩ := ext_gro c.gh ch fun x z => by rw [z]; exact c.gbx
  exact ⟨c.step e b (tbs_box c.tbs c.box ch), e, s⟩
/-- a session's objects -/
structure Ses (K : PySem.W.Frag) (bx : Bx) (j b d l ol : Addr) (G H : Hp) (T0 : List El) (L : List (List El)) (oc : List Int) (pw : Int) : Prop where
  jb : JbAt K H j b d false
  bn : BnAt K G H b l T0 L
  dv : DvAt K H d ol oc pw
  gn : G d = none ∧ G ol = none ∧ G j = none ∧ l ≠ ol
  off : ¬ FM l d ol j bx.a ∧ ¬ FM l d ol j bx.rw ∧ b ≠ bx.a
theorem Ses.step {K : PySem.W.Frag} {bx : Bx} {j b d l ol : Addr} {G H G' H' : Hp} {T0 : List El} {L : List (List El)} {oc : List Int} {pw : Int} (s : Ses K bx j b d l ol G H T0 L oc pw) (e : Ext G H G' H') (ch : Chg (fun x => x = bx.a) H H') : Ses K bx j b d l ol G' H' T0 L oc pw := by
  obtain ⟨⟨dxj, hj⟩, hB, ⟨⟨dxd, hd⟩, ho⟩, ⟨g1, g2, g3, g4⟩, ⟨o1, o2, o3⟩⟩ := s
  obtain ⟨⟨dxb, ab, hb, hab⟩, ⟨rs, hl, hrs⟩, gl⟩ := id hB
  have n1 : l ≠ bx.a := fun z => o1 (.inl z.symm)
  have n2 : d ≠ bx.a := fun z => o1 (.inr (.inl z.symm))
  have n3 : ol ≠ bx.a := fun z => o1 (.inr (.inr (.inl z.symm)))
  have n4 : j ≠ bx.a := fun z => o1 (.inr (.inr (.inr z.symm)))
  exact ⟨⟨dxj, ch.at hj n4⟩, hB.mono e.gg (e.nw l (by rw [hl]; simp) gl) (fun u z => ch.at z o3) (fun u z => ch.at z n1), ⟨⟨dxd, ch.at hd n2⟩, ch.at ho n3⟩, ⟨e.nw d (by rw [hd]; simp) g1, e.nw ol (by rw [ho]; simp) g2, e.nw j (by rw [hj]; simp) g3, g4⟩, ⟨o1, o2, o3⟩⟩
theorem flat_len {ops : List Op} (h : ∀ o ∈ ops, ElOp o) : (flatR ops).length ≤ 110 * ops.length := by
  induction ops with
  | nil => exact Nat.zero_le _
  | cons o r ih =>
    have h1 := rec_len110 (h o List.mem_cons_self)
    have h2 := ih fun x hx => h x (List.mem_cons_of_mem _ hx)
    show (recO o ++ flatR r).length ≤ 110 * (r.length + 1)
    rw [List.length_append]
    omega
theorem flat_snoc (ops : List Op) (o : Op) : flatR (ops ++ [o]) = flatR ops ++ recO o := by
  unfold flatR
  rw [List.flatMap_append]
  simp
theorem Rep.snoc {T0 : List El} {L : List (List El)} {ops : List Op} {L1 : List (List El)} (h : Rep T0 L ops L1) {o : Op} {r : Res} {L2 : List (List El)} (hs : stepO T0 L1 o = .ok r L2) (hi : (idxO o).natAbs ≤ 1000) (h1 : (curT T0 L1).length ≤ 20) (h2 : L1.length ≤ 100) : Rep T0 L (ops ++ [o]) L2 := by
  induction h with
  | nil L => exact .cons hs hi h1 h2 (.nil _)
  | cons a b c d t ih => exact .cons a b c d (ih hs h1 h2)
theorem cur_good {T0 : List El} {L : List (List El)} (h : ∀ x ∈ T0 :: L, GoodT x) : GoodT (curT T0 L) := by
  obtain ⟨init, e⟩ := cur_last T0 L
  exact h _ (by rw [e]; simp)
theorem good_put {t : List El} {i : Nat} {e : El} (h : GoodT t) (he : GoodEl e) (hl : t.length < 20) : GoodT (putT t i e) := by
  refine ⟨fun x hx => ?_, ?_⟩
  · rcases List.mem_append.mp hx with z | z
    · rcases List.mem_append.mp z with z | z
      · exact h.1 x (List.mem_of_mem_take z)
      · rw [List.mem_singleton.mp z]
        exact he
    · exact h.1 x (List.mem_of_mem_drop z)
  · unfold putT
    rw [List.length_append, List.length_append, List.length_take, List.length_drop]
    show _ + 1 + _ ≤ 20
    omega
theorem good_take {t : List El} {i : Nat} (h : GoodT t) : GoodT (takeT t i) := by
  refine ⟨fun x hx => ?_, ?_⟩
  · rcases List.mem_append.mp hx with z | z
    · exact h.1 x (List.mem_of_mem_take z)
    · exact h.1 x (List.mem_of_mem_drop z)
  · have := h.2
    unfold takeT
    rw [List.length_append, List.length_take, List.length_drop]
    omega
theorem good_exch {t : List El} {i : Nat} {e : El} (h : GoodT t) (he : GoodEl e) (hi : i < t.length) : GoodT (exchT t i e) := by
  refine ⟨fun x hx => ?_, ?_⟩
  · rcases List.mem_append.mp hx with z | z
    · rcases List.mem_append.mp z with z | z
      · exact h.1 x (List.mem_of_mem_take z)
      · rw [List.mem_singleton.mp z]
        exact he
    · exact h.1 x (List.mem_of_mem_drop z)
  · have := h.2
    unfold exchT
    rw [List.length_append, List.length_append, List.length_take, List.length_drop]
    show _ + 1 + _ ≤ 20
    omega
/-- what an answer keeps: the rows good, one more at most -/
theorem step_good {T0 : List El} {L : List (List El)} {o : Op} {r : Res} {L' : List (List El)} (h : stepO T0 L o = .ok r L') (g : ∀ x ∈ T0 :: L, GoodT x) (he : ElOp o) : (∀ x ∈ T0 :: L', GoodT x) ∧ L'.length ≤ L.length + 1 ∧ (match r with
    | .num n => n.natAbs ≤ 1000 ∧ 1 ≤ n
    | .el e => GoodEl e
    | .flag b => b = false → L' = L) := by
  have gc := cur_good g
  have app : ∀ t', GoodT t' → ∀ x ∈ T0 :: (L ++ [t']), GoodT x := fun t' ht x hx => by
    rw [← List.cons_append] at hx
    rcases List.mem_append.mp hx with z | z
    · exact g x z
    · rw [List.mem_singleton.mp z]
      exact ht
  have get : ∀ {i : Nat} {x : El}, (curT T0 L)[i]? = some x → GoodEl x := fun hx => gc.1 _ (List.mem_of_getElem? hx)
  cases o with
  | undo =>
    by_cases h0 : L = []
    · rw [st_undo0 h0] at h
      cases h
      exact ⟨g, Nat.le_succ _, fun _ => rfl⟩
    · rw [st_undo1 h0] at h
      cases h
      refine ⟨fun x hx => ?_, by rw [List.length_dropLast]; omega, fun z => by cases z⟩
      rcases List.mem_cons.mp hx with rfl | hx
      · exact g _ List.mem_cons_self
      · rw [List.dropLast_eq_take] at hx
        exact g x (List.mem_cons_of_mem _ (List.mem_of_mem_take hx))
  | put i e =>
    by_cases h0 : 0 ≤ i ∧ i ≤ ((curT T0 L).length : Nat)
    · by_cases h1 : (curT T0 L).length = 20
      · rw [st_put1 h0 h1] at h
        cases h
      · rw [st_put2 h0 h1] at h
        cases h
        have := gc.2
        exact ⟨app _ (good_put gc he (by omega)), by rw [List.length_append]; exact Nat.le_refl _, by omega, by omega⟩
    · rw [st_put0 h0] at h
      cases h
  | take i =>
    by_cases h0 : 0 ≤ i ∧ i < ((curT T0 L).length : Nat)
    · have hg : (curT T0 L)[i.toNat]? = some ((curT T0 L)[i.toNat]'(by omega)) := List.getElem?_eq_getElem (by omega)
      rw [st_take1 h0 hg] at h
      cases h
      exact ⟨app _ (good_take gc), by rw [List.length_append]; exact Nat.le_refl _, get hg⟩
    · rw [st_take0 h0] at h
      cases h
  | exch i e =>
    by_cases h0 : 0 ≤ i ∧ i < ((curT T0 L).length : Nat)
    · have hg : (curT T0 L)[i.toNat]? = some ((curT T0 L)[i.toNat]'(by omega)) := List.getElem?_eq_getElem (by omega)
      rw [st_exch1 h0 hg] at h
      cases h
      exact ⟨app _ (good_exch gc he (by omega)), by rw [List.length_append]; exact Nat.le_refl _, get hg⟩
    · rw [st_exch0 h0] at h
      cases h
/-- a record cut short is dead -/
theorem dead_cut {o : Op} (h : ElOp o) {n : Nat} (hn : n < (recO o).length) : Dead ((recO o).take n) := by
  by_cases h2 : n < 2
  · refine .inl ?_
    rw [List.length_take]
    omega
  · have hl := rec_len o
    have hb := body_len h
    have e : recO o = ((bodyO o).length : Int) / 256 :: ((bodyO o).length : Int) % 256 :: (bodyO o ++ [(bodyO o).sum % 256, 170]) := by
      show [((bodyO o).length : Int) / 256, ((bodyO o).length : Int) % 256] ++ bodyO o ++ [(bodyO o).sum % 256, 170] = _
      simp
    obtain ⟨m, rfl⟩ : ∃ m, n = m + 2 := ⟨n - 2, by omega⟩
    refine .inr ⟨((bodyO o).length : Int) / 256, ((bodyO o).length : Int) % 256, (bodyO o ++ [(bodyO o).sum % 256, 170]).take m, ?_, by omega, by omega, ?_⟩
    · rw [e]
      rfl
    · rw [List.length_take]
      omega
theorem shown_num {n : Int} (h1 : 1 ≤ n) (h : n.natAbs ≤ 1000) : (PyData.int n).shown ≠ (PyData.bool false).shown := by
  have z : ∀ k ∈ List.range 1001, ((toString ((k : Nat) : Int) : Str).cps.toList.head? != some 70) = true := by decide +kernel
  have e : n = ((n.toNat : Nat) : Int) := by omega
  have q := z n.toNat (List.mem_range.mpr (by omega))
  rw [← e] at q
  intro w
  have w2 : (toString n : Str) = "False" := w
  rw [w2] at q
  revert q
  decide +kernel
theorem shown_el (e : El) : (elD e).shown ≠ (PyData.bool false).shown := by
  have z : ∃ ds, elD e = .tuple ds := by cases e <;> exact ⟨_, rfl⟩
  obtain ⟨ds, hz⟩ := z
  rw [hz]
  intro w
  have w2 : ((("(" : Str) ++ Str.join ", " (PyData.shownAll ds) ++ (if (PyData.shownAll ds).length == 1 then ",)" else ")" : String)).cps.toList).head? = (("False" : Str).cps.toList).head? := congrArg (fun x : Str => x.cps.toList.head?) w
  have w3 : (((("(" : Str).cps ++ (Str.join ", " (PyData.shownAll ds)).cps) ++ (((if (PyData.shownAll ds).length == 1 then ",)" else ")" : String) : Str)).cps).toList).head? = some 70 := w2
  rw [Array.toList_append, Array.toList_append] at w3
  have w4 : (("(" : Str).cps.toList : List Nat) = [40] := by decide +kernel
  rw [w4] at w3
  simp at w3
theorem withPost {lo : Int} {n : Nat} {g : L2.TG} {tb : TS} {D : Ends} {σ : L2.St} {H : Hp} (Post : L2.St → Hp → Prop) (hpost : ∀ σ H, Post σ H → D.nx σ H)
    (cont : (∀ σ H, Post σ H → D.nx σ H) → ∃ W : Nat → Nat → L2.St → Hp → Prop, (∃ m, W 0 m σ H) ∧ ∀ i m σ H, W i m σ H →
      ((Itr lo n).stop i H ∧ D.nx σ H) ∨ ((Itr lo n).go i H ∧ ∃ N : L2.St → Hp → Prop, (∀ σ' H', N σ' H' → ∃ m', m' < m ∧ W (i + 1) m' σ' H') ∧ ∀ x H', (Itr lo n).yld i H x H' → g x σ H' fun σ2 H2 => tb { D with nx := N, ct := N, bk := D.nx } σ2 H2)) :
    ∃ W : Nat → Nat → L2.St → Hp → Prop, (∃ m, W 0 m σ H) ∧ ∀ i m σ H, W i m σ H →
      ((Itr lo n).stop i H ∧ D.nx σ H) ∨ ((Itr lo n).go i H ∧ ∃ N : L2.St → Hp → Prop, (∀ σ' H', N σ' H' → ∃ m', m' < m ∧ W (i + 1) m' σ' H') ∧ ∀ x H', (Itr lo n).yld i H x H' → g x σ H' fun σ2 H2 => tb { D with nx := N, ct := N, bk := D.nx } σ2 H2) := cont hpost
theorem wantP_mono {K : PySem.W.Frag} {j b d l ol : Addr} {G H : Hp} {T0 : List El} {oc : List Int} {pw : Nat} {o : Op} {Q Q' : VK} (h : ∀ v H, Q v H → Q' v H) : ∀ {st : Step}, WantP K j b d l ol G H T0 oc pw o Q st → WantP K j b d l ol G H T0 oc pw o Q' st
  | .pos _, w => fun H' t a b => h _ _ (w H' t a b)
  | .elem _, w => fun H' t a b => h _ _ (w H' t a b)
  | .full, w => fun H' t a b => h _ _ (w H' t a b)
  | .ok (.num _) _, w => ⟨fun a G' H' t y b c d e f g i => h _ _ (w.1 a G' H' t y b c d e f g i), fun a G' H' t n b c d e f g => h _ _ (w.2 a G' H' t n b c d e f g)⟩
  | .ok (.el _) _, w => ⟨fun a G' H' t y b c d e f g i => h _ _ (w.1 a G' H' t y b c d e f g i), fun a G' H' t n b c d e f g => h _ _ (w.2 a G' H' t n b c d e f g)⟩
  | .ok (.flag true) _, w => ⟨fun a G' H' t y b c d e f g i => h _ _ (w.1 a G' H' t y b c d e f g i), fun a G' H' t n b c d e f g => h _ _ (w.2 a G' H' t n b c d e f g)⟩
  | .ok (.flag false) _, w => fun G' H' t b c d e f g => h _ _ (w G' H' t b c d e f g)
theorem rows_last {K : PySem.W.Frag} {G : Hp} {rs : List V} {T0 : List El} {L : List (List El)} (hrs : DpAll K G rs ((T0 :: L).map elsD)) : ∃ rsi tl xs, rs = rsi ++ [.ref tl] ∧ SqL K G tl xs ∧ DpAll K G xs ((curT T0 L).map elD) := by
  obtain ⟨init, hinit⟩ := cur_last T0 L
  have hrl : rs.length = L.length + 1 := by
    rw [dpAll_len hrs, List.length_map]
    rfl
  rcases List.eq_nil_or_concat rs with z | ⟨b, c, z⟩
  · rw [z] at hrl
    simp at hrl
  · have q := dpAll_drop b.length hrs
    have hbl : b.length = (init.map elsD).length := by
      have h1 := congrArg List.length hinit
      rw [z] at hrl
      simp at hrl h1 ⊢
      omega
    rw [z, hbl, hinit, List.concat_eq_append, List.map_append, ← hbl, List.drop_left, hbl, List.drop_left] at q
    cases q with
    | cons q1 _ =>
      obtain ⟨tl, xs, rfl, h1, h2⟩ := dp_lst q1
      exact ⟨b, tl, xs, by simpa using z, h1, h2⟩
/-- is it recorded -/
def isRec : Step → Bool
  | .ok (.flag false) _ => false
  | .ok _ _ => true
  | _ => false
/-- what a performance leaves -/
def PerfG (K : PySem.W.Frag) (bx : Bx) (t : Addr) (xs0 : List V) (T0 : List El) (n : Nat) (ra wh : Addr) (rs : List V) (L : List (List El)) (ops : List Op) (j b d l ol : Addr) (o : Op) (G H : Hp) (v : V) (H' : Hp) : Prop :=
  ∃ (tq : Addr) (G' : Hp), v = .ref tq ∧ Com K bx t xs0 T0 n G' H' ra wh rs L ops ∧ Ext G H G' H' ∧
    ((∃ (w : Str) (ys : List V) (pw' : Nat), H' tq = some (.tup (.str w :: ys)) ∧ w ≠ "cut" ∧ Dp K H' (.ref tq) (dueD (stepO T0 L o)) ∧ Ses K bx j b d l ol G' H' T0 (rowsL L (stepO T0 L o)) (flatR ops ++ (if isRec (stepO T0 L o) then recO o else [])) (pw' : Nat))
    ∨ ∃ (ys : List V) (tl : List Int), H' tq = some (.tup (.str "cut" :: ys)) ∧ Dead tl ∧ tl.length ≤ 110 ∧ JbAt K H' j b d true ∧ DvAt K H' d ol (flatR ops ++ tl) 0)
theorem perf_good {K : PySem.W.Frag} {bx : Bx} {t : Addr} {xs0 : List V} {T0 : List El} {n : Nat} {G H : Hp} {ra wh : Addr} {rs : List V} {L : List (List El)} {ops : List Op} {j b d l ol : Addr} {pw : Nat} {o : Op} (c : Com K bx t xs0 T0 n G H ra wh rs L ops) (s : Ses K bx j b d l ol G H T0 L (flatR ops) pw) (he : ElOp o) :
    WantP K j b d l ol G H T0 (flatR ops) pw o (PerfG K bx t xs0 T0 n ra wh rs L ops j b d l ol o G H) (stepO T0 L o) := by
  obtain ⟨⟨dxj, hj⟩, hB, ⟨⟨dxd, hd⟩, ho⟩, ⟨g1, g2, g3, g4⟩, ⟨o1, o2, o3⟩⟩ := id s
  obtain ⟨rl, hl, _⟩ := hB.lt
  have cs : ∀ {G' H' : Hp}, Ext G H G' H' → Chg (FM l d ol j) H H' → Com K bx t xs0 T0 n G' H' ra wh rs L ops := fun {G' H'} e ch => by
    obtain ⟨at_, e1, e2⟩ := c.box
    refine c.step e ⟨at_, ch.at e1 o1, ch.at e2 o2⟩ (c.tbs.chg ch fun x ps m z => ?_)
    rcases m with m | m | m | m
    · rw [m, hl] at z; cases z
    · rw [m, hd] at z; cases z
    · rw [m, ho] at z; cases z
    · rw [m, hj] at z; cases z
  have gn : ∀ {G' H' : Hp}, Ext G H G' H' → G' d = none ∧ G' ol = none ∧ G' j = none ∧ l ≠ ol := fun e =>
    ⟨e.nw d (by rw [hd]; simp) g1, e.nw ol (by rw [ho]; simp) g2, e.nw j (by rw [hj]; simp) g3, g4⟩
  have w1 : ¬ (("told" : Str) = "cut") := by decide +kernel
  have w2 : ¬ (("position" : Str) = "cut") := by decide +kernel
  have w3 : ¬ (("element" : Str) = "cut") := by decide +kernel
  have w4 : ¬ (("full" : Str) = "cut") := by decide +kernel
  generalize hst : stepO T0 L o = st
  have A : ∀ (r : Res) (L' : List (List El)), st = .ok r L' → isRec st = true → (recO o).length ≤ pw → ∀ G' H' t1 y, BnAt K G' H' b l T0 L' → JbAt K H' j b d false → DvAt K H' d ol (flatR ops ++ recO o) ((pw - (recO o).length : Nat) : Int) → Ext G H G' H' → Chg (FM l d ol j) H H' → Dp K G' y (resD r) → H' t1 = some (.tup [.str "told", y]) → PerfG K bx t xs0 T0 n ra wh rs L ops j b d l ol o G H (.ref t1) H' := fun r L' hs hr hp G' H' t1 y b1 j1 d1 e ch hy ht => by
    refine ⟨t1, G', rfl, cs e ch, e, .inl ⟨_, _, pw - (recO o).length, ht, w1, ?_, ?_⟩⟩
    · rw [hst, hs]
      exact .tup (.inl (.inl ht)) (.cons (.str _) (.cons (dp_mono e.gh hy) .nil))
    · rw [hst, hr, hs, if_pos rfl]
      exact ⟨j1, b1, d1, gn e, o1, o2, o3⟩
  have Cc : ∀ (L' : List (List El)), pw < (recO o).length → ∀ G' H' t1 n1, BnAt K G' H' b l T0 L' → JbAt K H' j b d true → DvAt K H' d ol (flatR ops ++ (recO o).take pw) 0 → Ext G H G' H' → Chg (FM l d ol j) H H' → H' t1 = some (.tup [.str "cut", .int n1]) → PerfG K bx t xs0 T0 n ra wh rs L ops j b d l ol o G H (.ref t1) H' := fun L' hp G' H' t1 n1 b1 j1 d1 e ch ht => by
    refine ⟨t1, G', rfl, cs e ch, e, .inr ⟨_, _, ht, dead_cut he hp, ?_, j1, d1⟩⟩
    rw [List.length_take]
    have := rec_len110 he
    omega
  have N : ∀ {ys : List V} {ds : List PyData} {w : Str} {t1 : Addr} {H' : Hp}, dueD st = .tuple (.str w :: ds) → rowsL L st = L → isRec st = false → DpAll K H' ys ds → ¬ w = "cut" → Same H H' → H' t1 = some (.tup (.str w :: ys)) → PerfG K bx t xs0 T0 n ra wh rs L ops j b d l ol o G H (.ref t1) H' := fun {ys ds w t1 H'} h1 h2 h3 hy hw sm ht => by
    refine ⟨t1, G, rfl, c.same sm, c.ext sm, .inl ⟨_, _, pw, ht, hw, ?_, ?_⟩⟩
    · rw [hst, h1]
      exact .tup (.inl (.inl ht)) (.cons (.str _) hy)
    · rw [hst, h2, h3, if_neg (by decide), List.append_nil]
      exact s.step (c.ext sm) (Chg.of sm)
  cases st with
  | pos i => exact fun H' t1 sm ht => N rfl rfl rfl (.cons (.int _) .nil) w2 sm ht
  | elem i => exact fun H' t1 sm ht => N rfl rfl rfl (.cons (.int _) .nil) w3 sm ht
  | full => exact fun H' t1 sm ht => N rfl rfl rfl .nil w4 sm ht
  | ok r L' => cases r with
    | num m => exact ⟨fun hp => A _ _ rfl rfl hp, fun hp => Cc _ hp⟩
    | el m => exact ⟨fun hp => A _ _ rfl rfl hp, fun hp => Cc _ hp⟩
    | flag f => cases f with
      | true => exact ⟨fun hp => A _ _ rfl rfl hp, fun hp => Cc _ hp⟩
      | false =>
          intro G' H' t1 b1 j1 d1 e ch ht
          refine ⟨t1, G', rfl, cs e ch, e, .inl ⟨_, _, pw, ht, w1, ?_, ?_⟩⟩
          · rw [hst]
            exact .tup (.inl (.inl ht)) (.cons (.str _) (.cons (.bl _) .nil))
          · rw [hst]
            show Ses K bx j b d l ol G' H' T0 L' (flatR ops ++ []) pw
            rw [List.append_nil]
            exact ⟨j1, b1, d1, gn e, o1, o2, o3⟩
end RT
end
section
set_option Elab.async false
set_option linter.all false
set_option maxRecDepth 100000
set_option maxHeartbeats 4000000
/-! Z7b: what is due is short. -/
namespace RT
open PySem PySem.Spec PyProof.Rows L2
theorem step_idx {T0 : List El} {L : List (List El)} {o : Op} {i : Int} (h : stepO T0 L o = .pos i ∨ stepO T0 L o = .elem i) : i = idxO o := by
  cases o with
  | undo =>
    by_cases h0 : L = []
    · rw [st_undo0 h0] at h
      rcases h with h | h <;> cases h
    · rw [st_undo1 h0] at h
      rcases h with h | h <;> cases h
  | put j e =>
    by_cases h0 : 0 ≤ j ∧ j ≤ ((curT T0 L).length : Nat)
    · by_cases h1 : (curT T0 L).length = 20
      · rw [st_put1 h0 h1] at h
        rcases h with h | h <;> cases h
      · rw [st_put2 h0 h1] at h
        rcases h with h | h <;> cases h
    · rw [st_put0 h0] at h
      rcases h with h | h <;> cases h
      rfl
  | take j =>
    by_cases h0 : 0 ≤ j ∧ j < ((curT T0 L).length : Nat)
    · have hg : (curT T0 L)[j.toNat]? = some ((curT T0 L)[j.toNat]'(by omega)) := List.getElem?_eq_getElem (by omega)
      rw [st_take1 h0 hg] at h
      rcases h with h | h <;> cases h
    · rw [st_take0 h0] at h
      rcases h with h | h <;> cases h
      rfl
  | exch j e =>
    by_cases h0 : 0 ≤ j ∧ j < ((curT T0 L).length : Nat)
    · have hg : (curT T0 L)[j.toNat]? = some ((curT T0 L)[j.toNat]'(by omega)) := List.getElem?_eq_getElem (by omega)
      rw [st_exch1 h0 hg] at h
      rcases h with h | h <;> cases h
    · rw [st_exch0 h0] at h
      rcases h with h | h <;> cases h
      rfl
theorem due_dk {T0 : List El} {L : List (List El)} {o : Op} (g : ∀ x ∈ T0 :: L, GoodT x) (he : ElOp o) (hi : (idxO o).natAbs ≤ 1000) : Dk 8 16777216 (dueD (stepO T0 L o)) := by
  have big : (1000 : Nat) < 10 ^ 100 := by decide +kernel
  have ww : ∀ x ∈ (["told", "position", "element", "full"] : List Str), Dk 2 700 (.str x) := fun x hx => by
    have z : ∀ x ∈ (["told", "position", "element", "full"] : List Str), (reprText x).length ≤ 101 := by decide +kernel
    exact (dk_str (z x hx)).mono (by decide) (by decide)
  have t2 : ∀ {x : Str} {d : PyData}, Dk 2 700 (.str x) → Dk 2 700 d → Dk 8 16777216 (.tuple [.str x, d]) := fun {x d} h1 h2 =>
    (dk_tuple (ds := [.str x, d]) (k := 2) (n := 700) fun y hy => by
      rcases List.mem_cons.mp hy with rfl | hy
      · exact h1
      · rw [List.mem_singleton.mp hy]
        exact h2).mono (by decide) (by show 2 * 702 + 3 ≤ 16777216; decide)
  cases hst : stepO T0 L o with
  | pos i => exact t2 (ww _ (by decide +kernel)) ((dk_int (Nat.lt_of_le_of_lt (by rw [step_idx (.inl hst)]; exact hi) big)).mono (by decide) (by decide))
  | elem i => exact t2 (ww _ (by decide +kernel)) ((dk_int (Nat.lt_of_le_of_lt (by rw [step_idx (.inr hst)]; exact hi) big)).mono (by decide) (by decide))
  | full =>
    exact (dk_tuple (ds := [.str "full"]) (k := 2) (n := 700) fun y hy => by
      rw [List.mem_singleton.mp hy]
      exact ww _ (by decide +kernel)).mono (by decide) (by show 1 * 702 + 3 ≤ 16777216; decide)
  | ok r L' =>
    obtain ⟨_, _, g3⟩ := step_good hst g he
    refine t2 (ww _ (by decide +kernel)) ?_
    cases r with
    | num n => exact (dk_int (Nat.lt_of_le_of_lt g3.1 big)).mono (by decide) (by decide)
    | el e => exact (dk_el g3).mono (by decide) (by decide)
    | flag b => exact (dk_bool b).mono (by decide) (by decide)
/-- the answer alone is short -/
theorem res_dk {T0 : List El} {L L' : List (List El)} {o : Op} {r : Res} (hst : stepO T0 L o = .ok r L') (g : ∀ x ∈ T0 :: L, GoodT x) (he : ElOp o) : Dk 8 16777216 (resD r) ∧ decide ((resD r).shown = (PyData.bool false).shown) = !(isRec (.ok r L')) := by
  have big : (1000 : Nat) < 10 ^ 100 := by decide +kernel
  obtain ⟨_, _, g3⟩ := step_good hst g he
  cases r with
  | num n => exact ⟨(dk_int (Nat.lt_of_le_of_lt g3.1 big)).mono (by decide) (by decide), decide_eq_false (shown_num g3.2 g3.1)⟩
  | el e => exact ⟨(dk_el g3).mono (by decide) (by decide), decide_eq_false (shown_el e)⟩
  | flag b =>
    cases b with
    | true => exact ⟨(dk_bool true).mono (by decide) (by decide), decide_eq_false (by
        show ¬ (("True" : Str) = "False")
        decide +kernel)⟩
    | false => exact ⟨(dk_bool false).mono (by decide) (by decide), decide_eq_true rfl⟩
theorem Com.mono {K : PySem.W.Frag} {bx : Bx} {t : Addr} {xs0 : List V} {T0 : List El} {n m : Nat} {G H : Hp} {ra wh : Addr} {rs : List V} {L : List (List El)} {ops : List Op} (c : Com K bx t xs0 T0 n G H ra wh rs L ops) (h : n ≤ m) : Com K bx t xs0 T0 m G H ra wh rs L ops :=
  ⟨c.box, c.tbs, c.gh, c.gbx, c.gT, c.tr, c.tx, c.rw, c.rx, c.wh, c.rep, c.el, Nat.le_trans c.on h, Nat.le_trans c.ln h, c.gt⟩
theorem Com.rows {K : PySem.W.Frag} {bx : Bx} {t : Addr} {xs0 : List V} {T0 : List El} {n : Nat} {G H : Hp} {ra wh r : Addr} {rs rs' : List V} {L : List (List El)} {ops : List Op} (c : Com K bx t xs0 T0 n G H ra wh rs L ops) (hr : G r = some (.lst rs')) (hrs : DpAll K G rs' ((T0 :: L).map elsD)) : Com K bx t xs0 T0 (n + 1) G H r wh rs' L ops :=
  ⟨c.box, c.tbs, c.gh, c.gbx, c.gT, c.tr, c.tx, hr, hrs, c.wh, c.rep, c.el, Nat.le_succ_of_le c.on, Nat.le_succ_of_le c.ln, c.gt⟩
theorem Com.rec_ {K : PySem.W.Frag} {bx : Bx} {t : Addr} {xs0 : List V} {T0 : List El} {n : Nat} {G H : Hp} {ra wh r wh' : Addr} {rs rs' : List V} {L L' : List (List El)} {ops : List Op} {o : Op} {q : Res} (c : Com K bx t xs0 T0 n G H ra wh rs L ops) (hn : n ≤ 100) (hst : stepO T0 L o = .ok q L') (he : ElOp o) (hi : (idxO o).natAbs ≤ 1000) (hr : G r = some (.lst rs')) (hrs : DpAll K G rs' ((T0 :: L').map elsD)) (hw : G wh' = some (.lst ((flatR ops ++ recO o).map V.int))) : Com K bx t xs0 T0 (n + 1) G H r wh' rs' L' (ops ++ [o]) := by
  obtain ⟨g1, g2, _⟩ := step_good hst c.gt he
  refine ⟨c.box, c.tbs, c.gh, c.gbx, c.gT, c.tr, c.tx, hr, hrs, by rw [flat_snoc]; exact hw, c.rep.snoc hst hi (cur_good c.gt).2 (Nat.le_trans c.ln hn), fun x hx => ?_, ?_, Nat.le_trans g2 (Nat.succ_le_succ c.ln), g1⟩
  · rcases List.mem_append.mp hx with z | z
    · exact c.el x z
    · rw [List.mem_singleton.mp z]
      exact he
  · rw [List.length_append]
    exact Nat.succ_le_succ c.on
end RT
end
section
set_option Elab.async false
set_option linter.all false
set_option maxRecDepth 100000
set_option maxHeartbeats 4000000
/-! Z7: the law. -/
namespace RT
open PySem PySem.Spec PyProof.Rows L2
section
variable {X : Cx} {CX : CXT} {k : Nat} {x : Str} {ps : List Str} {sp : Sp} {E : XK} {p pos : Pos} {e : Expr} {es : List Expr} {t : TA}
theorem pe_calG (C : CalG X.prog X.w X.K X.mg X.base CX k x ps sp) (hgd : X.A.guards = some []) (hr : Room k X.A) (hx : Passes CX X E) (ha : PA X (e :: es) t) (hg : Gl X x := by rfl)
    (hdb : (x == ("__debug__" : Str)) = false := by decide) (he : starEach (e :: es) X.env = (false, eval e X.env) :: starEach es X.env := by rfl) (hpl : (backTo pos (starEach es X.env)).any (·.1) = false := by rfl) :
    PE X (.Call (.Name x p) (e :: es) [] pos) (tCall sp [] E t) :=
  let ⟨_, F, b⟩ := C.ex
  pe_callG F hgd hr hg C.mg C.kp b hx ha hdb he hpl
end
section
variable {P : Program} {w : World} {K : PySem.W.Frag} {mg : Str → Option Value} {base : Heap}
def spLaw (K : PySem.W.Frag) : Sp := fun vs H Q _ => ∃ (a : Addr) (ns : List Int), vs = [.ref a] ∧ SqL K H a (ns.map V.int) ∧ Tbs K H ∧ ∀ H', Q (.bl true) H'
theorem bd_law' : BindF "law" "law" (top 76) ["_law_script"] := bd_law
theorem ok_law (T : TX K mg) (Z : EX P K) (B : BX K mg base) {fd : FuncData} (F : FunD K "law" "law" (defArgs (top 76)) (defBody (top 76)) (defScope (top 76)) [] [] (He.ga K "law") fd) : (∀ (s : Shared) (v : Value), BindsTo s fd ⟨[v], []⟩ [("_law_script", v)]) ∧ FnG P w K mg base CX0 14 (He.ga K "law") fd ["_law_script"] (spLaw K) := by
  have GB : Cal P w K mg base CX0 2 "_law_box" ["_law_script", "_law_first", "_law_last"] (spBox K) := ok_box T
  have GD : Cal P w K mg base CX0 1 "_law_draw" ["_law_box_here", "_law_many"] spDraw := ok_draw T
  have GT : Cal P w K mg base CX0 5 "_law_train" ["_law_box_here", "_law_most"] (spLTrain K) := ok_ltrain T
  have GO : Cal P w K mg base CX0 5 "_law_operation" ["_law_box_here", "_law_many"] (spLOp K) := ok_lop T
  have GR : Cal P w K mg base CX0 4 "_law_record" ["_law_operation_here"] (spRec K) := ok_lrec T
  have GN : Cal P w K mg base CX0 1 "_law_done" ["_law_rows", "_law_operation_here"] (spDone K) := ok_done T
  have GS : CalG P w K mg base CX0 1 "_law_same" ["_law_one", "_law_other"] (spSame K) := ok_same T
  have GP : Cal P w K mg base CX0 7 "_law_performed" ["_law_journaled", "_law_operation_here"] (spLPerf K) := ok_lperf T Z
  have GW : Cal P w K mg base (L2.CX P w) 13 "opened" ["train", "octets", "power"] (spOpened K) := ok_opened T Z B
  have MT : MCal P w K mg base CX0 1 "Bench" "train" ["self"] (spTrain K) := ok_train T
  have MO : MCal P w K mg base CX0 1 "Bench" "operations" ["self"] (spOps K) := ok_ops T
  have MH : MCal P w K mg base CX0 1 "Bench" "history" ["self"] (spHist K) := ok_hist T
  refine ⟨fun s v => FunD.bindsA (ps := ["_law_script"]) F bd_law s [v] rfl, FnG.of F sc_law (fun vs H Q E h => ?_) (fun cdv A outer s H vs Q E hgd hr h => ?_)⟩
  · obtain ⟨a, b, rfl, _⟩ := h
    rfl
  · obtain ⟨a, ns, rfl, ha, hT, k⟩ := h
    have mlen : mg "len" = none := T.fr (by decide +kernel)
    have mlist : mg "list" = none := T.fr (by decide +kernel)
    have clB := T.cl (x := "Bench") (by decide +kernel)
    have clJ := T.cl (x := "JournaledBench") (by decide +kernel)
    have clD := T.cl (x := "Device") (by decide +kernel)
    refine ⟨_, PSs.nox (pss_cons (ps_set (i := 1) sc_law.nd rfl (.inl rfl) (pe_cal GB (hr.mono (by decide)) pass0 (pa_cons (pv 0) (pa_cons pe_int (pa_cons pe_int pa_nil)))))
      (pss_cons (ps_set (i := 2) sc_law.nd rfl (.inl rfl) (pe_cal GT (hr.mono (by decide)) pass0 (pa_cons (pv 1) (pa_cons pe_int pa_nil))))
      (pss_cons (ps_set (i := 3) sc_law.nd rfl (.inl rfl) (pe_lst (pa_cons (pv 2) pa_nil)))
      (pss_cons (ps_set (i := 4) sc_law.nd rfl (.inl rfl) (pe_lst pa_nil))
      (pss_cons (ps_set (i := 5) sc_law.nd rfl (.inl rfl) (pe_lst pa_nil))
      (pss_cons (ps_for PassesOwn.never rfl (pi_range1 rfl (T.fr (by decide +kernel)) (pa_cons pe_int pa_nil)) (pg_name (i := 6) sc_law.nd rfl (.inl rfl))
        (pss_cons (ps_set (i := 7) sc_law.nd rfl (.inl rfl) (pe_ix ix_list (pe_lst (pa_cons pe_int (pa_cons (pe_cal GD (hr.mono (by decide)) pass0 (pa_cons (pv 1) (pa_cons pe_int pa_nil))) (pa_cons (pe_cal GD (hr.mono (by decide)) pass0 (pa_cons (pv 1) (pa_cons pe_int pa_nil))) pa_nil)))) (pe_cal GD (hr.mono (by decide)) pass0 (pa_cons (pv 1) (pa_cons pe_int pa_nil))) (fun _ _ => rfl)))
        (pss_cons (ps_set (i := 8) sc_law.nd rfl (.inl rfl) (pe_cal (E := E0) GW hr (passes_call takes0 fun _ _ _ _ z => z) (pa_cons (pe_callTy call_list_of (by rfl) mlist (by decide +kernel) (pa_cons (pv 2) pa_nil)) (pa_cons (pe_callTy call_list_of (by rfl) mlist (by decide +kernel) (pa_cons (pv 5) pa_nil)) (pa_cons (pv 7) pa_nil)))))
        (pss_cons (ps_set (i := 9) sc_law.nd rfl (.inl rfl) (pe_fld (pv 8) rfl))
        (pss_cons (ps_if (pt_not (pt_val (pe_calG GS hgd (hr.mono (by decide)) pass0 (pa_cons (pe_lst (pa_cons (pe_mcal0 (pv 9) clB (T.me in_Bench_train) MT (hr.mono (by decide)) pass0) (pa_cons (pe_mcal0 (pv 9) clB (T.me in_Bench_operations) MO (hr.mono (by decide)) pass0) (pa_cons (pe_mcal0 (pv 9) clB (T.me in_Bench_history) MH (hr.mono (by decide)) pass0) pa_nil))))
            (pa_cons (pe_lst (pa_cons (pe_ix ix_list (pv 3) (pe_un un_neg pe_int) (fun _ _ => rfl)) (pa_cons (pe_op op_sub (pe_callB call_len (by rfl) mlen PySem.boot_len (pa_cons (pv 3) pa_nil)) pe_int) (pa_cons (pe_slice sl_list (pv 3) (po_some pe_int) po_none) pa_nil)))) pa_nil))))) pss_never pss_nil)
        (pss_cons (ps_if (PW.pt (pw_or (pt_cmpR (op_neD hr.units) (pe_fld (pe_fld (pv 8) rfl) rfl) (pv 4) (nomark _)) (pw_or1 (pt_not (pt_val (pe_calG GS hgd (hr.mono (by decide)) pass0 (pa_cons (pe_fld (pv 8) rfl) (pa_cons pe_bl pa_nil)))))))) pss_never pss_nil)
        (pss_cons (ps_for PassesOwn.never rfl (pi_range1 rfl (T.fr (by decide +kernel)) (pa_cons pe_int pa_nil)) (pg_name (i := 10) sc_law.nd rfl (.inl rfl))
          (pss_cons (ps_set (i := 11) sc_law.nd rfl (.inl rfl) (pe_cal GO (hr.mono (by decide)) pass0 (pa_cons (pv 1) (pa_cons (pe_callB call_len (by rfl) mlen PySem.boot_len (pa_cons (pe_ix ix_list (pv 3) (pe_un un_neg pe_int) (fun _ _ => rfl)) pa_nil)) pa_nil))))
          (pss_cons (ps_set (i := 12) sc_law.nd rfl (.inl rfl) (pe_cal GP (hr.mono (by decide)) pass0 (pa_cons (pv 8) (pa_cons (pv 11) pa_nil))))
          (pss_cons (ps_asg (pe_cal GN (hr.mono (by decide)) pass0 (pa_cons (pv 3) (pa_cons (pv 11) pa_nil))) (pg_lst rfl (pgs_cons (pg_name (i := 13) sc_law.nd rfl (.inl rfl)) (pgs_cons (pg_name (i := 14) sc_law.nd rfl (.inl rfl)) pgs_nil))))
          (pss_cons (ps_if (pt_cmpR op_eq (pe_ix ix_tup (pv 12) pe_int (fun _ _ => rfl)) pe_str (nomark _)) (pss_one ps_break) pss_nil)
          (pss_cons (ps_if (pt_not (pt_val (pe_calG GS hgd (hr.mono (by decide)) pass0 (pa_cons (pv 12) (pa_cons (pv 13) pa_nil))))) pss_never pss_nil)
          (pss_cons (ps_set (i := 3) sc_law.nd rfl (.inl rfl) (pv 14))
          (pss_one (ps_if (PW.pt (pw_and (pt_cmpR op_eq (pe_ix ix_tup (pv 13) pe_int (fun _ _ => rfl)) pe_str (nomark _)) (pw_and1 (pt_not (pt_val (pe_calG GS hgd (hr.mono (by decide)) pass0 (pa_cons (pe_ix ix_tup (pv 13) pe_int (fun _ _ => rfl)) (pa_cons pe_bl pa_nil))))))))
            (pss_one (ps_set (i := 4) sc_law.nd rfl (.inl rfl) (pe_op op_cat (pv 4) (pe_cal GR (hr.mono (by decide)) pass0 (pa_cons (pv 11) pa_nil))))) pss_nil)))))))))
        (pss_cons (ps_set (i := 5) sc_law.nd rfl (.inl rfl) (pe_callTy call_list_of (by rfl) mlist (by decide +kernel) (pa_cons (pe_fld (pe_fld (pv 8) rfl) rfl) pa_nil)))
        (pss_cons (ps_if (pt_cmpR (op_neD hr.units) (pe_slice sl_list (pv 5) po_none (po_some (pe_callB call_len (by rfl) mlen PySem.boot_len (pa_cons (pv 4) pa_nil)))) (pv 4) (nomark _)) pss_never pss_nil)
        (pss_one (ps_if (pt_cmpR op_eq (pe_cal GD (hr.mono (by decide)) pass0 (pa_cons (pv 1) (pa_cons pe_int pa_nil))) pe_int (nomark _))
          (pss_one (ps_set (i := 5) sc_law.nd rfl (.inl rfl) (pe_op op_cat (pv 4) (pe_lst (pa_cons pe_int (pa_cons (pe_ix ix_list (pe_lst (pa_cons pe_int (pa_cons pe_int (pa_cons pe_int pa_nil)))) (pe_cal GD (hr.mono (by decide)) pass0 (pa_cons (pv 1) (pa_cons pe_int pa_nil))) (fun _ _ => rfl)) pa_nil)))))) pss_nil)))))))))))
      (pss_one (ps_ret pe_bl)))))))), ?_⟩
    -- the box, the first train, rows, whole, octets
    refine ⟨_, rfl, a, ns, rfl, ha, fun bx H1 b1 s1 nb1 => ?_⟩
    have tb1 := hT.same s1
    refine ⟨_, rfl, bx, 4, rfl, b1, by decide, fun t xs0 T0 H2 b2 c2 nt et dx hg0 hl0 => ?_⟩
    have tb2 := tbs_box tb1 b1 c2
    refine ⟨_, rfl, (by show 1 ≤ sizeLine; decide), fun ra nra => ?_⟩
    have s3 := same_new (o := .lst [.ref t]) nra
    refine ⟨Nat.zero_le _, fun wh nwh => ?_⟩
    have s4 := same_new (o := .lst []) nwh
    refine ⟨Nat.zero_le _, fun oc noc => ?_⟩
    have s5 := same_new (o := .lst []) noc
    have s25 := s3.trans (s4.trans s5)
    generalize hH5 : (upd (upd (upd H2 ra (.lst [.ref t])) wh (.lst [])) oc (.lst [])) = H5 at s25
    have e5 : H5 ra = some (.lst [.ref t]) ∧ H5 wh = some (.lst []) ∧ H5 oc = some (.lst []) := by
      rw [← hH5]
      exact ⟨(s4.trans s5) _ _ upd_same, s5 _ _ upd_same, upd_same⟩
    have c25 : Chg (fun x => x = bx.a) H1 H5 := c2.trans (Chg.of s25)
    have hra1 : H1 ra = none := c2.free nra
    have hwh1 : H1 wh = none := (c2.trans (Chg.of s3)).free nwh
    have hoc1 : H1 oc = none := (c2.trans (Chg.of (s3.trans s4))).free noc
    have hx0 : DpAll K (New H1 H5) xs0 (T0.map elD) := dpAll_mono (new_mono (Chg.refl (M := fun _ => False) H1) (Chg.of s25) fun _ z => z.elim) dx
    have het5 : New H1 H5 t = some (.lst xs0) := new_at nt (s25 _ _ et)
    have C0 : Com K bx t xs0 T0 0 (New H1 H5) H5 ra wh [.ref t] [] [] := {
      box := b2.same s25
      tbs := tb2.same s25
      gh := new_le
      gbx := new_free b1.some_
      gT := fun x hx => new_free (tb1.some_ x hx)
      tr := het5
      tx := hx0
      rw := new_at hra1 e5.1
      rx := .cons (.lst (app1 het5) hx0) .nil
      wh := new_at hwh1 e5.2.1
      rep := .nil _
      el := by simp
      on := Nat.le_refl _
      ln := Nat.le_refl _
      gt := fun x hx => by
        rw [List.mem_singleton.mp hx]
        exact ⟨hg0, by omega⟩ }
    -- the sessions
    refine ⟨4, rfl, by decide, by decide, for_range (n := 4) (fun i σ H' => ∃ (G : Hp) (ra wh oc : Addr) (rs : List V) (L : List (List El)) (ops : List Op) (tail : List Int) (v6 v7 v8 v9 v10 v11 v12 v13 v14 : Option V),
        σ = [some (.ref a), some (.ref bx.a), some (.ref t), some (.ref ra), some (.ref wh), some (.ref oc), v6, v7, v8, v9, v10, v11, v12, v13, v14] ∧ Com K bx t xs0 T0 (5 * i) G H' ra wh rs L ops ∧ G oc = some (.lst ((flatR ops ++ tail).map V.int)) ∧ Dead tail ∧ tail.length ≤ 110)
      ⟨_, ra, wh, oc, _, [], [], [], none, none, none, none, none, none, none, none, none, rfl, C0, new_at hoc1 e5.2.2, .inl (by decide), by decide⟩ ?_ (fun σ H' _ => k H')⟩
    rintro i σ H' hi ⟨G, ra, wh, oc, rs, L, ops, tail, v6, v7, v8, v9, v10, v11, v12, v13, v14, rfl, C, hoc, hdead, htl⟩
    have three : ∀ a b c : V, [a, b, c].length ≤ sizeLine := fun _ _ _ => by show 3 ≤ sizeLine; decide
    have two : ∀ a b : V, [a, b].length ≤ sizeLine := fun _ _ => by show 2 ≤ sizeLine; decide
    -- the power
    refine ⟨_, rfl, bx, 30, rfl, C.box, by decide, fun n1 Ha p0 p1 ba ca => ?_⟩
    have Ca := C.draw ba ca
    refine ⟨_, rfl, bx, 90, rfl, ba, by decide, fun n2 Hb p2 p3 bb cb => ⟨three _ _ _, fun pl npl => ?_⟩⟩
    have Cb := (Ca.draw bb cb).same (same_new (o := .lst [.int 100000, .int n1, .int n2]) npl)
    refine ⟨_, rfl, bx, 3, rfl, Cb.box, by decide, fun n3 Hc p4 p5 bc cc => ?_⟩
    have Cc := Cb.draw bc cc
    have npla : pl ≠ bx.a := fun z => bb.some_ (z ▸ npl)
    have hpl := cc.at (upd_same (H := Hb) (a := pl) (o := .lst [.int 100000, .int n1, .int n2])) npla
    obtain ⟨pw, hpw⟩ : ∃ pw : Nat, atI [V.int 100000, V.int n1, V.int n2] n3 = some (.int (pw : Int)) := by
      have : n3 = 0 ∨ n3 = 1 ∨ n3 = 2 := by omega
      rcases this with rfl | rfl | rfl
      · exact ⟨100000, rfl⟩
      · exact ⟨n1.toNat, by rw [show ((n1.toNat : Nat) : Int) = n1 by omega] <;> rfl⟩
      · exact ⟨n2.toNat, by rw [show ((n2.toNat : Nat) : Int) = n2 by omega] <;> rfl⟩
    refine ⟨pl, _, _, .int (pw : Int), rfl, rfl, app1 hpl, hpw, ?_⟩
    -- opened
    refine ⟨_, rfl, t, xs0, rfl, .inl (app1 (Cc.gh _ _ Cc.tr)), fun q1 nq1 => ?_⟩
    have Cd := Cc.same (same_new (o := .lst xs0) nq1)
    have hoc1 := Cd.gh _ _ hoc
    refine ⟨_, rfl, oc, _, rfl, .inl (app1 hoc1), fun q2 nq2 => ?_⟩
    have sq2 := same_new (o := .lst ((flatR ops ++ tail).map V.int)) nq2
    have Ce := Cd.same sq2
    have gT0 : T0.length ≤ 20 := (Ce.gt T0 List.mem_cons_self).2
    have hon : ops.length ≤ 20 := by have := Ce.on; omega
    have hln : L.length ≤ 20 := by have := Ce.ln; omega
    have hfl : (flatR ops).length ≤ 2200 := by have := flat_len Ce.el; omega
    refine ⟨_, rfl, q1, q2, pw, G, xs0, T0, ops, tail, L, rfl, app1 (sq2 _ _ upd_same), Ce.tx, Ce.gh, gT0, upd_same, hdead, Ce.el, by omega, Ce.rep, Ce.tbs, Ce.gT, fun j b d l ol G1 H6 j6 b6 v6' e6 c6 t6 fr gn6 => ?_⟩
    obtain ⟨fj, fb, fd_, fl, fol⟩ := fr
    have hbA := Ce.box.some_
    have hbR : (upd (upd Hc q1 (.lst xs0)) q2 (.lst ((flatR ops ++ tail).map V.int))) bx.rw ≠ none := by
      obtain ⟨_, _, e⟩ := Ce.box
      rw [e]
      simp
    have box6 : BoxAt H6 bx := by
      obtain ⟨at_, e1, e2⟩ := Ce.box
      exact ⟨at_, c6.at e1 (notT Ce.tbs e1 fun _ q => by cases q), c6.at e2 (notT Ce.tbs e2 fun _ q => by cases q)⟩
    have C6 := Ce.step e6 box6 t6
    have off6 : ¬ FM l d ol j bx.a ∧ ¬ FM l d ol j bx.rw ∧ b ≠ bx.a := by
      refine ⟨fun z => ?_, fun z => ?_, fun z => hbA (z ▸ fb)⟩
      · rcases z with z | z | z | z
        · exact hbA (z ▸ fl)
        · exact hbA (z ▸ fd_)
        · exact hbA (z ▸ fol)
        · exact hbA (z ▸ fj)
      · rcases z with z | z | z | z
        · exact hbR (z ▸ fl)
        · exact hbR (z ▸ fd_)
        · exact hbR (z ▸ fol)
        · exact hbR (z ▸ fj)
    have S6 : Ses K bx j b d l ol G1 H6 T0 L (flatR ops) pw := ⟨j6, b6, v6', gn6, off6⟩
    have hoc6 : G1 oc = some (.lst ((flatR ops ++ tail).map V.int)) := e6.gg _ _ hoc
    clear e6 c6 t6 hbA hbR box6
    generalize hGx : G1 = Gs at C6 S6 hoc6
    -- bench = journaled.bench; the first comparison
    obtain ⟨dxj, hj6⟩ := S6.jb
    have nJb := T.na (x := "JournaledBench") (f := "bench") (by decide +kernel)
    have nJd := T.na (x := "JournaledBench") (f := "device") (by decide +kernel)
    have nJs := T.na (x := "JournaledBench") (f := "shut") (by decide +kernel)
    have nDo := T.na (x := "Device") (f := "octets") (by decide +kernel)
    refine ⟨_, rfl, j, _, dxj, _, _, rfl, hj6, clJ, nJb, jbF_b _ _ _, ?_⟩
    obtain ⟨dxb, ab, hb6, hab⟩ := S6.bn.ob
    obtain ⟨dxd, hd6⟩ := S6.dv.ob
    obtain ⟨rsi, tl, xsl, hrs2, htl2, hxl2⟩ := rows_last C6.rx
    have hrl : rs.length = L.length + 1 := by
      rw [dpAll_len C6.rx, List.length_map]
      rfl
    refine ⟨_, rfl, b, dxb, _, rfl, hb6, rfl, b, l, Gs, T0, L, rfl, S6.bn, C6.gh, fun t1 xs1 H7 s7 nt1 et1 dx1 => ?_⟩
    have bn7 : BnAt K Gs H7 b l T0 L := S6.bn.mono (Same.refl _) S6.bn.gl (fun u z => s7 _ _ z) (fun u z => s7 _ _ z)
    refine ⟨_, rfl, b, dxb, _, rfl, s7 _ _ hb6, rfl, b, l, Gs, T0, L, rfl, bn7, ?_⟩
    refine ⟨_, rfl, b, dxb, _, rfl, s7 _ _ hb6, rfl, b, l, Gs, T0, L, rfl, bn7, C6.gh.trans s7, by omega, fun h1 hs1 H8 s8 nh1 eh1 dh1 => ⟨three _ _ _, fun l1 nl1 => ?_⟩⟩
    have s9 := same_new (o := .lst [.ref t1, .int (L.length : Nat), .ref h1]) nl1
    have s69 := s7.trans (s8.trans s9)
    have C9 := C6.same s69
    refine ⟨_, rfl, 1, rfl, ra, _, _, .ref tl, rfl, rfl, app1 (C9.gh _ _ C9.rw), by rw [hrs2]; exact atI_last _ _, ?_⟩
    refine ⟨_, rfl, .ref ra, _, rfl, .inl ⟨_, app1 (C9.gh _ _ C9.rw), rfl⟩, _, _, rfl, rfl, ?_⟩
    refine ⟨_, rfl, 1, rfl, ra, _, rfl, app1 (C9.gh _ _ C9.rw), fun sl nsl => ⟨three _ _ _, fun l2 nl2 => ?_⟩⟩
    have s10 := same_new (o := .lst (cutV rs (some 1) none)) nsl
    have s11 := same_new (o := .lst [.ref tl, .int ((rs.length : Nat) - 1), .ref sl]) nl2
    have s8f := s9.trans (s10.trans s11)
    have C11 := C9.same (s10.trans s11)
    have gG : Same Gs _ := C11.gh
    have gL : ∀ x ∈ L, GoodT x := fun x hx => C6.gt x (List.mem_cons_of_mem _ hx)
    have dk1 : Dk 8 16777216 (.list [elsD (curT T0 L), .int (L.length : Nat), .list (L.map elsD)]) := by
      have z := dk_list (ds := [elsD (curT T0 L), .int (L.length : Nat), .list (L.map elsD)]) (k := 4) (n := 1276402) fun y hy => by
        rcases List.mem_cons.mp hy with rfl | hy
        · exact (dk_els (cur_good C6.gt)).mono (by decide) (by decide)
        · rcases List.mem_cons.mp hy with rfl | hy
          · exact (dk_int (Nat.lt_of_le_of_lt (by omega : ((L.length : Nat) : Int).natAbs ≤ 100) (by decide +kernel))).mono (by decide) (by decide)
          · rw [List.mem_singleton.mp hy]
            exact dk_rows gL (by omega)
      exact z.mono (by decide) (by show 3 * 1276404 + 2 ≤ 16777216; decide)
    have q1 : Dp K _ (.ref l1) (.list [elsD (curT T0 L), .int (L.length : Nat), .list (L.map elsD)]) :=
      .lst (app1 ((s10.trans s11) _ _ upd_same)) (.cons (.lst (app1 ((s8.trans s8f) _ _ et1)) (dpAll_mono gG dx1)) (.cons (.int _) (.cons (.lst (app1 (s8f _ _ eh1)) (dpAll_mono s8f dh1)) .nil)))
    have hcut : cutV rs (some 1) none = rs.drop 1 := cut_from rs 1
    have hdr : DpAll K Gs (cutV rs (some 1) none) (L.map elsD) := by
      rw [hcut]
      exact dpAll_drop 1 C6.rx
    have q2 : Dp K _ (.ref l2) (.list [elsD (curT T0 L), .int (L.length : Nat), .list (L.map elsD)]) :=
      .lst (app1 upd_same) (.cons (.lst (gG.seq htl2) (dpAll_mono gG hxl2)) (.cons (by
        rw [show ((rs.length : Nat) : Int) - 1 = ((L.length : Nat) : Int) by omega]
        exact .int _) (.cons (.lst (app1 (s11 _ _ upd_same)) (dpAll_mono gG hdr)) .nil)))
    refine ⟨_, _, _, _, rfl, q1, q2, dk1, dk1, _, rfl, ?_⟩
    rw [decide_eq_true rfl]
    refine iteF ?_
    -- the device's octets, shut
    have S11 : Ses K bx j b d l ol Gs _ T0 L (flatR ops) pw := S6.step (C6.ext (s69.trans (s10.trans s11))) (Chg.of (s69.trans (s10.trans s11)))
    generalize (upd (upd (upd H8 l1 (.lst [.ref t1, .int (L.length : Nat), .ref h1])) sl (.lst (cutV rs (some 1) none))) l2 (.lst [.ref tl, .int ((rs.length : Nat) - 1), .ref sl])) = H12 at C11 S11 ⊢
    have bl8 : ∀ f : Bool, Dk 8 16777216 (.bool f) := fun f => (dk_bool f).mono (by decide) (by decide)
    obtain ⟨dxj2, hj12⟩ := S11.jb
    obtain ⟨dxd2, hd12⟩ := S11.dv.ob
    have hwh12 := C11.gh _ _ C11.wh
    refine ⟨_, rfl, j, _, dxj2, _, _, rfl, hj12, clJ, nJd, jbF_d _ _ _, ?_⟩
    refine ⟨d, _, dxd2, _, _, rfl, hd12, clD, nDo, dvF_o _ _, ?_⟩
    refine ⟨_, rfl, _, _, dp_ints (app1 S11.dv.os), dp_ints (app1 hwh12), shp_ints _, shp_ints _, ?_⟩
    rw [eqvL, decide_eq_true rfl]
    refine ⟨false, rfl, ?_⟩
    refine iteF ?_
    refine ⟨_, rfl, j, _, dxj2, _, _, rfl, hj12, clJ, nJs, jbF_s _ _ _, ?_⟩
    refine ⟨_, _, _, _, rfl, .bl false, .bl false, bl8 false, bl8 false, _, rfl, ?_⟩
    rw [decide_eq_true rfl]
    refine iteF ?_
    -- the turns
    refine ⟨5, rfl, by decide, by decide, withPost (fun σ H' => ∃ (G : Hp) (ra wh : Addr) (rs : List V) (L : List (List El)) (ops : List Op) (tail : List Int) (z : Int) (q : Bool) (v5 v6 v7 v10 v11 v12 v13 v14 : Option V),
        σ = [some (.ref a), some (.ref bx.a), some (.ref t), some (.ref ra), some (.ref wh), v5, v6, v7, some (.ref j), some (.ref b), v10, v11, v12, v13, v14] ∧ Com K bx t xs0 T0 (5 * i + 5) G H' ra wh rs L ops ∧ JbAt K H' j b d q ∧ DvAt K H' d ol (flatR ops ++ tail) z ∧ Dead tail ∧ tail.length ≤ 110) ?_ fun hp =>
      for_range (n := 5) (fun k σ H' => ∃ (G : Hp) (ra wh : Addr) (rs : List V) (L : List (List El)) (ops : List Op) (pw : Nat) (v5 v6 v7 v10 v11 v12 v13 v14 : Option V),
        σ = [some (.ref a), some (.ref bx.a), some (.ref t), some (.ref ra), some (.ref wh), v5, v6, v7, some (.ref j), some (.ref b), v10, v11, v12, v13, v14] ∧ Com K bx t xs0 T0 (5 * i + k) G H' ra wh rs L ops ∧ Ses K bx j b d l ol G H' T0 L (flatR ops) pw)
        ⟨_, _, _, _, _, _, pw, _, _, _, _, _, _, _, _, rfl, C11, S11⟩ ?_ ?_⟩
    · rintro σ H ⟨G, ra, wh, rs, L, ops, tail, z, q, v5, v6, v7, v10, v11, v12, v13, v14, rfl, C, ⟨dxj, hj⟩, ⟨⟨dxd, hd⟩, hol⟩, hdd, htl⟩
      refine ⟨_, rfl, j, _, dxj, _, _, rfl, hj, clJ, nJd, jbF_d _ _ _, ?_⟩
      refine ⟨d, _, dxd, _, _, rfl, hd, clD, nDo, dvF_o _ _, ?_⟩
      refine ⟨ol, _, rfl, .inl (app1 hol), fun oq noq => ?_⟩
      have sq := same_new (o := .lst ((flatR ops ++ tail).map V.int)) noq
      have Cq := C.step (ext_new (M := fun _ => False) C.gh (Chg.of sq) (fun _ z => z.elim) noq upd_same) (C.box.same sq) (C.tbs.same sq)
      have hoq : upd G oq (.lst ((flatR ops ++ tail).map V.int)) oq = some (.lst ((flatR ops ++ tail).map V.int)) := upd_same
      generalize upd G oq (.lst ((flatR ops ++ tail).map V.int)) = Gq at Cq hoq
      have hwh := Cq.gh _ _ Cq.wh
      have hoqH := Cq.gh _ _ hoq
      refine ⟨_, rfl, _, rfl, .ref wh, _, rfl, .inl ⟨_, app1 hwh, rfl⟩, _, rfl, oq, _, rfl, app1 hoqH, fun p np => ?_⟩
      have hc : cutV ((flatR ops ++ tail).map V.int) none (some (((flatR ops).map V.int).length : Nat)) = (flatR ops).map V.int := by
        rw [List.map_append, cut_to _ _ (by rw [List.length_append]; omega), List.take_left]
      rw [hc]
      have sp := same_new (o := .lst ((flatR ops).map V.int)) np
      have Cp := Cq.same sp
      refine ⟨_, rfl, _, _, dp_ints (app1 upd_same), dp_ints (app1 (sp _ _ hwh)), shp_ints _, shp_ints _, ?_⟩
      rw [eqvL, decide_eq_true rfl]
      refine ⟨false, rfl, ?_⟩
      refine iteF ?_
      refine ⟨_, rfl, bx, 4, rfl, Cp.box, by decide, fun n1 Ha p0 p1 ba ca => ?_⟩
      have Ca := Cp.draw ba ca
      refine ⟨rfl, _, rfl, ?_⟩
      refine ite2 (fun _ => ?_) (fun _ => ?_)
      · refine ⟨_, rfl, three _ _ _, fun pl npl => ?_⟩
        have Cb := Ca.same (same_new (o := .lst [.int 0, .int 9, .int 255]) npl)
        refine ⟨_, rfl, bx, 3, rfl, Cb.box, by decide, fun n3 Hc p4 p5 bc cc => ?_⟩
        have Cc := Cb.draw bc cc
        have npla : pl ≠ bx.a := fun z => ba.some_ (z ▸ npl)
        have hpl := cc.at (upd_same (H := Ha) (a := pl) (o := .lst [.int 0, .int 9, .int 255])) npla
        obtain ⟨x, hx, hx0⟩ : ∃ x : Int, atI [V.int 0, V.int 9, V.int 255] n3 = some (.int x) ∧ 0 ≤ x := by
          have : n3 = 0 ∨ n3 = 1 ∨ n3 = 2 := by omega
          rcases this with rfl | rfl | rfl
          · exact ⟨0, rfl, by decide⟩
          · exact ⟨9, rfl, by decide⟩
          · exact ⟨255, rfl, by decide⟩
        refine ⟨pl, _, _, .int x, rfl, rfl, app1 hpl, hx, two _ _, fun l4 nl4 => ?_⟩
        have s4 := same_new (o := .lst [.int 0, .int x]) nl4
        have hwh4 := s4 _ _ (Cc.gh _ _ Cc.wh)
        refine ⟨wh, l4, _, _, rfl, rfl, hwh4, upd_same, ?_, fun oc2 noc2 => ?_⟩
        · rw [List.length_map]
          have z1 := flat_len C.el
          have z2 := C.on
          exact Nat.le_trans (by show _ + 2 ≤ 4000; omega : _ ≤ 4000) (by decide)
        have s5 := same_new (o := .lst ((flatR ops).map V.int ++ [.int 0, .int x])) noc2
        have s45 := s4.trans s5
        have e5 := ext_new (M := fun _ => False) Cc.gh (Chg.of s45) (fun _ z => z.elim) (s4.free noc2) upd_same
        refine ⟨_, _, _, _, _, _, ops, [0, x], _, _, _, _, _, _, _, _, _, rfl, Cc.step e5 (Cc.box.same s45) (Cc.tbs.same s45), ?_, ?_, (by show 2 ≤ 110; decide)⟩
        · rw [List.map_append]
          exact upd_same
        · exact .inr ⟨0, x, [], rfl, by decide, by decide, by show (2 : Int) < 0 * 256 + x + 4; omega⟩
      · exact ⟨_, _, _, _, _, _, ops, tail, _, _, _, _, _, _, _, _, _, rfl, Ca, hoq, hdd, htl⟩
    · rintro k σ H' hk ⟨G, ra, wh, rs, L, ops, pw, v5, v6, v7, v10, v11, v12, v13, v14, rfl, C, S⟩
      obtain ⟨rsi, tl, xsl, hrs2, htl2, hxl2⟩ := rows_last C.rx
      have hxl : xsl.length = (curT T0 L).length := by rw [dpAll_len hxl2, List.length_map]
      have gcur := cur_good C.gt
      have hrow := C.gh _ _ C.rw
      have hL30 : L.length ≤ 30 := by have := C.ln; omega
      have hO30 : ops.length ≤ 30 := by have := C.on; omega
      -- operation
      refine ⟨_, rfl, _, rfl, 1, rfl, ra, _, _, .ref tl, rfl, rfl, app1 hrow, by rw [hrs2]; exact atI_last _ _, ?_⟩
      refine ⟨.ref tl, _, rfl, .inl ⟨_, C.gh.seq htl2, rfl⟩, ?_⟩
      refine ⟨bx, xsl.length, rfl, C.box, by rw [hxl]; have := gcur.2; omega, fun vop o H1 b1 c1 he hix hop => ?_⟩
      obtain ⟨C1, e1, sN⟩ := C.drawn b1 c1
      have S1 := S.step e1 c1
      have hop1 := dp_mono sN hop
      -- performed
      refine ⟨_, rfl, _, rfl, j, b, d, l, ol, _, T0, L, flatR ops, pw, vop, o, rfl, S1.jb, S1.bn, S1.dv, C1.gh, S1.gn, hop1, he, by omega, gcur.2, by omega, by have := flat_len C1.el; omega, ?_⟩
      refine wantP_mono (fun v H2 hg => ?_) (perf_good C1 S1 he)
      obtain ⟨tq, G2, rfl, C2, e2, hcase⟩ := hg
      have hop2 : Dp K G2 vop (opD o) := dp_mono e2.gg hop1
      -- done
      refine ⟨_, rfl, _, rfl, G2, ra, rs, vop, o, T0, L, rfl, C2.gh, C2.rw, C2.rx, hop2, gcur.2, by omega, fun u du r rs' G3 H3 s3 e3 nu eu hdu hr hrs => ?_⟩
      refine ⟨u, [du, .ref r], rfl, app1 eu, rfl, ?_⟩
      refine ⟨_, _, rfl, _, _, rfl, rfl, ?_⟩
      have C3 := C2.step e3 (C2.box.same s3) (C2.tbs.same s3)
      rcases hcase with ⟨w1, ys, pw', ht, hw, htd, S2⟩ | ⟨ys, tl2, ht, hdd, hdl, hj2, hv2⟩
      · refine ⟨_, rfl, tq, _, _, _, rfl, rfl, .inl (.inl (s3 _ _ ht)), atI0, rfl, _, rfl, ?_⟩
        rw [decide_eq_false (fun z => hw (V.str.inj z))]
        refine iteF ?_
        have dkd := due_dk C1.gt he (by omega : (idxO o).natAbs ≤ 1000)
        refine ⟨_, rfl, _, rfl, _, _, _, _, rfl, dp_mono s3 htd, dp_mono C3.gh hdu, dkd, dkd, _, rfl, ?_⟩
        rw [decide_eq_true rfl]
        refine iteF ?_
        refine ⟨_, rfl, ?_⟩
        have S3 := S2.step e3 (Chg.of s3)
        have wno : ∀ x ∈ (["position", "element", "full"] : List Str), ¬ (V.str x = V.str "told") := fun x hx z => by
          have q : ∀ x ∈ (["position", "element", "full"] : List Str), ¬ (x = "told") := by decide +kernel
          exact q x hx (V.str.inj z)
        have fin : rowsL L (stepO T0 L o) = L → isRec (stepO T0 L o) = false → Com K bx t xs0 T0 (5 * i + (k + 1)) G3 H3 r wh rs' L ops ∧ Ses K bx j b d l ol G3 H3 T0 L (flatR ops) pw' := fun e1 e2 => by
          rw [e1] at hrs S3
          rw [e2, if_neg (by decide), List.append_nil] at S3
          exact ⟨C3.rows hr hrs, S3⟩
        cases hst : stepO T0 L o with
        | pos i1 =>
          rw [hst] at hdu fin
          obtain ⟨ad, v2, rfl, h1, h2⟩ := dp_tup2 hdu
          refine ⟨_, rfl, ad, _, _, _, rfl, rfl, sqT_mono C3.gh h1, atI0, rfl, _, rfl, ?_⟩
          rw [decide_eq_false (wno _ (by decide +kernel))]
          exact iteF (iteF ⟨_, _, _, _, _, _, _, _, _, _, _, _, _, _, _, rfl, fin rfl rfl⟩)
        | elem i1 =>
          rw [hst] at hdu fin
          obtain ⟨ad, v2, rfl, h1, h2⟩ := dp_tup2 hdu
          refine ⟨_, rfl, ad, _, _, _, rfl, rfl, sqT_mono C3.gh h1, atI0, rfl, _, rfl, ?_⟩
          rw [decide_eq_false (wno _ (by decide +kernel))]
          exact iteF (iteF ⟨_, _, _, _, _, _, _, _, _, _, _, _, _, _, _, rfl, fin rfl rfl⟩)
        | full =>
          rw [hst] at hdu fin
          obtain ⟨ad, xs, rfl, h1, h2⟩ := dp_tup hdu
          cases h2 with
          | cons h2 h3 =>
            cases h2
            refine ⟨_, rfl, ad, _, _, _, rfl, rfl, sqT_mono C3.gh h1, atI0, rfl, _, rfl, ?_⟩
            rw [decide_eq_false (wno _ (by decide +kernel))]
            exact iteF (iteF ⟨_, _, _, _, _, _, _, _, _, _, _, _, _, _, _, rfl, fin rfl rfl⟩)
        | ok q L' =>
          obtain ⟨rdk, rsh⟩ := res_dk hst C1.gt he
          rw [hst] at hdu fin
          obtain ⟨ad, v2, rfl, h1, h2⟩ := dp_tup2 hdu
          refine ⟨_, rfl, ad, _, _, _, rfl, rfl, sqT_mono C3.gh h1, atI0, rfl, _, rfl, ?_⟩
          rw [show decide (V.str "told" = V.str "told") = true by decide +kernel]
          refine iteT ?_
          refine ⟨_, rfl, ad, _, _, _, rfl, rfl, sqT_mono C3.gh h1, atI_nat (j := 1) rfl, ?_⟩
          refine ⟨_, _, _, _, rfl, dp_mono C3.gh h2, .bl false, rdk, bl8 false, _, rfl, ?_⟩
          rw [rsh]
          cases hrec : isRec (.ok q L') with
          | false =>
            refine iteF ⟨_, _, _, _, _, _, _, _, _, _, _, _, _, _, _, rfl, fin ?_ hrec⟩
            have z := (step_good hst C1.gt he).2.2
            cases q with
            | num n => cases hrec
            | el e => cases hrec
            | flag f => cases f with
              | true => cases hrec
              | false => exact z rfl
          | true =>
            refine iteT ?_
            refine ⟨_, rfl, _, rfl, vop, o, rfl, dp_mono (e3.gg.trans e3.gh) hop2, he, fun rp H4 s4 nrp erp => ?_⟩
            have hwhF := s4 _ _ (C3.gh _ _ C3.wh)
            refine ⟨wh, rp, _, _, rfl, rfl, hwhF, erp, ?_, fun wh2 nwh2 => ?_⟩
            · rw [List.length_map, List.length_map]
              have z1 := flat_len C3.el
              have z2 := rec_len110 he
              exact Nat.le_trans (by omega : _ ≤ 4000) (by decide)
            have s5 := same_new (o := .lst ((flatR ops).map V.int ++ (recO o).map V.int)) nwh2
            have s45 := s4.trans s5
            have e5 := ext_new (M := fun _ => False) C3.gh (Chg.of s45) (fun _ z => z.elim) (s4.free nwh2) upd_same
            have C5 := C3.step e5 (C3.box.same s45) (C3.tbs.same s45)
            have S5 := S3.step e5 (Chg.of s45)
            rw [hst] at S5
            rw [hrec, if_pos rfl] at S5
            rw [hst] at hrs
            refine ⟨_, _, _, _, _, ops ++ [o], pw', _, _, _, _, _, _, _, _, rfl, C5.rec_ (by omega) hst he (by omega) (e5.gg _ _ hr) (dpAll_mono e5.gg hrs) ?_, ?_⟩
            · rw [List.map_append]
              exact upd_same
            · rw [flat_snoc]
              exact S5
      · refine ⟨_, rfl, tq, _, _, _, rfl, rfl, .inl (.inl (s3 _ _ ht)), atI0, rfl, _, rfl, ?_⟩
        rw [show decide (V.str "cut" = V.str "cut") = true by decide +kernel]
        refine iteT ?_
        refine hp _ _ ⟨_, ra, wh, rs, L, ops, tl2, 0, true, _, _, _, _, _, _, _, _, rfl, C3.mono (by omega), ?_, ?_, hdd, hdl⟩
        · obtain ⟨dxj, hj⟩ := hj2
          exact ⟨dxj, s3 _ _ hj⟩
        · obtain ⟨⟨dxv, h1⟩, h2⟩ := hv2
          exact ⟨⟨dxv, s3 _ _ h1⟩, s3 _ _ h2⟩
    · rintro σ H' ⟨G, ra, wh, rs, L, ops, pw, v5, v6, v7, v10, v11, v12, v13, v14, rfl, C, S⟩
      refine hp _ _ ⟨G, ra, wh, rs, L, ops, [], pw, false, v5, v6, v7, v10, v11, v12, v13, v14, rfl, C, S.jb, ?_, .inl (by decide), by decide⟩
      rw [List.append_nil]
      exact S.dv
end
end RT
end
section
set_option Elab.async false
set_option linter.all false
set_option maxRecDepth 100000
set_option maxHeartbeats 2000000
/-! Z8: the three own exceptions out of the head's Hook. -/
namespace RT
open PySem PySem.Spec PyProof.Rows L2
open PySem.W PySem.HandSPX PySem.OwnX
/-- the written text of such an __init__ -/
structure OwT (d : OwD) : Prop where
  ex : ∃ (msg : List Expr) (pj : Pos) (cl : Nat) (q1 q2 p0 p1 p4 p5 p6 p7 p8 : Pos), TextOf d.fld (.JoinedStr msg pj) ∧ defArgs (mth d.i 0) = iArgs d.fld q1 q2 ∧ defBody (mth d.i 0) = iBody d.fld msg pj d.ln cl p0 p1 p4 p5 p6 p7 p8 ∧ defScope (mth d.i 0) = iScope d.fld
theorem own_of {P : Program} {K : Frag} {d : OwD} (t : OwT d) (e : owW K d = d.val) (f : owF P.main.file K d = true) (b : owB K d = true) (c : owX K d = true) : OX P K d.x d.fld d.ln := by
  obtain ⟨b1, b⟩ := He.ba b
  obtain ⟨b2, b⟩ := He.ba b
  obtain ⟨b3, b⟩ := He.ba b
  obtain ⟨b4, b⟩ := He.ba b
  obtain ⟨b5, b⟩ := He.ba b
  obtain ⟨b6, b⟩ := He.ba b
  obtain ⟨b7, b⟩ := He.ba b
  obtain ⟨b8, b⟩ := He.ba b
  obtain ⟨b9, b⟩ := He.ba b
  obtain ⟨b10, b11⟩ := He.ba b
  obtain ⟨c1, c⟩ := He.ba c
  obtain ⟨c2, c⟩ := He.ba c
  obtain ⟨c3, c⟩ := He.ba c
  obtain ⟨c4, c5⟩ := He.ba c
  refine ⟨⟨b1, ?_, of_decide_eq_true b3, of_decide_eq_true b4, He.eqO_ok b5, He.eqO_ok b6, He.eqO_ok b7, of_decide_eq_true b8, He.eqO_ok b9, He.eqO_ok b10, He.eqO_ok b11, ?_⟩, of_decide_eq_true c1, of_decide_eq_true c2, c3, He.eqO_ok c4, He.eqO_ok c5⟩
  · unfold clsB at b2
    cases q : clsIn K (He.ga K d.x) with
    | none =>
      rw [q] at b2
      cases b2
    | some cd =>
      rw [q] at b2
      obtain ⟨h1, h2⟩ := He.ba b2
      exact ⟨cd, rfl, h1, h2⟩
  · obtain ⟨msg, pj, cl, q1, q2, p0, p1, p4, p5, p6, p7, p8, ht, ha, hb, hs⟩ := t.ex
    unfold owF at f
    unfold owW at e
    cases q : K.lookup (He.ma K (He.ga K d.x) "__init__") with
    | none =>
      rw [q] at f
      cases f
    | some o =>
      obtain ⟨oc, od, dt, osl⟩ := o
      rw [q] at f e
      cases dt with
      | func fd =>
        obtain ⟨n1, n2, n3, n4, n5, n6, n7, n8, n9, n10, n11, n12, n13, n14, n15⟩ := fd
        have e2 : (some (n1, n2, n3, n4, n5, n6, n7.map (·.1), n15) : OwW) = (some ("__init__", d.qual, defArgs (mth d.i 0), .stmts (defBody (mth d.i 0)), defScope (mth d.i 0), mainGlobals, ["__class__"], builtinsNs) : OwW) := e
        simp only [Option.some.injEq, Prod.mk.injEq] at e2
        obtain ⟨h1, h2, h3, h4, h5, h6, h7, h8⟩ := e2
        subst h1 h2 h3 h4 h5 h6 h8
        have f2 : (isNonV n8 && (codeIn K n13 d.qual && (fileB K P.main.file n13 && cellB K (He.ga K d.x) n7))) = true := f
        obtain ⟨f3, f4⟩ := He.ba f2
        obtain ⟨f5, f6⟩ := He.ba f4
        obtain ⟨f7, f8⟩ := He.ba f6
        have k8 : n8 = .none := by
          cases n8 <;> first | rfl | cases f3
        subst k8
        have hl7 : n7.length = 1 := by
          have z := congrArg List.length h7
          rw [List.length_map] at z
          exact z
        obtain ⟨nm, cc, rfl⟩ : ∃ nm cc, n7 = [(nm, cc)] := by
          cases n7 with
          | nil => simp at hl7
          | cons y r =>
            cases r with
            | nil => exact ⟨y.1, y.2, rfl⟩
            | cons z r => simp at hl7
        have k7 : nm = ("__class__" : Str) := by
          have z : ([nm] : List Str) = [("__class__" : Str)] := h7
          exact (List.cons.inj z).1
        subst k7
        obtain ⟨cda, rfl⟩ := He.codeIn_ref f5
        have f9 : (match K.lookup cda with
          | some ⟨_, _, .fields vs, _⟩ => (match (vs[2]? : Option Value) with
            | some (.str f _) => P.main.file == f
            | _ => false)
          | _ => false) = true := f7
        have f10 : (match K.lookup cc with
          | some ⟨_, _, .cell (some (.ref b)), _⟩ => decide (b = He.ga K d.x)
          | _ => false) = true := f8
        split at f9
        · rename_i c1 c2 vs c3 hl1
          split at f9
          · rename_i fl tf hv
            split at f10
            · rename_i d1 d2 b0 d3 hl2
              have eb := of_decide_eq_true f10
              subst eb
              exact ⟨msg, pj, cl, q1, q2, p0, p1, p4, p5, p6, p7, p8, d.qual, oc, od, n9, n10, n11, n12, cda, cc, n14, osl, c1, c2, vs, c3, fl, tf, d1, d2, d3, ht, by rw [ha, hb, hs], f5, hl1, hv, f9, hl2⟩
            · cases f10
          · cases f9
        · cases f9
      | _ => cases f
theorem t_el : OwT dEl := ⟨_, _, _, _, _, _, _, _, _, _, _, _, text_two (by decide +kernel), rfl, rfl, rfl⟩
theorem t_po : OwT dPo := ⟨_, _, _, _, _, _, _, _, _, _, _, _, text_two (by decide +kernel), rfl, rfl, rfl⟩
theorem t_cut : OwT dCut := ⟨_, _, _, _, _, _, _, _, _, _, _, _, text_three (by decide +kernel) (by decide +kernel), rfl, rfl, rfl⟩
end RT
end
section
set_option Elab.async false
set_option linter.all false
set_option maxRecDepth 100000
set_option maxHeartbeats 2000000
/-! ZB: the law at the head's end. -/
namespace RT
open PySem PySem.Spec PyProof.Rows L2
open PySem.W PySem.HandSPX PySem.OwnX
section
variable {K : Frag} {h : Heap} {mg : Str → Option Value}
theorem tx_of (X : K.In h) (G : h.Ns mainGlobals mg) (c : SaysO h K) : TX K mg := by
  obtain ⟨m1, m⟩ := He.ba c.more
  obtain ⟨m2, m⟩ := He.ba m
  obtain ⟨m3, _⟩ := He.ba m
  exact ⟨c.d, ⟨h, X, G⟩, He.tupB_ok m1 _, He.tupB_ok m2 _, mg_of X G (He.eqO_ok m3)⟩
theorem ex_of {P : Program} (hf : P.main.file = file0) (ht : (P.main.scope.names.lookup ("super" : Str)).isSome = false) (c : SaysO h K) : EX P K := by
  obtain ⟨_, m⟩ := He.ba c.more
  obtain ⟨_, m⟩ := He.ba m
  obtain ⟨_, m⟩ := He.ba m
  obtain ⟨m4, m⟩ := He.ba m
  obtain ⟨m5, m6⟩ := He.ba m
  have k : ∀ d ∈ owL, OwT d → OX P K d.x d.fld d.ln := fun d hd t => own_of t (c.ow d hd) (by rw [hf]; exact List.all_eq_true.mp m4 d hd) (List.all_eq_true.mp m5 d hd) (List.all_eq_true.mp m6 d hd)
  exact ⟨k dEl (by unfold owL; simp) t_el, k dPo (by unfold owL; simp) t_po, k dCut (by unfold owL; simp) t_cut, ht⟩
theorem bx_of {base : Heap} (hB : ∀ p ∈ tf.map (He.cT K), LamX.TabB base mg p.1 p.2) : BX K mg base := by
  have k : ∀ p ∈ tf, GxR.TabB base mg (He.cT K p).1 (He.cT K p).2 := fun p hp => by
    have z := hB _ (List.mem_map_of_mem hp)
    exact ⟨z.code, z.bm, z.gP⟩
  exact ⟨k ("natural_of", none) (by unfold tf; simp), k ("fraction_of", none) (by unfold tf; simp), k ("parse_train", none) (by unfold tf; simp)⟩
theorem tbs_of {H : Hp} (hH : ∀ p ∈ tf.map (He.cT K), H p.2 = some (.tbl #[])) : Tbs K H := by
  have k : ∀ p ∈ tf, GxR.TabG H (He.cT K p).2 := fun p hp => ⟨#[], hH _ (List.mem_map_of_mem hp), by trivial⟩
  exact ⟨k ("natural_of", none) (by unfold tf; simp), k ("fraction_of", none) (by unfold tf; simp), k ("parse_train", none) (by unfold tf; simp)⟩
end
end RT
open PySem PySem.W PySem.Calls PyProof.Rows
theorem RT.law_walk (w : World) (mg : PySem.Str → Option Value) (fa : Addr) (h : Heap) (Y : RT.hk.says w h) (G : h.Ns mainGlobals mg) (hmg : mg ("law" : PySem.Str) = some (.ref fa)) :
    ∃ K : Frag, K.In h ∧ RT.LawAtG PySem.Challenge.rw_raytrain_k95_power_cuts w K 14 63 "_law_script" mg fa h := by
  obtain ⟨K, KX, c⟩ := Y
  have T := RT.tx_of KX G c
  obtain ⟨fd, F⟩ := T.df RT.in_law
  have e := hmg.symm.trans (T.gd RT.in_law)
  cases e
  refine ⟨K, KX, fd, RT.tf.map (He.cT K), RT.spLaw K, fun p hp => ?_, fun p hp => ?_, fun p hp => ?_, fun s v => ?_, fun H a ns hl hb hH hS => ⟨a, ns, rfl, hS, RT.tbs_of hH, fun _ => rfl⟩, fun base hK hN hB => (RT.ok_law T (RT.ex_of rfl (by rfl) c) (RT.bx_of hB) F).2⟩
  · obtain ⟨q, hq, rfl⟩ := List.mem_map.mp hp
    exact c.empty q hq
  · obtain ⟨q, hq, rfl⟩ := List.mem_map.mp hp
    exact c.out q hq
  · obtain ⟨q, hq, rfl⟩ := List.mem_map.mp hp
    exact codeHd_of_K KX (c.hd q hq)
  · exact L2.FunD.bindsA (ps := ["_law_script"]) F RT.bd_law s [v] rfl
end
section
set_option Elab.async false
set_option linter.all false
set_option maxRecDepth 100000
set_option maxHeartbeats 0
/-! ZC: the row. -/
open PySem PySem.W PySem.Calls PyProof.Rows
theorem PySem.Challenge.cw_raytrain_k95_power_cuts_holds : PySem.Challenge.rw_raytrain_k95_power_cuts.Holds := by
  w_on; o_law
  refine HandSHeadRun.head_any (r := OpenLaw.row PySem.Challenge.rw_raytrain_k95_power_cuts) (q := view (OpenLaw.row PySem.Challenge.rw_raytrain_k95_power_cuts).prog [76]) (H := RT.hk) (ob := RT.ob) (M := 6000) (loose := RT.loose) (d := HandSHeadRun.topDef (OpenLaw.row PySem.Challenge.rw_raytrain_k95_power_cuts).prog 76) (kwd := []) RT.ob_eq
    (by kernel_rfl) (fun s => by kernel_rfl) RT.run (by kernel_rfl) (by kernel_rfl) (by kernel_rfl) (by rfl) (by first | assumption | decide +kernel) (by decide +kernel) ⟨rfl, rfl, rfl, rfl, rfl, by decide +kernel⟩ ?hw ?hc
  case hw => w_witness2
  case hc =>
    refine RT.walk_G (l := PySem.Challenge.rw_raytrain_k95_power_cuts) (n := 63) (k := 14) (x := "_law_script") rfl (by decide) (by kernel_rfl) ⟨rfl, by decide, by decide⟩ ?F
    intro w mg fa h Y G hmg0
    have hmg : mg ("law" : PySem.Str) = some (.ref fa) := by
      have e : (HandSHeadRun.topDef (OpenLaw.row PySem.Challenge.rw_raytrain_k95_power_cuts).prog 76).name = ("law" : PySem.Str) := by kernel_rfl
      rw [← e]
      exact hmg0
    exact RT.law_walk w mg fa h Y G hmg
end
