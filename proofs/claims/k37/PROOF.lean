import PyProof.Rows.All
import Wide.All
import OpenK.AllK
import Wide.FinOn
import HandS.ForMost
import HandS.ForExc
import HandS.ExcInit
import HandS.ExcField
import KE.KStateDown
import HandS.Head0
import HandS.Head1
import HandS.Head2
import HandS.HeadEnd
import HandS.HeadHook1
import HandS.HeadHook2
import HandS.HeadHook3
import HandS.CallSlots
import KE.KDictKeyed
import HandS.TupAny
import HandS.Deep
import HandS.Walk
import KE.KExcIs
import HandS.ExcIs
import HandS.IsInst
import HandS.ClsMeth
import HandS.OwnEq
import HandS.DictEq
import KE.GoesMore
import PyProof.EnumMake
import KE.KCallOwn
import HandS.TupMul
import HandS.Strs
import HandS.Conv
import HandS.More
import HandS.SortInts
import KE.KDictDisplayH
import KE.SortData
import HandS.TupLen
import HandS.Flow
import KE.KRevSl
import HandS.Set
import HandS.TupSets
import HandS.List
import HandS.Text
import HandS.FStr
import HandS.MakeKw
import PySem.Challenge.RW_manyboard_k37_questions_made
set_option Elab.async false
set_option linter.all false
set_option maxRecDepth 100000
set_option maxHeartbeats 4000000
/-! Mb, part F: facts of the top, looked at by one run (stands first: the run wants all memory). -/
namespace Mb
open PySem L2 PyProof.Rows
def strsOf : List Value → Option (List Str)
  | [] => some []
  | .str x _ :: r => match strsOf r with
    | some xs => some (x :: xs)
    | none => none
  | _ :: _ => none
/-- the texts of a tuple object -/
def tupO (o : Obj) : Option (List Str) := match o.cls, o.data with
  | .type n, .seq its _ => if n = "tuple" ∧ its.size ≤ 1000 then strsOf its.toList else none
  | _, _ => none
abbrev Fact := PySem.W.Frag → Bool
/-- each but once (m: the set of those that were seen, as bits) -/
def dedB : Nat → List Addr → List Addr
  | _, [] => []
  | m, a :: r => match Nat.beq (Nat.land 1 (Nat.shiftRight m a)) 0 with
    | true => a :: dedB (Nat.lor m (Nat.shiftLeft 1 a)) r
    | false => dedB m r
def growB (g : Addr → Option Obj) (as : List Addr) : List Addr := dedB 0 (as ++ as.flatMap fun a => match g a with
  | some o => He.refsO o
  | none => [])
/-- the part of the heap that is looked at: what the module's names ns.1 (classes) name, three steps on, and what ns.2 (defs) name, one step on -/
def asX (g : Addr → Option Obj) (ns : List Str × List Str) : List Addr := mainGlobals :: cStatics :: growB g (ns.2.map (He.ga (He.frG g [mainGlobals])) ++ growB g (growB g (ns.1.map (He.ga (He.frG g [mainGlobals])))))
def obsK (fa : List (List Fact)) (fn : List He.FnD) (K : PySem.W.Frag) : He.Al := (fa.all fun l => l.all fun f => f K, fn.map fun d => He.fnObs K d.at_)
def fnCodes (fn : List He.FnD) : List Fact := fn.map fun d => fun K => (He.Fa.code d.at_ d.qual).ok K
def obsX (ns : List Str × List Str) (fa : List (List Fact)) (fn : List He.FnD) (g : Addr → Option Obj) : He.Al := obsK fa fn (He.frG g (asX g ns))
/-- what is told of the top -/
structure Held (fa : List (List Fact)) (fn : List He.FnD) (K : PySem.W.Frag) : Prop where
  run : obsK fa fn K = He.valE fn
def hookX (ns : List Str × List Str) (fa : List (List Fact)) (fn : List He.FnD) : PySem.W.Hook where
  α := He.Al
  obs := fun s => obsX ns fa fn s.heap.get?
  val := fun _ => He.valE fn
  says := fun _ h => ∃ K : PySem.W.Frag, K.In h ∧ Held fa fn K
  of := fun _ _ e => ⟨_, He.frG_in, ⟨e⟩⟩
  keeps := fun _ _ _ ⟨K, hK, c⟩ k => ⟨K, PySem.W.Frag.In.keeps hK k, c⟩
def obX (ns : List Str × List Str) (fa : List (List Fact)) (fn : List He.FnD) (s : PySem.W.SharedT) : He.Al := obsX ns fa fn (HandSHeadRun.getT s)
theorem obX_eq (ns : List Str × List Str) (fa : List (List Fact)) (fn : List He.FnD) (s : PySem.W.SharedT) : obX ns fa fn s = (hookX ns fa fn).obs s.abs := by
  have e : HandSHeadRun.getT s = s.abs.heap.get? := funext fun a => HandSHeadRun.getT_eq s a
  unfold obX
  rw [e]
  rfl
/-- a def of the text -/
abbrev dOf (at_ : Str × Option Str) (x q : Str) (st : Stmt) : He.FnD := ⟨at_, x, q, defArgs st, defBody st, defScope st⟩
def codeF (at_ : Str × Option Str) (q : Str) : Fact := fun K => (He.Fa.code at_ q).ok K
/-! ### facts of classes -/
def mkF (C f : PySem.W.Frag → Addr) : Fact := fun K => PySem.W.makesIn K (C K) && (He.eqO (PySem.W.findIn K (.ref (C K)) "__init__") (some (some (.ref (f K)))) && (PySem.W.isFn K (.ref (f K)) && PySem.W.keepIn K (.ref (C K))))
def mk0F (C : PySem.W.Frag → Addr) : Fact := fun K => PySem.W.makesIn K (C K) && (He.eqO (PySem.W.findIn K (.ref (C K)) "__init__") (some (some (.builtin "object.__init__"))) && PySem.W.keepIn K (.ref (C K)))
def meF (C : PySem.W.Frag → Addr) (m : Str) (f : PySem.W.Frag → Addr) : Fact := fun K => He.eqO (PySem.W.findIn K (.ref (C K)) m) (some (some (.ref (f K)))) && (PySem.W.isFn K (.ref (f K)) && PySem.W.keepIn K (.ref (f K)))
def clF (C : PySem.W.Frag → Addr) : Fact := fun K => PySem.W.plainGet K (C K) Str.empty && (PySem.W.hasDictIn K (C K) && (PySem.W.plainOver K (C K) && He.eqO (PySem.W.findIn K (.ref (C K)) "__setattr__") (some (some (.builtin "object.__setattr__")))))
def fiF (C : PySem.W.Frag → Addr) (x : Str) (v : PySem.W.Frag → Option Value) : Fact := fun K => He.eqO (PySem.W.findIn K (.ref (C K)) x) (some (v K))
def isF (C : PySem.W.Frag → Addr) : Fact := fun K => He.eqO (PySem.W.findIn K (.ref (C K)) "__class__") (some (some (.builtin "object.__class__"))) && (He.eqO (PySem.W.specialIn K (.builtin "object.__class__") "__get__") (some (some (.builtin "getset_descriptor.__get__"))) && (decide (PySem.W.takesIn K (.builtin "object.__class__") = some true) && decide (PySem.W.mroIn K (C K) (.type "object") = some true)))
def exF2 (C : PySem.W.Frag → Addr) : Fact := fun K => xfB K (C K) && isF C K
def kiF (C : PySem.W.Frag → Addr) (v : PySem.W.Frag → Value) (b : Bool) : Fact := fun K => decide (PySem.W.kitOne K (.ref (C K)) (v K) = some b)
def xmF (C : PySem.W.Frag → Addr) (v : PySem.W.Frag → Value) (b : Bool) : Fact := fun K => decide (PySem.W.exmOne K (.ref (C K)) (v K) = some b)
def tyF (C : PySem.W.Frag → Addr) (t : Value) : Fact := fun K => decide (PySem.W.typeIn K (.ref (C K)) = some t)
def oxB (C : Addr) (o : Obj) : Bool := match o with
  | ⟨.type t, _, .cls cd, sl⟩ => (match cd.mro, sl.toList with
    | .ref C' :: bm, [_, _, _, _, some (.builtin n), _] => decide (t = "type") && (decide (C' = C) && (decide (n = "ValueError.__new__") && (!cd.hasDel && (cd.hasDict && PySem.HandSPX.refsVE bm))))
    | _, _ => false)
  | _ => false
def oxF (C : PySem.W.Frag → Addr) : Fact := fun K => (match K.lookup (C K) with
  | some o => oxB (C K) o
  | none => false) && (He.eqO (PySem.W.findIn K (.ref (C K)) "__setattr__") (some (some (.builtin "object.__setattr__"))) && (decide (PySem.W.subIn K (.ref (C K)) (.type "BaseException") = some true) && (decide (PySem.W.typeIn K (.ref (C K)) = some (.type "type")) && PySem.W.keepIn K (.ref (C K)))))
def crF (C : PySem.W.Frag → Addr) : Fact := fun K => PySem.W.readsIn K (C K) (.type "type") && He.eqO (PySem.W.specialIn K (.ref (C K)) "__getattribute__") (some (some (.builtin "type.__getattribute__")))
def cvB : Option PySem.W.CFound → Value → Bool
  | some (.val u), v => decide (u = v)
  | _, _ => false
def cvF (C : PySem.W.Frag → Addr) (m : Str) (f : PySem.W.Frag → Addr) : Fact := fun K => cvB (PySem.W.findCls K (.ref (C K)) (.type "type") m) (.ref (f K))
def tuF (x : Str) (xs : List Str) : Fact := fun K => match PySem.W.nsIn K mainGlobals x with
  | some (some (.ref l)) => (match K.lookup l with
    | some o => decide (tupO o = some xs)
    | none => false)
  | _ => false
end Mb

/-! Mb, part G: .. with tables: dicts of the top with text keys. -/
namespace Mb
open PySem L2 PyProof.Rows
/-- what stands in a table at a text -/
inductive TV | no | int (n : Int) | txs (xs : List Str)
def tvB (K : PySem.W.Frag) : TV → Option (Option Value) → Bool
  | .no, some none => true
  | .int n, some (some (.int m _)) => decide (m = n)
  | .txs xs, some (some (.ref t)) => (match K.lookup t with
    | some o => decide (tupO o = some xs)
    | none => false)
  | _, _ => false
def dtF (x : Str) (f : List (Str × TV)) : Fact := fun K => (match PySem.W.nsIn K mainGlobals x with
  | some (some (.ref l)) => decide (l = He.ga K x)
  | _ => false) && f.all fun q => tvB K q.2 (PySem.W.nsIn K (He.ga K x) q.1)
abbrev AlY : Type := He.Al × List (Option (List (Option (Str × Int))))
/-- the tables: their names, their keys in order -/
def obsKY (fa : List (List Fact)) (fn : List He.FnD) (ts : List (Str × List Str)) (K : PySem.W.Frag) : AlY := (obsK fa fn K, ts.map fun t => He.dicW K (He.ga K t.1))
def valKY (fn : List He.FnD) (ts : List (Str × List Str)) (w : World) : AlY := (He.valE fn, ts.map fun t => some (He.keysIn w.params t.2))
def obsY (ns : List Str × List Str) (fa : List (List Fact)) (fn : List He.FnD) (ts : List (Str × List Str)) (g : Addr → Option Obj) : AlY := obsKY fa fn ts (He.frG g (asX g ns))
structure HeldY (fa : List (List Fact)) (fn : List He.FnD) (ts : List (Str × List Str)) (w : World) (K : PySem.W.Frag) : Prop where
  run : obsKY fa fn ts K = valKY fn ts w
theorem HeldY.held {fa : List (List Fact)} {fn : List He.FnD} {ts : List (Str × List Str)} {w : World} {K : PySem.W.Frag} (c : HeldY fa fn ts w K) : Held fa fn K := ⟨congrArg (fun z : AlY => z.1) c.run⟩
theorem HeldY.tab {fa : List (List Fact)} {fn : List He.FnD} {ts : List (Str × List Str)} {w : World} {K : PySem.W.Frag} (c : HeldY fa fn ts w K) (i : Nat) {t : Str × List Str} (h : ts[i]? = some t) : ∃ es n, KDict K w (He.ga K t.1) es n := by
  have e : ts.map (fun t => He.dicW K (He.ga K t.1)) = ts.map fun t => some (He.keysIn w.params t.2) := congrArg (fun z : AlY => z.2) c.run
  have e2 : (ts.map fun t => He.dicW K (He.ga K t.1))[i]? = (ts.map fun t => some (He.keysIn w.params t.2))[i]? := by rw [e]
  rw [List.getElem?_map, List.getElem?_map, h] at e2
  exact He.dicW_ok (Option.some.inj e2)
def hookY (ns : List Str × List Str) (fa : List (List Fact)) (fn : List He.FnD) (ts : List (Str × List Str)) : PySem.W.Hook where
  α := AlY
  obs := fun s => obsY ns fa fn ts s.heap.get?
  val := fun w => valKY fn ts w
  says := fun w h => ∃ K : PySem.W.Frag, K.In h ∧ HeldY fa fn ts w K
  of := fun _ _ e => ⟨_, He.frG_in, ⟨e⟩⟩
  keeps := fun _ _ _ ⟨K, hK, c⟩ k => ⟨K, PySem.W.Frag.In.keeps hK k, c⟩
def obY (ns : List Str × List Str) (fa : List (List Fact)) (fn : List He.FnD) (ts : List (Str × List Str)) (s : PySem.W.SharedT) : AlY := obsY ns fa fn ts (HandSHeadRun.getT s)
theorem obY_eq (ns : List Str × List Str) (fa : List (List Fact)) (fn : List He.FnD) (ts : List (Str × List Str)) (s : PySem.W.SharedT) : obY ns fa fn ts s = (hookY ns fa fn ts).obs s.abs := by
  have e : HandSHeadRun.getT s = s.abs.heap.get? := funext fun a => HandSHeadRun.getT_eq s a
  unfold obY
  rw [e]
  rfl
end Mb

/-! Mb, part H: .. with defs that have defaults. -/
namespace Mb
open PySem L2 PyProof.Rows
abbrev AlZ : Type := AlY × List He.FnW
def obsKZ (fa : List (List Fact)) (fn : List He.FnD) (ts : List (Str × List Str)) (ds : List He.DefD) (K : PySem.W.Frag) : AlZ := (obsKY fa fn ts K, ds.map fun d => He.fnW K d.at_)
def valKZ (fn : List He.FnD) (ts : List (Str × List Str)) (ds : List He.DefD) (w : World) : AlZ := (valKY fn ts w, ds.map He.DefD.val)
def obsZ (ns : List Str × List Str) (fa : List (List Fact)) (fn : List He.FnD) (ts : List (Str × List Str)) (ds : List He.DefD) (g : Addr → Option Obj) : AlZ := obsKZ fa fn ts ds (He.frG g (asX g ns))
structure HeldZ (fa : List (List Fact)) (fn : List He.FnD) (ts : List (Str × List Str)) (ds : List He.DefD) (w : World) (K : PySem.W.Frag) : Prop where
  run : obsKZ fa fn ts ds K = valKZ fn ts ds w
/-- the defs with defaults -/
structure HeldD (ds : List He.DefD) (K : PySem.W.Frag) : Prop where
  run : (ds.map fun d => He.fnW K d.at_) = ds.map He.DefD.val
theorem HeldZ.heldY {fa : List (List Fact)} {fn : List He.FnD} {ts : List (Str × List Str)} {ds : List He.DefD} {w : World} {K : PySem.W.Frag} (c : HeldZ fa fn ts ds w K) : HeldY fa fn ts w K := ⟨congrArg (fun z : AlZ => z.1) c.run⟩
theorem HeldZ.heldD {fa : List (List Fact)} {fn : List He.FnD} {ts : List (Str × List Str)} {ds : List He.DefD} {w : World} {K : PySem.W.Frag} (c : HeldZ fa fn ts ds w K) : HeldD ds K := ⟨congrArg (fun z : AlZ => z.2) c.run⟩
theorem HeldD.def_ {ds : List He.DefD} {K : PySem.W.Frag} (c : HeldD ds K) (i : Nat) {d : He.DefD} (h : ds[i]? = some d) : He.fnW K d.at_ = d.val := by
  have q2 : (ds.map fun d => He.fnW K d.at_)[i]? = (ds.map He.DefD.val)[i]? := congrArg (fun z => z[i]?) c.run
  rw [List.getElem?_map, List.getElem?_map, h] at q2
  exact Option.some.inj q2
def hookZ (ns : List Str × List Str) (fa : List (List Fact)) (fn : List He.FnD) (ts : List (Str × List Str)) (ds : List He.DefD) : PySem.W.Hook where
  α := AlZ
  obs := fun s => obsZ ns fa fn ts ds s.heap.get?
  val := fun w => valKZ fn ts ds w
  says := fun w h => ∃ K : PySem.W.Frag, K.In h ∧ HeldZ fa fn ts ds w K
  of := fun _ _ e => ⟨_, He.frG_in, ⟨e⟩⟩
  keeps := fun _ _ _ ⟨K, hK, c⟩ k => ⟨K, PySem.W.Frag.In.keeps hK k, c⟩
def obZ (ns : List Str × List Str) (fa : List (List Fact)) (fn : List He.FnD) (ts : List (Str × List Str)) (ds : List He.DefD) (s : PySem.W.SharedT) : AlZ := obsZ ns fa fn ts ds (HandSHeadRun.getT s)
theorem obZ_eq (ns : List Str × List Str) (fa : List (List Fact)) (fn : List He.FnD) (ts : List (Str × List Str)) (ds : List He.DefD) (s : PySem.W.SharedT) : obZ ns fa fn ts ds s = (hookZ ns fa fn ts ds).obs s.abs := by
  have e : HandSHeadRun.getT s = s.abs.heap.get? := funext fun a => HandSHeadRun.getT_eq s a
  unfold obZ
  rw [e]
  rfl
/-- a def of the text, with defaults -/
abbrev dDf (at_ : Str × Option Str) (x q : Str) (st : Stmt) (dfl : List He.Dv) : He.DefD := ⟨at_, x, q, defArgs st, defBody st, defScope st, dfl, []⟩
def dfF (d : He.DefD) : Fact := fun K => d.ok K
theorem dfF_ok {d : He.DefD} {K : PySem.W.Frag} (c : dfF d K = true) (e : He.fnW K d.at_ = d.val) : ∃ fd, FunD K d.name d.qual d.params d.body d.scope (d.dvs K) (d.kws K) (He.fAd K d.at_) fd := He.DefD.funD e c
end Mb

namespace Mb
open PySem L2 PyProof.Rows
def topS (i : Nat) : Stmt := PySem.Challenge.pw_manyboard_k37_questions_made.main.body.getD i (.Pass ⟨0, 0, 0, 0⟩)
abbrev s_BadCount_init : Stmt := inClass (topS 2) 0
abbrev ps_BadCount_init : List Str := ["self", "what", "count"]
theorem sc_BadCount_init : FnScope ["self", "what", "count"] ["self", "what", "count"] (defScope s_BadCount_init) := ⟨rfl, rfl, rfl, by decide +kernel, rfl, by decide +kernel, by decide +kernel⟩
abbrev s_NoName_init : Stmt := inClass (topS 3) 0
abbrev ps_NoName_init : List Str := ["self", "name"]
theorem sc_NoName_init : FnScope ["self", "name"] ["self", "name"] (defScope s_NoName_init) := ⟨rfl, rfl, rfl, by decide +kernel, rfl, by decide +kernel, by decide +kernel⟩
abbrev s_Twice_init : Stmt := inClass (topS 4) 0
abbrev ps_Twice_init : List Str := ["self", "name"]
theorem sc_Twice_init : FnScope ["self", "name"] ["self", "name"] (defScope s_Twice_init) := ⟨rfl, rfl, rfl, by decide +kernel, rfl, by decide +kernel, by decide +kernel⟩
abbrev s_is_name : Stmt := topS 9
abbrev ps_is_name : List Str := ["text"]
theorem sc_is_name : FnScope ["text", "sign"] ["text"] (defScope s_is_name) := ⟨rfl, rfl, rfl, by decide +kernel, rfl, by decide +kernel, by decide +kernel⟩
abbrev s_asked_names : Stmt := topS 10
abbrev ps_asked_names : List Str := ["texts"]
theorem sc_asked_names : FnScope ["texts", "text"] ["texts"] (defScope s_asked_names) := ⟨rfl, rfl, rfl, by decide +kernel, rfl, by decide +kernel, by decide +kernel⟩
abbrev s_asked_once : Stmt := topS 11
abbrev ps_asked_once : List Str := ["names"]
theorem sc_asked_once : FnScope ["names", "seen", "name"] ["names"] (defScope s_asked_once) := ⟨rfl, rfl, rfl, by decide +kernel, rfl, by decide +kernel, by decide +kernel⟩
abbrev s_Question_init : Stmt := inClass (topS 14) 0
abbrev ps_Question_init : List Str := ["self", "lead", "follows", "holds"]
theorem sc_Question_init : FnScope ["self", "lead", "follows", "holds", "cell", "value"] ["self", "lead", "follows", "holds"] (defScope s_Question_init) := ⟨rfl, rfl, rfl, by decide +kernel, rfl, by decide +kernel, by decide +kernel⟩
abbrev s_Question_eq : Stmt := inClass (topS 14) 1
abbrev ps_Question_eq : List Str := ["self", "other"]
theorem sc_Question_eq : FnScope ["self", "other"] ["self", "other"] (defScope s_Question_eq) := ⟨rfl, rfl, rfl, by decide +kernel, rfl, by decide +kernel, by decide +kernel⟩
abbrev s_law_cell_at : Stmt := topS 16
abbrev ps_law_cell_at : List Str := ["_law_script", "_law_k"]
theorem sc_law_cell_at : FnScope ["_law_script", "_law_k"] ["_law_script", "_law_k"] (defScope s_law_cell_at) := ⟨rfl, rfl, rfl, by decide +kernel, rfl, by decide +kernel, by decide +kernel⟩
abbrev s_law_well : Stmt := topS 17
abbrev ps_law_well : List Str := ["_law_cell"]
theorem sc_law_well : FnScope ["_law_cell"] ["_law_cell"] (defScope s_law_well) := ⟨rfl, rfl, rfl, by decide +kernel, rfl, by decide +kernel, by decide +kernel⟩
abbrev s_law_draw : Stmt := topS 18
abbrev ps_law_draw : List Str := ["_law_well_here", "_law_many"]
theorem sc_law_draw : FnScope ["_law_well_here", "_law_many", "_law_digit", "_law_prime", "_law_number"] ["_law_well_here", "_law_many"] (defScope s_law_draw) := ⟨rfl, rfl, rfl, by decide +kernel, rfl, by decide +kernel, by decide +kernel⟩
abbrev s_law_of : Stmt := topS 19
abbrev ps_law_of : List Str := ["_law_well_here", "_law_some"]
theorem sc_law_of : FnScope ["_law_well_here", "_law_some"] ["_law_well_here", "_law_some"] (defScope s_law_of) := ⟨rfl, rfl, rfl, by decide +kernel, rfl, by decide +kernel, by decide +kernel⟩
abbrev s_law_text : Stmt := topS 20
abbrev ps_law_text : List Str := ["_law_well_here", "_law_spoilt"]
theorem sc_law_text : FnScope ["_law_well_here", "_law_spoilt", "_law_signs", "_law_name", "_law_door", "_law_k"] ["_law_well_here", "_law_spoilt"] (defScope s_law_text) := ⟨rfl, rfl, rfl, by decide +kernel, rfl, by decide +kernel, by decide +kernel⟩
abbrev s_law_is_name : Stmt := topS 21
abbrev ps_law_is_name : List Str := ["_law_text_here"]
theorem sc_law_is_name : FnScope ["_law_text_here", "_law_letters", "_law_sign"] ["_law_text_here"] (defScope s_law_is_name) := ⟨rfl, rfl, rfl, by decide +kernel, rfl, by decide +kernel, by decide +kernel⟩
abbrev s_law_due : Stmt := topS 22
abbrev ps_law_due : List Str := ["_law_head", "_law_some", "_law_pairs"]
theorem sc_law_due : FnScope ["_law_head", "_law_some", "_law_pairs", "_law_names", "_law_cell", "_law_value", "_law_name", "_law_cells", "_law_k"] ["_law_head", "_law_some", "_law_pairs"] (defScope s_law_due) := ⟨rfl, rfl, rfl, by decide +kernel, rfl, by decide +kernel, by decide +kernel⟩
abbrev s_law_made : Stmt := topS 23
abbrev ps_law_made : List Str := ["_law_door", "_law_head", "_law_some", "_law_pairs"]
theorem sc_law_made : FnScope ["_law_door", "_law_head", "_law_some", "_law_pairs"] ["_law_door", "_law_head", "_law_some", "_law_pairs"] (defScope s_law_made) := ⟨rfl, rfl, rfl, by decide +kernel, rfl, by decide +kernel, by decide +kernel⟩
abbrev s_law_said : Stmt := topS 24
abbrev ps_law_said : List Str := ["_law_door", "_law_head", "_law_some", "_law_pairs"]
theorem sc_law_said : FnScope ["_law_door", "_law_head", "_law_some", "_law_pairs", "_law_found", "e", "_law_kinds"] ["_law_door", "_law_head", "_law_some", "_law_pairs"] (defScope s_law_said) := ⟨rfl, rfl, rfl, by decide +kernel, rfl, by decide +kernel, by decide +kernel⟩
abbrev s_law_others : Stmt := topS 25
abbrev ps_law_others : List Str := ["_law_head", "_law_some", "_law_pairs"]
theorem sc_law_others : FnScope ["_law_head", "_law_some", "_law_pairs", "_law_found"] ["_law_head", "_law_some", "_law_pairs"] (defScope s_law_others) := ⟨rfl, rfl, rfl, by decide +kernel, rfl, by decide +kernel, by decide +kernel⟩
abbrev s_law_like_itself : Stmt := topS 26
abbrev ps_law_like_itself : List Str := ["_law_head", "_law_some", "_law_pairs"]
theorem sc_law_like_itself : FnScope ["_law_head", "_law_some", "_law_pairs", "_law_here", "_law_other", "_law_things", "_law_thing"] ["_law_head", "_law_some", "_law_pairs"] (defScope s_law_like_itself) := ⟨rfl, rfl, rfl, by decide +kernel, rfl, by decide +kernel, by decide +kernel⟩
abbrev s_law : Stmt := topS 27
abbrev ps_law : List Str := ["_law_script"]
theorem sc_law : FnScope ["_law_script", "_law_cell", "_law_well_here", "_law_door", "_law_spoilt", "_law_many", "_law_wide", "_law_head", "_law_some", "_law_pairs", "_law_due_here", "_law_handed", "_law_found", "_law_k"] ["_law_script"] (defScope s_law) := ⟨rfl, rfl, rfl, by decide +kernel, rfl, by decide +kernel, by decide +kernel⟩
def a_f_BadCount_init : PySem.W.Frag → Addr := fun K => He.ma K (He.ga K "BadCount") "__init__"
def a_f_NoName_init : PySem.W.Frag → Addr := fun K => He.ma K (He.ga K "NoName") "__init__"
def a_f_Twice_init : PySem.W.Frag → Addr := fun K => He.ma K (He.ga K "Twice") "__init__"
def a_f_is_name : PySem.W.Frag → Addr := fun K => He.ga K "is_name"
def a_f_asked_names : PySem.W.Frag → Addr := fun K => He.ga K "asked_names"
def a_f_asked_once : PySem.W.Frag → Addr := fun K => He.ga K "asked_once"
def a_f_Question_init : PySem.W.Frag → Addr := fun K => He.ma K (He.ga K "Question") "__init__"
def a_f_Question_eq : PySem.W.Frag → Addr := fun K => He.ma K (He.ga K "Question") "__eq__"
def a_f_law_cell_at : PySem.W.Frag → Addr := fun K => He.ga K "_law_cell_at"
def a_f_law_well : PySem.W.Frag → Addr := fun K => He.ga K "_law_well"
def a_f_law_draw : PySem.W.Frag → Addr := fun K => He.ga K "_law_draw"
def a_f_law_of : PySem.W.Frag → Addr := fun K => He.ga K "_law_of"
def a_f_law_text : PySem.W.Frag → Addr := fun K => He.ga K "_law_text"
def a_f_law_is_name : PySem.W.Frag → Addr := fun K => He.ga K "_law_is_name"
def a_f_law_due : PySem.W.Frag → Addr := fun K => He.ga K "_law_due"
def a_f_law_made : PySem.W.Frag → Addr := fun K => He.ga K "_law_made"
def a_f_law_said : PySem.W.Frag → Addr := fun K => He.ga K "_law_said"
def a_f_law_others : PySem.W.Frag → Addr := fun K => He.ga K "_law_others"
def a_f_law_like_itself : PySem.W.Frag → Addr := fun K => He.ga K "_law_like_itself"
def a_f_law : PySem.W.Frag → Addr := fun K => He.ga K "law"
def a_C_BoardError : PySem.W.Frag → Addr := fun K => He.ga K "BoardError"
def a_C_BadCount : PySem.W.Frag → Addr := fun K => He.ga K "BadCount"
def a_C_NoName : PySem.W.Frag → Addr := fun K => He.ga K "NoName"
def a_C_Twice : PySem.W.Frag → Addr := fun K => He.ga K "Twice"
def a_C_Question : PySem.W.Frag → Addr := fun K => He.ga K "Question"
def dfd_Question_init : He.DefD := dDf ("Question", some "__init__") "__init__" "Question.__init__" s_Question_init [.non, .non, .non]
def fa_top : List Fact := [(fun K => (He.Fa.free "len").ok K),
  (fun K => (He.Fa.free "int").ok K),
  (fun K => (He.Fa.free "list").ok K),
  (fun K => (He.Fa.free "tuple").ok K),
  (fun K => (He.Fa.free "all").ok K),
  (fun K => (He.Fa.free "range").ok K),
  (fun K => (He.Fa.free "enumerate").ok K),
  (fun K => (He.Fa.free "isinstance").ok K),
  (fun K => (He.Fa.str "LETTERS" "abcdefghijklmnopqrstuvwxyz").ok K),
  (fun K => (He.Fa.str "FIGURES" "0123456789").ok K),
  (fun K => (He.Fa.int "LONGEST" 10).ok K),
  (fun K => (He.Fa.int "MOST_FOLLOWS" 6).ok K)]
def fa_glo : List Fact := [(fun K => (He.Fa.glo "is_name").ok K),
  (fun K => (He.Fa.glo "asked_names").ok K),
  (fun K => (He.Fa.glo "asked_once").ok K),
  (fun K => (He.Fa.glo "_law_cell_at").ok K),
  (fun K => (He.Fa.glo "_law_well").ok K),
  (fun K => (He.Fa.glo "_law_draw").ok K),
  (fun K => (He.Fa.glo "_law_of").ok K),
  (fun K => (He.Fa.glo "_law_text").ok K),
  (fun K => (He.Fa.glo "_law_is_name").ok K),
  (fun K => (He.Fa.glo "_law_due").ok K),
  (fun K => (He.Fa.glo "_law_made").ok K),
  (fun K => (He.Fa.glo "_law_said").ok K),
  (fun K => (He.Fa.glo "_law_others").ok K),
  (fun K => (He.Fa.glo "_law_like_itself").ok K),
  (fun K => (He.Fa.glo "law").ok K),
  (fun K => (He.Fa.glo "BoardError").ok K),
  (fun K => (He.Fa.glo "BadCount").ok K),
  (fun K => (He.Fa.glo "NoName").ok K),
  (fun K => (He.Fa.glo "Twice").ok K),
  (fun K => (He.Fa.glo "Question").ok K)]
def fa_dfl : List Fact := [(dfF dfd_Question_init)]
def fa_BadCount : List Fact := [(exF2 a_C_BadCount),
  (oxF a_C_BadCount),
  (fiF a_C_BadCount "__init__" (fun K => some (.ref (a_f_BadCount_init K)))),
  (tyF a_f_BadCount_init (.type "function")),
  (fiF a_C_BadCount "what" (fun _ => none)),
  (fiF a_C_BadCount "count" (fun _ => none)),
  (xmF a_C_BadCount (fun K => .ref (a_C_BoardError K)) true),
  (kiF a_C_BadCount (fun K => .ref (a_C_BadCount K)) true),
  (kiF a_C_BadCount (fun K => .ref (a_C_NoName K)) false),
  (kiF a_C_BadCount (fun K => .ref (a_C_Twice K)) false)]
def fa_NoName : List Fact := [(exF2 a_C_NoName),
  (oxF a_C_NoName),
  (fiF a_C_NoName "__init__" (fun K => some (.ref (a_f_NoName_init K)))),
  (tyF a_f_NoName_init (.type "function")),
  (fiF a_C_NoName "name" (fun _ => none)),
  (xmF a_C_NoName (fun K => .ref (a_C_BoardError K)) true),
  (kiF a_C_NoName (fun K => .ref (a_C_BadCount K)) false),
  (kiF a_C_NoName (fun K => .ref (a_C_NoName K)) true),
  (kiF a_C_NoName (fun K => .ref (a_C_Twice K)) false)]
def fa_Twice : List Fact := [(exF2 a_C_Twice),
  (oxF a_C_Twice),
  (fiF a_C_Twice "__init__" (fun K => some (.ref (a_f_Twice_init K)))),
  (tyF a_f_Twice_init (.type "function")),
  (fiF a_C_Twice "name" (fun _ => none)),
  (xmF a_C_Twice (fun K => .ref (a_C_BoardError K)) true),
  (kiF a_C_Twice (fun K => .ref (a_C_BadCount K)) false),
  (kiF a_C_Twice (fun K => .ref (a_C_NoName K)) false),
  (kiF a_C_Twice (fun K => .ref (a_C_Twice K)) true)]
def fa_Question : List Fact := [(clF a_C_Question),
  (fiF a_C_Question "lead" (fun _ => none)),
  (fiF a_C_Question "follows" (fun _ => none)),
  (fiF a_C_Question "holds" (fun _ => none)),
  (mkF a_C_Question a_f_Question_init),
  (isF a_C_Question),
  (tyF a_C_Question (.type "type")),
  (kiF a_C_Question (fun K => .ref (a_C_Question K)) true),
  (fiF a_C_Question "__ne__" (fun _ => some (.builtin "object.__ne__"))),
  (meF a_C_Question "__eq__" a_f_Question_eq)]
def fa_code : List Fact := [(codeF ("BadCount", some "__init__") "BadCount.__init__"),
  (codeF ("NoName", some "__init__") "NoName.__init__"),
  (codeF ("Twice", some "__init__") "Twice.__init__"),
  (codeF ("is_name", none) "is_name"),
  (codeF ("asked_names", none) "asked_names"),
  (codeF ("asked_once", none) "asked_once"),
  (codeF ("Question", some "__eq__") "Question.__eq__"),
  (codeF ("_law_cell_at", none) "_law_cell_at"),
  (codeF ("_law_well", none) "_law_well"),
  (codeF ("_law_draw", none) "_law_draw"),
  (codeF ("_law_of", none) "_law_of"),
  (codeF ("_law_text", none) "_law_text"),
  (codeF ("_law_is_name", none) "_law_is_name"),
  (codeF ("_law_due", none) "_law_due"),
  (codeF ("_law_made", none) "_law_made"),
  (codeF ("_law_said", none) "_law_said"),
  (codeF ("_law_others", none) "_law_others"),
  (codeF ("_law_like_itself", none) "_law_like_itself"),
  (codeF ("law", none) "law")]
def facts : List (List Fact) := [fa_top, fa_glo, fa_dfl, fa_BadCount, fa_NoName, fa_Twice, fa_Question, fa_code]
def dd_BadCount_init : He.FnD := dOf ("BadCount", some "__init__") "__init__" "BadCount.__init__" s_BadCount_init
def dd_NoName_init : He.FnD := dOf ("NoName", some "__init__") "__init__" "NoName.__init__" s_NoName_init
def dd_Twice_init : He.FnD := dOf ("Twice", some "__init__") "__init__" "Twice.__init__" s_Twice_init
def dd_is_name : He.FnD := dOf ("is_name", none) "is_name" "is_name" s_is_name
def dd_asked_names : He.FnD := dOf ("asked_names", none) "asked_names" "asked_names" s_asked_names
def dd_asked_once : He.FnD := dOf ("asked_once", none) "asked_once" "asked_once" s_asked_once
def dd_Question_eq : He.FnD := dOf ("Question", some "__eq__") "__eq__" "Question.__eq__" s_Question_eq
def dd_law_cell_at : He.FnD := dOf ("_law_cell_at", none) "_law_cell_at" "_law_cell_at" s_law_cell_at
def dd_law_well : He.FnD := dOf ("_law_well", none) "_law_well" "_law_well" s_law_well
def dd_law_draw : He.FnD := dOf ("_law_draw", none) "_law_draw" "_law_draw" s_law_draw
def dd_law_of : He.FnD := dOf ("_law_of", none) "_law_of" "_law_of" s_law_of
def dd_law_text : He.FnD := dOf ("_law_text", none) "_law_text" "_law_text" s_law_text
def dd_law_is_name : He.FnD := dOf ("_law_is_name", none) "_law_is_name" "_law_is_name" s_law_is_name
def dd_law_due : He.FnD := dOf ("_law_due", none) "_law_due" "_law_due" s_law_due
def dd_law_made : He.FnD := dOf ("_law_made", none) "_law_made" "_law_made" s_law_made
def dd_law_said : He.FnD := dOf ("_law_said", none) "_law_said" "_law_said" s_law_said
def dd_law_others : He.FnD := dOf ("_law_others", none) "_law_others" "_law_others" s_law_others
def dd_law_like_itself : He.FnD := dOf ("_law_like_itself", none) "_law_like_itself" "_law_like_itself" s_law_like_itself
def dd_law : He.FnD := dOf ("law", none) "law" "law" s_law
def fnsL : List He.FnD := [dd_BadCount_init, dd_NoName_init, dd_Twice_init, dd_is_name, dd_asked_names, dd_asked_once, dd_Question_eq, dd_law_cell_at, dd_law_well, dd_law_draw, dd_law_of, dd_law_text, dd_law_is_name, dd_law_due, dd_law_made, dd_law_said, dd_law_others, dd_law_like_itself, dd_law]
def dfsL : List He.DefD := [dfd_Question_init]
def tabsL : List (Str × List Str) := []

section
open PySem PySem.W PySem.Calls PyProof.Rows
def nmsAll : List PySem.Str := (["BoardError", "BadCount", "NoName", "Twice", "LETTERS", "FIGURES", "LONGEST", "is_name", "asked_names", "asked_once"] : List PySem.Str) ++ (["MOST_FOLLOWS", "Question", "_law_cell_at", "_law_well", "_law_draw", "_law_of", "_law_text", "_law_is_name", "_law_due", "_law_made"] : List PySem.Str) ++ (["_law_said", "_law_others", "_law_like_itself"] : List PySem.Str)
def nmsSeen : List PySem.Str × List PySem.Str := ((["BoardError", "BadCount", "NoName", "Twice", "Question"] : List PySem.Str), (["is_name", "asked_names", "asked_once", "_law_cell_at", "_law_well", "_law_draw", "_law_of", "_law_text", "_law_is_name", "_law_due"] : List PySem.Str) ++ (["_law_made", "_law_said", "_law_others", "_law_like_itself", "law"] : List PySem.Str))
set_option maxHeartbeats 0 in
theorem runX (w : World) : HandSHeadRun.RunEq (OpenLaw.row PySem.Challenge.rw_manyboard_k37_questions_made) (view (OpenLaw.row PySem.Challenge.rw_manyboard_k37_questions_made).prog [27]) (hookZ nmsSeen facts fnsL tabsL dfsL) (obZ nmsSeen facts fnsL tabsL dfsL) 16000 nmsAll w := by
  intro os
  kernel_rfl
end

end Mb
/-! Mb, part 0: plain data D, symbolic values SV, cells, what represents what, the world, the judgements. -/
namespace Mb
open PySem L2

/-- plain data that is never changed -/
inductive D where
  | non | bl (b : Bool) | int (i : Int) | str (x : Str)
  | lst (xs : List D) | tup (xs : List D) | ins (C : Addr) (fs : List (Str × D)) | dic (kvs : List (Key × D))
/-- what a tuple that is not data holds: data, a cell -/
inductive FV where
  | dat (d : D) | cel (i : Nat)
/-- a symbolic value: data, a cell (by its number), a bare value, an exception that is held (its dict at dd, its fields, its own address) -/
inductive SV where
  | dat (d : D) | cel (i : Nat) | raw (v : V) | exc (dd : Addr) (fs : List (Str × D)) (a : Addr) | tup (xs : List FV) | xt (ds : List D)
/-- what a cell holds: a thing that this code owns and may change -/
inductive Cell where
  | dead | lst (xs : List D) | dic (kvs : List (Key × D)) | ins (C : Addr) (fs : List (Str × SV)) | mix (xs : List SV) | dct (P : Program) (w : World) (kvs : List (D × D))

/-- a text of a size and with signs that the machine bears -/
def SOk (x : Str) : Prop := x.length ≤ sizeLine ∧ PyData.strOk x = true
/-- fields that hold a tuple without an instance's dict: its methods may be called -/
def exName (f : Str) : Bool := f == "names" || f == "follows"
def Xt (G : Hp) (a : Addr) : Prop := ∃ o u, G a = some (.frz o u) ∧ o.dict = none
def NX (G : Hp) (fv : List (Str × V)) : Prop := ∀ f v, exName f = true → fv.lookup f = some v → ∃ a, v = .ref a ∧ Xt G a
theorem NX.mono {G G' : Hp} {fv : List (Str × V)} (e : Same G G') (h : NX G fv) : NX G' fv := fun f v c l => by
  obtain ⟨a, h1, o, u, h2, h3⟩ := h f v c l
  exact ⟨a, h1, o, u, e _ _ h2, h3⟩
mutual
inductive Rep (K : PySem.W.Frag) (G : Hp) : V → D → Prop
  | non : Rep K G .non .non
  | bl (b : Bool) : Rep K G (.bl b) (.bl b)
  | int (i : Int) : Rep K G (.int i) (.int i)
  | str (x : Str) (h : SOk x) : Rep K G (.str x) (.str x)
  | lst {a : Addr} {vs : List V} {ds : List D} : Rd G a (.lst vs) → Reps K G vs ds → Rep K G (.ref a) (.lst ds)
  | tup {a : Addr} {vs : List V} {ds : List D} : SqT K G a vs → Reps K G vs ds → Rep K G (.ref a) (.tup ds)
  | ins {a C dx : Addr} {fv : List (Str × V)} {fs : List (Str × D)} : G a = some (.ins C dx fv) → RepF K G fv fs → NX G fv → Rep K G (.ref a) (.ins C fs)
  | dic {a : Addr} {kv : List (Key × V)} {kvs : List (Key × D)} : G a = some (.dK kv) → RepK K G kv kvs → Rep K G (.ref a) (.dic kvs)
inductive Reps (K : PySem.W.Frag) (G : Hp) : List V → List D → Prop
  | nil : Reps K G [] []
  | cons {v : V} {vs : List V} {d : D} {ds : List D} : Rep K G v d → Reps K G vs ds → Reps K G (v :: vs) (d :: ds)
inductive RepF (K : PySem.W.Frag) (G : Hp) : List (Str × V) → List (Str × D) → Prop
  | nil : RepF K G [] []
  | cons {f : Str} {v : V} {d : D} {fv : List (Str × V)} {fs : List (Str × D)} : Rep K G v d → RepF K G fv fs → RepF K G ((f, v) :: fv) ((f, d) :: fs)
inductive RepK (K : PySem.W.Frag) (G : Hp) : List (Key × V) → List (Key × D) → Prop
  | nil : RepK K G [] []
  | cons {k : Key} {v : V} {d : D} {kv : List (Key × V)} {kvs : List (Key × D)} : Rep K G v d → RepK K G kv kvs → RepK K G ((k, v) :: kv) ((k, d) :: kvs)
end

theorem rdM {H H' : Hp} {a : Addr} {u : HO} (e : Same H H') (h : Rd H a u) : Rd H' a u := by
  rcases h with h | ⟨o, h⟩
  · exact .inl (e _ _ h)
  · exact .inr ⟨o, e _ _ h⟩

theorem sqtM {K : PySem.W.Frag} {H H' : Hp} {a : Addr} {xs : List V} (e : Same H H') (h : SqT K H a xs) : SqT K H' a xs := h.elim (fun h => .inl (rdM e h)) .inr
mutual
theorem Rep.mono {K : PySem.W.Frag} {G G' : Hp} (e : Same G G') : ∀ {v : V} {d : D}, Rep K G v d → Rep K G' v d
  | _, _, .non => .non
  | _, _, .bl b => .bl b
  | _, _, .int i => .int i
  | _, _, .str x h => .str x h
  | _, _, .lst h r => .lst (rdM e h) (Reps.mono e r)
  | _, _, .tup h r => .tup (sqtM e h) (Reps.mono e r)
  | _, _, .ins h r q => .ins (e _ _ h) (RepF.mono e r) (q.mono e)
  | _, _, .dic h r => .dic (e _ _ h) (RepK.mono e r)
theorem Reps.mono {K : PySem.W.Frag} {G G' : Hp} (e : Same G G') : ∀ {v : List V} {d : List D}, Reps K G v d → Reps K G' v d
  | _, _, .nil => .nil
  | _, _, .cons h r => .cons (Rep.mono e h) (Reps.mono e r)
theorem RepF.mono {K : PySem.W.Frag} {G G' : Hp} (e : Same G G') : ∀ {v : List (Str × V)} {d : List (Str × D)}, RepF K G v d → RepF K G' v d
  | _, _, .nil => .nil
  | _, _, .cons h r => .cons (Rep.mono e h) (RepF.mono e r)
theorem RepK.mono {K : PySem.W.Frag} {G G' : Hp} (e : Same G G') : ∀ {v : List (Key × V)} {d : List (Key × D)}, RepK K G v d → RepK K G' v d
  | _, _, .nil => .nil
  | _, _, .cons h r => .cons (Rep.mono e h) (RepK.mono e r)
end

theorem Reps.length {K : PySem.W.Frag} {G : Hp} : ∀ {vs : List V} {ds : List D}, Reps K G vs ds → vs.length = ds.length
  | _, _, .nil => rfl
  | _, _, .cons _ r => congrArg (· + 1) r.length
theorem Reps.append {K : PySem.W.Frag} {G : Hp} : ∀ {vs ws : List V} {ds es : List D}, Reps K G vs ds → Reps K G ws es → Reps K G (vs ++ ws) (ds ++ es)
  | _, _, _, _, .nil, r => r
  | _, _, _, _, .cons h r, q => .cons h (r.append q)
theorem Reps.get {K : PySem.W.Frag} {G : Hp} : ∀ {vs : List V} {ds : List D} {i : Nat} {d : D}, Reps K G vs ds → ds[i]? = some d → ∃ v, vs[i]? = some v ∧ Rep K G v d
  | _, _, _, _, .nil, e => by simp at e
  | _, _, 0, _, .cons h _, e => by
    simp at e
    subst e
    exact ⟨_, rfl, h⟩
  | _, _, i + 1, d, .cons _ r, e => by
    obtain ⟨v, h1, h2⟩ := Reps.get (i := i) (d := d) r (by simpa using e)
    exact ⟨v, by simpa using h1, h2⟩
theorem Reps.at {K : PySem.W.Frag} {G : Hp} : ∀ {vs : List V} {ds : List D} {i : Nat} {v : V}, Reps K G vs ds → vs[i]? = some v → ∃ d, ds[i]? = some d ∧ Rep K G v d
  | _, _, _, _, .nil, e => by simp at e
  | _, _, 0, _, .cons h _, e => by
    simp at e
    subst e
    exact ⟨_, rfl, h⟩
  | _, _, i + 1, d, .cons _ r, e => by
    obtain ⟨v, h1, h2⟩ := Reps.at (i := i) (v := d) r (by simpa using e)
    exact ⟨v, by simpa using h1, h2⟩
theorem Reps.take {K : PySem.W.Frag} {G : Hp} : ∀ {vs : List V} {ds : List D} (n : Nat), Reps K G vs ds → Reps K G (vs.take n) (ds.take n)
  | _, _, 0, _ => .nil
  | _, _, _ + 1, .nil => .nil
  | _, _, n + 1, .cons h r => .cons h (r.take n)
theorem Reps.drop {K : PySem.W.Frag} {G : Hp} : ∀ {vs : List V} {ds : List D} (n : Nat), Reps K G vs ds → Reps K G (vs.drop n) (ds.drop n)
  | _, _, 0, r => r
  | _, _, _ + 1, .nil => .nil
  | _, _, n + 1, .cons _ r => r.drop n
theorem Reps.set {K : PySem.W.Frag} {G : Hp} {v : V} {d : D} (q : Rep K G v d) : ∀ {vs : List V} {ds : List D} (n : Nat), Reps K G vs ds → Reps K G (vs.set n v) (ds.set n d)
  | _, _, _, .nil => .nil
  | _, _, 0, .cons _ r => .cons q r
  | _, _, n + 1, .cons h r => .cons h (r.set q n)
theorem RepF.look {K : PySem.W.Frag} {G : Hp} {f : Str} {d : D} : ∀ {fv : List (Str × V)} {fs : List (Str × D)}, RepF K G fv fs → fs.lookup f = some d → ∃ v, fv.lookup f = some v ∧ Rep K G v d
  | _, _, .nil, e => by simp at e
  | (g, v) :: fv, (_, x) :: fs, .cons h r, e => by
    by_cases c : f = g
    · subst c
      simp [List.lookup] at e
      subst e
      exact ⟨v, by simp [List.lookup], h⟩
    · have cb : (f == g) = false := by simpa using c
      simp only [List.lookup, cb] at e
      obtain ⟨w, h1, h2⟩ := RepF.look r e
      exact ⟨w, by simp only [List.lookup, cb]; exact h1, h2⟩
theorem RepF.lookN {K : PySem.W.Frag} {G : Hp} {f : Str} : ∀ {fv : List (Str × V)} {fs : List (Str × D)}, RepF K G fv fs → fs.lookup f = none → fv.lookup f = none
  | _, _, .nil, _ => rfl
  | (g, v) :: fv, (_, x) :: fs, .cons h r, e => by
    by_cases c : f = g
    · subst c
      simp [List.lookup] at e
    · have cb : (f == g) = false := by simpa using c
      simp only [List.lookup, cb] at e ⊢
      exact RepF.lookN r e

/-! ### symbolic values in a state -/
def FvOk (K : PySem.W.Frag) (G : Hp) (A : List Addr) (v : V) : FV → Prop
  | .dat d => Rep K G v d
  | .cel i => ∃ a, v = .ref a ∧ A[i]? = some a
inductive Fvs (K : PySem.W.Frag) (G : Hp) (A : List Addr) : List V → List FV → Prop
  | nil : Fvs K G A [] []
  | cons {v : V} {vs : List V} {x : FV} {xs : List FV} : FvOk K G A v x → Fvs K G A vs xs → Fvs K G A (v :: vs) (x :: xs)
def SvOk (K : PySem.W.Frag) (G : Hp) (A : List Addr) (v : V) : SV → Prop
  | .dat d => Rep K G v d
  | .cel i => ∃ a, v = .ref a ∧ A[i]? = some a
  | .raw u => v = u
  | .exc dd fs a => v = .ref a ∧ ∃ fv, G dd = some (.xd fv) ∧ RepF K G fv fs
  | .tup xs => ∃ a vs, v = .ref a ∧ SqT K G a vs ∧ Fvs K G A vs xs
  | .xt ds => ∃ a, v = .ref a ∧ Xt G a ∧ Rep K G v (.tup ds)
inductive Svs (K : PySem.W.Frag) (G : Hp) (A : List Addr) : List V → List SV → Prop
  | nil : Svs K G A [] []
  | cons {v : V} {vs : List V} {x : SV} {xs : List SV} : SvOk K G A v x → Svs K G A vs xs → Svs K G A (v :: vs) (x :: xs)
inductive Sl (K : PySem.W.Frag) (G : Hp) (A : List Addr) : List (Option V) → List (Option SV) → Prop
  | nil : Sl K G A [] []
  | skip {o : Option V} {σ : List (Option V)} {ss : List (Option SV)} : Sl K G A σ ss → Sl K G A (o :: σ) (none :: ss)
  | cons {v : V} {x : SV} {σ : List (Option V)} {ss : List (Option SV)} : SvOk K G A v x → Sl K G A σ ss → Sl K G A (some v :: σ) (some x :: ss)
/-- the world grows -/
def Ext (G : Hp) (A : List Addr) (G' : Hp) (A' : List Addr) : Prop := Same G G' ∧ ∃ more, A' = A ++ more
theorem Ext.refl {G : Hp} {A : List Addr} : Ext G A G A := ⟨fun _ _ e => e, [], by simp⟩
theorem Ext.trans {G G1 G2 : Hp} {A A1 A2 : List Addr} (a : Ext G A G1 A1) (b : Ext G1 A1 G2 A2) : Ext G A G2 A2 := by
  obtain ⟨s1, m1, rfl⟩ := a
  obtain ⟨s2, m2, rfl⟩ := b
  exact ⟨s1.trans s2, m1 ++ m2, by simp⟩
theorem pre_get {A A' : List Addr} {i : Nat} {a : Addr} (p : ∃ more, A' = A ++ more) (h : A[i]? = some a) : A'[i]? = some a := by
  obtain ⟨more, rfl⟩ := p
  have := (List.getElem?_eq_some_iff.mp h).1
  rw [List.getElem?_append_left this]
  exact h
theorem FvOk.mono {K : PySem.W.Frag} {G G' : Hp} {A A' : List Addr} (e : Ext G A G' A') {v : V} : ∀ {x : FV}, FvOk K G A v x → FvOk K G' A' v x
  | .dat _, h => Rep.mono e.1 h
  | .cel _, ⟨a, h1, h2⟩ => ⟨a, h1, pre_get e.2 h2⟩
theorem Fvs.mono {K : PySem.W.Frag} {G G' : Hp} {A A' : List Addr} (e : Ext G A G' A') : ∀ {v : List V} {x : List FV}, Fvs K G A v x → Fvs K G' A' v x
  | _, _, .nil => .nil
  | _, _, .cons h r => .cons (h.mono e) (r.mono e)
theorem SvOk.mono {K : PySem.W.Frag} {G G' : Hp} {A A' : List Addr} (e : Ext G A G' A') {v : V} : ∀ {x : SV}, SvOk K G A v x → SvOk K G' A' v x
  | .dat _, h => Rep.mono e.1 h
  | .cel _, ⟨a, h1, h2⟩ => ⟨a, h1, pre_get e.2 h2⟩
  | .raw _, h => h
  | .exc _ _ _, ⟨h1, fv, h2, h3⟩ => ⟨h1, fv, e.1 _ _ h2, RepF.mono e.1 h3⟩
  | .tup _, ⟨a, vs, h1, h2, h3⟩ => ⟨a, vs, h1, sqtM e.1 h2, h3.mono e⟩
  | .xt _, ⟨a, h1, ⟨o, u, h2, h3⟩, h4⟩ => ⟨a, h1, ⟨o, u, e.1 _ _ h2, h3⟩, Rep.mono e.1 h4⟩
theorem Svs.mono {K : PySem.W.Frag} {G G' : Hp} {A A' : List Addr} (e : Ext G A G' A') : ∀ {v : List V} {x : List SV}, Svs K G A v x → Svs K G' A' v x
  | _, _, .nil => .nil
  | _, _, .cons h r => .cons (h.mono e) (r.mono e)
theorem Sl.mono {K : PySem.W.Frag} {G G' : Hp} {A A' : List Addr} (e : Ext G A G' A') : ∀ {v : List (Option V)} {x : List (Option SV)}, Sl K G A v x → Sl K G' A' v x
  | _, _, .nil => .nil
  | _, _, .skip r => .skip (r.mono e)
  | _, _, .cons h r => .cons (h.mono e) (r.mono e)
theorem Svs.length {K : PySem.W.Frag} {G : Hp} {A : List Addr} : ∀ {vs : List V} {xs : List SV}, Svs K G A vs xs → vs.length = xs.length
  | _, _, .nil => rfl
  | _, _, .cons _ r => congrArg (· + 1) r.length
theorem Sl.get {K : PySem.W.Frag} {G : Hp} {A : List Addr} : ∀ {σ : List (Option V)} {ss : List (Option SV)} {i : Nat} {x : SV}, Sl K G A σ ss → ss[i]? = some (some x) → ∃ v, σ[i]? = some (some v) ∧ SvOk K G A v x
  | _, _, _, _, .nil, e => by simp at e
  | _, _, 0, _, .skip _, e => by simp at e
  | _, _, 0, _, .cons h _, e => by
    simp at e
    subst e
    exact ⟨_, rfl, h⟩
  | _, _, i + 1, x, .skip r, e => by
    obtain ⟨v, h1, h2⟩ := Sl.get (i := i) (x := x) r (by simpa using e)
    exact ⟨v, by simpa using h1, h2⟩
  | _, _, i + 1, x, .cons _ r, e => by
    obtain ⟨v, h1, h2⟩ := Sl.get (i := i) (x := x) r (by simpa using e)
    exact ⟨v, by simpa using h1, h2⟩
theorem Sl.set {K : PySem.W.Frag} {G : Hp} {A : List Addr} {v : V} {x : SV} (q : SvOk K G A v x) : ∀ {σ : List (Option V)} {ss : List (Option SV)} (i : Nat), Sl K G A σ ss → Sl K G A (σ.set i (some v)) (ss.set i (some x))
  | _, _, _, .nil => .nil
  | _, _, 0, .skip r => .cons q r
  | _, _, 0, .cons _ r => .cons q r
  | _, _, i + 1, .skip r => .skip (r.set q i)
  | _, _, i + 1, .cons h r => .cons h (r.set q i)
theorem Sl.setN {K : PySem.W.Frag} {G : Hp} {A : List Addr} {o : Option V} : ∀ {σ : List (Option V)} {ss : List (Option SV)} (i : Nat), Sl K G A σ ss → Sl K G A (σ.set i o) (ss.set i none)
  | _, _, _, .nil => .nil
  | _, _, 0, .skip r => .skip r
  | _, _, 0, .cons _ r => .skip r
  | _, _, i + 1, .skip r => .skip (r.setN i)
  | _, _, i + 1, .cons h r => .cons h (r.setN i)
/-- slots forgotten -/
inductive Fgt : List (Option SV) → List (Option SV) → Prop
  | nil : Fgt [] []
  | keep {o : Option SV} {ss ss' : List (Option SV)} : Fgt ss ss' → Fgt (o :: ss) (o :: ss')
  | drop {o : Option SV} {ss ss' : List (Option SV)} : Fgt ss ss' → Fgt (o :: ss) (none :: ss')
theorem Sl.fgt {K : PySem.W.Frag} {G : Hp} {A : List Addr} : ∀ {σ : List (Option V)} {ss ss' : List (Option SV)}, Sl K G A σ ss → Fgt ss ss' → Sl K G A σ ss'
  | _, _, _, .nil, .nil => .nil
  | _, _, _, .skip r, .keep f => .skip (r.fgt f)
  | _, _, _, .skip r, .drop f => .skip (r.fgt f)
  | _, _, _, .cons h r, .keep f => .cons h (r.fgt f)
  | _, _, _, .cons _ r, .drop f => .skip (r.fgt f)
theorem Fgt.refl : ∀ (ss : List (Option SV)), Fgt ss ss
  | [] => .nil
  | _ :: r => .keep (Fgt.refl r)

/-! ### the world: what stands since the entry, the frozen part G, the cells -/
inductive FldsOk (K : PySem.W.Frag) (G : Hp) (A : List Addr) : List (Str × V) → List (Str × SV) → Prop
  | nil : FldsOk K G A [] []
  | cons {f : Str} {v : V} {x : SV} {fv : List (Str × V)} {fs : List (Str × SV)} : SvOk K G A v x → FldsOk K G A fv fs → FldsOk K G A ((f, v) :: fv) ((f, x) :: fs)
theorem FldsOk.mono {K : PySem.W.Frag} {G G' : Hp} {A A' : List Addr} (e : Ext G A G' A') : ∀ {v : List (Str × V)} {x : List (Str × SV)}, FldsOk K G A v x → FldsOk K G' A' v x
  | _, _, .nil => .nil
  | _, _, .cons h r => .cons (h.mono e) (r.mono e)
/-! ### dicts whose keys are tuples, nested -/
mutual
/-- the key that data is -/
def nkOf : D → Option NestedKey
  | .non => some .none
  | .bl b => some (.num (if b = true then 1 else 0))
  | .int i => some (.num i)
  | .str x => some (.text x)
  | .tup ds => (nksOf ds).map .tup
  | _ => none
def nksOf : List D → Option (List NestedKey)
  | [] => some []
  | d :: ds => match nkOf d with
    | some k => (nksOf ds).map (k :: ·)
    | none => none
end
/-- what is true of the one object: a dict with these keys (where their tuples stand) and values -/
def deepφ (P : Program) (w : World) (a : Addr) (kvs : List (NestedKey × Addr × V)) (h : Heap) : Prop :=
  kvs.length ≤ sizeLine ∧ (a == sysModules) = false ∧ ∃ xs : List (NestedKey × Addr × Value), Paired (fun (p : NestedKey × Addr × V) (q : NestedKey × Addr × Value) => p.1 = q.1 ∧ p.2.1 = q.2.1 ∧ RelV p.2.2 q.2.2) kvs xs ∧
    ∃ o es ep, h.get? a = some o ∧ o.ExactDict ∧ o.data = .dict es ep ∧ es.toList = xs.map (entryOfKey (nestedKind P w)) ∧ (xs.map (·.1)).Nodup
def deepO (P : Program) (w : World) (a : Addr) (kvs : List (NestedKey × Addr × V)) : HO := .ext (deepφ P w a kvs)
inductive DctOk (K : PySem.W.Frag) (G : Hp) : List (NestedKey × Addr × V) → List (D × D) → Prop
  | nil : DctOk K G [] []
  | cons {k : NestedKey} {b : Addr} {v : V} {dk dv : D} {kv : List (NestedKey × Addr × V)} {kvs : List (D × D)} : nkOf dk = some k → k.depth ≤ 8 → Rep K G (.ref b) dk → Rep K G v dv → DctOk K G kv kvs → DctOk K G ((k, b, v) :: kv) ((dk, dv) :: kvs)
theorem DctOk.mono {K : PySem.W.Frag} {G G' : Hp} (e : Same G G') : ∀ {v : List (NestedKey × Addr × V)} {d : List (D × D)}, DctOk K G v d → DctOk K G' v d
  | _, _, .nil => .nil
  | _, _, .cons a b h r q => .cons a b (h.mono e) (r.mono e) (q.mono e)
def CellOk (K : PySem.W.Frag) (G : Hp) (A : List Addr) (H : Hp) (a : Addr) : Cell → Prop
  | .dead => True
  | .lst ds => G a = none ∧ ∃ vs, H a = some (.lst vs) ∧ Reps K G vs ds
  | .dic kvs => G a = none ∧ ∃ kv, H a = some (.dK kv) ∧ RepK K G kv kvs
  | .ins C fs => G a = none ∧ ∃ dx fv, H a = some (.ins C dx fv) ∧ FldsOk K G A fv fs
  | .mix xs => G a = none ∧ ∃ vs, H a = some (.lst vs) ∧ Svs K G A vs xs
  | .dct P w kvs => G a = none ∧ ∃ kv, H a = some (deepO P w a kv) ∧ DctOk K G kv kvs
inductive Cells (K : PySem.W.Frag) (G : Hp) (A : List Addr) (H : Hp) : List Addr → List Cell → Prop
  | nil : Cells K G A H [] []
  | cons {a : Addr} {as : List Addr} {c : Cell} {cs : List Cell} : CellOk K G A H a c → Cells K G A H as cs → Cells K G A H (a :: as) (c :: cs)
structure Base where
  G : Hp
  A : List Addr
  H : Hp
structure Wd (K : PySem.W.Frag) (B : Base) (G : Hp) (A : List Addr) (M : List Cell) (H : Hp) : Prop where
  gg : Same B.G G
  gh : Same G H
  fr : ∀ b o, B.H b = some o → b ∉ B.A → H b = some o
  fresh : ∀ b o, G b = some o → B.G b = some o ∨ B.H b = none
  nd : A.Nodup
  pre : ∃ more, A = B.A ++ more
  there : ∀ b ∈ A, ∃ o, H b = some o
  an : ∀ b ∈ A, b ∈ B.A ∨ B.H b = none
  cl : Cells K G A H A M
theorem Cells.length {K : PySem.W.Frag} {G : Hp} {A : List Addr} {H : Hp} : ∀ {as : List Addr} {cs : List Cell}, Cells K G A H as cs → as.length = cs.length
  | _, _, .nil => rfl
  | _, _, .cons _ r => congrArg (· + 1) r.length
theorem Cells.get {K : PySem.W.Frag} {G : Hp} {A : List Addr} {H : Hp} : ∀ {as : List Addr} {cs : List Cell} {i : Nat} {a : Addr} {c : Cell}, Cells K G A H as cs → as[i]? = some a → cs[i]? = some c → CellOk K G A H a c
  | _, _, _, _, _, .nil, e, _ => by simp at e
  | _, _, 0, _, _, .cons h _, e, e' => by
    simp at e e'
    subst e; subst e'
    exact h
  | _, _, i + 1, a, c, .cons _ r, e, e' => Cells.get (i := i) r (by simpa using e) (by simpa using e')
theorem Cells.imp {K : PySem.W.Frag} {G G' : Hp} {A A' : List Addr} {H H' : Hp} : ∀ {as : List Addr} {cs : List Cell}, Cells K G A H as cs → (∀ a c, a ∈ as → CellOk K G A H a c → CellOk K G' A' H' a c) → Cells K G' A' H' as cs
  | _, _, .nil, _ => .nil
  | _, _, .cons h r, f => .cons (f _ _ List.mem_cons_self h) (r.imp fun a c m => f a c (List.mem_cons_of_mem _ m))
theorem Cells.append {K : PySem.W.Frag} {G : Hp} {A : List Addr} {H : Hp} : ∀ {as bs : List Addr} {cs ds : List Cell}, Cells K G A H as cs → Cells K G A H bs ds → Cells K G A H (as ++ bs) (cs ++ ds)
  | _, _, _, _, .nil, r => r
  | _, _, _, _, .cons h r, q => .cons h (r.append q)
theorem Cells.take {K : PySem.W.Frag} {G : Hp} {A : List Addr} {H : Hp} : ∀ {as : List Addr} {cs : List Cell} (n : Nat), Cells K G A H as cs → Cells K G A H (as.take n) (cs.take n)
  | _, _, 0, _ => .nil
  | _, _, _ + 1, .nil => .nil
  | _, _, n + 1, .cons h r => .cons h (r.take n)
theorem Cells.drop {K : PySem.W.Frag} {G : Hp} {A : List Addr} {H : Hp} : ∀ {as : List Addr} {cs : List Cell} (n : Nat), Cells K G A H as cs → Cells K G A H (as.drop n) (cs.drop n)
  | _, _, 0, r => r
  | _, _, _ + 1, .nil => .nil
  | _, _, n + 1, .cons _ r => r.drop n
/-- what stands at a live cell's address -/
theorem CellOk.keep {K : PySem.W.Frag} {G G' : Hp} {A A' : List Addr} {H H' : Hp} {a : Addr} {c : Cell} (e : Ext G A G' A') (hg : G a = none → G' a = none) (hh : ∀ o, H a = some o → H' a = some o) (h : CellOk K G A H a c) : CellOk K G' A' H' a c := by
  cases c with
  | dead => trivial
  | lst ds =>
    obtain ⟨g, vs, h1, r⟩ := h
    exact ⟨hg g, vs, hh _ h1, r.mono e.1⟩
  | dic kvs =>
    obtain ⟨g, vs, h1, r⟩ := h
    exact ⟨hg g, vs, hh _ h1, r.mono e.1⟩
  | ins C fs =>
    obtain ⟨g, dx, fv, h1, r⟩ := h
    exact ⟨hg g, dx, fv, hh _ h1, r.mono e⟩
  | mix xs =>
    obtain ⟨g, vs, h1, r⟩ := h
    exact ⟨hg g, vs, hh _ h1, r.mono e⟩
  | dct P w ds =>
    obtain ⟨g, vs, h1, r⟩ := h
    exact ⟨hg g, vs, hh _ h1, r.mono e.1⟩
section
variable {K : PySem.W.Frag} {B : Base} {G : Hp} {A : List Addr} {M : List Cell} {H : Hp}
theorem Wd.start {G : Hp} {A : List Addr} (gh : Same G H) (nd : A.Nodup) (th : ∀ b ∈ A, ∃ o, H b = some o) (cl : Cells K G A H A M) : Wd K ⟨G, A, H⟩ G A M H :=
  ⟨fun _ _ e => e, gh, fun _ _ e _ => e, fun _ _ e => .inl e, nd, ⟨[], by simp⟩, th, fun _ m => .inl m, cl⟩
theorem Wd.len (w : Wd K B G A M H) : A.length = M.length := w.cl.length
/-- what is new now was not there at the entry -/
theorem Wd.none (w : Wd K B G A M H) {p : Addr} (hp : H p = none) : B.H p = none ∧ p ∉ A ∧ G p = none := by
  have hA : p ∉ A := fun m => by
    obtain ⟨o, e⟩ := w.there p m
    rw [hp] at e; cases e
  refine ⟨?_, hA, ?_⟩
  · cases e : B.H p with
    | none => rfl
    | some o =>
      have hb : p ∉ B.A := fun m => by
        obtain ⟨more, e⟩ := w.pre
        exact hA (by rw [e]; exact List.mem_append_left _ m)
      rw [w.fr p o e hb] at hp; cases hp
  · cases e : G p with
    | none => rfl
    | some o => rw [w.gh p o e] at hp; cases hp
theorem same_upd {G : Hp} {p : Addr} {o : HO} (h : G p = Option.none) : Same G (upd G p o) := fun b u e => by
  rw [upd_ne (fun z => by subst z; rw [h] at e; cases e)]; exact e
/-- a new object, frozen at once -/
theorem Wd.newD (w : Wd K B G A M H) {p : Addr} {o : HO} (hp : H p = Option.none) : Wd K B (upd G p o) A M (upd H p o) ∧ Ext G A (upd G p o) A := by
  obtain ⟨hb, hA, hg⟩ := w.none hp
  have s1 := same_upd (o := o) hg
  have s2 := same_upd (o := o) hp
  have ex : Ext G A (upd G p o) A := ⟨s1, [], by simp⟩
  refine ⟨⟨w.gg.trans s1, ?_, fun b u e n => s2 _ _ (w.fr b u e n), ?_, w.nd, w.pre, ?_, w.an, ?_⟩, ex⟩
  · intro b u e
    by_cases c : b = p
    · subst c; rw [upd_same] at e ⊢; exact e
    · rw [upd_ne c] at e ⊢; exact w.gh b u e
  · intro b u e
    by_cases c : b = p
    · subst c; exact .inr hb
    · rw [upd_ne c] at e; exact w.fresh b u e
  · intro b m
    obtain ⟨u, e⟩ := w.there b m
    exact ⟨u, s2 _ _ e⟩
  · refine w.cl.imp fun a c m h => h.keep ex (fun g => ?_) (fun u e => s2 _ _ e)
    rw [upd_ne (show a ≠ p from fun z => hA (z ▸ m))]; exact g
/-- the heap grows beside -/
theorem Wd.grow (w : Wd K B G A M H) {p : Addr} {o : HO} (hp : H p = Option.none) : Wd K B G A M (upd H p o) := by
  have s2 := same_upd (o := o) hp
  refine ⟨w.gg, w.gh.trans s2, fun b u e n => s2 _ _ (w.fr b u e n), w.fresh, w.nd, w.pre, fun b m => ?_, w.an, w.cl.imp fun a c m h => h.keep .refl (fun g => g) fun u e => s2 _ _ e⟩
  obtain ⟨u, e⟩ := w.there b m
  exact ⟨u, s2 _ _ e⟩
/-- a new object, a cell of ours -/
theorem Wd.newC (w : Wd K B G A M H) {p : Addr} {o : HO} {c : Cell} (hp : H p = Option.none) (hc : CellOk K G (A ++ [p]) (upd H p o) p c) : Wd K B G (A ++ [p]) (M ++ [c]) (upd H p o) ∧ Ext G A G (A ++ [p]) := by
  obtain ⟨hb, hA, hg⟩ := w.none hp
  have w2 := w.grow (o := o) hp
  have ex : Ext G A G (A ++ [p]) := ⟨fun _ _ e => e, [p], rfl⟩
  refine ⟨⟨w2.gg, w2.gh, w2.fr, w2.fresh, ?_, ?_, ?_, ?_, ?_⟩, ex⟩
  · refine List.nodup_append.mpr ⟨w.nd, by simp, ?_⟩
    intro a ha b hb'
    rw [List.mem_singleton] at hb'
    subst hb'
    exact fun z => hA (z ▸ ha)
  · obtain ⟨more, e⟩ := w.pre
    exact ⟨more ++ [p], by rw [e]; simp⟩
  · intro b m
    rcases List.mem_append.mp m with m | m
    · exact w2.there b m
    · rw [List.mem_singleton] at m; subst m; exact ⟨o, upd_same⟩
  · intro b m
    rcases List.mem_append.mp m with m | m
    · exact w.an b m
    · rw [List.mem_singleton] at m; subst m; exact .inr hb
  · exact (w2.cl.imp fun a c m h => h.keep ex (fun g => g) fun u e => e).append (.cons hc .nil)
theorem Cells.put {K : PySem.W.Frag} {G : Hp} {A : List Addr} {H : Hp} {p : Addr} {o : HO} {c' : Cell} (hc : CellOk K G A (upd H p o) p c') : ∀ {as : List Addr} {cs : List Cell} {i : Nat}, as.Nodup → Cells K G A H as cs → as[i]? = some p → Cells K G A (upd H p o) as (cs.set i c')
  | _, _, _, _, .nil, e => by simp at e
  | a :: as, c :: cs, 0, nd, .cons h r, e => by
    simp at e
    subst e
    refine .cons hc (r.imp fun b u m h => h.keep .refl (fun g => g) fun v e => ?_)
    rw [upd_ne (show b ≠ a from fun z => (List.nodup_cons.mp nd).1 (z ▸ m))]; exact e
  | a :: as, c :: cs, i + 1, nd, .cons h r, e => by
    have e' : as[i]? = some p := by simpa using e
    have hp : p ∈ as := List.mem_of_getElem? e'
    refine .cons (h.keep .refl (fun g => g) fun v e => ?_) (Cells.put hc (List.nodup_cons.mp nd).2 r e')
    rw [upd_ne (show a ≠ p from fun z => (List.nodup_cons.mp nd).1 (z ▸ hp))]; exact e
/-- a cell is written -/
theorem Wd.setC (w : Wd K B G A M H) {p : Addr} {o : HO} {i : Nat} {c' : Cell} (hi : A[i]? = some p) (hg : G p = Option.none) (hc : CellOk K G A (upd H p o) p c') : Wd K B G A (M.set i c') (upd H p o) := by
  have hp : p ∈ A := List.mem_of_getElem? hi
  refine ⟨w.gg, fun b u e => ?_, fun b u e n => ?_, w.fresh, w.nd, w.pre, fun b m => ?_, w.an, Cells.put hc w.nd w.cl hi⟩
  · rw [upd_ne (fun z => by subst z; rw [hg] at e; cases e)]; exact w.gh b u e
  · rw [upd_ne (fun z => ?_)]
    · exact w.fr b u e n
    · subst z
      rcases w.an b hp with q | q
      · exact n q
      · rw [q] at e; cases e
  · by_cases c : b = p
    · subst c; exact ⟨o, upd_same⟩
    · rw [upd_ne c]; exact w.there b m
/-- it names no cell from the k-th on -/
def FV.lt (k : Nat) : FV → Bool
  | .cel j => decide (j < k)
  | _ => true
def SV.lt (k : Nat) : SV → Bool
  | .cel j => decide (j < k)
  | .tup xs => xs.all (FV.lt k)
  | _ => true
def Cell.lt (k : Nat) : Cell → Bool
  | .ins _ fs => fs.all fun p => p.2.lt k
  | .mix xs => xs.all (SV.lt k)
  | _ => true
theorem FvOk.cut {v : V} {x : FV} {k : Nat} (hx : x.lt k = true) (h : FvOk K G A v x) : FvOk K G (A.take k) v x := by
  cases x with
  | dat d => exact h
  | cel j =>
    obtain ⟨a, h1, h2⟩ := h
    have hj : j < k := of_decide_eq_true hx
    exact ⟨a, h1, by rw [List.getElem?_take, if_pos hj]; exact h2⟩
theorem Fvs.cut {k : Nat} : ∀ {vs : List V} {xs : List FV}, xs.all (FV.lt k) = true → Fvs K G A vs xs → Fvs K G (A.take k) vs xs
  | _, _, _, .nil => .nil
  | _, _, hx, .cons h r => by
    rw [List.all_cons, Bool.and_eq_true] at hx
    exact .cons (h.cut hx.1) (r.cut hx.2)
theorem SvOk.cut {v : V} {x : SV} {k : Nat} (hx : x.lt k = true) (h : SvOk K G A v x) : SvOk K G (A.take k) v x := by
  cases x with
  | dat d => exact h
  | raw u => exact h
  | exc u v w => exact h
  | xt ds => exact h
  | tup xs =>
    obtain ⟨a, vs, h1, h2, h3⟩ := h
    exact ⟨a, vs, h1, h2, h3.cut hx⟩
  | cel j =>
    obtain ⟨a, h1, h2⟩ := h
    have hj : j < k := of_decide_eq_true hx
    exact ⟨a, h1, by rw [List.getElem?_take, if_pos hj]; exact h2⟩
theorem Svs.cut {k : Nat} : ∀ {vs : List V} {xs : List SV}, xs.all (SV.lt k) = true → Svs K G A vs xs → Svs K G (A.take k) vs xs
  | _, _, _, .nil => .nil
  | _, _, hx, .cons h r => by
    rw [List.all_cons, Bool.and_eq_true] at hx
    exact .cons (h.cut hx.1) (r.cut hx.2)
theorem FldsOk.cut {k : Nat} : ∀ {fv : List (Str × V)} {fs : List (Str × SV)}, (fs.all fun p => p.2.lt k) = true → FldsOk K G A fv fs → FldsOk K G (A.take k) fv fs
  | _, _, _, .nil => .nil
  | _, _, hx, .cons h r => by
    rw [List.all_cons, Bool.and_eq_true] at hx
    exact .cons (h.cut hx.1) (r.cut hx.2)
theorem CellOk.cut {a : Addr} {c : Cell} {k : Nat} (hc : c.lt k = true) (h : CellOk K G A H a c) : CellOk K G (A.take k) H a c := by
  cases c with
  | dead => trivial
  | lst ds => exact h
  | dic ds => exact h
  | ins C fs =>
    obtain ⟨g, dx, fv, h1, r⟩ := h
    exact ⟨g, dx, fv, h1, r.cut hc⟩
  | mix xs =>
    obtain ⟨g, vs, h1, r⟩ := h
    exact ⟨g, vs, h1, r.cut hc⟩
  | dct P w ds => exact h
theorem Cells.cut {k : Nat} : ∀ {as : List Addr} {cs : List Cell}, cs.all (Cell.lt k) = true → Cells K G A H as cs → Cells K G (A.take k) H as cs
  | _, _, _, .nil => .nil
  | _, _, hx, .cons h r => by
    rw [List.all_cons, Bool.and_eq_true] at hx
    exact .cons (h.cut hx.1) (r.cut hx.2)
/-- the last cells are forgotten -/
theorem Wd.drop (w : Wd K B G A M H) (k : Nat) (hk : B.A.length ≤ k) (hM : (M.take k).all (Cell.lt k) = true) : Wd K B G (A.take k) (M.take k) H := by
  refine ⟨w.gg, w.gh, w.fr, w.fresh, ?_, ?_, fun b m => w.there b (List.mem_of_mem_take m), fun b m => w.an b (List.mem_of_mem_take m), (w.cl.take k).cut hM⟩
  · exact w.nd.sublist (List.take_sublist k A)
  · obtain ⟨more, e⟩ := w.pre
    exact ⟨more.take (k - B.A.length), by rw [e, List.take_append, List.take_of_length_le hk]⟩
end
end Mb

/-! Mb, part 1: the judgements. -/
namespace Mb
open PySem L2

abbrev Sst := List (Option SV)
abbrev Mem := List Cell
/-- what is wished of an exception: its class, its fields, the slots, the cells -/
abbrev XD := Addr → List (Str × D) → Sst → Mem → Prop

/-! ### the weakest readings -/
def teW (X : Cx) (e : Expr) : TE := fun σ H Q => ∀ pins s, Inv X pins σ H s → wpAny (model X.prog X.w) X.A (eval e X.env) (EP X pins σ Q) X.xe s
def ttW (X : Cx) (e : Expr) : TT := fun σ H Q => ∀ pins s, Inv X pins σ H s → wpAny (model X.prog X.w) X.A (isTrue e X.env (eval e X.env)) (TP X pins σ Q) X.xe s
def twW (X : Cx) (e : Expr) : TT := fun σ H Q => ∀ (whole : Sem Value) pins s, Inv X pins σ H s → wpAny (model X.prog X.w) X.A (isTrue e X.env whole) (TP X pins σ Q) X.xe s
def taW (X : Cx) (es : List Expr) : TA := fun σ H Q => ∀ pos pins s, Inv X pins σ H s → wpAny (model X.prog X.w) X.A (spliced (backTo pos (starEach es X.env))) (AP X pins σ Q) X.xe s
def tsW (X : Cx) (st : Stmt) : TS := fun N σ H => ∀ pins s, Inv X pins σ H s → wpAny (model X.prog X.w) X.A (exec st X.env) (SP X pins N) X.xe s
def tbW (X : Cx) (st : List Stmt) : TS := fun N σ H => ∀ pins s, Inv X pins σ H s → wpAny (model X.prog X.w) X.A (execs st X.env) (SP X pins N) X.xe s
def tgW (X : Cx) (tg : Expr) : TG := fun v σ H Q => ∀ pins s u, Inv X pins σ H s → RelV v u → wpAny (model X.prog X.w) X.A (assign tg X.env u) (fun _ s' => ∃ σ' H', Inv X pins σ' H' s' ∧ Q σ' H') X.xe s
section
variable {X : Cx} {e : Expr} {es : List Expr} {st : Stmt} {sts : List Stmt} {σ : St} {H : Hp}
theorem pe_self : PE X e (teW X e) := ⟨fun pins s _ _ _ I h => h pins s I⟩
theorem pt_self : PT X e (ttW X e) := ⟨fun pins s _ _ _ I h => h pins s I⟩
theorem pw_self : PW X e (twW X e) := ⟨fun w pins s _ _ _ I h => h w pins s I⟩
theorem pa_self : PA X es (taW X es) := ⟨fun p pins s _ _ _ I h => h p pins s I⟩
theorem ps_self : PS X st (tsW X st) := ⟨fun pins s _ _ _ I h => h pins s I⟩
theorem pb_self : PSs X sts (tbW X sts) := ⟨fun pins s _ _ _ I h => h pins s I⟩
theorem pg_self : PG X e (tgW X e) := ⟨fun pins s _ _ _ u _ I r h => h pins s u I r⟩
theorem te_of {t : TE} {Q : VK} (h : PE X e t) (q : t σ H Q) : teW X e σ H Q := fun pins s I => h.run pins s σ H Q I q
theorem tt_of {t : TT} {Q : Bool → Hp → Prop} (h : PT X e t) (q : t σ H Q) : ttW X e σ H Q := fun pins s I => h.run pins s σ H Q I q
theorem tw_of {t : TT} {Q : Bool → Hp → Prop} (h : PW X e t) (q : t σ H Q) : twW X e σ H Q := fun w pins s I => h.run w pins s σ H Q I q
theorem ta_of {t : TA} {Q : List V → Hp → Prop} (h : PA X es t) (q : t σ H Q) : taW X es σ H Q := fun p pins s I => h.run p pins s σ H Q I q
theorem ts_of {t : TS} {N : Ends} (h : PS X st t) (q : t N σ H) : tsW X st N σ H := fun pins s I => h.run pins s σ H N I q
theorem tb_of {t : TS} {N : Ends} (h : PSs X sts t) (q : t N σ H) : tbW X sts N σ H := fun pins s I => h.run pins s σ H N I q
theorem tg_of {t : TG} {v : V} {Q : St → Hp → Prop} (h : PG X e t) (q : t v σ H Q) : tgW X e v σ H Q := fun pins s u I r => h.run pins s σ H v u Q I r q
end

/-! ### exceptions -/
def XdOk (K : PySem.W.Frag) (G : Hp) (d : Option Addr) (fs : List (Str × D)) : Prop := (d = none ∧ fs = []) ∨ ∃ dd fv, d = some dd ∧ G dd = some (.xd fv) ∧ RepF K G fv fs
def XW (K : PySem.W.Frag) (B : Base) (ex : XD) : WX := fun cls d σ H => ∃ C fs ss G A M, cls = .ref C ∧ XdOk K G d fs ∧ Wd K B G A M H ∧ Sl K G A σ ss ∧ ex C fs ss M
structure Cok (X : Cx) (B : Base) (ex : XD) : Prop where
  tk : Takes X (XW X.K B ex)
  ps : PassesOwn (model X.prog X.w) X.A X.env X.xe

/-! ### the judgements -/
/-- what is wanted behind a statement -/
structure Nd where
  nx : Sst → Mem → Prop
  rt : SV → Mem → Prop
  bk : Sst → Mem → Prop := fun _ _ => False
  ct : Sst → Mem → Prop := fun _ _ => False
structure NdOk (K : PySem.W.Frag) (B : Base) (G : Hp) (N : Nd) (E : Ends) : Prop where
  nx : ∀ σ ss G' A M H, Same G G' → Wd K B G' A M H → Sl K G' A σ ss → N.nx ss M → E.nx σ H
  rt : ∀ v x G' A M H, Same G G' → Wd K B G' A M H → SvOk K G' A v x → N.rt x M → E.rt v H
  bk : ∀ σ ss G' A M H, Same G G' → Wd K B G' A M H → Sl K G' A σ ss → N.bk ss M → E.bk σ H
  ct : ∀ σ ss G' A M H, Same G G' → Wd K B G' A M H → Sl K G' A σ ss → N.ct ss M → E.ct σ H
theorem NdOk.mono {K : PySem.W.Frag} {B : Base} {G G1 : Hp} {N : Nd} {E : Ends} (k : NdOk K B G N E) (e : Same G G1) : NdOk K B G1 N E :=
  ⟨fun σ ss G' A M H s => k.nx σ ss G' A M H (e.trans s), fun v x G' A M H s => k.rt v x G' A M H (e.trans s), fun σ ss G' A M H s => k.bk σ ss G' A M H (e.trans s), fun σ ss G' A M H s => k.ct σ ss G' A M H (e.trans s)⟩
def VPost (K : PySem.W.Frag) (B : Base) (G : Hp) (A : List Addr) (Q : SV → Mem → Prop) (Kq : VK) : Prop :=
  ∀ v x G' A' M' H', Ext G A G' A' → Wd K B G' A' M' H' → SvOk K G' A' v x → Q x M' → Kq v H'
def WE0 (X : Cx) (B : Base) (ex : XD) (e : Expr) (Q : SV → Mem → Prop) (ss : Sst) (M : Mem) : Prop :=
  Cok X B ex → ∀ G A H σ, Wd X.K B G A M H → Sl X.K G A σ ss → ∀ Kq : VK, VPost X.K B G A Q Kq → teW X e σ H Kq
structure WE (X : Cx) (B : Base) (ex : XD) (e : Expr) (Q : SV → Mem → Prop) (ss : Sst) (M : Mem) : Prop where
  run : WE0 X B ex e Q ss M
instance {X : Cx} {B : Base} {ex : XD} {e : Expr} {Q : SV → Mem → Prop} {ss : Sst} {M : Mem} : CoeFun (WE X B ex e Q ss M) fun _ => Cok X B ex → ∀ G A H σ, Wd X.K B G A M H → Sl X.K G A σ ss → ∀ Kq : VK, VPost X.K B G A Q Kq → teW X e σ H Kq := ⟨WE.run⟩
def BPost (K : PySem.W.Frag) (B : Base) (G : Hp) (A : List Addr) (Q : Bool → Mem → Prop) (Kq : Bool → Hp → Prop) : Prop :=
  ∀ b G' A' M' H', Ext G A G' A' → Wd K B G' A' M' H' → Q b M' → Kq b H'
def WT0 (X : Cx) (B : Base) (ex : XD) (e : Expr) (Q : Bool → Mem → Prop) (ss : Sst) (M : Mem) : Prop :=
  Cok X B ex → ∀ G A H σ, Wd X.K B G A M H → Sl X.K G A σ ss → ∀ Kq, BPost X.K B G A Q Kq → ttW X e σ H Kq
structure WT (X : Cx) (B : Base) (ex : XD) (e : Expr) (Q : Bool → Mem → Prop) (ss : Sst) (M : Mem) : Prop where
  run : WT0 X B ex e Q ss M
instance {X : Cx} {B : Base} {ex : XD} {e : Expr} {Q : Bool → Mem → Prop} {ss : Sst} {M : Mem} : CoeFun (WT X B ex e Q ss M) fun _ => Cok X B ex → ∀ G A H σ, Wd X.K B G A M H → Sl X.K G A σ ss → ∀ Kq, BPost X.K B G A Q Kq → ttW X e σ H Kq := ⟨WT.run⟩
def WW0 (X : Cx) (B : Base) (ex : XD) (e : Expr) (Q : Bool → Mem → Prop) (ss : Sst) (M : Mem) : Prop :=
  Cok X B ex → ∀ G A H σ, Wd X.K B G A M H → Sl X.K G A σ ss → ∀ Kq, BPost X.K B G A Q Kq → twW X e σ H Kq
structure WW (X : Cx) (B : Base) (ex : XD) (e : Expr) (Q : Bool → Mem → Prop) (ss : Sst) (M : Mem) : Prop where
  run : WW0 X B ex e Q ss M
instance {X : Cx} {B : Base} {ex : XD} {e : Expr} {Q : Bool → Mem → Prop} {ss : Sst} {M : Mem} : CoeFun (WW X B ex e Q ss M) fun _ => Cok X B ex → ∀ G A H σ, Wd X.K B G A M H → Sl X.K G A σ ss → ∀ Kq, BPost X.K B G A Q Kq → twW X e σ H Kq := ⟨WW.run⟩
def APost (K : PySem.W.Frag) (B : Base) (G : Hp) (A : List Addr) (Q : List SV → Mem → Prop) (Kq : List V → Hp → Prop) : Prop :=
  ∀ vs xs G' A' M' H', Ext G A G' A' → Wd K B G' A' M' H' → Svs K G' A' vs xs → Q xs M' → Kq vs H'
def WA0 (X : Cx) (B : Base) (ex : XD) (es : List Expr) (Q : List SV → Mem → Prop) (ss : Sst) (M : Mem) : Prop :=
  Cok X B ex → ∀ G A H σ, Wd X.K B G A M H → Sl X.K G A σ ss → ∀ Kq, APost X.K B G A Q Kq → taW X es σ H Kq
structure WA (X : Cx) (B : Base) (ex : XD) (es : List Expr) (Q : List SV → Mem → Prop) (ss : Sst) (M : Mem) : Prop where
  run : WA0 X B ex es Q ss M
instance {X : Cx} {B : Base} {ex : XD} {es : List Expr} {Q : List SV → Mem → Prop} {ss : Sst} {M : Mem} : CoeFun (WA X B ex es Q ss M) fun _ => Cok X B ex → ∀ G A H σ, Wd X.K B G A M H → Sl X.K G A σ ss → ∀ Kq, APost X.K B G A Q Kq → taW X es σ H Kq := ⟨WA.run⟩
def WS0 (X : Cx) (B : Base) (ex : XD) (st : Stmt) (N : Nd) (ss : Sst) (M : Mem) : Prop :=
  Cok X B ex → ∀ G A H σ, Wd X.K B G A M H → Sl X.K G A σ ss → ∀ E, NdOk X.K B G N E → tsW X st E σ H
structure WS (X : Cx) (B : Base) (ex : XD) (st : Stmt) (N : Nd) (ss : Sst) (M : Mem) : Prop where
  run : WS0 X B ex st N ss M
instance {X : Cx} {B : Base} {ex : XD} {st : Stmt} {N : Nd} {ss : Sst} {M : Mem} : CoeFun (WS X B ex st N ss M) fun _ => Cok X B ex → ∀ G A H σ, Wd X.K B G A M H → Sl X.K G A σ ss → ∀ E, NdOk X.K B G N E → tsW X st E σ H := ⟨WS.run⟩
def WB0 (X : Cx) (B : Base) (ex : XD) (st : List Stmt) (N : Nd) (ss : Sst) (M : Mem) : Prop :=
  Cok X B ex → ∀ G A H σ, Wd X.K B G A M H → Sl X.K G A σ ss → ∀ E, NdOk X.K B G N E → tbW X st E σ H
structure WB (X : Cx) (B : Base) (ex : XD) (st : List Stmt) (N : Nd) (ss : Sst) (M : Mem) : Prop where
  run : WB0 X B ex st N ss M
instance {X : Cx} {B : Base} {ex : XD} {st : List Stmt} {N : Nd} {ss : Sst} {M : Mem} : CoeFun (WB X B ex st N ss M) fun _ => Cok X B ex → ∀ G A H σ, Wd X.K B G A M H → Sl X.K G A σ ss → ∀ E, NdOk X.K B G N E → tbW X st E σ H := ⟨WB.run⟩
def WG0 (X : Cx) (B : Base) (ex : XD) (tg : Expr) (x : SV) (Q : Sst → Mem → Prop) (ss : Sst) (M : Mem) : Prop :=
  Cok X B ex → ∀ G A H σ v, Wd X.K B G A M H → Sl X.K G A σ ss → SvOk X.K G A v x → ∀ Kq : St → Hp → Prop, (∀ σ' ss' G' A' M' H', Same G G' → Wd X.K B G' A' M' H' → Sl X.K G' A' σ' ss' → Q ss' M' → Kq σ' H') → tgW X tg v σ H Kq
structure WG (X : Cx) (B : Base) (ex : XD) (tg : Expr) (x : SV) (Q : Sst → Mem → Prop) (ss : Sst) (M : Mem) : Prop where
  run : WG0 X B ex tg x Q ss M
instance {X : Cx} {B : Base} {ex : XD} {tg : Expr} {x : SV} {Q : Sst → Mem → Prop} {ss : Sst} {M : Mem} : CoeFun (WG X B ex tg x Q ss M) fun _ => Cok X B ex → ∀ G A H σ v, Wd X.K B G A M H → Sl X.K G A σ ss → SvOk X.K G A v x → ∀ Kq : St → Hp → Prop, (∀ σ' ss' G' A' M' H', Same G G' → Wd X.K B G' A' M' H' → Sl X.K G' A' σ' ss' → Q ss' M' → Kq σ' H') → tgW X tg v σ H Kq := ⟨WG.run⟩

/-! ### values looked through -/
def SV.get (M : Mem) : SV → Option D
  | .dat d => some d
  | .cel i => match M[i]? with
    | some (.lst ds) => some (.lst ds)
    | some (.dic kvs) => some (.dic kvs)
    | _ => none
  | .raw _ => none
  | .exc _ _ _ => none
  | .tup _ => none
  | .xt ds => some (.tup ds)
/-- shallow in H, deep in G -/
def RepS (K : PySem.W.Frag) (G H : Hp) (v : V) : D → Prop
  | .lst ds => ∃ a vs, v = .ref a ∧ Rd H a (.lst vs) ∧ Reps K G vs ds
  | .tup ds => ∃ a vs, v = .ref a ∧ SqT K H a vs ∧ Reps K G vs ds
  | .ins C fs => ∃ a dx fv, v = .ref a ∧ H a = some (.ins C dx fv) ∧ RepF K G fv fs ∧ NX G fv
  | .dic kvs => ∃ a kv, v = .ref a ∧ H a = some (.dK kv) ∧ RepK K G kv kvs
  | .non => v = .non
  | .bl b => v = .bl b
  | .int i => v = .int i
  | .str x => v = .str x ∧ SOk x
theorem Rep.s {K : PySem.W.Frag} {G H : Hp} {v : V} {d : D} (e : Same G H) (h : Rep K G v d) : RepS K G H v d := by
  cases h with
  | non => rfl
  | bl b => rfl
  | int i => rfl
  | str x h => exact ⟨rfl, h⟩
  | lst h r => exact ⟨_, _, rfl, rdM e h, r⟩
  | tup h r => exact ⟨_, _, rfl, sqtM e h, r⟩
  | ins h r q => exact ⟨_, _, _, rfl, e _ _ h, r, q⟩
  | dic h r => exact ⟨_, _, rfl, e _ _ h, r⟩
theorem SvOk.s {K : PySem.W.Frag} {B : Base} {G : Hp} {A : List Addr} {M : Mem} {H : Hp} {v : V} {x : SV} {d : D} (w : Wd K B G A M H) (h : SvOk K G A v x) (hx : x.get M = some d) : RepS K G H v d := by
  cases x with
  | dat d' => simp only [SV.get, Option.some.injEq] at hx; subst hx; exact Rep.s w.gh h
  | raw u => simp [SV.get] at hx
  | exc u v w => simp [SV.get] at hx
  | tup xs => simp [SV.get] at hx
  | xt ds => obtain ⟨a, _, _, h⟩ := h; simp only [SV.get, Option.some.injEq] at hx; subst hx; exact Rep.s w.gh h
  | cel i =>
    obtain ⟨a, rfl, ha⟩ := h
    simp only [SV.get] at hx
    cases hM : M[i]? with
    | none => simp [hM] at hx
    | some c =>
      have q := w.cl.get ha hM
      cases c with
      | dead => simp [hM] at hx
      | ins C fs => simp [hM] at hx
      | mix xs => simp [hM] at hx
      | dct P w ds => simp [hM] at hx
      | lst ds =>
        simp only [hM, Option.some.injEq] at hx; subst hx
        obtain ⟨_, vs, h1, r⟩ := q
        exact ⟨a, vs, rfl, .inl h1, r⟩
      | dic ds =>
        simp only [hM, Option.some.injEq] at hx; subst hx
        obtain ⟨_, vs, h1, r⟩ := q
        exact ⟨a, vs, rfl, h1, r⟩
/-- k of the data that x is -/
def with10 (M : Mem) (x : SV) (k : D → Prop) : Prop := match x.get M with
  | some d => k d
  | none => False
structure with1 (M : Mem) (x : SV) (k : D → Prop) : Prop where
  run : with10 M x k
theorem with1_get {M : Mem} {x : SV} {k : D → Prop} (h : with1 M x k) : ∃ d, x.get M = some d ∧ k d := by
  have h := h.run
  unfold with10 at h
  cases e : x.get M with
  | none => simp [e] at h
  | some d => simp [e] at h; exact ⟨d, rfl, h⟩
theorem with1_mk {M : Mem} {x : SV} {k : D → Prop} {d : D} (e : x.get M = some d) (h : k d) : with1 M x k := ⟨by unfold with10; rw [e]; exact h⟩
section
variable {K : PySem.W.Frag} {B : Base} {G : Hp} {A : List Addr} {M : Mem} {H : Hp} {Q : SV → Mem → Prop} {Kq : VK}
/-- the end of an expression whose value is flat -/
theorem VPost.flat (k : VPost K B G A Q Kq) {G' : Hp} {A' : List Addr} {v : V} {d : D} (e : Ext G A G' A') (w : Wd K B G' A' M H) (r : Rep K G' v d) (q : Q (.dat d) M) : Kq v H := k v (.dat d) G' A' M H e w r q
/-- .. a new object, frozen -/
theorem VPost.new (k : VPost K B G A Q Kq) {G' : Hp} {A' : List Addr} {d : D} {o : HO} (e : Ext G A G' A') (w : Wd K B G' A' M H) (q : Q (.dat d) M) (r : ∀ p, H p = none → Rep K (upd G' p o) (.ref p) d) : ∀ p, H p = none → Kq (.ref p) (upd H p o) := fun p hp => by
  obtain ⟨w2, e2⟩ := w.newD (o := o) hp
  exact k _ (.dat d) _ _ _ _ (e.trans e2) w2 (r p hp) q
end
end Mb

/-! Mb, part 2: expressions. -/
namespace Mb
open PySem L2
section
variable {X : Cx} {B : Base} {ex : XD} {ss : Sst} {M : Mem} {a b c e : Expr} {es : List Expr} {pos p : Pos} {Q : SV → Mem → Prop}

theorem WE.mono {Q' : SV → Mem → Prop} (h : WE X B ex e Q ss M) (m : ∀ x M', Q x M' → Q' x M') : WE X B ex e Q' ss M := .mk fun ck G A H σ w sl Kq k =>
  h ck G A H σ w sl Kq fun v x G' A' M' H' e w' s q => k v x G' A' M' H' e w' s (m _ _ q)

/-! ### names, constants -/
theorem we_var {x : Str} {i : Nat} {v : SV} (hN : X.N[i]? = some x) (hv : Vis X.env.scope x) (hs : ss[i]? = some (some v)) (q : Q v M) (hd : (x == ("__debug__" : Str)) = false := by decide) (hcd : (x == ("__classdict__" : Str)) = false := by decide) : WE X B ex (.Name x pos) Q ss M := by
  refine .mk fun ck G A H σ w sl Kq k => ?_
  obtain ⟨u, h1, h2⟩ := sl.get hs
  exact te_of (pe_var hN hv hd hcd) ⟨u, h1, k u v G A M H .refl w h2 q⟩
theorem we_c {v : V} {d : D} (he : PE X e (tC v)) (r : ∀ G, Rep X.K G v d) (q : Q (.dat d) M) : WE X B ex e Q ss M := by
  refine .mk fun ck G A H σ w sl Kq k => ?_
  exact te_of he (k v (.dat d) G A M H .refl w (r G) q)
theorem we_int {i : Int} {j : Nat} (q : Q (.dat (.int i)) M) : WE X B ex (.Constant (.int i) j pos) Q ss M := we_c pe_int (fun _ => .int i) q
theorem we_bl {i : Bool} {j : Nat} (q : Q (.dat (.bl i)) M) : WE X B ex (.Constant (.bool i) j pos) Q ss M := we_c pe_bl (fun _ => .bl i) q
theorem we_non {j : Nat} (q : Q (.dat .non) M) : WE X B ex (.Constant .none j pos) Q ss M := we_c pe_non (fun _ => .non) q
theorem we_str {x : Str} {j : Nat} (hz : SOk x) (q : Q (.dat (.str x)) M) : WE X B ex (.Constant (.str x) j pos) Q ss M := we_c pe_str (fun _ => .str x hz) q
/-- a module's constant -/
theorem we_globI {x : Str} {i : Int} {t : Tok} (hg : Gl X x) (hm : X.mg x = some (.int i t)) (q : Q (.dat (.int i)) M) (hd : (x == ("__debug__" : Str)) = false := by decide) : WE X B ex (.Name x pos) Q ss M :=
  we_c (pe_glob (v := .int i) hg hm ⟨_, rfl⟩ hd) (fun _ => .int i) q
theorem we_globS {x y : Str} {t : Tok} (hg : Gl X x) (hm : X.mg x = some (.str y t)) (hz : SOk y) (q : Q (.dat (.str y)) M) (hd : (x == ("__debug__" : Str)) = false := by decide) : WE X B ex (.Name x pos) Q ss M :=
  we_c (pe_glob (v := .str y) hg hm ⟨_, rfl⟩ hd) (fun _ => .str y hz) q
/-- a class or a def of the module as a bare value -/
theorem we_globR {x : Str} {a : Addr} (hg : Gl X x) (hm : X.mg x = some (.ref a)) (q : Q (.raw (.ref a)) M) (hd : (x == ("__debug__" : Str)) = false := by decide) : WE X B ex (.Name x pos) Q ss M := by
  refine .mk fun ck G A H σ w sl Kq k => ?_
  exact te_of (pe_glob (v := .ref a) hg hm rfl hd) (k (.ref a) (.raw (.ref a)) G A M H .refl w rfl q)
theorem we_bltn {x : Str} {n : String} (hg : Gl X x) (hm : X.mg x = none) (hv : bootBuiltins x = some (.type n)) (q : Q (.raw (.ty n)) M) (hn : x ≠ "__name__" := by decide) (hd : (x == ("__debug__" : Str)) = false := by decide) : WE X B ex (.Name x pos) Q ss M := by
  refine .mk fun ck G A H σ w sl Kq k => ?_
  exact te_of (pe_bltn (v := .ty n) hg hm hv rfl hn hd) (k (.ty n) (.raw (.ty n)) G A M H .refl w rfl q)

/-! ### two operands -/
/-- the general form: r's reading from what the two values are -/
theorem we_op2 {op : Operator} {r : R2} {f : Mem → SV → SV → (SV → Mem → Prop) → Prop} (ho : OpR X (binaryOp op) r)
    (hf : ∀ G A H M x y u v Q Kq, Wd X.K B G A M H → SvOk X.K G A u x → SvOk X.K G A v y → f M x y Q → VPost X.K B G A Q Kq → r u v H Kq)
    (h : WE X B ex a (fun x M1 => WE X B ex b (fun y M2 => f M2 x y Q) ss M1) ss M) : WE X B ex (.BinOp a op b pos) Q ss M := by
  refine .mk fun ck G A H σ w sl Kq k => ?_
  refine te_of (pe_op ho pe_self pe_self) ?_
  refine h ck G A H σ w sl _ fun u x G1 A1 M1 H1 e1 w1 s1 h1 => ?_
  refine h1 ck G1 A1 H1 σ w1 (sl.mono e1) _ fun v y G2 A2 M2 H2 e2 w2 s2 h2 => ?_
  exact hf G2 A2 H2 M2 x y u v Q Kq w2 (s1.mono e2) s2 h2 fun v x G' A' M' H' e => k v x G' A' M' H' ((e1.trans e2).trans e)
theorem we_cmp2 {op : CmpOp} {r : R2} {f : Mem → SV → SV → (SV → Mem → Prop) → Prop} (ho : OpR X (compareOp op) r) (hm : behindInMarks op b = false)
    (hf : ∀ G A H M x y u v Q Kq, Wd X.K B G A M H → SvOk X.K G A u x → SvOk X.K G A v y → f M x y Q → VPost X.K B G A Q Kq → r u v H Kq)
    (h : WE X B ex a (fun x M1 => WE X B ex b (fun y M2 => f M2 x y Q) ss M1) ss M) : WE X B ex (.Compare a [op] [b] pos) Q ss M := by
  refine .mk fun ck G A H σ w sl Kq k => ?_
  refine te_of (pe_cmpR ho pe_self pe_self hm) ?_
  refine h ck G A H σ w sl _ fun u x G1 A1 M1 H1 e1 w1 s1 h1 => ?_
  refine h1 ck G1 A1 H1 σ w1 (sl.mono e1) _ fun v y G2 A2 M2 H2 e2 w2 s2 h2 => ?_
  exact hf G2 A2 H2 M2 x y u v Q Kq w2 (s1.mono e2) s2 h2 fun v x G' A' M' H' e => k v x G' A' M' H' ((e1.trans e2).trans e)
/-- the same as a test -/
theorem wt_cmp2 {op : CmpOp} {r : R2} {f : Mem → SV → SV → (SV → Mem → Prop) → Prop} {Q : Bool → Mem → Prop} (ho : OpR X (compareOp op) r) (hm : behindInMarks op b = false)
    (hf : ∀ G A H M x y u v Q Kq, Wd X.K B G A M H → SvOk X.K G A u x → SvOk X.K G A v y → f M x y Q → VPost X.K B G A Q Kq → r u v H Kq)
    (h : WE X B ex a (fun x M1 => WE X B ex b (fun y M2 => f M2 x y fun z M3 => ∃ k, z = .dat (.bl k) ∧ Q k M3) ss M1) ss M) : WT X B ex (.Compare a [op] [b] pos) Q ss M := by
  refine .mk fun ck G A H σ w sl Kq k => ?_
  refine tt_of (pt_cmpR ho pe_self pe_self hm) ?_
  refine h ck G A H σ w sl _ fun u x G1 A1 M1 H1 e1 w1 s1 h1 => ?_
  refine h1 ck G1 A1 H1 σ w1 (sl.mono e1) _ fun v y G2 A2 M2 H2 e2 w2 s2 h2 => ?_
  refine hf G2 A2 H2 M2 x y u v _ _ w2 (s1.mono e2) s2 h2 fun v x G' A' M' H' e w' s' q => ?_
  obtain ⟨i, rfl, q⟩ := q
  cases s'
  exact ⟨i, rfl, k i G' A' M' H' ((e1.trans e2).trans e) w' q⟩

/-! ### sums, products -/
/-- a + b of two lists, whatever bears them -/
def rCatL : R2 := fun x y H Q => ∃ l b xs zs, x = .ref l ∧ y = .ref b ∧ Rd H l (.lst xs) ∧ Rd H b (.lst zs) ∧ xs.length + zs.length ≤ sizeLine ∧ ∀ p, H p = none → Q (.ref p) (upd H p (.lst (xs ++ zs)))
theorem op_catL : OpR X (binaryOp .Add) rCatL := by
  intro pins s σ H x y v u Q I rx ry h
  obtain ⟨l, b, xs, zs, rfl, rfl, hH, hB, hz, q⟩ := h
  cases rx
  cases ry
  obtain ⟨_, i1, n1, r1, e1⟩ := hH.ok I.hok
  obtain ⟨_, i2, n2, r2, e2⟩ := hB.ok I.hok
  have l1 := r1.length
  have l2 := r2.length
  refine PySem.P.add_list e1 e2 ?_ (by rw [List.size_toArray, List.size_toArray]; omega)
  have ea : i1.toArray ++ i2.toArray = (i1 ++ i2).toArray := by simp
  rw [ea]
  exact ⟨.ref _, _, I.lnew (t' := s.toks) (r1.append r2) (by rw [List.length_append]; omega), rfl, q _ I.fresh⟩
def addD0 (a b : D) (k : D → Prop) : Prop := match a, b with
  | .int i, .int j => k (.int (i + j))
  | .str x, .str y => x.length + y.length ≤ sizeLine ∧ k (.str (x ++ y))
  | .lst x, .lst y => x.length + y.length ≤ sizeLine ∧ k (.lst (x ++ y))
  | .tup x, .tup y => x.length + y.length ≤ sizeLine ∧ k (.tup (x ++ y))
  | _, _ => False
structure addD (a b : D) (k : D → Prop) : Prop where
  run : addD0 a b k
def add2 (M : Mem) (x y : SV) (Q : SV → Mem → Prop) : Prop := with1 M x fun a => with1 M y fun b => addD a b fun d => Q (.dat d) M
theorem str_len_app (x y : Str) : (x ++ y).length = x.length + y.length := by
  show (x.cps ++ y.cps).size = x.cps.size + y.cps.size
  exact Array.size_append
theorem SOk.app {x y : Str} (hx : SOk x) (hy : SOk y) (h : x.length + y.length ≤ sizeLine) : SOk (x ++ y) := by
  refine ⟨by rw [str_len_app]; exact h, ?_⟩
  have a := hx.2
  have b := hy.2
  unfold PyData.strOk at a b ⊢
  show (x.cps ++ y.cps).all _ = true
  rw [Array.all_append, a, b]
  rfl
theorem we_add (h : WE X B ex a (fun x M1 => WE X B ex b (fun y M2 => add2 M2 x y Q) ss M1) ss M) : WE X B ex (.BinOp a .Add b pos) Q ss M := by
  refine we_op2 (f := add2) (OpR.or op_add (OpR.or op_add_str (OpR.or op_catL op_catA))) (fun G A H M x y u v Q Kq w sx sy hh k => ?_) h
  obtain ⟨d1, g1, hh⟩ := with1_get hh
  obtain ⟨d2, g2, hh⟩ := with1_get hh
  have q1 := sx.s w g1
  have q2 := sy.s w g2
  have hh := hh.run
  cases d1 <;> cases d2 <;> try exact hh.elim
  · obtain rfl := q1
    obtain rfl := q2
    exact .inl ⟨_, _, rfl, rfl, k.flat .refl w (.int _) hh⟩
  · obtain ⟨rfl, z1⟩ := q1
    obtain ⟨rfl, z2⟩ := q2
    exact .inr (.inl ⟨_, _, rfl, rfl, hh.1, k.flat .refl w (.str _ (z1.app z2 hh.1)) hh.2⟩)
  · obtain ⟨a1, v1, rfl, h1, r1⟩ := q1
    obtain ⟨a2, v2, rfl, h2, r2⟩ := q2
    refine .inr (.inr (.inl ⟨_, _, v1, v2, rfl, rfl, h1, h2, by rw [r1.length, r2.length]; exact hh.1, k.new .refl w hh.2 fun p hp => ?_⟩))
    exact .lst (.inl upd_same) ((r1.append r2).mono (same_upd (w.none hp).2.2))
  · obtain ⟨a1, v1, rfl, h1, r1⟩ := q1
    obtain ⟨a2, v2, rfl, h2, r2⟩ := q2
    refine .inr (.inr (.inr ⟨_, _, v1, v2, rfl, rfl, h1, h2, by rw [r1.length, r2.length]; exact hh.1, fun e => ?_, fun n e => ?_, fun n1 n2 => k.new .refl w hh.2 fun p hp => ?_⟩))
    · subst e
      cases r1
      exact k _ (.dat _) G A M H .refl w (by cases sy' : y with
        | dat d => rw [sy'] at sy g2; simp only [SV.get, Option.some.injEq] at g2; subst g2; exact sy
        | raw u => rw [sy'] at g2; simp [SV.get] at g2
        | exc u v w => rw [sy'] at g2; simp [SV.get] at g2
        | tup xs => rw [sy'] at g2; simp [SV.get] at g2
        | xt ds => rw [sy'] at sy g2; simp only [SV.get, Option.some.injEq] at g2; cases g2; obtain ⟨_, _, _, q⟩ := sy; exact q
        | cel i => rw [sy'] at g2; simp only [SV.get] at g2; split at g2 <;> cases g2) hh.2
    · subst e
      cases r2
      have hh2 := hh.2
      rw [List.append_nil] at hh2
      exact k _ (.dat _) G A M H .refl w (by cases sy' : x with
        | dat d => rw [sy'] at sx g1; simp only [SV.get, Option.some.injEq] at g1; subst g1; exact sx
        | raw u => rw [sy'] at g1; simp [SV.get] at g1
        | exc u v w => rw [sy'] at g1; simp [SV.get] at g1
        | tup xs => rw [sy'] at g1; simp [SV.get] at g1
        | xt ds => rw [sy'] at sx g1; simp only [SV.get, Option.some.injEq] at g1; cases g1; obtain ⟨_, _, _, q⟩ := sx; exact q
        | cel i => rw [sy'] at g1; simp only [SV.get] at g1; split at g1 <;> cases g1) hh2
    · exact .tup (.of upd_same) ((r1.append r2).mono (same_upd (w.none hp).2.2))
/-- an operation of two ints -/
theorem we_opI {op : Operator} {C : Int → Int → Prop} {g : Int → Int → Int} (ho : OpR X (binaryOp op) (rI C fun i j => .int (g i j)))
    (h : WE X B ex a (fun x M1 => WE X B ex b (fun y M2 => with1 M2 x fun p => with1 M2 y fun q => match p, q with
      | .int i, .int j => C i j ∧ Q (.dat (.int (g i j))) M2
      | _, _ => False) ss M1) ss M) : WE X B ex (.BinOp a op b pos) Q ss M := by
  refine we_op2 (f := fun M2 x y Q => with1 M2 x fun p => with1 M2 y fun q => match p, q with
      | .int i, .int j => C i j ∧ Q (.dat (.int (g i j))) M2
      | _, _ => False) ho (fun G A H M x y u v Q Kq w sx sy hh k => ?_) h
  obtain ⟨d1, g1, hh⟩ := with1_get hh
  obtain ⟨d2, g2, hh⟩ := with1_get hh
  have q1 := sx.s w g1
  have q2 := sy.s w g2
  cases d1 <;> cases d2 <;> try exact hh.elim
  obtain rfl := q1
  obtain rfl := q2
  exact ⟨_, _, rfl, rfl, hh.1, k.flat .refl w (.int _) hh.2⟩
theorem we_opI0 {op : Operator} {g : Int → Int → Int} (ho : OpR X (binaryOp op) (rI0 fun i j => .int (g i j)))
    (h : WE X B ex a (fun x M1 => WE X B ex b (fun y M2 => with1 M2 x fun p => with1 M2 y fun q => match p, q with
      | .int i, .int j => Q (.dat (.int (g i j))) M2
      | _, _ => False) ss M1) ss M) : WE X B ex (.BinOp a op b pos) Q ss M := by
  refine we_op2 (f := fun M2 x y Q => with1 M2 x fun p => with1 M2 y fun q => match p, q with
      | .int i, .int j => Q (.dat (.int (g i j))) M2
      | _, _ => False) ho (fun G A H M x y u v Q Kq w sx sy hh k => ?_) h
  obtain ⟨d1, g1, hh⟩ := with1_get hh
  obtain ⟨d2, g2, hh⟩ := with1_get hh
  have q1 := sx.s w g1
  have q2 := sy.s w g2
  cases d1 <;> cases d2 <;> try exact hh.elim
  obtain rfl := q1
  obtain rfl := q2
  exact ⟨_, _, rfl, rfl, k.flat .refl w (.int _) hh⟩

theorem we_sub (h : WE X B ex a (fun x M1 => WE X B ex b (fun y M2 => with1 M2 x fun p => with1 M2 y fun q => match p, q with
      | .int i, .int j => Q (.dat (.int (i - j))) M2
      | _, _ => False) ss M1) ss M) : WE X B ex (.BinOp a .Sub b pos) Q ss M := we_opI0 op_sub h
theorem we_fdiv (h : WE X B ex a (fun x M1 => WE X B ex b (fun y M2 => with1 M2 x fun p => with1 M2 y fun q => match p, q with
      | .int i, .int j => CDiv i j ∧ Q (.dat (.int (i / j))) M2
      | _, _ => False) ss M1) ss M) : WE X B ex (.BinOp a .FloorDiv b pos) Q ss M := we_opI op_fdiv h
theorem we_mod (h : WE X B ex a (fun x M1 => WE X B ex b (fun y M2 => with1 M2 x fun p => with1 M2 y fun q => match p, q with
      | .int i, .int j => 0 < j ∧ Q (.dat (.int (i % j))) M2
      | _, _ => False) ss M1) ss M) : WE X B ex (.BinOp a .Mod b pos) Q ss M := we_opI op_mod h
theorem we_pow (h : WE X B ex a (fun x M1 => WE X B ex b (fun y M2 => with1 M2 x fun p => with1 M2 y fun q => match p, q with
      | .int i, .int j => CPow i j ∧ Q (.dat (.int (i ^ j.toNat))) M2
      | _, _ => False) ss M1) ss M) : WE X B ex (.BinOp a .Pow b pos) Q ss M := we_opI op_pow h
/-- a list n times -/
def mulD0 (a b : D) (k : D → Prop) : Prop := match a, b with
  | .int i, .int j => CMul i j ∧ k (.int (i * j))
  | .lst x, .int n => (-(2 ^ 63) ≤ n ∧ n < 2 ^ 63 ∧ x.length * n.toNat ≤ sizeLine) ∧ k (.lst (List.replicate n.toNat x).flatten)
  | _, _ => False
structure mulD (a b : D) (k : D → Prop) : Prop where
  run : mulD0 a b k
def mul2 (M : Mem) (x y : SV) (Q : SV → Mem → Prop) : Prop := with1 M x fun a => with1 M y fun b => mulD a b fun d => Q (.dat d) M
theorem Reps.flat {K : PySem.W.Frag} {G : Hp} {vs : List V} {ds : List D} (r : Reps K G vs ds) : ∀ n : Nat, Reps K G (List.replicate n vs).flatten (List.replicate n ds).flatten
  | 0 => .nil
  | n + 1 => by
    rw [List.replicate_succ, List.replicate_succ, List.flatten_cons, List.flatten_cons]
    exact r.append (Reps.flat r n)
def rRepT : R2 := fun x y H Q => ∃ l k xs, x = .ref l ∧ y = .int k ∧ Rd H l (.lst xs) ∧ -(2 ^ 63) ≤ k ∧ k < 2 ^ 63 ∧ xs.length * k.toNat ≤ sizeLine ∧
  ∀ p, H p = none → Q (.ref p) (upd H p (.lst (List.replicate k.toNat xs).flatten))
theorem op_repT : OpR X (binaryOp .Mult) rRepT := by
  intro pins s σ H x y v u Q I rx ry hh
  obtain ⟨l, k, xs, rfl, rfl, hH, h1, h2, hz, q⟩ := hh
  cases rx
  obtain ⟨t, rfl⟩ := ry
  obtain ⟨z, its, n, r, e⟩ := hH.ok I.hok
  have hl := r.length
  have n1 : its.toArray.size * k.toNat ≤ sizeLine := by rw [List.size_toArray, ← hl]; exact hz
  have n2 : ¬ its.toArray.size * k.toNat > (2 ^ 63 - 1) / 8 := by
    have z8 : (sizeLine : Nat) ≤ (2 ^ 63 - 1) / 8 := by decide
    omega
  have n3 : ¬ (!Builtin.List.listFitsIndex k) = true := by
    rw [fitsIndex_both h1 h2]; simp
  have n4 : ¬ Builtin.List.listTooLong (its.toArray.size * k.toNat) = true := by
    rw [notLongL n1]; simp
  have f0 : ∀ m : Nat, List.foldl (fun x1 x2 => x1 ++ x2) #[] (List.replicate m its.toArray) = (List.replicate m its).flatten.toArray := fun m => by
    have z := foldl_rep its m []
    rwa [List.nil_append] at z
  have n5 : List.foldl (fun x1 x2 => x1 ++ x2) #[] (List.replicate (if its.toArray.isEmpty = true then 0 else k.toNat) its.toArray) = (List.replicate k.toNat its).flatten.toArray := by
    rw [f0]
    cases its with
    | nil => simp
    | cons a r' => rw [if_neg (by simp)]
  refine wpAny_binaryOp_repeat_ref (T := "list") (U := "int") (by decide) ⟨_, e, rfl⟩ (fun s' => typeIs_int s' k t) noFill_list_mul F.fills_int_mul F.slot_int_rmul repeat_list F.slot_int_index.lookup ?_
  refine call_meets F.slot_int_rmul (typeIs_int s k t) F.entry_int_rmul (F.args_int_rmul_2 _ _) (int___rmul___int_list k t l its.toArray n) ⟨e, rfl, ⟨_, e, rfl⟩, ?_⟩
  refine call_meets F.slot_list_mul ⟨_, e, rfl⟩ F.entry_list_mul (F.args_list_mul_2 _ _) (AutoListH.list___mul___list_int_3 l its.toArray n k t n3 n2 n4) ⟨e, ?_⟩
  rw [n5]
  exact ⟨.ref _, _, I.lnew (t' := s.toks) (r.rep k.toNat) (by rw [PyProof.Rows.lm_len_rep_flat, Nat.mul_comm]; exact hz), rfl, q _ I.fresh⟩
theorem we_mul (h : WE X B ex a (fun x M1 => WE X B ex b (fun y M2 => mul2 M2 x y Q) ss M1) ss M) : WE X B ex (.BinOp a .Mult b pos) Q ss M := by
  refine we_op2 (f := mul2) (OpR.or op_mul op_repT) (fun G A H M x y u v Q Kq w sx sy hh k => ?_) h
  obtain ⟨d1, g1, hh⟩ := with1_get hh
  obtain ⟨d2, g2, hh⟩ := with1_get hh
  have q1 := sx.s w g1
  have q2 := sy.s w g2
  have hh := hh.run
  cases d1 <;> cases d2 <;> try exact hh.elim
  · obtain rfl := q1
    obtain rfl := q2
    exact .inl ⟨_, _, rfl, rfl, hh.1, k.flat .refl w (.int _) hh.2⟩
  · obtain ⟨a1, v1, rfl, h1, r1⟩ := q1
    obtain rfl := q2
    refine .inr ⟨_, _, v1, rfl, rfl, h1, hh.1.1, hh.1.2.1, by rw [r1.length]; exact hh.1.2.2, k.new .refl w hh.2 fun p hp => ?_⟩
    exact .lst (.inl upd_same) ((r1.flat _).mono (same_upd (w.none hp).2.2))

/-! ### comparisons of ints -/
theorem we_cmpI {op : CmpOp} {g : Int → Int → Bool} (ho : OpR X (compareOp op) (rI0 fun i j => .bl (g i j))) (hm : behindInMarks op b = false)
    (h : WE X B ex a (fun x M1 => WE X B ex b (fun y M2 => with1 M2 x fun p => with1 M2 y fun q => match p, q with
      | .int i, .int j => Q (.dat (.bl (g i j))) M2
      | _, _ => False) ss M1) ss M) : WE X B ex (.Compare a [op] [b] pos) Q ss M := by
  refine we_cmp2 (f := fun M2 x y Q => with1 M2 x fun p => with1 M2 y fun q => match p, q with
      | .int i, .int j => Q (.dat (.bl (g i j))) M2
      | _, _ => False) ho hm (fun G A H M x y u v Q Kq w sx sy hh k => ?_) h
  obtain ⟨d1, g1, hh⟩ := with1_get hh
  obtain ⟨d2, g2, hh⟩ := with1_get hh
  have q1 := sx.s w g1
  have q2 := sy.s w g2
  cases d1 <;> cases d2 <;> try exact hh.elim
  obtain rfl := q1
  obtain rfl := q2
  exact ⟨_, _, rfl, rfl, k.flat .refl w (.bl _) hh⟩
theorem wt_cmpI {op : CmpOp} {g : Int → Int → Bool} {Q : Bool → Mem → Prop} (ho : OpR X (compareOp op) (rI0 fun i j => .bl (g i j))) (hm : behindInMarks op b = false)
    (h : WE X B ex a (fun x M1 => WE X B ex b (fun y M2 => with1 M2 x fun p => with1 M2 y fun q => match p, q with
      | .int i, .int j => Q (g i j) M2
      | _, _ => False) ss M1) ss M) : WT X B ex (.Compare a [op] [b] pos) Q ss M := by
  refine wt_cmp2 (f := fun M2 x y Q => with1 M2 x fun p => with1 M2 y fun q => match p, q with
      | .int i, .int j => Q (.dat (.bl (g i j))) M2
      | _, _ => False) ho hm (fun G A H M x y u v Q Kq w sx sy hh k => ?_) (h.mono fun x M1 h1 => h1.mono fun y M2 hh => ?_)
  · obtain ⟨d1, g1, hh⟩ := with1_get hh
    obtain ⟨d2, g2, hh⟩ := with1_get hh
    have q1 := sx.s w g1
    have q2 := sy.s w g2
    cases d1 <;> cases d2 <;> try exact hh.elim
    obtain rfl := q1
    obtain rfl := q2
    exact ⟨_, _, rfl, rfl, k.flat .refl w (.bl _) hh⟩
  · obtain ⟨d1, g1, hh⟩ := with1_get hh
    obtain ⟨d2, g2, hh⟩ := with1_get hh
    cases d1 <;> cases d2 <;> try exact hh.elim
    exact with1_mk g1 (with1_mk g2 ⟨_, rfl, hh⟩)
end
end Mb

/-! Mb, part 3: statements, defs. -/
namespace Mb
open PySem L2 PyProof.Rows
section
variable {X : Cx} {B : Base} {ex : XD} {ss : Sst} {M : Mem} {a b c e tg : Expr} {es : List Expr} {pos p p' : Pos} {N : Nd} {st : Stmt} {sts sts' : List Stmt}

/-! ### blocks -/
theorem wb_nil (q : N.nx ss M) : WB X B ex [] N ss M := .mk fun ck G A H σ w sl E k => tb_of pss_nil (k.nx σ ss G A M H (Same.refl _) w sl q)
theorem wb_cons (h : WS X B ex st { N with nx := fun ss' M' => WB X B ex sts N ss' M' } ss M) : WB X B ex (st :: sts) N ss M := .mk fun ck G A H σ w sl E k => by
  refine tb_of (pss_cons ps_self pb_self) ?_
  refine h ck G A H σ w sl _ ⟨fun σ' ss' G' A' M' H' s' w' sl' q => ?_, k.rt, k.bk, k.ct⟩
  exact q ck G' A' H' σ' w' sl' E (k.mono s')
theorem wb_one (h : WS X B ex st N ss M) : WB X B ex [st] N ss M := .mk fun ck G A H σ w sl E k => tb_of (pss_one ps_self) (h ck G A H σ w sl E k)
/-- slots and cells forgotten -/
theorem wb_forget {ss' : Sst} {k : Nat} (hf : Fgt ss ss') (hk : B.A.length ≤ k) (hM : (M.take k).all (Cell.lt k) = true) (hs : (ss'.all fun o => match o with | some x => x.lt k | none => true) = true) (h : WB X B ex sts N ss' (M.take k)) : WB X B ex sts N ss M := .mk fun ck G A H σ w sl E q => by
  refine h ck G (A.take k) H σ (w.drop k hk hM) ?_ E q
  have s2 := sl.fgt hf
  clear sl hf h
  induction s2 with
  | nil => exact .nil
  | skip r ih => exact .skip (ih (by simpa using hs))
  | cons h1 r ih =>
    rw [List.all_cons, Bool.and_eq_true] at hs
    exact .cons (h1.cut hs.1) (ih hs.2)
theorem ws_pass (q : N.nx ss M) : WS X B ex (.Pass pos) N ss M := .mk fun ck G A H σ w sl E k => ts_of ps_pass (k.nx σ ss G A M H (Same.refl _) w sl q)
theorem ws_break (q : N.bk ss M) : WS X B ex (.Break pos) N ss M := .mk fun ck G A H σ w sl E k => ts_of ps_break (k.bk σ ss G A M H (Same.refl _) w sl q)
theorem ws_continue (q : N.ct ss M) : WS X B ex (.Continue pos) N ss M := .mk fun ck G A H σ w sl E k => ts_of ps_continue (k.ct σ ss G A M H (Same.refl _) w sl q)
theorem ws_expr (h : WE X B ex e (fun _ M' => N.nx ss M') ss M) (hs : swapsWith e none pos.line X.env = pure false := by rfl) : WS X B ex (.Expr e pos) N ss M := .mk fun ck G A H σ w sl E k => by
  refine ts_of (ps_expr pe_self hs) ?_
  exact h ck G A H σ w sl _ fun v x G' A' M' H' e' w' s q => k.nx σ ss G' A' M' H' e'.1 w' (sl.mono e') q
theorem ws_ret (h : WE X B ex e N.rt ss M) : WS X B ex (.Return (some e) pos) N ss M := .mk fun ck G A H σ w sl E k => by
  refine ts_of (ps_ret pe_self) ?_
  exact h ck G A H σ w sl _ fun v x G' A' M' H' e' w' s q => k.rt v x G' A' M' H' e'.1 w' s q
theorem ws_if (h : WT X B ex c (fun b M' => if b = true then WB X B ex sts N ss M' else WB X B ex sts' N ss M') ss M) : WS X B ex (.If c sts sts' pos) N ss M := .mk fun ck G A H σ w sl E k => by
  refine ts_of (ps_if pt_self pb_self pb_self) ?_
  refine h ck G A H σ w sl _ fun b G' A' M' H' e' w' q => ?_
  cases b with
  | true => rw [if_pos rfl] at q ⊢; exact q ck G' A' H' σ w' (sl.mono e') E (k.mono e'.1)
  | false => rw [if_neg Bool.false_ne_true] at q ⊢; exact q ck G' A' H' σ w' (sl.mono e') E (k.mono e'.1)
/-! ### assignments -/
theorem ws_set {i : Nat} {x : Str} (hN : X.N.Nodup) (hi : X.N[i]? = some x) (hx : Loc X.env.scope x) (h : WE X B ex e (fun v M' => N.nx (ss.set i (some v)) M') ss M)
    (hs : swapsWith e (some (.Name x p')) pos.line X.env = pure false := by rfl) (hf : X.fn x = true ∨ X.env.scope.names.lookup x = some .local := by first | exact .inl rfl | exact .inr rfl | assumption) : WS X B ex (.Assign [.Name x p'] e pos) N ss M := .mk fun ck G A H σ w sl E k => by
  refine ts_of (ps_set hN hi hx pe_self hs hf) ?_
  exact h ck G A H σ w sl _ fun v y G' A' M' H' e' w' s q => k.nx _ _ G' A' M' H' e'.1 w' ((sl.mono e').set s i) q
/-- target = value, any target -/
theorem ws_asg (h : WE X B ex e (fun v M' => WG X B ex tg v N.nx ss M') ss M) (hs : swapsWithSole [tg] e pos.line X.env = pure false := by rfl) (hw : swappedStores [tg] e X.env = pure none := by rfl) (h1 : (assignEach [tg] X.env).map (·.2) = [assign tg X.env] := by rfl) :
    WS X B ex (.Assign [tg] e pos) N ss M := .mk fun ck G A H σ w sl E k => by
  refine ts_of (ps_asg pe_self pg_self hs hw h1) ?_
  refine h ck G A H σ w sl _ fun v y G' A' M' H' e' w' s q => ?_
  exact q ck G' A' H' σ v w' (sl.mono e') s _ fun σ' ss' G2 A2 M2 H2 s2 w2 sl2 q2 => k.nx σ' ss' G2 A2 M2 H2 (e'.1.trans s2) w2 sl2 q2
theorem wg_name {i : Nat} {x : Str} {v : SV} {Q : Sst → Mem → Prop} (hN : X.N.Nodup) (hi : X.N[i]? = some x) (hx : Loc X.env.scope x) (q : Q (ss.set i (some v)) M) (hf : X.fn x = true ∨ X.env.scope.names.lookup x = some .local := by first | exact .inl rfl | exact .inr rfl | assumption) :
    WG X B ex (.Name x pos) v Q ss M := .mk fun ck G A H σ u w sl s Kq k => tg_of (pg_name hN hi hx hf) (k _ _ G A M H (Same.refl _) w (sl.set s i) q)
/-- xs[i] = v, xs a list of ours -/
theorem wg_item {v : SV} {Q : Sst → Mem → Prop} (h : WE X B ex a (fun x M1 => WE X B ex b (fun y M2 => ∃ (i : Nat) (ds : List D) (n : Int) (j : Nat) (d : D), x = .cel i ∧ y = .dat (.int n) ∧ v = .dat d ∧ M2[i]? = some (.lst ds) ∧ ixN ds.length n = some j ∧ Q ss (M2.set i (.lst (ds.set j d)))) ss M1) ss M)
    (ha : ∀ v, assign (.Subscript a b pos) X.env v = (do
      let ov ← holding [v] (eval a X.env)
      let iv ← holding [v, ov] (eval b X.env)
      standAt pos
      holding [v, ov, iv] (setItem ov iv v)
      release [v, ov, iv] []) := by intro _; rfl) : WG X B ex (.Subscript a b pos) v Q ss M := .mk fun ck G A H σ u w sl s Kq k => by
  refine tg_of (pg_sub pe_self pe_self set_list ha) ?_
  refine h ck G A H σ w sl _ fun u1 x G1 A1 M1 H1 e1 w1 s1 h1 => ?_
  refine h1 ck G1 A1 H1 σ w1 (sl.mono e1) _ fun u2 y G2 A2 M2 H2 e2 w2 s2 h2 => ?_
  obtain ⟨i, ds, n, j, d, rfl, rfl, rfl, hM, hj, q⟩ := h2
  obtain ⟨l, rfl, hl⟩ := s1.mono e2
  obtain ⟨gn, vs, hv, r⟩ := w2.cl.get hl hM
  cases s2
  have s' : Rep X.K G2 u d := (SvOk.mono (e1.trans e2) s : SvOk X.K G2 A2 u (.dat d))
  refine ⟨l, vs, n, j, rfl, rfl, hv, by rw [r.length]; exact hj, ?_⟩
  exact k σ ss G2 A2 _ _ (e1.trans e2).1 (w2.setC (c' := .lst (ds.set j d)) hl gn ⟨gn, _, upd_same, r.set s' j⟩) (sl.mono (e1.trans e2)) q
end
/-! ### a def's promise -/
abbrev SpD := List SV → Mem → (SV → Mem → Prop) → (Addr → List (Str × D) → Mem → Prop) → Prop
/-- n cells are handed in -/
def spOf (K : PySem.W.Frag) (n : Nat) (S : SpD) : Sp := fun vs H Q E => ∃ xs M G A, A.length = n ∧ Wd K ⟨G, A, H⟩ G A M H ∧ Svs K G A vs xs ∧ ∃ R Rx, S xs M R Rx ∧
  (∀ v x G' A' M' H', Wd K ⟨G, A, H⟩ G' A' M' H' → SvOk K G' A' v x → M'.all (Cell.lt n) = true → R x M' → Q v H') ∧
  (∀ C fs d G' A' M' H', Wd K ⟨G, A, H⟩ G' A' M' H' → XdOk K G' d fs → M'.all (Cell.lt n) = true → Rx C fs M' → E (.ref C) d H')
/-- the end of a def that leaves its n cells alone -/
def Ret (n : Nat) (R : SV → Mem → Prop) (x : SV) (M : Mem) : Prop := (x.lt n && (M.take n).all (Cell.lt n)) = true ∧ R x (M.take n)
/-- .. that leaves a new cell too -/
def RetC (n : Nat) (R : SV → Mem → Prop) (x : SV) (M : Mem) : Prop := M.all (Cell.lt n) = true ∧ R x M
def RetX (n : Nat) (Rx : Addr → List (Str × D) → Mem → Prop) (C : Addr) (fs : List (Str × D)) (M : Mem) : Prop := (M.take n).all (Cell.lt n) = true ∧ Rx C fs (M.take n)
def startD (N : List Str) (xs : List SV) : Sst := xs.map some ++ List.replicate (N.length - xs.length) none
theorem sl_rep {K : PySem.W.Frag} {G : Hp} {A : List Addr} : ∀ n : Nat, Sl K G A (List.replicate n none) (List.replicate n none)
  | 0 => .nil
  | n + 1 => .skip (sl_rep n)
theorem sl_start {K : PySem.W.Frag} {G : Hp} {A : List Addr} {vs : List V} {xs : List SV} (r : Svs K G A vs xs) (N : List Str) : Sl K G A (L2.start N vs) (startD N xs) := by
  unfold L2.start startD
  rw [r.length]
  generalize N.length - xs.length = n
  induction r with
  | nil => exact sl_rep n
  | cons h r ih => exact .cons h ih
section
variable {P : Program} {w : World} {K : PySem.W.Frag} {mg : Str → Option Value} {base : Heap}
/-- THE RULE for a def: its body, walked -/
theorem fn_any {x qual : Str} {st : Stmt} {f : Addr} {fd : FuncData} {N ps : List Str} {k n : Nat} {S : SpD} {RT : (SV → Mem → Prop) → SV → Mem → Prop} (F : Fun K x qual st f fd) (Sc : FnScope N ps (defScope st)) (len : ∀ xs M R Rx, S xs M R Rx → xs.length = ps.length)
    (hRT : ∀ {B : Base} {G A M H v x R}, B.A.length = n → Wd K B G A M H → SvOk K G A v x → RT R x M → ∃ A' M', Wd K B G A' M' H ∧ SvOk K G A' v x ∧ M'.all (Cell.lt n) = true ∧ R x M')
    (hb : ∀ (cdv : Value) (A : Around) (outer : List Env) (s : Shared) (H : Hp) (E : XK) (B : Base) (xs : List SV) (M : Mem) (R : SV → Mem → Prop) (Rx : Addr → List (Str × D) → Mem → Prop), Room k (A.deeper (envOfC qual (defScope st) s.heap.objs.size f cdv)) → B.A.length = n → S xs M R Rx →
      WB (cxOf (L2.CX P w) P w K mg base N qual (defScope st) f cdv A outer s H E) B (fun C fs _ M => RetX n Rx C fs M) (defBody st) { nx := fun _ M => RT R (.dat .non) M, rt := RT R } (startD N xs) M) :
    FnOk P w K mg base (L2.CX P w) (k + 1) f fd ps (spOf K n S) := by
  refine F.okX Sc (fun vs H Q E h => ?_) (fun cdv A outer s H vs Q E hr h => ?_)
  · obtain ⟨xs, M, G, A, hn, hw, hv, R, Rx, hS, _⟩ := h
    rw [hv.length]; exact len _ _ _ _ hS
  · obtain ⟨xs, M, G, A0, hn, hw, hv, R, Rx, hS, hR, hX⟩ := h
    refine ⟨tbW _ _, pb_self, ?_⟩
    have ck : Cok (cxOf (L2.CX P w) P w K mg base N qual (defScope st) f cdv A outer s H E) ⟨G, A0, H⟩ (fun C fs _ M => RetX n Rx C fs M) :=
      ⟨(takes_of (E := E) rfl rfl rfl rfl).imp fun cls d σ H' ⟨C, fs, ss, G', A', M', ec, xd, w', sl', q1, q2⟩ => by
        subst ec; exact hX C fs d G' (A'.take n) (M'.take n) H' (w'.drop n (by exact Nat.le_of_eq hn) q1) xd q1 q2, passes_of rfl⟩
    refine hb cdv A outer s H E ⟨G, A0, H⟩ xs M R Rx hr hn hS ck G A0 H _ hw (sl_start hv N) _ ⟨fun σ ss G' A' M' H' _ w' sl' q => ?_, fun v y G' A' M' H' _ w' s' q => ?_, fun _ _ _ _ _ _ _ _ _ q => q.elim, fun _ _ _ _ _ _ _ _ _ q => q.elim⟩
    · obtain ⟨A2, M2, w2, s2, hl, q⟩ := hRT hn w' (v := .non) (x := .dat .non) .non q
      exact hR .non (.dat .non) G' A2 M2 H' w2 s2 hl q
    · obtain ⟨A2, M2, w2, s2, hl, q⟩ := hRT hn w' s' q
      exact hR v y G' A2 M2 H' w2 s2 hl q
theorem fn_ok {x qual : Str} {st : Stmt} {f : Addr} {fd : FuncData} {N ps : List Str} {k n : Nat} {S : SpD} (F : Fun K x qual st f fd) (Sc : FnScope N ps (defScope st)) (len : ∀ xs M R Rx, S xs M R Rx → xs.length = ps.length)
    (hb : ∀ (cdv : Value) (A : Around) (outer : List Env) (s : Shared) (H : Hp) (E : XK) (B : Base) (xs : List SV) (M : Mem) (R : SV → Mem → Prop) (Rx : Addr → List (Str × D) → Mem → Prop), Room k (A.deeper (envOfC qual (defScope st) s.heap.objs.size f cdv)) → B.A.length = n → S xs M R Rx →
      WB (cxOf (L2.CX P w) P w K mg base N qual (defScope st) f cdv A outer s H E) B (fun C fs _ M => RetX n Rx C fs M) (defBody st) { nx := fun _ M => Ret n R (.dat .non) M, rt := Ret n R } (startD N xs) M) :
    FnOk P w K mg base (L2.CX P w) (k + 1) f fd ps (spOf K n S) := by
  refine fn_any (RT := Ret n) F Sc len (fun {B G A M H v x R} hB w' s' q => ?_) hb
  obtain ⟨h1, h2⟩ := q
  rw [Bool.and_eq_true] at h1
  exact ⟨A.take n, M.take n, w'.drop n (Nat.le_of_eq hB) h1.2, s'.cut h1.1, h1.2, h2⟩
theorem fn_okC {x qual : Str} {st : Stmt} {f : Addr} {fd : FuncData} {N ps : List Str} {k n : Nat} {S : SpD} (F : Fun K x qual st f fd) (Sc : FnScope N ps (defScope st)) (len : ∀ xs M R Rx, S xs M R Rx → xs.length = ps.length)
    (hb : ∀ (cdv : Value) (A : Around) (outer : List Env) (s : Shared) (H : Hp) (E : XK) (B : Base) (xs : List SV) (M : Mem) (R : SV → Mem → Prop) (Rx : Addr → List (Str × D) → Mem → Prop), Room k (A.deeper (envOfC qual (defScope st) s.heap.objs.size f cdv)) → B.A.length = n → S xs M R Rx →
      WB (cxOf (L2.CX P w) P w K mg base N qual (defScope st) f cdv A outer s H E) B (fun C fs _ M => RetX n Rx C fs M) (defBody st) { nx := fun _ M => RetC n R (.dat .non) M, rt := RetC n R } (startD N xs) M) :
    FnOk P w K mg base (L2.CX P w) (k + 1) f fd ps (spOf K n S) :=
  fn_any (RT := RetC n) F Sc len (fun {B G A M H v x R} hB w' s' q => ⟨A, M, w', s', q.1, q.2⟩) hb
end
end Mb

/-! Mb, part 4: subscripts, tests. -/
namespace Mb
open PySem L2 PyProof.Rows
section
variable {X : Cx} {B : Base} {ex : XD} {ss : Sst} {M : Mem} {a b c e tg : Expr} {es : List Expr} {pos p p' : Pos} {Q : SV → Mem → Prop}
theorem atI_rep {K : PySem.W.Frag} {G : Hp} {vs : List V} {ds : List D} {n : Int} {d : D} (r : Reps K G vs ds) (h : atI ds n = some d) : ∃ v, atI vs n = some v ∧ Rep K G v d := by
  unfold atI at h ⊢
  rw [r.length]
  cases e : ixN ds.length n with
  | none => simp [e] at h
  | some j =>
    simp only [e, Option.bind_some] at h ⊢
    exact r.get h
theorem SOk.sign {z : Str} {n : Int} {c : Nat} (h : SOk z) (hc : atI z.cps.toList n = some c) : SOk ⟨#[c]⟩ := by
  refine ⟨by show 1 ≤ sizeLine; decide, ?_⟩
  obtain ⟨j, _, hj, _⟩ := atI_get hc
  have a := h.2
  unfold PyData.strOk at a ⊢
  rw [Array.all_eq_true'] at a
  have m : c ∈ z.cps := by
    have := List.mem_of_getElem? hj
    exact Array.mem_def.mpr this
  have := a c m
  simpa using this
def ixD0 (a b : D) (k : D → Prop) : Prop := match a, b with
  | .lst ds, .int n => ∃ d, atI ds n = some d ∧ k d
  | .tup ds, .int n => ∃ d, atI ds n = some d ∧ k d
  | .str z, .int n => ∃ c, atI z.cps.toList n = some c ∧ k (.str ⟨#[c]⟩)
  | _, _ => False
structure ixD (a b : D) (k : D → Prop) : Prop where
  run : ixD0 a b k
theorem we_ix (h : WE X B ex a (fun x M1 => WE X B ex b (fun y M2 => with1 M2 x fun p => with1 M2 y fun q => ixD p q fun d => Q (.dat d) M2) ss M1) ss M) (hs : PlainIx b := by intro _ _; rfl) : WE X B ex (.Subscript a b pos) Q ss M := by
  refine .mk fun ck G A H σ w sl Kq k => ?_
  refine te_of (pe_ix ix_seq pe_self pe_self hs) ?_
  refine h ck G A H σ w sl _ fun u x G1 A1 M1 H1 e1 w1 s1 h1 => ?_
  refine h1 ck G1 A1 H1 σ w1 (sl.mono e1) _ fun v y G2 A2 M2 H2 e2 w2 s2 h2 => ?_
  obtain ⟨d1, g1, hh⟩ := with1_get h2
  obtain ⟨d2, g2, hh⟩ := with1_get hh
  have q1 := (s1.mono e2).s w2 g1
  have q2 := s2.s w2 g2
  have hh := hh.run
  cases d1 <;> cases d2 <;> try exact hh.elim
  · obtain ⟨rfl, hz⟩ := q1
    obtain rfl := q2
    obtain ⟨c, hc, q⟩ := hh
    refine .inr (.inr ⟨_, _, c, rfl, rfl, hz.1, hc, ?_⟩)
    exact k _ (.dat _) G2 A2 M2 H2 (e1.trans e2) w2 (Rep.str _ (hz.sign hc)) q
  · obtain ⟨l, vs, rfl, hl, r⟩ := q1
    obtain rfl := q2
    obtain ⟨d, hd, q⟩ := hh
    obtain ⟨z, hz, rz⟩ := atI_rep r hd
    exact .inl ⟨_, vs, _, z, rfl, rfl, .inl hl, hz, k _ (.dat _) G2 A2 M2 H2 (e1.trans e2) w2 rz q⟩
  · obtain ⟨l, vs, rfl, hl, r⟩ := q1
    obtain rfl := q2
    obtain ⟨d, hd, q⟩ := hh
    obtain ⟨z, hz, rz⟩ := atI_rep r hd
    exact .inr (.inl ⟨_, vs, _, z, rfl, rfl, hl, hz, k _ (.dat _) G2 A2 M2 H2 (e1.trans e2) w2 rz q⟩)
end
end Mb

/-! Mb, part 5: equality, in, is, and, or, not, chains. -/
namespace Mb
open PySem L2 PyProof.Rows
/-! ### data as the library's data -/
mutual
def py : D → PyData
  | .non => .none
  | .bl b => .bool b
  | .int i => .int i
  | .str x => .str x
  | .lst xs => .list (pys xs)
  | .tup xs => .tuple (pys xs)
  | .ins _ _ => .dict []
  | .dic _ => .dict []
def pys : List D → List PyData
  | [] => []
  | d :: ds => py d :: pys ds
end
/-- plain data, nested at most n deep -/
def D.pl : Nat → D → Bool
  | _, .non => true
  | _, .bl _ => true
  | _, .int _ => true
  | _, .str _ => true
  | n + 1, .lst xs => xs.all (D.pl n)
  | n + 1, .tup xs => xs.all (D.pl n)
  | _, _ => false
def deq (a b : D) : Bool := PyData.eqv (py a) (py b)
def deqs (a b : List D) : Bool := PyData.eqvAll (pys a) (pys b)
mutual
theorem Rep.lay {K : PySem.W.Frag} {G : Hp} : ∀ {v : V} {d : D} {n : Nat}, Rep K G v d → D.pl n d = true → (py d).canLay0 = true ∧ (py d).depth ≤ n
  | _, _, _, .non, _ => ⟨by simp [py, PyData.canLay0], by simp [py, PyData.depth]⟩
  | _, _, _, .bl b, _ => ⟨by simp [py, PyData.canLay0], by simp [py, PyData.depth]⟩
  | _, _, _, .int i, _ => ⟨by simp [py, PyData.canLay0], by simp [py, PyData.depth]⟩
  | _, _, _, .str x h, _ => ⟨by simp [py, PyData.canLay0, h.2], by simp [py, PyData.depth]⟩
  | _, _, 0, .lst _ _, h => by simp [D.pl] at h
  | _, _, n + 1, .lst h r, hp => by
    have z := Reps.lay (n := n) r (by simpa [D.pl] using hp)
    exact ⟨by simp [py, PyData.canLay0, z.1], by simp only [py, PyData.depth]; omega⟩
  | _, _, 0, .tup _ _, h => by simp [D.pl] at h
  | _, _, n + 1, .tup h r, hp => by
    have z := Reps.lay (n := n) r (by simpa [D.pl] using hp)
    exact ⟨by simp [py, PyData.canLay0, z.1], by simp only [py, PyData.depth]; omega⟩
  | _, _, n, .ins _ _ _, h => by cases n <;> simp [D.pl] at h
  | _, _, n, .dic _ _, h => by cases n <;> simp [D.pl] at h
theorem Reps.lay {K : PySem.W.Frag} {G : Hp} : ∀ {vs : List V} {ds : List D} {n : Nat}, Reps K G vs ds → (∀ x ∈ ds, D.pl n x = true) → PyData.canLayAll0 (pys ds) = true ∧ PyData.depthAll (pys ds) ≤ n
  | _, _, _, .nil, _ => ⟨by simp [pys, PyData.canLayAll0], by simp [pys, PyData.depthAll]⟩
  | _, _, n, .cons h r, hp => by
    have a := h.lay (hp _ List.mem_cons_self)
    have b := Reps.lay (n := n) r fun x m => hp x (List.mem_cons_of_mem _ m)
    exact ⟨by simp [pys, PyData.canLayAll0, a.1, b.1], by simp only [pys, PyData.depthAll]; omega⟩
end
theorem Rep.shaped {K : PySem.W.Frag} {G : Hp} {v : V} {d : D} {n : Nat} (r : Rep K G v d) (h : D.pl n d = true) (hn : n ≤ 64) : SeqAt.shaped (py d) = true := by
  obtain ⟨a, b⟩ := r.lay h
  unfold SeqAt.shaped
  rw [a, Bool.true_and]
  exact decide_eq_true (by omega)
theorem deq_refl : ∀ {n : Nat} {d : D}, D.pl n d = true → deq d d = true
  | _, .non, _ => by simp [deq, py, PyData.eqv]
  | _, .bl _, _ => by simp [deq, py, PyData.eqv]
  | _, .int _, _ => by simp [deq, py, PyData.eqv]
  | _, .str _, _ => by simp [deq, py, PyData.eqv]
  | 0, .lst _, h => by simp [D.pl] at h
  | 0, .tup _, h => by simp [D.pl] at h
  | n, .ins _ _, h => by cases n <;> simp [D.pl] at h
  | n, .dic _, h => by cases n <;> simp [D.pl] at h
  | n + 1, .lst xs, h => by
    have q : ∀ ys : List D, ys.all (D.pl n) = true → PyData.eqvAll (pys ys) (pys ys) = true := by
      intro ys
      induction ys with
      | nil => intro _; simp [pys, PyData.eqvAll]
      | cons y ys ih =>
        intro hy
        rw [List.all_cons, Bool.and_eq_true] at hy
        have a : PyData.eqv (py y) (py y) = true := deq_refl hy.1
        simp [pys, PyData.eqvAll, a, ih hy.2]
    simp only [deq, py, PyData.eqv]
    exact q xs (by simpa [D.pl] using h)
  | n + 1, .tup xs, h => by
    have q : ∀ ys : List D, ys.all (D.pl n) = true → PyData.eqvAll (pys ys) (pys ys) = true := by
      intro ys
      induction ys with
      | nil => intro _; simp [pys, PyData.eqvAll]
      | cons y ys ih =>
        intro hy
        rw [List.all_cons, Bool.and_eq_true] at hy
        have a : PyData.eqv (py y) (py y) = true := deq_refl hy.1
        simp [pys, PyData.eqvAll, a, ih hy.2]
    simp only [deq, py, PyData.eqv]
    exact q xs (by simpa [D.pl] using h)
mutual
theorem Rep.dp {K : PySem.W.Frag} {G : Hp} : ∀ {v : V} {d : D} {n : Nat}, Rep K G v d → D.pl n d = true → Dp K G v (py d)
  | _, _, _, .non, _ => .non
  | _, _, _, .bl b, _ => .bl b
  | _, _, _, .int i, _ => .int i
  | _, _, _, .str x _, _ => .str x
  | _, _, 0, .lst _ _, h => by simp [D.pl] at h
  | _, _, n + 1, .lst h r, hp => .lst (.inl h) (Reps.dp (n := n) r (by simpa [D.pl] using hp))
  | _, _, 0, .tup _ _, h => by simp [D.pl] at h
  | _, _, n + 1, .tup h r, hp => .tup h (Reps.dp (n := n) r (by simpa [D.pl] using hp))
  | _, _, n, .ins _ _ _, h => by cases n <;> simp [D.pl] at h
  | _, _, n, .dic _ _, h => by cases n <;> simp [D.pl] at h
theorem Reps.dp {K : PySem.W.Frag} {G : Hp} : ∀ {vs : List V} {ds : List D} {n : Nat}, Reps K G vs ds → (∀ x ∈ ds, D.pl n x = true) → DpAll K G vs (pys ds)
  | _, _, _, .nil, _ => .nil
  | _, _, n, .cons h r, hp => .cons (h.dp (hp _ List.mem_cons_self)) (r.dp (n := n) fun x m => hp x (List.mem_cons_of_mem _ m))
end
theorem RepS.rep {K : PySem.W.Frag} {G H : Hp} {v : V} {d : D} (e : Same G H) (h : RepS K G H v d) : Rep K H v d := by
  cases d with
  | non => cases h; exact .non
  | bl b => cases h; exact .bl b
  | int i => cases h; exact .int i
  | str x => obtain ⟨rfl, q⟩ := h; exact .str x q
  | lst ds => obtain ⟨a, vs, rfl, q, r⟩ := h; exact .lst q (r.mono e)
  | tup ds => obtain ⟨a, vs, rfl, q, r⟩ := h; exact .tup q (r.mono e)
  | ins C fs => obtain ⟨a, dx, vs, rfl, q, r, z⟩ := h; exact .ins q (r.mono e) (z.mono e)
  | dic kvs => obtain ⟨a, vs, rfl, q, r⟩ := h; exact .dic q (r.mono e)
section
variable {X : Cx} {B : Base} {ex : XD} {ss : Sst} {M : Mem} {a b c e tg : Expr} {es : List Expr} {pos p p' : Pos} {Q : SV → Mem → Prop} {QB : Bool → Mem → Prop}
/-! ### ==, != -/
def eq20 (neg : Bool) (M : Mem) (x y : SV) (Q : SV → Mem → Prop) : Prop := with1 M x fun a => with1 M y fun b => (D.pl 60 a = true ∧ D.pl 60 b = true) ∧ Q (.dat (.bl (if neg then !deq a b else deq a b))) M
structure eq2 (neg : Bool) (M : Mem) (x y : SV) (Q : SV → Mem → Prop) : Prop where
  run : eq20 neg M x y Q
def eq2t0 (neg : Bool) (M : Mem) (x y : SV) (Q : Bool → Mem → Prop) : Prop := with1 M x fun a => with1 M y fun b => (D.pl 60 a = true ∧ D.pl 60 b = true) ∧ Q (if neg then !deq a b else deq a b) M
structure eq2t (neg : Bool) (M : Mem) (x y : SV) (Q : Bool → Mem → Prop) : Prop where
  run : eq2t0 neg M x y Q
theorem eq2_run {neg : Bool} {G : Hp} {A : List Addr} {H : Hp} {M : Mem} {x y : SV} {u v : V} {Q : SV → Mem → Prop} {Kq : VK} (w : Wd X.K B G A M H) (sx : SvOk X.K G A u x) (sy : SvOk X.K G A v y) (h : eq2 neg M x y Q) (k : VPost X.K B G A Q Kq) :
    ∃ d e, Dp X.K H u d ∧ Dp X.K H v e ∧ SeqAt.shaped d = true ∧ SeqAt.shaped e = true ∧ Kq (.bl (if neg then !PyData.eqv d e else PyData.eqv d e)) H := by
  obtain ⟨d1, g1, h⟩ := with1_get h.run
  obtain ⟨d2, g2, h⟩ := with1_get h
  have q1 := (sx.s w g1).rep w.gh
  have q2 := (sy.s w g2).rep w.gh
  exact ⟨py d1, py d2, q1.dp h.1.1, q2.dp h.1.2, q1.shaped h.1.1 (by omega), q2.shaped h.1.2 (by omega), k.flat .refl w (.bl _) h.2⟩
theorem eq2_t {neg : Bool} {M : Mem} {x y : SV} {Q : Bool → Mem → Prop} (h : eq2t neg M x y Q) : eq2 neg M x y fun z M3 => ∃ k, z = .dat (.bl k) ∧ Q k M3 := by
  obtain ⟨d1, g1, h⟩ := with1_get h.run
  obtain ⟨d2, g2, h⟩ := with1_get h
  exact ⟨with1_mk g1 (with1_mk g2 ⟨h.1, _, rfl, h.2⟩)⟩
theorem we_eq {k : Nat} (hr : Room k X.A) (h : WE X B ex a (fun x M1 => WE X B ex b (fun y M2 => eq2 false M2 x y Q) ss M1) ss M) : WE X B ex (.Compare a [.Eq] [b] pos) Q ss M :=
  we_cmp2 (f := eq2 false) (op_eqD hr.units) (nomark _) (fun G A H M x y u v Q Kq w sx sy h k => eq2_run w sx sy h k) h
theorem we_ne {k : Nat} (hr : Room k X.A) (h : WE X B ex a (fun x M1 => WE X B ex b (fun y M2 => eq2 true M2 x y Q) ss M1) ss M) : WE X B ex (.Compare a [.NotEq] [b] pos) Q ss M :=
  we_cmp2 (f := eq2 true) (op_neD hr.units) (nomark _) (fun G A H M x y u v Q Kq w sx sy h k => eq2_run w sx sy h k) h
theorem wt_eq {k : Nat} (hr : Room k X.A) (h : WE X B ex a (fun x M1 => WE X B ex b (fun y M2 => eq2t false M2 x y QB) ss M1) ss M) : WT X B ex (.Compare a [.Eq] [b] pos) QB ss M :=
  wt_cmp2 (f := eq2 false) (op_eqD hr.units) (nomark _) (fun G A H M x y u v Q Kq w sx sy h k => eq2_run w sx sy h k) (h.mono fun x M1 h1 => h1.mono fun y M2 h2 => eq2_t h2)
theorem wt_ne {k : Nat} (hr : Room k X.A) (h : WE X B ex a (fun x M1 => WE X B ex b (fun y M2 => eq2t true M2 x y QB) ss M1) ss M) : WT X B ex (.Compare a [.NotEq] [b] pos) QB ss M :=
  wt_cmp2 (f := eq2 true) (op_neD hr.units) (nomark _) (fun G A H M x y u v Q Kq w sx sy h k => eq2_run w sx sy h k) (h.mono fun x M1 h1 => h1.mono fun y M2 h2 => eq2_t h2)
/-! ### in -/
/-- what «x in y» answers -/
def inD0 (a b : D) (k : Bool → Prop) : Prop := match a, b with
  | .str x, .str z => k (!(Builtin.Str.occurrences z x 0 z.length 1).isEmpty)
  | a, .lst ds => (D.pl 60 a = true ∧ (ds.all (D.pl 60)) = true) ∧ k (ds.any fun z => deq z a)
  | a, .tup ds => (D.pl 0 a = true ∧ (ds.all (D.pl 0)) = true) ∧ k (ds.any fun z => deq z a)
  | _, _ => False
structure inD (a b : D) (k : Bool → Prop) : Prop where
  run : inD0 a b k
theorem inD_sign {c : Nat} {z : Str} {k : Bool → Prop} (h : k (decide (c ∈ z.cps.toList))) : inD (.str ⟨#[c]⟩) (.str z) k := by
  refine ⟨?_⟩
  show k (!(Builtin.Str.occurrences z ⟨#[c]⟩ 0 z.length 1).isEmpty)
  rw [PySem.StrLaws.found_one z c]
  exact h
theorem pl0_flat {K : PySem.W.Frag} {G : Hp} {v : V} {d : D} (r : Rep K G v d) (h : D.pl 0 d = true) : flatV v = true := by
  cases r <;> first | rfl | simp [D.pl] at h
theorem pl0_flats {K : PySem.W.Frag} {G : Hp} : ∀ {vs : List V} {ds : List D}, Reps K G vs ds → ds.all (D.pl 0) = true → vs.all flatV = true
  | _, _, .nil, _ => rfl
  | _, _, .cons h r, q => by
    rw [List.all_cons, Bool.and_eq_true] at q ⊢
    exact ⟨pl0_flat h q.1, pl0_flats r q.2⟩
theorem eqV_deq {K : PySem.W.Frag} {G : Hp} {u v : V} {d e : D} (r : Rep K G u d) (q : Rep K G v e) (h : D.pl 0 d = true) (h' : D.pl 0 e = true) : eqV u v = deq d e := by
  cases r <;> cases q <;> first | rfl | simp [D.pl] at h | simp [D.pl] at h' | (simp [eqV, deq, py, PyData.eqv])
theorem inV_deq {K : PySem.W.Frag} {G : Hp} {v : V} {e : D} (q : Rep K G v e) (h' : D.pl 0 e = true) : ∀ {vs : List V} {ds : List D}, Reps K G vs ds → ds.all (D.pl 0) = true → inV v vs = ds.any fun z => deq z e
  | _, _, .nil, _ => rfl
  | _, _, .cons h r, p => by
    rw [List.all_cons, Bool.and_eq_true] at p
    unfold inV
    rw [List.any_cons, List.any_cons, eqV_deq h q p.1 h']
    exact congrArg _ (inV_deq q h' r p.2)
theorem pys_any (a : D) : ∀ ds : List D, ((pys ds).any fun z => PyData.eqv z (py a)) = ds.any fun z => deq z a
  | [] => rfl
  | d :: ds => by
    show (PyData.eqv (py d) (py a) || _) = _
    rw [pys_any a ds]
    rfl
def in20 (neg : Bool) (M : Mem) (x y : SV) (Q : SV → Mem → Prop) : Prop := with1 M x fun a => with1 M y fun b => inD a b fun k => Q (.dat (.bl (if neg then !k else k))) M
structure in2 (neg : Bool) (M : Mem) (x y : SV) (Q : SV → Mem → Prop) : Prop where
  run : in20 neg M x y Q
def in2t0 (neg : Bool) (M : Mem) (x y : SV) (Q : Bool → Mem → Prop) : Prop := with1 M x fun a => with1 M y fun b => inD a b fun k => Q (if neg then !k else k) M
structure in2t (neg : Bool) (M : Mem) (x y : SV) (Q : Bool → Mem → Prop) : Prop where
  run : in2t0 neg M x y Q
theorem in2_t {neg : Bool} {M : Mem} {x y : SV} {Q : Bool → Mem → Prop} (h : in2t neg M x y Q) : in2 neg M x y fun z M3 => ∃ k, z = .dat (.bl k) ∧ Q k M3 := by
  obtain ⟨d1, g1, h⟩ := with1_get h.run
  obtain ⟨d2, g2, h⟩ := with1_get h
  refine ⟨with1_mk g1 (with1_mk g2 ⟨?_⟩)⟩
  have h := h.run
  cases d1 <;> cases d2 <;> first | exact h.elim | exact ⟨_, rfl, h⟩ | exact ⟨h.1, _, rfl, h.2⟩
theorem op_inAll (hu : X.A.units + 65 < cLine) : OpR X (compareOp .In) (fun x y H Q => (rInD X.K x y H Q ∨ rIn X.K false x y H Q) ∨ ∃ i j, x = .str i ∧ y = .str j ∧ Q (.bl (!(Builtin.Str.occurrences j i 0 j.length 1).isEmpty)) H) := OpR.or (OpR.or (op_inD hu) op_in_seq) op_in_str
theorem op_niAll (hu : X.A.units + 65 < cLine) : OpR X (compareOp .NotIn) (fun x y H Q => (rNotInD X.K x y H Q ∨ rIn X.K true x y H Q) ∨ ∃ i j, x = .str i ∧ y = .str j ∧ Q (.bl (!(!(Builtin.Str.occurrences j i 0 j.length 1).isEmpty))) H) := OpR.or (OpR.or (op_notInD hu) op_notIn_seq) op_notin_str
theorem in2_run {neg : Bool} {G : Hp} {A : List Addr} {H : Hp} {M : Mem} {x y : SV} {u v : V} {Q : SV → Mem → Prop} {Kq : VK} (w : Wd X.K B G A M H) (sx : SvOk X.K G A u x) (sy : SvOk X.K G A v y) (h : in2 neg M x y Q) (k : VPost X.K B G A Q Kq) :
    ((∃ d ds, Dp X.K H u d ∧ Dp X.K H v (.list ds) ∧ SeqAt.shaped d = true ∧ SeqAt.shaped (.list ds) = true ∧ Kq (.bl (if neg then !ds.any fun z => PyData.eqv z d else ds.any fun z => PyData.eqv z d)) H) ∨ rIn X.K neg u v H Kq) ∨
      ∃ i j, u = .str i ∧ v = .str j ∧ Kq (.bl (if neg then !(!(Builtin.Str.occurrences j i 0 j.length 1).isEmpty) else !(Builtin.Str.occurrences j i 0 j.length 1).isEmpty)) H := by
  obtain ⟨d1, g1, h⟩ := with1_get h.run
  obtain ⟨d2, g2, h⟩ := with1_get h
  have q1 := sx.s w g1
  have q2 := sy.s w g2
  have h := h.run
  cases d2 with
  | str z =>
    cases d1 <;> try exact h.elim
    obtain ⟨rfl, _⟩ := q1
    obtain ⟨rfl, _⟩ := q2
    exact .inr ⟨_, _, rfl, rfl, k.flat .refl w (.bl _) h⟩
  | lst ds =>
    have h' : (D.pl 60 d1 = true ∧ ds.all (D.pl 60) = true) ∧ Q (.dat (.bl (if neg then !(ds.any fun z => deq z d1) else ds.any fun z => deq z d1))) M := by cases d1 <;> exact h
    have r2 := q2.rep w.gh
    refine .inl (.inl ⟨py d1, pys ds, (q1.rep w.gh).dp h'.1.1, r2.dp (n := 61) h'.1.2, (q1.rep w.gh).shaped h'.1.1 (by omega), r2.shaped (n := 61) h'.1.2 (by omega), ?_⟩)
    rw [pys_any]
    exact k.flat .refl w (.bl _) h'.2
  | tup ds =>
    have h' : (D.pl 0 d1 = true ∧ ds.all (D.pl 0) = true) ∧ Q (.dat (.bl (if neg then !(ds.any fun z => deq z d1) else ds.any fun z => deq z d1))) M := by cases d1 <;> exact h
    obtain ⟨t, vs, rfl, ht, r⟩ := q2
    have r1 := q1.rep w.gh
    refine .inl (.inr ⟨t, vs, rfl, .inr ht, pl0_flat r1 h'.1.1, pl0_flats r h'.1.2, ?_⟩)
    rw [inV_deq r1 h'.1.1 (r.mono w.gh) h'.1.2]
    exact k.flat .refl w (.bl _) h'.2
  | _ => cases d1 <;> exact h.elim
theorem we_in {k : Nat} (hr : Room k X.A) (hm : behindInMarks .In b = false) (h : WE X B ex a (fun x M1 => WE X B ex b (fun y M2 => in2 false M2 x y Q) ss M1) ss M) : WE X B ex (.Compare a [.In] [b] pos) Q ss M :=
  we_cmp2 (f := in2 false) (op_inAll (by have := hr.un; omega)) hm (fun G A H M x y u v Q Kq w sx sy h k => in2_run w sx sy h k) h
theorem we_ni {k : Nat} (hr : Room k X.A) (hm : behindInMarks .NotIn b = false) (h : WE X B ex a (fun x M1 => WE X B ex b (fun y M2 => in2 true M2 x y Q) ss M1) ss M) : WE X B ex (.Compare a [.NotIn] [b] pos) Q ss M :=
  we_cmp2 (f := in2 true) (op_niAll (by have := hr.un; omega)) hm (fun G A H M x y u v Q Kq w sx sy h k => in2_run w sx sy h k) h
theorem wt_in {k : Nat} (hr : Room k X.A) (hm : behindInMarks .In b = false) (h : WE X B ex a (fun x M1 => WE X B ex b (fun y M2 => in2t false M2 x y QB) ss M1) ss M) : WT X B ex (.Compare a [.In] [b] pos) QB ss M :=
  wt_cmp2 (f := in2 false) (op_inAll (by have := hr.un; omega)) hm (fun G A H M x y u v Q Kq w sx sy h k => in2_run w sx sy h k) (h.mono fun x M1 h1 => h1.mono fun y M2 h2 => in2_t h2)
theorem wt_ni {k : Nat} (hr : Room k X.A) (hm : behindInMarks .NotIn b = false) (h : WE X B ex a (fun x M1 => WE X B ex b (fun y M2 => in2t true M2 x y QB) ss M1) ss M) : WT X B ex (.Compare a [.NotIn] [b] pos) QB ss M :=
  wt_cmp2 (f := in2 true) (op_niAll (by have := hr.un; omega)) hm (fun G A H M x y u v Q Kq w sx sy h k => in2_run w sx sy h k) (h.mono fun x M1 h1 => h1.mono fun y M2 h2 => in2_t h2)
/-! ### is None -/
def isN (x : SV) : Bool := match x with
  | .dat .non => true
  | _ => false
/-- known to be None or known not to be -/
def SV.told : SV → Bool
  | .dat _ => true
  | .cel _ => true
  | .raw _ => false
  | .exc _ _ _ => false
  | .tup _ => false
  | .xt _ => false
theorem isN_dec {K : PySem.W.Frag} {G : Hp} {A : List Addr} {v : V} {x : SV} (h : SvOk K G A v x) (ht : x.told = true) : decide (v = .non) = isN x := by
  cases x with
  | raw u => simp [SV.told] at ht
  | exc u v w => simp [SV.told] at ht
  | tup xs => simp [SV.told] at ht
  | xt ds => simp [SV.told] at ht
  | cel i => obtain ⟨a, rfl, _⟩ := h; rfl
  | dat d => cases h <;> rfl
theorem we_isN {j : Nat} (h : WE X B ex a (fun x M1 => x.told = true ∧ Q (.dat (.bl (isN x))) M1) ss M) : WE X B ex (.Compare a [.Is] [.Constant .none j p] pos) Q ss M := .mk fun ck G A H σ w sl Kq k => by
  refine te_of (pe_cmpR op_isN pe_self pe_non (nomark _)) ?_
  refine h ck G A H σ w sl _ fun u x G1 A1 M1 H1 e1 w1 s1 h1 => ⟨rfl, ?_⟩
  rw [isN_dec s1 h1.1]
  exact k _ (.dat _) G1 A1 M1 H1 e1 w1 (Rep.bl _) h1.2
theorem we_notN {j : Nat} (h : WE X B ex a (fun x M1 => x.told = true ∧ Q (.dat (.bl (!isN x))) M1) ss M) : WE X B ex (.Compare a [.IsNot] [.Constant .none j p] pos) Q ss M := .mk fun ck G A H σ w sl Kq k => by
  refine te_of (pe_cmpR op_notN pe_self pe_non (nomark _)) ?_
  refine h ck G A H σ w sl _ fun u x G1 A1 M1 H1 e1 w1 s1 h1 => ⟨rfl, ?_⟩
  rw [isN_dec s1 h1.1]
  exact k _ (.dat _) G1 A1 M1 H1 e1 w1 (Rep.bl _) h1.2
/-! ### tests -/
theorem WT.mono {Q' : Bool → Mem → Prop} (h : WT X B ex e QB ss M) (m : ∀ b M', QB b M' → Q' b M') : WT X B ex e Q' ss M := .mk fun ck G A H σ w sl Kq k =>
  h ck G A H σ w sl Kq fun b G' A' M' H' e w' q => k b G' A' M' H' e w' (m _ _ q)
/-- a value that is a bool, as a test (a call, a comparison, a name ..) -/
theorem wt_val (h : WE X B ex e (fun x M1 => ∃ k, x = .dat (.bl k) ∧ QB k M1) ss M) (he : ∀ whole, isTrue e X.env whole = (do let v ← whole; standAt e.pos; holding [v] (truthy v)) := by intro _; rfl) : WT X B ex e QB ss M := .mk fun ck G A H σ w sl Kq k => by
  refine tt_of (pt_val pe_self he) ?_
  refine h ck G A H σ w sl _ fun u x G1 A1 M1 H1 e1 w1 s1 h1 => ?_
  obtain ⟨i, rfl, q⟩ := h1
  cases s1
  exact ⟨i, rfl, k i G1 A1 M1 H1 e1 w1 q⟩
/-- a value's truth -/
def truD : D → Bool
  | .non => false
  | .bl b => b
  | .int i => i != 0
  | .str y => (y.length : Int) != 0
  | .lst ds => !ds.isEmpty
  | .tup ds => !ds.isEmpty
  | .dic kvs => !kvs.isEmpty
  | .ins _ _ => true
def D.isIns : D → Bool
  | .ins _ _ => true
  | _ => false
theorem isEmpty_reps {K : PySem.W.Frag} {G : Hp} {vs : List V} {ds : List D} (r : Reps K G vs ds) : (!ds.isEmpty) = !vs.isEmpty := by cases r <;> rfl
theorem isEmpty_repk {K : PySem.W.Frag} {G : Hp} {vs : List (Key × V)} {ds : List (Key × D)} (r : RepK K G vs ds) : (!ds.isEmpty) = !vs.isEmpty := by cases r <;> rfl
theorem tru_run {G : Hp} {A : List Addr} {H : Hp} {x : SV} {v : V} {d : D} (w : Wd X.K B G A M H) (s : SvOk X.K G A v x) (g : x.get M = some d) (hi : d.isIns = false) : TruV X.K v H (truD d) := by
  have q := s.s w g
  cases d with
  | non => cases q; rfl
  | bl b => cases q; rfl
  | int i => cases q; rfl
  | str y => obtain ⟨rfl, z⟩ := q; exact ⟨z.1, rfl⟩
  | lst ds => obtain ⟨a, vs, rfl, q, r⟩ := q; exact .inl ⟨vs, .inl q, isEmpty_reps r⟩
  | tup ds => obtain ⟨a, vs, rfl, q, r⟩ := q; exact .inr (.inl ⟨vs, q, isEmpty_reps r⟩)
  | dic ds => obtain ⟨a, vs, rfl, q, r⟩ := q; exact .inr (.inr ⟨vs, q, isEmpty_repk r⟩)
  | ins C fs => simp [D.isIns] at hi
theorem wt_truth (h : WE X B ex e (fun x M1 => with1 M1 x fun d => d.isIns = false ∧ QB (truD d) M1) ss M) (he : ∀ whole, isTrue e X.env whole = (do let v ← whole; standAt e.pos; holding [v] (truthy v)) := by intro _; rfl) : WT X B ex e QB ss M := .mk fun ck G A H σ w sl Kq k => by
  refine tt_of (pt_truth pe_self he) ?_
  refine h ck G A H σ w sl _ fun u x G1 A1 M1 H1 e1 w1 s1 h1 => ?_
  obtain ⟨d, g, h1⟩ := with1_get h1
  exact ⟨_, tru_run w1 s1 g h1.1, k _ G1 A1 M1 H1 e1 w1 h1.2⟩
theorem wt_not (h : WT X B ex e (fun b M1 => QB (!b) M1) ss M) : WT X B ex (.UnaryOp .Not e pos) QB ss M := .mk fun ck G A H σ w sl Kq k => by
  refine tt_of (pt_not pt_self) ?_
  exact h ck G A H σ w sl _ fun b G1 A1 M1 H1 e1 w1 h1 => k _ G1 A1 M1 H1 e1 w1 h1
theorem wt_w (h : WW X B ex e QB ss M) : WT X B ex e QB ss M := .mk fun ck G A H σ w sl Kq k => tt_of pw_self.pt (h ck G A H σ w sl Kq k)
theorem ww_and1 (h : WT X B ex e QB ss M) : WW X B ex (.BoolOp .And [e] pos) QB ss M := .mk fun ck G A H σ w sl Kq k => tw_of (pw_and1 pt_self) (h ck G A H σ w sl Kq k)
theorem ww_or1 (h : WT X B ex e QB ss M) : WW X B ex (.BoolOp .Or [e] pos) QB ss M := .mk fun ck G A H σ w sl Kq k => tw_of (pw_or1 pt_self) (h ck G A H σ w sl Kq k)
theorem ww_and (h : WT X B ex a (fun x M1 => if x = true then WW X B ex (.BoolOp .And (b :: es) pos) QB ss M1 else QB false M1) ss M) : WW X B ex (.BoolOp .And (a :: b :: es) pos) QB ss M := .mk fun ck G A H σ w sl Kq k => by
  refine tw_of (pw_and pt_self pw_self) ?_
  refine h ck G A H σ w sl _ fun x G1 A1 M1 H1 e1 w1 h1 => ?_
  cases x with
  | true => rw [if_pos rfl] at h1 ⊢; exact h1 ck G1 A1 H1 σ w1 (sl.mono e1) _ fun y G2 A2 M2 H2 e2 w2 h2 => k y G2 A2 M2 H2 (e1.trans e2) w2 h2
  | false => rw [if_neg Bool.false_ne_true] at h1 ⊢; exact k _ G1 A1 M1 H1 e1 w1 h1
theorem ww_or (h : WT X B ex a (fun x M1 => if x = true then QB true M1 else WW X B ex (.BoolOp .Or (b :: es) pos) QB ss M1) ss M) : WW X B ex (.BoolOp .Or (a :: b :: es) pos) QB ss M := .mk fun ck G A H σ w sl Kq k => by
  refine tw_of (pw_or pt_self pw_self) ?_
  refine h ck G A H σ w sl _ fun x G1 A1 M1 H1 e1 w1 h1 => ?_
  cases x with
  | false => rw [if_neg Bool.false_ne_true] at h1 ⊢; exact h1 ck G1 A1 H1 σ w1 (sl.mono e1) _ fun y G2 A2 M2 H2 e2 w2 h2 => k y G2 A2 M2 H2 (e1.trans e2) w2 h2
  | true => rw [if_pos rfl] at h1 ⊢; exact k _ G1 A1 M1 H1 e1 w1 h1
/-! ### .. as values (bools) -/
theorem we_one {op} (h : WE X B ex e Q ss M) : WE X B ex (.BoolOp op [e] pos) Q ss M := .mk fun ck G A H σ w sl Kq k => te_of (pe_one pe_self) (h ck G A H σ w sl Kq k)
theorem we_and (h : WE X B ex a (fun x M1 => ∃ k, x = .dat (.bl k) ∧ if k = true then WE X B ex (.BoolOp .And (b :: es) pos) Q ss M1 else Q (.dat (.bl false)) M1) ss M) : WE X B ex (.BoolOp .And (a :: b :: es) pos) Q ss M := .mk fun ck G A H σ w sl Kq k => by
  refine te_of (pe_and pe_self pe_self) ?_
  refine h ck G A H σ w sl _ fun u x G1 A1 M1 H1 e1 w1 s1 h1 => ?_
  obtain ⟨i, rfl, h1⟩ := h1
  cases s1
  refine ⟨i, rfl, ?_⟩
  cases i with
  | true => rw [if_pos rfl] at h1 ⊢; exact h1 ck G1 A1 H1 σ w1 (sl.mono e1) _ fun v y G2 A2 M2 H2 e2 w2 s2 h2 => k v y G2 A2 M2 H2 (e1.trans e2) w2 s2 h2
  | false => rw [if_neg Bool.false_ne_true] at h1 ⊢; exact k _ (.dat _) G1 A1 M1 H1 e1 w1 (Rep.bl _) h1
theorem we_or (h : WE X B ex a (fun x M1 => ∃ k, x = .dat (.bl k) ∧ if k = true then Q (.dat (.bl true)) M1 else WE X B ex (.BoolOp .Or (b :: es) pos) Q ss M1) ss M) : WE X B ex (.BoolOp .Or (a :: b :: es) pos) Q ss M := .mk fun ck G A H σ w sl Kq k => by
  refine te_of (pe_or pe_self pe_self) ?_
  refine h ck G A H σ w sl _ fun u x G1 A1 M1 H1 e1 w1 s1 h1 => ?_
  obtain ⟨i, rfl, h1⟩ := h1
  cases s1
  refine ⟨i, rfl, ?_⟩
  cases i with
  | false => rw [if_neg Bool.false_ne_true] at h1 ⊢; exact h1 ck G1 A1 H1 σ w1 (sl.mono e1) _ fun v y G2 A2 M2 H2 e2 w2 s2 h2 => k v y G2 A2 M2 H2 (e1.trans e2) w2 s2 h2
  | true => rw [if_pos rfl] at h1 ⊢; exact k _ (.dat _) G1 A1 M1 H1 e1 w1 (Rep.bl _) h1
theorem we_not (h : WE X B ex e (fun x M1 => ∃ k, x = .dat (.bl k) ∧ Q (.dat (.bl (!k))) M1) ss M) : WE X B ex (.UnaryOp .Not e pos) Q ss M := .mk fun ck G A H σ w sl Kq k => by
  refine te_of (pe_not pe_self) ?_
  refine h ck G A H σ w sl _ fun u x G1 A1 M1 H1 e1 w1 s1 h1 => ?_
  obtain ⟨i, rfl, h1⟩ := h1
  cases s1
  exact ⟨i, rfl, k _ (.dat _) G1 A1 M1 H1 e1 w1 (Rep.bl _) h1⟩
theorem we_ifx (h : WT X B ex c (fun x M1 => if x = true then WE X B ex a Q ss M1 else WE X B ex b Q ss M1) ss M) : WE X B ex (.IfExp c a b pos) Q ss M := .mk fun ck G A H σ w sl Kq k => by
  refine te_of (pe_ifExp pt_self pe_self pe_self) ?_
  refine h ck G A H σ w sl _ fun x G1 A1 M1 H1 e1 w1 h1 => ?_
  cases x with
  | true => rw [if_pos rfl] at h1 ⊢; exact h1 ck G1 A1 H1 σ w1 (sl.mono e1) _ fun v y G2 A2 M2 H2 e2 w2 s2 h2 => k v y G2 A2 M2 H2 (e1.trans e2) w2 s2 h2
  | false => rw [if_neg Bool.false_ne_true] at h1 ⊢; exact h1 ck G1 A1 H1 σ w1 (sl.mono e1) _ fun v y G2 A2 M2 H2 e2 w2 s2 h2 => k v y G2 A2 M2 H2 (e1.trans e2) w2 s2 h2
/-! ### a <= b <= c, ints -/
theorem wt_chain {op op' : CmpOp} {g g' : Int → Int → Bool} (ho : OpR X (compareOp op) (rI0 fun i j => .bl (g i j))) (ho' : OpR X (compareOp op') (rI0 fun i j => .bl (g' i j)))
    (h : WE X B ex a (fun x M1 => WE X B ex b (fun y M2 => ∃ i j, x = .dat (.int i) ∧ y = .dat (.int j) ∧ if g i j = true then WE X B ex c (fun z M3 => ∃ n, z = .dat (.int n) ∧ QB (g' j n) M3) ss M2 else QB false M2) ss M1) ss M)
    (hm : lastMarks [op, op'] [b, c] = false := by with_unfolding_all rfl) : WT X B ex (.Compare a [op, op'] [b, c] pos) QB ss M := .mk fun ck G A H σ w sl Kq k => by
  refine tt_of (pt_chain ho ho' pe_self pe_self pe_self hm) ?_
  refine h ck G A H σ w sl _ fun u x G1 A1 M1 H1 e1 w1 s1 h1 => ?_
  refine h1 ck G1 A1 H1 σ w1 (sl.mono e1) _ fun v y G2 A2 M2 H2 e2 w2 s2 h2 => ?_
  obtain ⟨i, j, rfl, rfl, h2⟩ := h2
  cases s1
  cases s2
  refine ⟨i, j, rfl, rfl, _, rfl, ?_⟩
  by_cases hc : g i j = true
  · rw [if_pos hc] at h2 ⊢
    refine h2 ck G2 A2 H2 σ w2 ((sl.mono e1).mono e2) _ fun v z G3 A3 M3 H3 e3 w3 s3 h3 => ?_
    obtain ⟨n, rfl, h3⟩ := h3
    cases s3
    exact ⟨j, n, rfl, rfl, _, rfl, k _ G3 A3 M3 H3 ((e1.trans e2).trans e3) w3 h3⟩
  · rw [if_neg hc] at h2 ⊢
    exact ⟨false, rfl, k _ G2 A2 M2 H2 (e1.trans e2) w2 h2⟩
end
end Mb

/-! Mb, part 6: arguments, displays, calls. -/
namespace Mb
open PySem L2 PyProof.Rows
/-- all are data -/
def datsOf : List SV → Option (List D)
  | [] => some []
  | .dat d :: r => (datsOf r).map (d :: ·)
  | _ :: _ => none
def withs0 (xs : List SV) (k : List D → Prop) : Prop := match datsOf xs with
  | some ds => k ds
  | none => False
structure withs (xs : List SV) (k : List D → Prop) : Prop where
  run : withs0 xs k
theorem withs_get {xs : List SV} {k : List D → Prop} (h : withs xs k) : ∃ ds, datsOf xs = some ds ∧ k ds := by
  have h := h.run
  unfold withs0 at h
  cases e : datsOf xs with
  | none => simp [e] at h
  | some d => simp [e] at h; exact ⟨d, rfl, h⟩
theorem Svs.reps {K : PySem.W.Frag} {G : Hp} {A : List Addr} : ∀ {vs : List V} {xs : List SV} {ds : List D}, Svs K G A vs xs → datsOf xs = some ds → Reps K G vs ds
  | _, _, _, .nil, e => by simp [datsOf] at e; subst e; exact .nil
  | _, _, ds, .cons (x := x) h r, e => by
    cases x with
    | cel i => simp [datsOf] at e
    | raw u => simp [datsOf] at e
    | exc u v w => simp [datsOf] at e
    | tup xs => simp [datsOf] at e
    | xt xs => simp [datsOf] at e
    | dat d =>
      simp only [datsOf, Option.map_eq_some_iff] at e
      obtain ⟨rs, e1, rfl⟩ := e
      exact .cons h (r.reps e1)
section
variable {K : PySem.W.Frag} {B : Base} {G : Hp} {A : List Addr} {M : List Cell} {H : Hp}
/-- a list of ours is never changed again -/
theorem Wd.freeze (w : Wd K B G A M H) {i : Nat} {a : Addr} {ds : List D} (hi : A[i]? = some a) (hb : B.A.length ≤ i) (hM : M[i]? = some (.lst ds)) :
    ∃ G', Wd K B G' A (M.set i .dead) H ∧ Ext G A G' A ∧ Rep K G' (.ref a) (.lst ds) := by
  obtain ⟨gn, vs, hv, r⟩ := w.cl.get hi hM
  have s1 : Same G (upd G a (.lst vs)) := same_upd gn
  have ex : Ext G A (upd G a (.lst vs)) A := ⟨s1, [], by simp⟩
  have hA : a ∈ A := List.mem_of_getElem? hi
  have hnB : B.H a = Option.none := by
    rcases w.an a hA with q | q
    · exfalso
      obtain ⟨more, e⟩ := w.pre
      obtain ⟨j, hj, ej⟩ := List.mem_iff_getElem.mp q
      have h1 : A[j]? = some a := by rw [e, List.getElem?_append_left hj, List.getElem?_eq_getElem hj, ej]
      have := nd_ix w.nd hi h1
      omega
    · exact q
  refine ⟨upd G a (.lst vs), ⟨w.gg.trans s1, fun b u e => ?_, w.fr, fun b u e => ?_, w.nd, w.pre, w.there, w.an, ?_⟩, ex, .lst (.inl upd_same) (r.mono s1)⟩
  · by_cases c : b = a
    · subst c; rw [upd_same] at e; rw [← e]; exact hv
    · rw [upd_ne c] at e; exact w.gh b u e
  · by_cases c : b = a
    · subst c; exact .inr hnB
    · rw [upd_ne c] at e; exact w.fresh b u e
  · have go : ∀ {as : List Addr} {cs : List Cell} {i : Nat}, as.Nodup → Cells K G A H as cs → as[i]? = some a → Cells K (upd G a (.lst vs)) A H as (cs.set i .dead) := by
      intro as cs i nd q
      induction q generalizing i with
      | nil => intro e; simp at e
      | @cons b as c cs h r ih =>
        intro e
        cases i with
        | zero =>
          simp at e
          subst e
          refine .cons trivial (r.imp fun x y m q => q.keep ex (fun g => ?_) fun _ e => e)
          rw [upd_ne (show x ≠ b from fun z => (List.nodup_cons.mp nd).1 (z ▸ m))]; exact g
        | succ j =>
          have e' : as[j]? = some a := by simpa using e
          have hp : a ∈ as := List.mem_of_getElem? e'
          refine .cons (h.keep ex (fun g => ?_) fun _ e => e) (ih (List.nodup_cons.mp nd).2 e')
          rw [upd_ne (show b ≠ a from fun z => (List.nodup_cons.mp nd).1 (z ▸ hp))]; exact g
    exact go w.nd w.cl hi
end
/-! ### cells of a caller and a callee -/
def FV.sh (n m : Nat) : FV → FV
  | .cel j => if j < n then .cel j else .cel (j - n + m)
  | x => x
def SV.sh (n m : Nat) : SV → SV
  | .cel j => if j < n then .cel j else .cel (j - n + m)
  | .tup xs => .tup (xs.map (FV.sh n m))
  | x => x
theorem FvOk.sh {K : PySem.W.Frag} {G : Hp} {A more : List Addr} {v : V} {x : FV} {n : Nat} (hn : n ≤ A.length) (h : FvOk K G (A.take n ++ more) v x) : FvOk K G (A ++ more) v (x.sh n A.length) := by
  cases x with
  | dat d => exact h
  | cel j =>
    obtain ⟨a, h1, h2⟩ := h
    have hl : (A.take n).length = n := by rw [List.length_take]; omega
    unfold FV.sh
    by_cases c : j < n
    · simp only [c, if_true]
      refine ⟨a, h1, ?_⟩
      rw [List.getElem?_append_left (by omega)] at h2
      rw [List.getElem?_append_left (by omega)]
      rw [List.getElem?_take, if_pos c] at h2
      exact h2
    · simp only [c, if_false]
      refine ⟨a, h1, ?_⟩
      rw [List.getElem?_append_right (by omega), hl] at h2
      rw [List.getElem?_append_right (by omega)]
      rw [show j - n + A.length - A.length = j - n by omega]
      exact h2
theorem Fvs.sh {K : PySem.W.Frag} {G : Hp} {A more : List Addr} {n : Nat} (hn : n ≤ A.length) : ∀ {vs : List V} {xs : List FV}, Fvs K G (A.take n ++ more) vs xs → Fvs K G (A ++ more) vs (xs.map (FV.sh n A.length))
  | _, _, .nil => .nil
  | _, _, .cons h r => .cons (h.sh hn) (r.sh hn)
theorem SvOk.sh {K : PySem.W.Frag} {G : Hp} {A more : List Addr} {v : V} {x : SV} {n : Nat} (hn : n ≤ A.length) (h : SvOk K G (A.take n ++ more) v x) : SvOk K G (A ++ more) v (x.sh n A.length) := by
  cases x with
  | dat d => exact h
  | raw u => exact h
  | exc u v w => exact h
  | xt ds => exact h
  | tup xs =>
    obtain ⟨a, vs, h1, h2, h3⟩ := h
    exact ⟨a, vs, h1, h2, h3.sh hn⟩
  | cel j =>
    obtain ⟨a, h1, h2⟩ := h
    have hl : (A.take n).length = n := by rw [List.length_take]; omega
    unfold SV.sh
    by_cases c : j < n
    · simp only [c, if_true]
      refine ⟨a, h1, ?_⟩
      rw [List.getElem?_append_left (by omega)] at h2
      rw [List.getElem?_append_left (by omega)]
      rw [List.getElem?_take, if_pos c] at h2
      exact h2
    · simp only [c, if_false]
      refine ⟨a, h1, ?_⟩
      rw [List.getElem?_append_right (by omega), hl] at h2
      rw [List.getElem?_append_right (by omega)]
      rw [show j - n + A.length - A.length = j - n by omega]
      exact h2
/-- what the call's end leaves the caller -/
theorem Wd.back {K : PySem.W.Frag} {B : Base} {G : Hp} {A : List Addr} {M : List Cell} {H : Hp} (w : Wd K B G A M H) {n : Nat} (hn : n ≤ M.length) {G' : Hp} {A' : List Addr} {M' : List Cell} {H' : Hp} (w' : Wd K ⟨G, A.take n, H⟩ G' A' M' H') (hl : M'.all (Cell.lt n) = true) :
    ∃ more, A' = A.take n ++ more ∧ Wd K B G' (A ++ more) (M'.take n ++ M.drop n ++ M'.drop n) H' ∧ Ext G A G' (A ++ more) := by
  obtain ⟨more, e⟩ := w'.pre
  have e : A' = A.take n ++ more := e
  subst e
  have hA := w.len
  have hlen : (A.take n).length = n := by rw [List.length_take]; omega
  have ex : Ext G A G' (A ++ more) := ⟨w'.gg, more, rfl⟩
  have hnew : ∀ b ∈ more, H b = Option.none := fun b m => by
    rcases w'.an b (List.mem_append_right _ m) with q | q
    · exfalso
      exact (List.nodup_append.mp w'.nd).2.2 b q b m rfl
    · exact q
  have hold : ∀ b, b ∈ A → b ∉ A.take n → ∀ o, H b = some o → H' b = some o := fun b m nm o e => w'.fr b o e nm
  refine ⟨more, rfl, ⟨w.gg.trans w'.gg, w'.gh, fun b o e nb => ?_, fun b o e => ?_, ?_, ?_, fun b m => ?_, fun b m => ?_, ?_⟩, ex⟩
  · have e1 := w.fr b o e nb
    by_cases c : b ∈ A.take n
    · exfalso
      rcases w.an b (List.mem_of_mem_take c) with q | q
      · exact nb q
      · rw [q] at e; cases e
    · exact w'.fr b o e1 c
  · rcases w'.fresh b o e with q | q
    · exact w.fresh b o q
    · exact .inr (w.none q).1
  · refine List.nodup_append.mpr ⟨w.nd, (List.nodup_append.mp w'.nd).2.1, fun x hx y hy z => ?_⟩
    subst z
    obtain ⟨o, e⟩ := w.there x hx
    rw [hnew x hy] at e; cases e
  · obtain ⟨m0, e⟩ := w.pre
    exact ⟨m0 ++ more, by rw [e]; simp⟩
  · rcases List.mem_append.mp m with m | m
    · by_cases c : b ∈ A.take n
      · exact w'.there b (List.mem_append_left _ c)
      · obtain ⟨o, e⟩ := w.there b m
        exact ⟨o, hold b m c o e⟩
    · exact w'.there b (List.mem_append_right _ m)
  · rcases List.mem_append.mp m with m | m
    · exact w.an b m
    · exact .inr (w.none (hnew b m)).1
  · have c1 : Cells K G' (A ++ more) H' (A.take n) (M'.take n) := by
      have q := (w'.cl.take n)
      rw [List.take_append_of_le_length (by omega), List.take_take, Nat.min_self] at q
      have q2 := Cells.cut (k := n) (by
        have := hl
        rw [← List.take_append_drop n M', List.all_append, Bool.and_eq_true] at this
        exact this.1) q
      rw [List.take_append_of_le_length (by omega), List.take_take, Nat.min_self] at q2
      refine q2.imp fun a c m h => h.keep ⟨fun _ _ e => e, ?_⟩ (fun g => g) fun _ e => e
      exact ⟨A.drop n ++ more, by rw [← List.append_assoc, List.take_append_drop]⟩
    have c2 : Cells K G' (A ++ more) H' (A.drop n) (M.drop n) := by
      refine (w.cl.drop n).imp fun a c m h => h.keep ex (fun g => ?_) fun o e => ?_
      · cases e : G' a with
        | none => rfl
        | some o =>
          rcases w'.fresh a o e with q | q
          · have q : G a = some o := q
            rw [g] at q; cases q
          · obtain ⟨o', e'⟩ := w.there a (List.mem_of_mem_drop m)
            have q : H a = Option.none := q
            rw [q] at e'; cases e'
      · refine hold a (List.mem_of_mem_drop m) (fun z => ?_) o e
        have nd := w.nd
        rw [← List.take_append_drop n A] at nd
        exact (List.nodup_append.mp nd).2.2 a z a m rfl
    have c3 : Cells K G' (A ++ more) H' more (M'.drop n) := by
      have q := (w'.cl.drop n)
      rw [List.drop_append_of_le_length (by omega), List.drop_take, Nat.sub_self, List.take_zero, List.nil_append] at q
      have q2 := Cells.cut (k := n) (by
        have := hl
        rw [← List.take_append_drop n M', List.all_append, Bool.and_eq_true] at this
        exact this.2) q
      rw [List.take_append_of_le_length (by omega), List.take_take, Nat.min_self] at q2
      refine q2.imp fun a c m h => h.keep ⟨fun _ _ e => e, ?_⟩ (fun g => g) fun _ e => e
      exact ⟨A.drop n ++ more, by rw [← List.append_assoc, List.take_append_drop]⟩
    have := (c1.append c2).append c3
    rw [List.take_append_drop] at this
    exact this
section
variable {X : Cx} {B : Base} {ex : XD} {ss : Sst} {M : Mem} {a b c e tg o : Expr} {es : List Expr} {pos p p' apos : Pos} {Q : SV → Mem → Prop} {QB : Bool → Mem → Prop}
/-- a list of ours, handed on as data -/
theorem WE.frz (h : WE X B ex e (fun x M1 => ∃ i ds, x = .cel i ∧ B.A.length ≤ i ∧ M1[i]? = some (.lst ds) ∧ Q (.dat (.lst ds)) (M1.set i .dead)) ss M) : WE X B ex e Q ss M := .mk fun ck G A H σ w sl Kq k =>
  h ck G A H σ w sl Kq fun v x G1 A1 M1 H1 e1 w1 s1 h1 => by
    obtain ⟨i, ds, rfl, hb, hM, q⟩ := h1
    obtain ⟨l, rfl, hl⟩ := s1
    obtain ⟨G2, w2, e2, r⟩ := w1.freeze hl hb hM
    exact k _ (.dat _) G2 A1 _ H1 (e1.trans e2) w2 r q
/-! ### arguments -/
theorem wa_nil {Q : List SV → Mem → Prop} (q : Q [] M) : WA X B ex [] Q ss M := .mk fun ck G A H σ w sl Kq k => ta_of pa_nil (k [] [] G A M H .refl w .nil q)
theorem wa_cons {Q : List SV → Mem → Prop} (h : WE X B ex e (fun x M1 => WA X B ex es (fun xs M2 => Q (x :: xs) M2) ss M1) ss M) (hs : starEach (e :: es) X.env = (false, eval e X.env) :: starEach es X.env := by rfl) : WA X B ex (e :: es) Q ss M := .mk fun ck G A H σ w sl Kq k => by
  refine ta_of (pa_cons pe_self pa_self hs) ?_
  refine h ck G A H σ w sl _ fun v x G1 A1 M1 H1 e1 w1 s1 h1 => ?_
  refine h1 ck G1 A1 H1 σ w1 (sl.mono e1) _ fun vs xs G2 A2 M2 H2 e2 w2 s2 h2 => ?_
  exact k (v :: vs) (x :: xs) G2 A2 M2 H2 (e1.trans e2) w2 (.cons (s1.mono e2) s2) h2
/-! ### displays -/
theorem we_tup {j : Nat} (h : WA X B ex es (fun xs M1 => withs xs fun ds => ds.length ≤ sizeLine ∧ Q (.dat (.tup ds)) M1) ss M) : WE X B ex (.Tuple es j pos) Q ss M := .mk fun ck G A H σ w sl Kq k => by
  refine te_of (pe_tup pa_self) ?_
  refine h ck G A H σ w sl _ fun vs xs G1 A1 M1 H1 e1 w1 s1 h1 => ?_
  obtain ⟨ds, hd, hz, q⟩ := withs_get h1
  have r := s1.reps hd
  exact ⟨by rw [r.length]; exact hz, k.new e1 w1 q fun p hp => .tup (.of upd_same) (r.mono (same_upd (w1.none hp).2.2))⟩
theorem we_lst (h : WA X B ex es (fun xs M1 => withs xs fun ds => ds.length ≤ sizeLine ∧ Q (.dat (.lst ds)) M1) ss M) : WE X B ex (.List es pos) Q ss M := .mk fun ck G A H σ w sl Kq k => by
  refine te_of (pe_lst pa_self) ?_
  refine h ck G A H σ w sl _ fun vs xs G1 A1 M1 H1 e1 w1 s1 h1 => ?_
  obtain ⟨ds, hd, hz, q⟩ := withs_get h1
  have r := s1.reps hd
  exact ⟨by rw [r.length]; exact hz, k.new e1 w1 q fun p hp => .lst (.inl upd_same) (r.mono (same_upd (w1.none hp).2.2))⟩
/-- .. a list that will be changed -/
theorem we_lstC (h : WA X B ex es (fun xs M1 => withs xs fun ds => ds.length ≤ sizeLine ∧ Q (.cel M1.length) (M1 ++ [.lst ds])) ss M) : WE X B ex (.List es pos) Q ss M := .mk fun ck G A H σ w sl Kq k => by
  refine te_of (pe_lst pa_self) ?_
  refine h ck G A H σ w sl _ fun vs xs G1 A1 M1 H1 e1 w1 s1 h1 => ?_
  obtain ⟨ds, hd, hz, q⟩ := withs_get h1
  have r := s1.reps hd
  refine ⟨by rw [r.length]; exact hz, fun p hp => ?_⟩
  obtain ⟨w2, e2⟩ := w1.newC (c := .lst ds) (o := .lst vs) hp ⟨(w1.none hp).2.2, vs, upd_same, r⟩
  refine k _ (.cel M1.length) _ _ _ _ (e1.trans e2) w2 ⟨p, rfl, ?_⟩ q
  rw [← w1.len, List.getElem?_append_right (Nat.le_refl _), Nat.sub_self]
  rfl
/-! ### calls of the text's defs -/
/-- what the callee asks and leaves: n cells are handed in -/
def CallQ0 (n : Nat) (S : SpD) (xs : List SV) (M : Mem) (Q : SV → Mem → Prop) (ex : XD) (ss : Sst) : Prop :=
  (xs.all (SV.lt n) && (M.take n).all (Cell.lt n) && decide (n ≤ M.length)) = true ∧ S xs (M.take n) (fun x M' => Q (x.sh n M.length) (M'.take n ++ M.drop n ++ M'.drop n)) (fun C fs M' => ex C fs ss (M'.take n ++ M.drop n ++ M'.drop n))
structure CallQ (n : Nat) (S : SpD) (xs : List SV) (M : Mem) (Q : SV → Mem → Prop) (ex : XD) (ss : Sst) : Prop where
  run : CallQ0 n S xs M Q ex ss
theorem call_sp {n : Nat} {S : SpD} {xs : List SV} {G : Hp} {A : List Addr} {H : Hp} {vs : List V} {σ : L2.St} {Kq : VK} (w : Wd X.K B G A M H) (sl : Sl X.K G A σ ss) (r : Svs X.K G A vs xs) (h : CallQ n S xs M Q ex ss) (k : VPost X.K B G A Q Kq) :
    spOf X.K n S vs H Kq (fun cls d H' => XW X.K B ex cls d σ H') := by
  obtain ⟨hc, hS⟩ := h.run
  rw [Bool.and_eq_true, Bool.and_eq_true] at hc
  obtain ⟨⟨hx, hM⟩, hn⟩ := hc
  have hn : n ≤ M.length := of_decide_eq_true hn
  have hA := w.len
  refine ⟨xs, M.take n, G, A.take n, by rw [List.length_take]; omega, Wd.start w.gh (w.nd.sublist (List.take_sublist n A)) (fun b m => w.there b (List.mem_of_mem_take m)) ((w.cl.take n).cut hM), r.cut hx, _, _, hS, ?_, ?_⟩
  · intro v x G' A' M' H' w' s' hl q
    obtain ⟨more, rfl, w2, e2⟩ := w.back hn w' hl
    rw [← hA] at q
    exact k v _ G' _ _ H' e2 w2 (s'.sh (by omega)) q
  · intro C fs d G' A' M' H' w' xd hl q
    obtain ⟨more, rfl, w2, e2⟩ := w.back hn w' hl
    exact ⟨C, fs, ss, G', _, _, rfl, xd, w2, sl.mono e2, q⟩
theorem Cok.at (ck : Cok X B ex) (σ : L2.St) : PassesAt (L2.CX X.prog X.w) X σ (fun cls d H' => XW X.K B ex cls d σ H') := passAt ck.tk σ
/-- f(e, ..); the last parameters by their defaults -/
theorem we_call {x : Str} {f : Addr} {fd : FuncData} {ps : List Str} {k n : Nat} {S : SpD} {dvs : List V} {ds : List Value} {dxs : List SV} (F : FnOk X.prog X.w X.K X.mg X.base (L2.CX X.prog X.w) k f fd ps (spOf X.K n S)) (hr : Room k X.A) (hm : X.mg x = some (.ref f)) (hk : PySem.W.keepIn X.K (.ref f) = true)
    (hb : Binds X.K fd ps ds) (hd : Vals dvs ds) (hD : ∀ G A, Svs X.K G A dvs dxs) (hg : Gl X x)
    (h : WA X B ex (e :: es) (fun xs M1 => CallQ n S (xs ++ dxs) M1 Q ex ss) ss M) (hdb : (x == ("__debug__" : Str)) = false := by decide) (he : starEach (e :: es) X.env = (false, eval e X.env) :: starEach es X.env := by rfl) (hpl : (backTo pos (starEach es X.env)).any (·.1) = false := by rfl) :
    WE X B ex (.Call (.Name x p) (e :: es) [] pos) Q ss M := .mk fun ck G A H σ w sl Kq kk => by
  refine te_of (pe_callSD (E := fun σ cls d H' => XW X.K B ex cls d σ H') F hr hg hm hk hb hd ck.at pa_self hdb he hpl) ?_
  refine h ck G A H σ w sl _ fun vs xs G1 A1 M1 H1 e1 w1 s1 h1 => ?_
  refine call_sp w1 (sl.mono e1) ?_ h1 fun v x G' A' M' H' e' => kk v x G' A' M' H' (e1.trans e')
  have go : ∀ {vs xs}, Svs X.K G1 A1 vs xs → Svs X.K G1 A1 (vs ++ dvs) (xs ++ dxs) := by
    intro vs xs r
    induction r with
    | nil => exact hD G1 A1
    | cons h r ih => exact .cons h ih
  exact go s1
end
end Mb

/-! Mb, part 7: methods, new instances, attributes. -/
namespace Mb
open PySem L2 PyProof.Rows
/-- fields that are all data -/
def fdats : List (Str × SV) → Option (List (Str × D))
  | [] => some []
  | (f, .dat d) :: r => if exName f = true then none else (fdats r).map ((f, d) :: ·)
  | (f, .xt ds) :: r => (fdats r).map ((f, .tup ds) :: ·)
  | _ :: _ => none
theorem FldsOk.repF {K : PySem.W.Frag} {G : Hp} {A : List Addr} : ∀ {fv : List (Str × V)} {fs : List (Str × SV)} {ds : List (Str × D)}, FldsOk K G A fv fs → fdats fs = some ds → RepF K G fv ds
  | _, _, _, .nil, e => by simp [fdats] at e; subst e; exact .nil
  | _, _, ds, .cons (x := x) h r, e => by
    cases x with
    | cel i => simp [fdats] at e
    | raw u => simp [fdats] at e
    | exc u v w => simp [fdats] at e
    | tup xs => simp [fdats] at e
    | xt xs =>
      simp only [fdats, Option.map_eq_some_iff] at e
      obtain ⟨rs, e1, rfl⟩ := e
      obtain ⟨_, _, _, h⟩ := h
      exact .cons h (r.repF e1)
    | dat d =>
      simp only [fdats] at e
      split at e
      · cases e
      simp only [Option.map_eq_some_iff] at e
      obtain ⟨rs, e1, rfl⟩ := e
      exact .cons h (r.repF e1)
theorem FldsOk.nx {K : PySem.W.Frag} {G : Hp} {A : List Addr} : ∀ {fv : List (Str × V)} {fs : List (Str × SV)} {ds : List (Str × D)}, FldsOk K G A fv fs → fdats fs = some ds → NX G fv
  | _, _, _, .nil, _ => fun f v _ l => by cases l
  | (g, u) :: fv, _, ds, .cons (x := x) h r, e => by
    intro f v c l
    cases x with
    | cel i => simp [fdats] at e
    | raw u => simp [fdats] at e
    | exc u v w => simp [fdats] at e
    | tup xs => simp [fdats] at e
    | xt xs =>
      simp only [fdats, Option.map_eq_some_iff] at e
      obtain ⟨rs, e1, rfl⟩ := e
      by_cases z : f = g
      · subst z
        simp [List.lookup] at l
        subst l
        obtain ⟨a, h1, h2, _⟩ := h
        exact ⟨a, h1, h2⟩
      · have zb : (f == g) = false := by simpa using z
        simp only [List.lookup, zb] at l
        exact r.nx e1 f v c l
    | dat d =>
      simp only [fdats] at e
      split at e
      · cases e
      rename_i hne
      simp only [Option.map_eq_some_iff] at e
      obtain ⟨rs, e1, rfl⟩ := e
      by_cases z : f = g
      · subst z; exact absurd c hne
      · have zb : (f == g) = false := by simpa using z
        simp only [List.lookup, zb] at l
        exact r.nx e1 f v c l
theorem FldsOk.look {K : PySem.W.Frag} {G : Hp} {A : List Addr} {f : Str} {x : SV} : ∀ {fv : List (Str × V)} {fs : List (Str × SV)}, FldsOk K G A fv fs → fs.lookup f = some x → ∃ v, fv.lookup f = some v ∧ SvOk K G A v x
  | _, _, .nil, e => by simp at e
  | (g, v) :: fv, (_, y) :: fs, .cons h r, e => by
    by_cases c : f = g
    · subst c
      simp [List.lookup] at e
      subst e
      exact ⟨v, by simp [List.lookup], h⟩
    · have cb : (f == g) = false := by simpa using c
      simp only [List.lookup, cb] at e
      obtain ⟨w, h1, h2⟩ := FldsOk.look r e
      exact ⟨w, by simp only [List.lookup, cb]; exact h1, h2⟩
theorem FldsOk.lookN {K : PySem.W.Frag} {G : Hp} {A : List Addr} {f : Str} : ∀ {fv : List (Str × V)} {fs : List (Str × SV)}, FldsOk K G A fv fs → fs.lookup f = none → fv.lookup f = none
  | _, _, .nil, _ => rfl
  | (g, v) :: fv, (_, y) :: fs, .cons h r, e => by
    by_cases c : f = g
    · subst c
      simp [List.lookup] at e
    · have cb : (f == g) = false := by simpa using c
      simp only [List.lookup, cb] at e ⊢
      exact FldsOk.lookN r e
def putS (f : Str) (v : SV) : List (Str × SV) → List (Str × SV)
  | [] => [(f, v)]
  | (g, x) :: r => if g = f then (g, v) :: r else (g, x) :: putS f v r
theorem FldsOk.put {K : PySem.W.Frag} {G : Hp} {A : List Addr} {f : Str} {v : V} {x : SV} (q : SvOk K G A v x) : ∀ {fv : List (Str × V)} {fs : List (Str × SV)}, FldsOk K G A fv fs → FldsOk K G A (putF f v fv) (putS f x fs)
  | _, _, .nil => .cons q .nil
  | (g, u) :: fv, (_, y) :: fs, .cons h r => by
    by_cases c : g = f
    · simp only [putF, putS, c, if_true]; exact .cons q r
    · simp only [putF, putS, c, if_false]; exact .cons h (r.put q)
theorem FldsOk.length {K : PySem.W.Frag} {G : Hp} {A : List Addr} : ∀ {fv : List (Str × V)} {fs : List (Str × SV)}, FldsOk K G A fv fs → fv.length = fs.length
  | _, _, .nil => rfl
  | _, _, .cons _ r => congrArg (· + 1) r.length
section
variable {K : PySem.W.Frag} {B : Base} {G : Hp} {A : List Addr} {M : List Cell} {H : Hp}
/-- behind an __init__: the new instance is a cell of ours -/
theorem Wd.made (w : Wd K B G A M H) {x : Addr} {H2 : Hp} (hx : H x = Option.none) (s2 : Same H H2) {G' : Hp} {A' : List Addr} {M' : List Cell} {H' : Hp} {c : Cell} (w' : Wd K ⟨G, [x], H2⟩ G' A' M' H') (hc : c = .dead ∨ (M'[0]? = some c ∧ c.lt 0 = true)) :
    Wd K B G' (A ++ [x]) (M ++ [c]) H' ∧ Ext G A G' (A ++ [x]) := by
  obtain ⟨hb, hA, hg⟩ := w.none hx
  obtain ⟨more, e⟩ := w'.pre
  have e : A' = [x] ++ more := e
  subst e
  have ex : Ext G A G' (A ++ [x]) := ⟨w'.gg, [x], rfl⟩
  have keep : ∀ b o, H b = some o → H' b = some o := fun b o e => w'.fr b o (s2 b o e) (by
    show b ∉ [x]
    rw [List.mem_singleton]
    intro z; subst z; rename_i e0; rw [hx] at e0; cases e0)
  refine ⟨⟨w.gg.trans w'.gg, w'.gh, fun b o e nb => keep b o (w.fr b o e nb), fun b o e => ?_, ?_, ?_, fun b m => ?_, fun b m => ?_, ?_⟩, ex⟩
  · rcases w'.fresh b o e with q | q
    · exact w.fresh b o q
    · have q : H2 b = Option.none := q
      exact .inr (w.none (s2.free q)).1
  · refine List.nodup_append.mpr ⟨w.nd, by simp, fun a ha b hb z => ?_⟩
    rw [List.mem_singleton] at hb
    subst z; subst hb; exact hA ha
  · obtain ⟨m0, e⟩ := w.pre
    exact ⟨m0 ++ [x], by rw [e]; simp⟩
  · rcases List.mem_append.mp m with m | m
    · obtain ⟨o, e⟩ := w.there b m
      exact ⟨o, keep b o e⟩
    · exact w'.there b (List.mem_append_left _ m)
  · rcases List.mem_append.mp m with m | m
    · exact w.an b m
    · rw [List.mem_singleton] at m; subst m; exact .inr hb
  · have c1 : Cells K G' (A ++ [x]) H' A M := by
      refine w.cl.imp fun a c m h => h.keep ex (fun g => ?_) fun o e => keep a o e
      cases e : G' a with
      | none => rfl
      | some o =>
        rcases w'.fresh a o e with q | q
        · have q : G a = some o := q
          rw [g] at q; cases q
        · obtain ⟨o', e'⟩ := w.there a m
          have q : H2 a = Option.none := q
          rw [s2 _ _ e'] at q; cases q
    have q2 : CellOk K G' (A ++ [x]) H' x c := by
      rcases hc with rfl | ⟨hc, hd⟩
      · trivial
      · have q := w'.cl.get (i := 0) (a := x) (by rfl) hc
        have q3 := q.cut (k := 0) hd
        exact q3.keep ⟨fun _ _ e => e, A ++ [x], by simp⟩ (fun g => g) fun _ e => e
    exact c1.append (.cons q2 .nil)
/-- the last cell, an instance, is never changed again -/
theorem Wd.freezeI {x : Addr} {C : Addr} {fs : List (Str × SV)} {ds : List (Str × D)} (w : Wd K B G (A ++ [x]) (M ++ [.ins C fs]) H) (hb : B.A.length ≤ A.length) (hf : fdats fs = some ds) (hl : M.all (Cell.lt A.length) = true) :
    ∃ G', Wd K B G' A M H ∧ Same G G' ∧ Rep K G' (.ref x) (.ins C ds) := by
  have hlen := w.len
  have hl1 : A.length = M.length := by
    rw [List.length_append, List.length_append] at hlen
    simpa using hlen
  have gx : (A ++ [x])[A.length]? = some x := by rw [List.getElem?_append_right (Nat.le_refl _), Nat.sub_self]; rfl
  have gm : (M ++ [Cell.ins C fs])[A.length]? = some (.ins C fs) := by rw [hl1, List.getElem?_append_right (Nat.le_refl _), Nat.sub_self]; rfl
  obtain ⟨gn, dx, fv, hv, r⟩ := w.cl.get gx gm
  have hxA : x ∉ A := fun m => (List.nodup_append.mp w.nd).2.2 x m x List.mem_cons_self rfl
  have s1 : Same G (upd G x (.ins C dx fv)) := same_upd gn
  have hnB : B.H x = Option.none := by
    rcases w.an x (List.mem_append_right _ List.mem_cons_self) with q | q
    · exfalso
      obtain ⟨more, e⟩ := w.pre
      obtain ⟨j, hj, ej⟩ := List.mem_iff_getElem.mp q
      have h1 : (A ++ [x])[j]? = some x := by rw [e, List.getElem?_append_left hj, List.getElem?_eq_getElem hj, ej]
      have := nd_ix w.nd gx h1
      omega
    · exact q
  have w0 := w.drop A.length hb (by rw [hl1, List.take_append_of_le_length (Nat.le_refl _), List.take_length, ← hl1]; exact hl)
  rw [List.take_append_of_le_length (Nat.le_refl _), List.take_length] at w0
  rw [hl1, List.take_append_of_le_length (Nat.le_refl _), List.take_length] at w0
  have ex : Ext G A (upd G x (.ins C dx fv)) A := ⟨s1, [], by simp⟩
  refine ⟨upd G x (.ins C dx fv), ⟨w0.gg.trans s1, fun b u e => ?_, w0.fr, fun b u e => ?_, w0.nd, w0.pre, w0.there, w0.an, ?_⟩, s1, .ins upd_same ((r.repF hf).mono s1) ((r.nx hf).mono s1)⟩
  · by_cases c : b = x
    · subst c; rw [upd_same] at e; rw [← e]; exact hv
    · rw [upd_ne c] at e; exact w0.gh b u e
  · by_cases c : b = x
    · subst c; exact .inr hnB
    · rw [upd_ne c] at e; exact w0.fresh b u e
  · refine w0.cl.imp fun a c m h => h.keep ex (fun g => ?_) fun _ e => e
    rw [upd_ne (show a ≠ x from fun z => hxA (z ▸ m))]; exact g
end
section
variable {X : Cx} {B : Base} {ex : XD} {ss : Sst} {M : Mem} {a b c e tg o : Expr} {es : List Expr} {pos p p' apos : Pos} {Q : SV → Mem → Prop} {QB : Bool → Mem → Prop}
/-! ### attributes -/
/-- the field f of what x is -/
def fldS (M : Mem) (x : SV) (f : Str) (k : Addr → SV → Prop) : Prop := match x with
  | .dat (.ins C fs) => ∃ d, fs.lookup f = some d ∧ k C (.dat d)
  | .cel i => ∃ C fs y, M[i]? = some (.ins C fs) ∧ fs.lookup f = some y ∧ k C y
  | _ => False
theorem we_fld {f : Str} (h : WE X B ex e (fun x M1 => fldS M1 x f fun C y => (Cls X.K C ∧ NoAttr X.K C f) ∧ Q y M1) ss M) (hb : attributeBase e f X.env (eval e X.env) = eval e X.env := by rfl) : WE X B ex (.Attribute e f pos) Q ss M := .mk fun ck G A H σ w sl Kq k => by
  refine te_of (pe_fld pe_self hb) ?_
  refine h ck G A H σ w sl _ fun v x G1 A1 M1 H1 e1 w1 s1 h1 => ?_
  cases x with
  | raw u => exact h1.elim
  | exc u v w => exact h1.elim
  | tup xs => exact h1.elim
  | xt xs => exact h1.elim
  | dat d =>
    cases d <;> try exact h1.elim
    obtain ⟨d, hd, hc, q⟩ := h1
    have s1 : Rep X.K G1 v (.ins _ _) := s1
    cases s1 with
    | ins ha r _ =>
      obtain ⟨y, hy, ry⟩ := r.look hd
      exact ⟨_, _, _, _, y, rfl, w1.gh _ _ ha, hc.1, hc.2, hy, k _ (.dat d) G1 A1 M1 H1 e1 w1 ry q⟩
  | cel i =>
    obtain ⟨C, fs, y, hM, hy, hc, q⟩ := h1
    obtain ⟨l, rfl, hl⟩ := s1
    obtain ⟨_, dx, fv, hv, r⟩ := w1.cl.get hl hM
    obtain ⟨u, hu, su⟩ := r.look hy
    exact ⟨_, _, _, _, u, rfl, hv, hc.1, hc.2, hu, k _ y G1 A1 M1 H1 e1 w1 su q⟩
/-- self.f = e, self an instance of ours -/
theorem ws_fld {f : Str} {N : Nd} (h : WE X B ex e (fun y M1 => WE X B ex o (fun x M2 => ∃ i C fs, x = .cel i ∧ M2[i]? = some (.ins C fs) ∧ Cls X.K C ∧ NoAttr X.K C f ∧ fs.length < 1000 ∧ N.nx ss (M2.set i (.ins C (putS f y fs)))) ss M1) ss M) (hs : swapsWith e (some (.Attribute o f p')) pos.line X.env = pure false := by rfl) :
    WS X B ex (.Assign [.Attribute o f p'] e pos) N ss M := .mk fun ck G A H σ w sl E k => by
  refine ts_of (ps_fld pe_self pe_self hs) ?_
  refine h ck G A H σ w sl _ fun v y G1 A1 M1 H1 e1 w1 s1 h1 => ?_
  refine h1 ck G1 A1 H1 σ w1 (sl.mono e1) _ fun u x G2 A2 M2 H2 e2 w2 s2 h2 => ?_
  obtain ⟨i, C, fs, rfl, hM, hc, hn, hz, q⟩ := h2
  obtain ⟨l, rfl, hl⟩ := s2
  obtain ⟨gn, dx, fv, hv, r⟩ := w2.cl.get hl hM
  refine ⟨l, C, dx, fv, rfl, hv, hc, hn, by rw [r.length]; exact hz, ?_⟩
  exact k.nx σ ss G2 A2 _ _ (e1.trans e2).1 (w2.setC (c' := .ins C (putS f y fs)) hl gn ⟨gn, dx, _, upd_same, r.put (s1.mono e2)⟩) (sl.mono (e1.trans e2)) q
/-! ### methods -/
def insS (M : Mem) (x : SV) (C : Addr) (m : Str) : Prop := match x with
  | .dat (.ins C' fs) => C' = C ∧ fs.lookup m = none
  | .cel i => ∃ fs, M[i]? = some (.ins C fs) ∧ fs.lookup m = none
  | _ => False
theorem insS_at {G : Hp} {A : List Addr} {H : Hp} {v : V} {x : SV} {C : Addr} {m : Str} (w : Wd X.K B G A M H) (s : SvOk X.K G A v x) (h : insS M x C m) : ∃ a dx fs, v = .ref a ∧ H a = some (.ins C dx fs) ∧ fs.lookup m = none := by
  cases x with
  | raw u => exact h.elim
  | exc u v w => exact h.elim
  | tup xs => exact h.elim
  | xt xs => exact h.elim
  | dat d =>
    cases d <;> try exact h.elim
    obtain ⟨rfl, hn⟩ := h
    have s : Rep X.K G v (.ins _ _) := s
    cases s with
    | ins ha r _ => exact ⟨_, _, _, rfl, w.gh _ _ ha, r.lookN hn⟩
  | cel i =>
    obtain ⟨fs, hM, hn⟩ := h
    obtain ⟨l, rfl, hl⟩ := s
    obtain ⟨_, dx, fv, hv, r⟩ := w.cl.get hl hM
    exact ⟨l, dx, fv, rfl, hv, r.lookN hn⟩
theorem we_meth {C f : Addr} {m : Str} {fd : FuncData} {ps : List Str} {k n : Nat} {S : SpD} {pl : Sem Bool} (cl : Cls X.K C) (hm : Meth X.K C m f) (F : FnOk X.prog X.w X.K X.mg X.base (L2.CX X.prog X.w) k f fd ps (spOf X.K n S)) (hr : Room k X.A) (hb : Binds X.K fd ps [])
    (h : WE X B ex o (fun x M1 => insS M1 x C m ∧ WA X B ex (e :: es) (fun xs M2 => CallQ n S (x :: xs) M2 Q ex ss) ss M1) ss M)
    (hst : starEach (e :: es) X.env = (false, eval e X.env) :: starEach es X.env := by rfl) (hpl : (backTo pos (starEach es X.env)).any (·.1) = false := by rfl)
    (ht : eval (.Call (.Attribute o m apos) (e :: es) [] pos) X.env = (do
      let ov ← eval o X.env
      standAt apos.atName
      let (f, first) ← holding [ov] (getMethod ov m pl)
      callWith pos f first (backTo pos (starEach (e :: es) X.env)) (backToKw pos (keywordEach [] X.env))) := by rfl) :
    WE X B ex (.Call (.Attribute o m apos) (e :: es) [] pos) Q ss M := .mk fun ck G A H σ w sl Kq kk pins s I => by
  have hO : teW X o σ H (fun v H1 => ∃ a dx fs, v = .ref a ∧ H1 a = some (.ins C dx fs) ∧ fs.lookup m = none ∧ taW X (e :: es) σ H1 fun vs H2 => spOf X.K n S (v :: vs) H2 Kq (fun cls d H' => XW X.K B ex cls d σ H')) := by
    refine h ck G A H σ w sl _ fun v x G1 A1 M1 H1 e1 w1 s1 h1 => ?_
    obtain ⟨l, dx, fs, e, hl, hn⟩ := insS_at w1 s1 h1.1
    refine ⟨l, dx, fs, e, hl, hn, ?_⟩
    refine h1.2 ck G1 A1 H1 σ w1 (sl.mono e1) _ fun vs xs G2 A2 M2 H2 e2 w2 s2 h2 => ?_
    exact call_sp w2 (sl.mono (e1.trans e2)) (.cons (s1.mono e2) s2) h2 fun v x G' A' M' H' e' => kk v x G' A' M' H' ((e1.trans e2).trans e')
  refine PySem.W.methodCall_KW (pl := pl) (thn (hO pins s I) fun u s1 ⟨x, H1, I1, rx, l, dx, fs, ex1, ea, ln, q⟩ => ?_) ht
  subst ex1
  obtain rfl : u = .ref l := rx
  refine getmeth_ok I1 ea cl hm ln ?_
  refine PySem.W.callWith_K (first := [.ref l]) (h₀ := X.base) I.ok.mod.kin hm.kp (thn (q pos pins s1 I1) fun us s2 ⟨vs, H2, I2, r, q2⟩ => ⟨I2.kIn, ?_⟩) hst hpl
  exact run_fnSD (E := fun σ cls d H' => XW X.K B ex cls d σ H') (dvs := []) (us := .ref l :: us) (vs := .ref l :: vs) F hr hb .nil (ck.at σ) I2 (.cons rfl r) (by rw [List.append_nil]; exact q2)
theorem we_meth0 {C f : Addr} {m : Str} {fd : FuncData} {ps : List Str} {k n : Nat} {S : SpD} {pl : Sem Bool} (cl : Cls X.K C) (hm : Meth X.K C m f) (F : FnOk X.prog X.w X.K X.mg X.base (L2.CX X.prog X.w) k f fd ps (spOf X.K n S)) (hr : Room k X.A) (hb : Binds X.K fd ps [])
    (h : WE X B ex o (fun x M1 => insS M1 x C m ∧ CallQ n S [x] M1 Q ex ss) ss M)
    (ht : eval (.Call (.Attribute o m apos) [] [] pos) X.env = (do
      let ov ← eval o X.env
      standAt apos.atName
      let (f, first) ← holding [ov] (getMethod ov m pl)
      callWith pos f first (backTo pos (starEach [] X.env)) (backToKw pos (keywordEach [] X.env))) := by rfl) :
    WE X B ex (.Call (.Attribute o m apos) [] [] pos) Q ss M := .mk fun ck G A H σ w sl Kq kk pins s I => by
  have hO : teW X o σ H (fun v H1 => ∃ a dx fs, v = .ref a ∧ H1 a = some (.ins C dx fs) ∧ fs.lookup m = none ∧ spOf X.K n S [v] H1 Kq (fun cls d H' => XW X.K B ex cls d σ H')) := by
    refine h ck G A H σ w sl _ fun v x G1 A1 M1 H1 e1 w1 s1 h1 => ?_
    obtain ⟨l, dx, fs, e, hl, hn⟩ := insS_at w1 s1 h1.1
    refine ⟨l, dx, fs, e, hl, hn, ?_⟩
    exact call_sp w1 (sl.mono e1) (.cons s1 .nil) h1.2 fun v x G' A' M' H' e' => kk v x G' A' M' H' (e1.trans e')
  refine PySem.W.methodCall_KW (pl := pl) (thn (hO pins s I) fun u s1 ⟨x, H1, I1, rx, l, dx, fs, ex1, ea, ln, q⟩ => ?_) ht
  subst ex1
  obtain rfl : u = .ref l := rx
  refine getmeth_ok I1 ea cl hm ln ?_
  refine PySem.W.callWith_K0 (first := [.ref l]) I1.kIn hm.kp ?_
  exact run_fnSD (E := fun σ cls d H' => XW X.K B ex cls d σ H') (dvs := []) (us := [.ref l]) (vs := [.ref l]) F hr hb .nil (ck.at σ) I1 (.cons rfl .nil) (by rw [List.append_nil]; exact q)
/-! ### new instances -/
theorem run_makeS {CX : CXT} {C f : Addr} {fd : FuncData} {ps : List Str} {k : Nat} {sp : Sp} {dvs : List V} {ds : List Value} {E : XK} {pins : List (Addr × Obj)} {σ : L2.St} {H : Hp} {s : Shared} {Q : VK} {us : List Value} {vs : List V} (Mk0 : Mk X.K C f) (F : FnOk X.prog X.w X.K X.mg X.base CX k f fd ps sp) (hr : Room (k + 1) X.A)
    (hb : Binds X.K fd ps ds) (hd : Vals dvs ds) (hx : PassesAt CX X σ E) (I : Inv X pins σ H s) (r : Vals vs us)
    (h : ∀ x dx, H x = none → H dx = none → dx ≠ x → sp (.ref x :: (vs ++ dvs)) (upd (upd H dx (.own x)) x (.ins C dx [])) (fun v H2 => v = .non ∧ Q (.ref x) H2) E) :
    wpAny (model X.prog X.w) X.A (call (.ref C) us) (EP X pins σ Q) X.xe s := by
  have q0 := h (s.heap.objs.size + 1) s.heap.objs.size (I.hok.fresh (Nat.le_succ _)) (I.hok.fresh (Nat.le_refl _)) (Nat.ne_of_lt (Nat.lt_succ_self _))
  have I2 := Inv.made (C := C) I
  have r2 : Vals (V.ref (s.heap.objs.size + 1) :: (vs ++ dvs)) (Value.ref (s.heap.objs.size + 1) :: (us ++ ds)) := .cons rfl (r.append hd)
  have hl : (Value.ref (s.heap.objs.size + 1) :: us ++ ds).length = ps.length := by
    have e0 := r2.length
    rw [F.len _ _ _ _ q0] at e0
    exact e0.symm
  refine wpAny_call (make_map (f := f) I.kIn Mk0.makes Mk0.init (beq_iff_eq.mp Mk0.fn) ?_)
  refine codeAny_mono (F.run _ X.stack _ _ ⟨.ref (s.heap.objs.size + 1) :: us, []⟩ (.ref (s.heap.objs.size + 1) :: (us ++ ds)) _ _ E (hr.make C us []) (I2.env0.make C us []) (hb _ (.ref (s.heap.objs.size + 1) :: us) I2.kIn hl) r2 q0) fun r s' q1 => ?_
  cases r with
  | error e => exact hx pins _ _ e s' I2 q1
  | ok fl =>
    cases fl with
    | ret u =>
      obtain ⟨v, H', I3, rv, ev, q3⟩ := I2.after q1
      subst ev
      exact ⟨rv, ⟨.ref (s.heap.objs.size + 1), H', I3, rfl, q3⟩⟩
    | next => exact q1.elim
    | brk => exact q1.elim
    | cont => exact q1.elim
/-- C(..) by its __init__, that gets the new instance as its one cell; the instance is frozen behind -/
def MakeQ0 (S : SpD) (C : Addr) (xs : List SV) (M : Mem) (Q : SV → Mem → Prop) (ex : XD) (ss : Sst) : Prop :=
  (xs.all (SV.lt 0) && M.all (Cell.lt M.length)) = true ∧ S (.cel 0 :: xs) [.ins C []] (fun y M' => y = .dat .non ∧ ∃ fs ds, M'[0]? = some (.ins C fs) ∧ fdats fs = some ds ∧ Q (.dat (.ins C ds)) M) (fun D fs _ => ex D fs ss M)
structure MakeQ (S : SpD) (C : Addr) (xs : List SV) (M : Mem) (Q : SV → Mem → Prop) (ex : XD) (ss : Sst) : Prop where
  run : MakeQ0 S C xs M Q ex ss
theorem lt0_of {fs : List (Str × SV)} {ds : List (Str × D)} (h : fdats fs = some ds) : (fs.all fun p => p.2.lt 0) = true := by
  induction fs generalizing ds with
  | nil => rfl
  | cons p fs ih =>
    obtain ⟨f, x⟩ := p
    cases x with
    | cel i => simp [fdats] at h
    | raw u => simp [fdats] at h
    | exc u v w => simp [fdats] at h
    | tup xs => simp [fdats] at h
    | xt xs =>
      simp only [fdats, Option.map_eq_some_iff] at h
      obtain ⟨rs, e1, rfl⟩ := h
      rw [List.all_cons, ih e1]
      rfl
    | dat d =>
      simp only [fdats] at h
      split at h
      · cases h
      simp only [Option.map_eq_some_iff] at h
      obtain ⟨rs, e1, rfl⟩ := h
      rw [List.all_cons, ih e1]
      rfl
theorem Svs.cut0 {K : PySem.W.Frag} {G : Hp} {A A' : List Addr} {vs : List V} {xs : List SV} (h : xs.all (SV.lt 0) = true) (r : Svs K G A vs xs) : Svs K G A' vs xs := by
  have r2 : Svs K G [] vs xs := by
    have q := r.cut h
    rwa [List.take_zero] at q
  exact r2.mono ⟨fun _ _ e => e, A', by simp⟩
theorem make_sp {S : SpD} {C : Addr} {xs : List SV} {G : Hp} {A : List Addr} {H : Hp} {vs : List V} {σ : L2.St} {Kq : VK} (w : Wd X.K B G A M H) (sl : Sl X.K G A σ ss) (r : Svs X.K G A vs xs) (h : MakeQ S C xs M Q ex ss) (k : VPost X.K B G A Q Kq) :
    ∀ x dx, H x = none → H dx = none → dx ≠ x → spOf X.K 1 S (.ref x :: vs) (upd (upd H dx (.own x)) x (.ins C dx [])) (fun v H2 => v = .non ∧ Kq (.ref x) H2) (fun cls d H' => XW X.K B ex cls d σ H') := fun x dx hx hdx ne => by
  obtain ⟨hc, hS⟩ := h.run
  rw [Bool.and_eq_true] at hc
  have hA := w.len
  have hx2 : (upd H dx (.own x)) x = none := by rw [upd_ne (Ne.symm ne)]; exact hx
  have s2 : Same H (upd (upd H dx (.own x)) x (.ins C dx [])) := (same_upd hdx).trans (same_upd hx2)
  have hg := (w.none hx).2.2
  have hpre := w.pre
  have hbl : B.A.length ≤ A.length := by obtain ⟨more, e⟩ := hpre; rw [e, List.length_append]; omega
  refine ⟨.cel 0 :: xs, [.ins C []], G, [x], rfl, Wd.start (w.gh.trans s2) (by simp) (fun b m => ?_) (.cons ⟨hg, dx, [], upd_same, .nil⟩ .nil), .cons ⟨x, rfl, rfl⟩ (r.cut0 hc.1), _, _, hS, ?_, ?_⟩
  · rw [List.mem_singleton] at m; subst m; exact ⟨_, upd_same⟩
  · intro v y G' A' M' H' w' s' hl q
    obtain ⟨rfl, fs, ds, hM, hf, q⟩ := q
    cases s'
    refine ⟨rfl, ?_⟩
    obtain ⟨w2, e2⟩ := w.made hx s2 w' (.inr ⟨hM, lt0_of hf⟩)
    obtain ⟨G2, w3, s3, r3⟩ := w2.freezeI hbl hf (by rw [hA]; exact hc.2)
    exact k _ (.dat _) G2 A M H' ⟨e2.1.trans s3, [], by simp⟩ w3 r3 q
  · intro D fs d G' A' M' H' w' xd hl q
    obtain ⟨w2, e2⟩ := w.made (c := .dead) hx s2 w' (.inl rfl)
    have w3 := w2.drop A.length hbl (by rw [hA, List.take_append_of_le_length (Nat.le_refl _), List.take_length]; exact hc.2)
    rw [List.take_append_of_le_length (Nat.le_refl _), List.take_length, hA, List.take_append_of_le_length (Nat.le_refl _), List.take_length] at w3
    exact ⟨D, fs, ss, G', A, M, rfl, xd, w3, sl.mono ⟨e2.1, [], by simp⟩, q⟩
theorem we_make {x : Str} {C f : Addr} {fd : FuncData} {ps : List Str} {k : Nat} {S : SpD} {dvs : List V} {ds : List Value} {dxs : List SV} (Mk0 : Mk X.K C f) (F : FnOk X.prog X.w X.K X.mg X.base (L2.CX X.prog X.w) k f fd ps (spOf X.K 1 S)) (hr : Room (k + 1) X.A) (hm : X.mg x = some (.ref C))
    (hb : Binds X.K fd ps ds) (hd : Vals dvs ds) (hD : ∀ G A, Svs X.K G A dvs dxs) (hg : Gl X x)
    (h : WA X B ex (e :: es) (fun xs M1 => MakeQ S C (xs ++ dxs) M1 Q ex ss) ss M) (hdb : (x == ("__debug__" : Str)) = false := by decide) (he : starEach (e :: es) X.env = (false, eval e X.env) :: starEach es X.env := by rfl) (hpl : (backTo pos (starEach es X.env)).any (·.1) = false := by rfl) :
    WE X B ex (.Call (.Name x p) (e :: es) [] pos) Q ss M := .mk fun ck G A H σ w sl Kq kk pins s I => by
  refine wpAny_Call_Name_kw (ld_glob I hg hm ?_ hdb)
  have hO : taW X (e :: es) σ H (fun vs H1 => ∀ x dx, H1 x = none → H1 dx = none → dx ≠ x → spOf X.K 1 S (.ref x :: (vs ++ dvs)) (upd (upd H1 dx (.own x)) x (.ins C dx [])) (fun v H2 => v = .non ∧ Kq (.ref x) H2) (fun cls d H' => XW X.K B ex cls d σ H')) := by
    refine h ck G A H σ w sl _ fun vs xs G1 A1 M1 H1 e1 w1 s1 h1 => ?_
    have go : ∀ {vs xs}, Svs X.K G1 A1 vs xs → Svs X.K G1 A1 (vs ++ dvs) (xs ++ dxs) := by
      intro vs xs r
      induction r with
      | nil => exact hD G1 A1
      | cons h r ih => exact .cons h ih
    exact make_sp w1 (sl.mono e1) (go s1) h1 fun v x G' A' M' H' e' => kk v x G' A' M' H' (e1.trans e')
  refine PySem.W.callWith_K (h₀ := X.base) I.ok.mod.kin Mk0.kp (thn (hO pos pins s I) fun us s1 ⟨vs, H1, I1, r, q⟩ => ⟨I1.kIn, ?_⟩) he hpl
  exact run_makeS Mk0 F hr hb hd (ck.at σ) I1 r q
theorem we_make0 {x : Str} {C f : Addr} {fd : FuncData} {ps : List Str} {k : Nat} {S : SpD} {dvs : List V} {ds : List Value} {dxs : List SV} (Mk0 : Mk X.K C f) (F : FnOk X.prog X.w X.K X.mg X.base (L2.CX X.prog X.w) k f fd ps (spOf X.K 1 S)) (hr : Room (k + 1) X.A) (hm : X.mg x = some (.ref C))
    (hb : Binds X.K fd ps ds) (hd : Vals dvs ds) (hD : ∀ G A, Svs X.K G A dvs dxs) (hg : Gl X x)
    (h : MakeQ S C dxs M Q ex ss) (hdb : (x == ("__debug__" : Str)) = false := by decide) :
    WE X B ex (.Call (.Name x p) [] [] pos) Q ss M := .mk fun ck G A H σ w sl Kq kk pins s I => by
  refine wpAny_Call_Name_kw (ld_glob I hg hm ?_ hdb)
  refine PySem.W.callWith_K0 I.kIn Mk0.kp ?_
  exact run_makeS (us := []) Mk0 F hr hb hd (ck.at σ) I .nil (make_sp w sl (hD G A) h kk)
end
end Mb

/-! Mb, part 8: built-in calls, methods of texts and lists, slices. -/
namespace Mb
open PySem L2 PyProof.Rows
theorem reps_strs {K : PySem.W.Frag} {G : Hp} : ∀ {vs : List V} {ys : List Str}, Reps K G vs (ys.map D.str) → vs = ys.map V.str ∧ ∀ y ∈ ys, SOk y
  | _, [], .nil => ⟨rfl, fun _ m => by simp at m⟩
  | _, y :: ys, .cons (.str _ h) r => by
    obtain ⟨e, q⟩ := reps_strs r
    subst e
    refine ⟨rfl, fun z m => ?_⟩
    rcases List.mem_cons.mp m with rfl | m
    · exact h
    · exact q z m
theorem strs_reps {K : PySem.W.Frag} {G : Hp} : ∀ {ys : List Str}, (∀ y ∈ ys, SOk y) → Reps K G (ys.map V.str) (ys.map D.str)
  | [], _ => .nil
  | y :: ys, h => .cons (.str y (h y List.mem_cons_self)) (strs_reps fun z m => h z (List.mem_cons_of_mem _ m))
theorem reps_ints {K : PySem.W.Frag} {G : Hp} : ∀ {vs : List V} {ys : List Int}, Reps K G vs (ys.map D.int) → vs = ys.map V.int
  | _, [], .nil => rfl
  | _, y :: ys, .cons (.int _) r => by rw [reps_ints r]; rfl
theorem ints_reps {K : PySem.W.Frag} {G : Hp} : ∀ {ys : List Int}, Reps K G (ys.map V.int) (ys.map D.int)
  | [] => .nil
  | y :: ys => .cons (.int y) ints_reps
theorem reps_bls {K : PySem.W.Frag} {G : Hp} : ∀ {vs : List V} {ys : List Bool}, Reps K G vs (ys.map D.bl) → vs = ys.map V.bl
  | _, [], .nil => rfl
  | _, y :: ys, .cons (.bl _) r => by rw [reps_bls r]; rfl
section
variable {X : Cx} {B : Base} {ex : XD} {ss : Sst} {M : Mem} {a b c e tg o : Expr} {es : List Expr} {pos p p' apos p2 : Pos} {Q : SV → Mem → Prop} {QB : Bool → Mem → Prop} {x : Str}
/-- a built-in def, called -/
theorem we_cb {id : String} {r : List V → Hp → VK → Prop} {f : Mem → List SV → (SV → Mem → Prop) → Prop} (hc : CallR X (.builtin id) r)
    (hf : ∀ G A H M xs vs Q Kq, Wd X.K B G A M H → Svs X.K G A vs xs → f M xs Q → VPost X.K B G A Q Kq → r vs H Kq) (hm : X.mg x = none) (hv : bootBuiltins x = some (.builtin id)) (hg : Gl X x)
    (h : WA X B ex (e :: es) (fun xs M1 => f M1 xs Q) ss M) (hn : x ≠ "__name__" := by decide) (hdb : (x == ("__debug__" : Str)) = false := by decide)
    (he : starEach (e :: es) X.env = (false, eval e X.env) :: starEach es X.env := by rfl) (hpl : (backTo pos (starEach es X.env)).any (·.1) = false := by rfl) : WE X B ex (.Call (.Name x p) (e :: es) [] pos) Q ss M := .mk fun ck G A H σ w sl Kq k => by
  refine te_of (pe_callB hc hg hm hv pa_self hn hdb he hpl) ?_
  refine h ck G A H σ w sl _ fun vs xs G1 A1 M1 H1 e1 w1 s1 h1 => ?_
  exact hf G1 A1 H1 M1 xs vs Q Kq w1 s1 h1 fun v x G' A' M' H' e' => k v x G' A' M' H' (e1.trans e')
theorem we_ct {T : String} {r : List V → Hp → VK → Prop} {f : Mem → List SV → (SV → Mem → Prop) → Prop} (hc : CallR X (.type T) r)
    (hf : ∀ G A H M xs vs Q Kq, Wd X.K B G A M H → Svs X.K G A vs xs → f M xs Q → VPost X.K B G A Q Kq → r vs H Kq) (hm : X.mg x = none) (hv : bootBuiltins x = some (.type T)) (hg : Gl X x)
    (h : WA X B ex (e :: es) (fun xs M1 => f M1 xs Q) ss M) (hn : x ≠ "__name__" := by decide) (hdb : (x == ("__debug__" : Str)) = false := by decide)
    (he : starEach (e :: es) X.env = (false, eval e X.env) :: starEach es X.env := by rfl) (hpl : (backTo pos (starEach es X.env)).any (·.1) = false := by rfl) : WE X B ex (.Call (.Name x p) (e :: es) [] pos) Q ss M := .mk fun ck G A H σ w sl Kq k => by
  refine te_of (pe_callTy hc hg hm hv pa_self hn hdb he hpl) ?_
  refine h ck G A H σ w sl _ fun vs xs G1 A1 M1 H1 e1 w1 s1 h1 => ?_
  exact hf G1 A1 H1 M1 xs vs Q Kq w1 s1 h1 fun v x G' A' M' H' e' => k v x G' A' M' H' (e1.trans e')
/-- one argument, by what it is -/
def arg10 (k : Mem → D → (SV → Mem → Prop) → Prop) (M : Mem) (xs : List SV) (Q : SV → Mem → Prop) : Prop := match xs with
  | [x] => with1 M x fun d => k M d Q
  | _ => False
structure arg1 (k : Mem → D → (SV → Mem → Prop) → Prop) (M : Mem) (xs : List SV) (Q : SV → Mem → Prop) : Prop where
  run : arg10 k M xs Q
theorem arg1_get {k : Mem → D → (SV → Mem → Prop) → Prop} {xs : List SV} {G : Hp} {A : List Addr} {H : Hp} {vs : List V} (w : Wd X.K B G A M H) (r : Svs X.K G A vs xs) (h : arg1 k M xs Q) : ∃ v d, vs = [v] ∧ RepS X.K G H v d ∧ k M d Q := by
  have h := h.run
  cases r with
  | nil => exact h.elim
  | cons s r =>
    cases r with
    | nil =>
      obtain ⟨d, g, h⟩ := with1_get h
      exact ⟨_, d, rfl, s.s w g, h⟩
    | cons => exact h.elim
def lenD (M : Mem) (d : D) (Q : SV → Mem → Prop) : Prop := match d with
  | .str y => Q (.dat (.int (y.length : Int))) M
  | .lst ds => Q (.dat (.int (ds.length : Int))) M
  | .tup ds => Q (.dat (.int (ds.length : Int))) M
  | .dic ds => Q (.dat (.int (ds.length : Int))) M
  | _ => False
theorem RepK.length {K : PySem.W.Frag} {G : Hp} : ∀ {vs : List (Key × V)} {ds : List (Key × D)}, RepK K G vs ds → vs.length = ds.length
  | _, _, .nil => rfl
  | _, _, .cons _ r => congrArg (· + 1) r.length
theorem we_len (hm : X.mg "len" = none) (hg : Gl X "len") (h : WA X B ex (e :: es) (fun xs M1 => arg1 lenD M1 xs Q) ss M)
    (he : starEach (e :: es) X.env = (false, eval e X.env) :: starEach es X.env := by rfl) (hpl : (backTo pos (starEach es X.env)).any (·.1) = false := by rfl) : WE X B ex (.Call (.Name "len" p) (e :: es) [] pos) Q ss M := by
  refine we_cb (f := arg1 lenD) (CallR.or (CallR.or call_len_seq call_len_str) call_lenD) (fun G A H M xs vs Q Kq w r h k => ?_) hm PySem.boot_len hg h (he := he) (hpl := hpl)
  obtain ⟨v, d, rfl, q, h⟩ := arg1_get w r h
  cases d <;> try exact h.elim
  · obtain ⟨rfl, z⟩ := q
    exact .inl (.inr ⟨_, rfl, z.1, k.flat .refl w (.int _) h⟩)
  · obtain ⟨l, vs, rfl, hl, r⟩ := q
    refine .inl (.inl ⟨l, vs, rfl, .inl (.inl hl), ?_⟩)
    rw [r.length]; exact k.flat .refl w (.int _) h
  · obtain ⟨l, vs, rfl, hl, r⟩ := q
    refine .inl (.inl ⟨l, vs, rfl, .inr (hl), ?_⟩)
    rw [r.length]; exact k.flat .refl w (.int _) h
  · obtain ⟨l, vs, rfl, hl, r⟩ := q
    refine .inr ⟨l, vs, rfl, hl, ?_⟩
    rw [r.length]; exact k.flat .refl w (.int _) h
def absD (M : Mem) (d : D) (Q : SV → Mem → Prop) : Prop := match d with
  | .int i => Q (.dat (.int (if i < 0 then -i else i))) M
  | _ => False
theorem we_abs (hm : X.mg "abs" = none) (hg : Gl X "abs") (h : WA X B ex (e :: es) (fun xs M1 => arg1 absD M1 xs Q) ss M)
    (he : starEach (e :: es) X.env = (false, eval e X.env) :: starEach es X.env := by rfl) (hpl : (backTo pos (starEach es X.env)).any (·.1) = false := by rfl) : WE X B ex (.Call (.Name "abs" p) (e :: es) [] pos) Q ss M := by
  refine we_cb (f := arg1 absD) call_abs (fun G A H M xs vs Q Kq w r h k => ?_) hm (by decide +kernel) hg h (he := he) (hpl := hpl)
  obtain ⟨v, d, rfl, q, h⟩ := arg1_get w r h
  cases d <;> try exact h.elim
  obtain rfl := q
  exact ⟨_, rfl, k.flat .refl w (.int _) h⟩
def intD (M : Mem) (d : D) (Q : SV → Mem → Prop) : Prop := match d with
  | .int i => Q (.dat (.int i)) M
  | .bl k => Q (.dat (.int (if k then 1 else 0))) M
  | .str a => ∃ n, (PySem.intText? a = some n ∧ a.length ≤ 640) ∧ Q (.dat (.int n)) M
  | _ => False
theorem we_toint (hm : X.mg "int" = none) (hg : Gl X "int") (h : WA X B ex (e :: es) (fun xs M1 => arg1 intD M1 xs Q) ss M)
    (he : starEach (e :: es) X.env = (false, eval e X.env) :: starEach es X.env := by rfl) (hpl : (backTo pos (starEach es X.env)).any (·.1) = false := by rfl) : WE X B ex (.Call (.Name "int" p) (e :: es) [] pos) Q ss M := by
  refine we_ct (f := arg1 intD) (CallR.or call_int1 call_int_str) (fun G A H M xs vs Q Kq w r h k => ?_) hm (by decide +kernel) hg h (he := he) (hpl := hpl)
  obtain ⟨v, d, rfl, q, h⟩ := arg1_get w r h
  cases d <;> try exact h.elim
  · obtain rfl := q
    exact .inl (.inr ⟨_, rfl, k.flat .refl w (.int _) h⟩)
  · obtain rfl := q
    exact .inl (.inl ⟨_, rfl, k.flat .refl w (.int _) h⟩)
  · obtain ⟨rfl, z⟩ := q
    obtain ⟨n, h1, h2⟩ := h
    exact .inr ⟨_, n, rfl, h1.1, h1.2, k.flat .refl w (.int _) h2⟩
/-- str(n) -/
def strI (i : Int) : Str := Str.ofString (toString i)
def strD (M : Mem) (d : D) (Q : SV → Mem → Prop) : Prop := match d with
  | .int i => (i.natAbs.log2 < 1920 ∧ SOk (strI i)) ∧ Q (.dat (.str (strI i))) M
  | _ => False
theorem we_tostr (hm : X.mg "str" = none) (hg : Gl X "str") (h : WA X B ex (e :: es) (fun xs M1 => arg1 strD M1 xs Q) ss M)
    (he : starEach (e :: es) X.env = (false, eval e X.env) :: starEach es X.env := by rfl) (hpl : (backTo pos (starEach es X.env)).any (·.1) = false := by rfl) : WE X B ex (.Call (.Name "str" p) (e :: es) [] pos) Q ss M := by
  refine we_ct (f := arg1 strD) call_str_int (fun G A H M xs vs Q Kq w r h k => ?_) hm (by decide +kernel) hg h (he := he) (hpl := hpl)
  obtain ⟨v, d, rfl, q, h⟩ := arg1_get w r h
  cases d <;> try exact h.elim
  obtain rfl := q
  exact ⟨_, rfl, h.1.1, k.flat .refl w (.str _ h.1.2) h.2⟩
def int2 (g : Int → Int → Int) (M : Mem) (xs : List SV) (Q : SV → Mem → Prop) : Prop := match xs with
  | [.dat (.int i), .dat (.int j)] => Q (.dat (.int (g i j))) M
  | _ => False
theorem int2_get {g : Int → Int → Int} {xs : List SV} {G : Hp} {A : List Addr} {vs : List V} (r : Svs X.K G A vs xs) (h : int2 g M xs Q) : ∃ i j, vs = [.int i, .int j] ∧ Q (.dat (.int (g i j))) M := by
  unfold int2 at h
  split at h
  · cases r with
    | cons s r =>
      cases r with
      | cons s' r =>
        cases r
        cases s
        cases s'
        exact ⟨_, _, rfl, h⟩
  · exact h.elim
theorem we_max2 (hc : X.calm = true) (hm : X.mg "max" = none) (hg : Gl X "max") (h : WA X B ex [a, b] (fun xs M1 => int2 (fun i j => if j > i then j else i) M1 xs Q) ss M)
    (he : starEach [a, b] X.env = (false, eval a X.env) :: starEach [b] X.env := by rfl) (hpl : (backTo pos (starEach [b] X.env)).any (·.1) = false := by rfl) : WE X B ex (.Call (.Name "max" p) [a, b] [] pos) Q ss M := by
  refine we_cb (f := int2 fun i j => if j > i then j else i) (call_max2 hc) (fun G A H M xs vs Q Kq w r h k => ?_) hm (by decide +kernel) hg h (he := he) (hpl := hpl)
  obtain ⟨i, j, rfl, h⟩ := int2_get r h
  exact ⟨_, _, rfl, k.flat .refl w (.int _) h⟩
theorem we_min2 (hc : X.calm = true) (hm : X.mg "min" = none) (hg : Gl X "min") (h : WA X B ex [a, b] (fun xs M1 => int2 (fun i j => if j < i then j else i) M1 xs Q) ss M)
    (he : starEach [a, b] X.env = (false, eval a X.env) :: starEach [b] X.env := by rfl) (hpl : (backTo pos (starEach [b] X.env)).any (·.1) = false := by rfl) : WE X B ex (.Call (.Name "min" p) [a, b] [] pos) Q ss M := by
  refine we_cb (f := int2 fun i j => if j < i then j else i) (call_min2 hc) (fun G A H M xs vs Q Kq w r h k => ?_) hm (by decide +kernel) hg h (he := he) (hpl := hpl)
  obtain ⟨i, j, rfl, h⟩ := int2_get r h
  exact ⟨_, _, rfl, k.flat .refl w (.int _) h⟩
/-- list(xs): a new list, as data or as a cell -/
def listD (M : Mem) (d : D) (Q : SV → Mem → Prop) : Prop := match d with
  | .lst ds => Q (.dat (.lst ds)) M
  | .tup ds => Q (.dat (.lst ds)) M
  | _ => False
theorem we_list (hm : X.mg "list" = none) (hg : Gl X "list") (h : WA X B ex (e :: es) (fun xs M1 => arg1 listD M1 xs Q) ss M)
    (he : starEach (e :: es) X.env = (false, eval e X.env) :: starEach es X.env := by rfl) (hpl : (backTo pos (starEach es X.env)).any (·.1) = false := by rfl) : WE X B ex (.Call (.Name "list" p) (e :: es) [] pos) Q ss M := by
  refine we_ct (f := arg1 listD) call_list_of (fun G A H M xs vs Q Kq w r h k => ?_) hm (by decide +kernel) hg h (he := he) (hpl := hpl)
  obtain ⟨v, d, rfl, q, h⟩ := arg1_get w r h
  cases d <;> try exact h.elim
  · obtain ⟨l, vs, rfl, hl, r⟩ := q
    exact ⟨l, vs, rfl, .inl (.inl hl), k.new .refl w h fun p hp => .lst (.inl upd_same) (r.mono (same_upd (w.none hp).2.2))⟩
  · obtain ⟨l, vs, rfl, hl, r⟩ := q
    exact ⟨l, vs, rfl, .inr (hl), k.new .refl w h fun p hp => .lst (.inl upd_same) (r.mono (same_upd (w.none hp).2.2))⟩
def listC (M : Mem) (d : D) (Q : SV → Mem → Prop) : Prop := match d with
  | .lst ds => Q (.cel M.length) (M ++ [.lst ds])
  | .tup ds => Q (.cel M.length) (M ++ [.lst ds])
  | _ => False
theorem VPost.newC {K : PySem.W.Frag} {G : Hp} {A : List Addr} {H : Hp} {Kq : VK} (k : VPost K B G A Q Kq) {G' : Hp} {A' : List Addr} {ds : List D} {vs : List V} (e : Ext G A G' A') (w : Wd K B G' A' M H) (r : Reps K G' vs ds) (q : Q (.cel M.length) (M ++ [.lst ds])) : ∀ p, H p = none → Kq (.ref p) (upd H p (.lst vs)) := fun p hp => by
  obtain ⟨w2, e2⟩ := w.newC (c := .lst ds) (o := .lst vs) hp ⟨(w.none hp).2.2, vs, upd_same, r⟩
  refine k _ (.cel M.length) _ _ _ _ (e.trans e2) w2 ⟨p, rfl, ?_⟩ q
  rw [← w.len, List.getElem?_append_right (Nat.le_refl _), Nat.sub_self]
  rfl
theorem we_listC (hm : X.mg "list" = none) (hg : Gl X "list") (h : WA X B ex (e :: es) (fun xs M1 => arg1 listC M1 xs Q) ss M)
    (he : starEach (e :: es) X.env = (false, eval e X.env) :: starEach es X.env := by rfl) (hpl : (backTo pos (starEach es X.env)).any (·.1) = false := by rfl) : WE X B ex (.Call (.Name "list" p) (e :: es) [] pos) Q ss M := by
  refine we_ct (f := arg1 listC) call_list_of (fun G A H M xs vs Q Kq w r h k => ?_) hm (by decide +kernel) hg h (he := he) (hpl := hpl)
  obtain ⟨v, d, rfl, q, h⟩ := arg1_get w r h
  cases d <;> try exact h.elim
  · obtain ⟨l, vs, rfl, hl, r⟩ := q
    exact ⟨l, vs, rfl, .inl (.inl hl), k.newC .refl w r h⟩
  · obtain ⟨l, vs, rfl, hl, r⟩ := q
    exact ⟨l, vs, rfl, .inr (hl), k.newC .refl w r h⟩
def tupleD (M : Mem) (d : D) (Q : SV → Mem → Prop) : Prop := match d with
  | .lst ds => Q (.dat (.tup ds)) M
  | .tup ds => Q (.dat (.tup ds)) M
  | _ => False
theorem RepS.data {G : Hp} {A : List Addr} {H : Hp} {x : SV} {v : V} {d : D} (s : SvOk X.K G A v x) (g : x.get M = some d) (h : (∀ ds, d ≠ .lst ds) ∧ ∀ ds, d ≠ .dic ds) : Rep X.K G v d := by
  cases x with
  | dat d' => simp only [SV.get, Option.some.injEq] at g; subst g; exact s
  | raw u => simp [SV.get] at g
  | exc u v w => simp [SV.get] at g
  | tup xs => simp [SV.get] at g
  | xt ds => simp only [SV.get, Option.some.injEq] at g; subst g; obtain ⟨_, _, _, q⟩ := s; exact q
  | cel i =>
    simp only [SV.get] at g
    split at g <;> cases g
    · exact absurd rfl (h.1 _)
    · exact absurd rfl (h.2 _)
theorem we_tuple (hm : X.mg "tuple" = none) (hg : Gl X "tuple") (h : WA X B ex (e :: es) (fun xs M1 => arg1 tupleD M1 xs Q) ss M)
    (he : starEach (e :: es) X.env = (false, eval e X.env) :: starEach es X.env := by rfl) (hpl : (backTo pos (starEach es X.env)).any (·.1) = false := by rfl) : WE X B ex (.Call (.Name "tuple" p) (e :: es) [] pos) Q ss M := by
  refine we_ct (f := arg1 tupleD) call_tuple_of (fun G A H M xs vs Q Kq w r h k => ?_) hm (by decide +kernel) hg h (he := he) (hpl := hpl)
  have h := h.run
  cases r with
  | nil => exact h.elim
  | @cons v vs x xs s r =>
    cases r with
    | cons => exact h.elim
    | nil =>
      obtain ⟨d, g, h⟩ := with1_get h
      have q := s.s w g
      cases d <;> try exact h.elim
      · obtain ⟨l, vs, rfl, hl, r⟩ := q
        exact ⟨l, vs, rfl, .inl ⟨.inl hl, k.new .refl w h fun p hp => .tup (.of upd_same) (r.mono (same_upd (w.none hp).2.2))⟩⟩
      · have rd := RepS.data (H := H) s g ⟨fun _ z => (by cases z), fun _ z => (by cases z)⟩
        obtain ⟨l, vs, rfl, hl, r⟩ := q
        exact ⟨l, vs, rfl, .inr ⟨hl, k.flat .refl w rd h⟩⟩
/-- sum, all, any, max of a list -/
def sumD (M : Mem) (d : D) (Q : SV → Mem → Prop) : Prop := match d with
  | .lst ds => ∃ ns : List Int, ds = ns.map D.int ∧ Q (.dat (.int ns.sum)) M
  | _ => False
theorem we_sum (hc : X.calm = true) (hm : X.mg "sum" = none) (hg : Gl X "sum") (h : WA X B ex (e :: es) (fun xs M1 => arg1 sumD M1 xs Q) ss M)
    (he : starEach (e :: es) X.env = (false, eval e X.env) :: starEach es X.env := by rfl) (hpl : (backTo pos (starEach es X.env)).any (·.1) = false := by rfl) : WE X B ex (.Call (.Name "sum" p) (e :: es) [] pos) Q ss M := by
  refine we_cb (f := arg1 sumD) (cr_sum hc) (fun G A H M xs vs Q Kq w r h k => ?_) hm (by decide +kernel) hg h (he := he) (hpl := hpl)
  obtain ⟨v, d, rfl, q, h⟩ := arg1_get w r h
  cases d <;> try exact h.elim
  obtain ⟨ns, rfl, h⟩ := h
  obtain ⟨l, vs, rfl, hl, r⟩ := q
  rw [reps_ints r] at hl
  exact ⟨l, ns, rfl, .inl hl, k.flat .refl w (.int _) h⟩
def maxD (M : Mem) (d : D) (Q : SV → Mem → Prop) : Prop := match d with
  | .lst ds => ∃ ns : List Int, ds = ns.map D.int ∧ 0 < ns.length ∧ ∀ m, m ∈ ns → (∀ y, y ∈ ns → y ≤ m) → Q (.dat (.int m)) M
  | _ => False
theorem we_max (hc : X.calm = true) (hm : X.mg "max" = none) (hg : Gl X "max") (h : WA X B ex [e] (fun xs M1 => arg1 maxD M1 xs Q) ss M)
    (he : starEach [e] X.env = (false, eval e X.env) :: starEach [] X.env := by rfl) (hpl : (backTo pos (starEach [] X.env)).any (·.1) = false := by rfl) : WE X B ex (.Call (.Name "max" p) [e] [] pos) Q ss M := by
  refine we_cb (f := arg1 maxD) (cr_max hc) (fun G A H M xs vs Q Kq w r h k => ?_) hm (by decide +kernel) hg h (he := he) (hpl := hpl)
  obtain ⟨v, d, rfl, q, h⟩ := arg1_get w r h
  cases d <;> try exact h.elim
  obtain ⟨ns, rfl, h0, h⟩ := h
  obtain ⟨l, vs, rfl, hl, r⟩ := q
  rw [reps_ints r] at hl
  exact ⟨l, ns, rfl, .inl hl, h0, fun m h1 h2 => k.flat .refl w (.int _) (h m h1 h2)⟩
def allD (f : List Bool → Bool) (M : Mem) (d : D) (Q : SV → Mem → Prop) : Prop := match d with
  | .lst ds => ∃ bs : List Bool, ds = bs.map D.bl ∧ Q (.dat (.bl (f bs))) M
  | _ => False
theorem we_all (hc : X.calm = true) (hm : X.mg "all" = none) (hg : Gl X "all") (h : WA X B ex (e :: es) (fun xs M1 => arg1 (allD fun bs => bs.all id) M1 xs Q) ss M)
    (he : starEach (e :: es) X.env = (false, eval e X.env) :: starEach es X.env := by rfl) (hpl : (backTo pos (starEach es X.env)).any (·.1) = false := by rfl) : WE X B ex (.Call (.Name "all" p) (e :: es) [] pos) Q ss M := by
  refine we_cb (f := arg1 (allD fun bs => bs.all id)) (cr_all hc) (fun G A H M xs vs Q Kq w r h k => ?_) hm (by decide +kernel) hg h (he := he) (hpl := hpl)
  obtain ⟨v, d, rfl, q, h⟩ := arg1_get w r h
  cases d <;> try exact h.elim
  obtain ⟨ns, rfl, h⟩ := h
  obtain ⟨l, vs, rfl, hl, r⟩ := q
  rw [reps_bls r] at hl
  exact ⟨l, ns, rfl, .inl hl, k.flat .refl w (.bl _) h⟩
theorem we_any (hc : X.calm = true) (hm : X.mg "any" = none) (hg : Gl X "any") (h : WA X B ex (e :: es) (fun xs M1 => arg1 (allD fun bs => bs.any id) M1 xs Q) ss M)
    (he : starEach (e :: es) X.env = (false, eval e X.env) :: starEach es X.env := by rfl) (hpl : (backTo pos (starEach es X.env)).any (·.1) = false := by rfl) : WE X B ex (.Call (.Name "any" p) (e :: es) [] pos) Q ss M := by
  refine we_cb (f := arg1 (allD fun bs => bs.any id)) (cr_any hc) (fun G A H M xs vs Q Kq w r h k => ?_) hm (by decide +kernel) hg h (he := he) (hpl := hpl)
  obtain ⟨v, d, rfl, q, h⟩ := arg1_get w r h
  cases d <;> try exact h.elim
  obtain ⟨ns, rfl, h⟩ := h
  obtain ⟨l, vs, rfl, hl, r⟩ := q
  rw [reps_bls r] at hl
  exact ⟨l, ns, rfl, .inl hl, k.flat .refl w (.bl _) h⟩
end
end Mb

/-! Mb, part 9: loops, list methods, text methods, slices. -/
namespace Mb
open PySem L2 PyProof.Rows
section
variable {X : Cx} {B : Base} {ex : XD} {ss : Sst} {M : Mem} {a b c e tg o iter : Expr} {es : List Expr} {pos p p' apos p2 : Pos} {Q : SV → Mem → Prop} {QB : Bool → Mem → Prop} {x : Str} {N : Nd} {body : List Stmt}
/-! ### what is walked -/
/-- J gives the items ds, one by one, while what G1 knows stands -/
def SrcOk (K : PySem.W.Frag) (B : Base) (J : It) (G1 : Hp) (ds : List D) : Prop :=
  ∃ (Gp : Hp → Prop) (Y : Nat → Hp → V → Hp → Prop), Walk J ds.length Gp Y ∧ (∀ H, Same G1 H → Gp H) ∧
    ∀ i H x H' G A M, i < ds.length → Same G1 G → Wd K B G A M H → Y i H x H' → ∃ G' d, Same G G' ∧ Wd K B G' A M H' ∧ ds[i]? = some d ∧ Rep K G' x d ∧ Same H H' ∧ ∀ b o, G' b = some o → G b = some o ∨ H b = none
def tiW (X : Cx) (tg iter : Expr) : TI := fun σ H R => ∀ pins s, Inv X pins σ H s → wpAny (model X.prog X.w) X.A (eval iter X.env) (fun v s1 => wpAny (model X.prog X.w) X.A (pyIter v) (PIE X pins σ tg R) X.xe s1) X.xe s
theorem pi_self : PI X tg iter (tiW X tg iter) := ⟨fun pins s _ _ _ I h => h pins s I⟩
theorem ti_of {t : TI} {σ : L2.St} {H : Hp} {R : It → Hp → Prop} (h : PI X tg iter t) (q : t σ H R) : tiW X tg iter σ H R := fun pins s I => h.run pins s σ H R I q
def WI0 (X : Cx) (B : Base) (ex : XD) (tg iter : Expr) (Q : List D → Mem → Prop) (ss : Sst) (M : Mem) : Prop :=
  Cok X B ex → ∀ G A H σ, Wd X.K B G A M H → Sl X.K G A σ ss → ∀ R : It → Hp → Prop, (∀ J ds G' A' M' H', Ext G A G' A' → Wd X.K B G' A' M' H' → SrcOk X.K B J G' ds → Q ds M' → R J H') → tiW X tg iter σ H R
structure WI (X : Cx) (B : Base) (ex : XD) (tg iter : Expr) (Q : List D → Mem → Prop) (ss : Sst) (M : Mem) : Prop where
  run : WI0 X B ex tg iter Q ss M
instance {X : Cx} {B : Base} {ex : XD} {tg iter : Expr} {Q : List D → Mem → Prop} {ss : Sst} {M : Mem} : CoeFun (WI X B ex tg iter Q ss M) fun _ => Cok X B ex → ∀ G A H σ, Wd X.K B G A M H → Sl X.K G A σ ss → ∀ R : It → Hp → Prop, (∀ J ds G' A' M' H', Ext G A G' A' → Wd X.K B G' A' M' H' → SrcOk X.K B J G' ds → Q ds M' → R J H') → tiW X tg iter σ H R := ⟨WI.run⟩
theorem src_at {K : PySem.W.Frag} {G1 : Hp} {J : It} {vs : List V} {ds : List D} {Gp : Hp → Prop} (r : Reps K G1 vs ds) (wk : Walk J vs.length Gp (YAt vs)) (hG : ∀ H, Same G1 H → Gp H) : SrcOk K B J G1 ds := by
  refine ⟨Gp, YAt vs, by rw [← r.length]; exact wk, hG, fun i H x H' G A M hi s w hy => ?_⟩
  obtain ⟨rfl, hx⟩ := hy
  obtain ⟨d, hd, rd⟩ := r.at hx
  exact ⟨G, d, Same.refl _, w, hd, rd.mono s, Same.refl _, fun b o e => .inl e⟩
variable {QL : List D → Mem → Prop}
theorem wi_list (h : WE X B ex iter (fun x M1 => ∃ ds, x = .dat (.lst ds) ∧ QL ds M1) ss M) : WI X B ex tg iter QL ss M := .mk fun ck G A H σ w sl R k => by
  refine ti_of (pi_list pe_self) ?_
  refine h ck G A H σ w sl _ fun v x G1 A1 M1 H1 e1 w1 s1 h1 => ?_
  obtain ⟨ds, rfl, q⟩ := h1
  have s1 : Rep X.K G1 v (.lst ds) := s1
  cases s1 with
  | lst hl r => exact ⟨_, rfl, ⟨_, .inl (rdM w1.gh hl)⟩, k _ ds G1 A1 M1 H1 e1 w1 (src_at r walk_list fun H s => .inl (rdM s hl)) q⟩
theorem wi_tup (h : WE X B ex iter (fun x M1 => ∃ ds, x = .dat (.tup ds) ∧ QL ds M1) ss M) : WI X B ex tg iter QL ss M := .mk fun ck G A H σ w sl R k => by
  refine ti_of (pi_tup pe_self) ?_
  refine h ck G A H σ w sl _ fun v x G1 A1 M1 H1 e1 w1 s1 h1 => ?_
  obtain ⟨ds, rfl, q⟩ := h1
  have s1 : Rep X.K G1 v (.tup ds) := s1
  cases s1 with
  | tup hl r => exact ⟨_, rfl, ⟨_, sqtM w1.gh hl⟩, k _ ds G1 A1 M1 H1 e1 w1 (src_at r walk_tup fun H s => sqtM s hl) q⟩
/-- the signs of a text -/
def signsD (z : Str) : List D := z.cps.toList.map fun c => .str ⟨#[c]⟩
theorem SOk.one {z : Str} {c : Nat} (h : SOk z) (m : c ∈ z.cps) : SOk ⟨#[c]⟩ := by
  refine ⟨by show 1 ≤ sizeLine; decide, ?_⟩
  have a := h.2
  unfold PyData.strOk at a ⊢
  rw [Array.all_eq_true'] at a
  have := a c m
  simpa using this
theorem wi_str (h : WE X B ex iter (fun x M1 => ∃ z, x = .dat (.str z) ∧ QL (signsD z) M1) ss M) : WI X B ex tg iter QL ss M := .mk fun ck G A H σ w sl R k => by
  refine ti_of (pi_str pe_self) ?_
  refine h ck G A H σ w sl _ fun v x G1 A1 M1 H1 e1 w1 s1 h1 => ?_
  obtain ⟨z, rfl, q⟩ := h1
  have s1 : Rep X.K G1 v (.str z) := s1
  cases s1 with
  | str _ hz =>
    refine ⟨z, rfl, k _ _ G1 A1 M1 H1 e1 w1 ⟨_, _, (by
      have e : (signsD z).length = z.cps.size := by unfold signsD; rw [List.length_map, Array.length_toList]
      rw [e]; exact walk_str), fun _ _ => trivial, fun i H x H' G A M hi s w hy => ?_⟩ q⟩
    obtain ⟨rfl, c, hc, rfl⟩ := hy
    refine ⟨G, _, Same.refl _, w, ?_, .str _ (hz.one (Array.mem_of_getElem? hc)), Same.refl _, fun b o e => .inl e⟩
    unfold signsD
    rw [List.getElem?_map, Array.getElem?_toList, hc]
    rfl
/-- the ints that range(n), range(a, b) goes through -/
def rangeD (lo : Int) (n : Nat) : List D := (List.range n).map fun (i : Nat) => .int (lo + (i : Int))
theorem src_range {K : PySem.W.Frag} {G1 : Hp} {lo : Int} {n : Nat} : SrcOk K B (Itr lo n) G1 (rangeD lo n) := by
  have e : (rangeD lo n).length = n := by unfold rangeD; rw [List.length_map, List.length_range]
  refine ⟨_, _, by rw [e]; exact walk_range, fun _ _ => trivial, fun i H x H' G A M hi s w hy => ?_⟩
  obtain ⟨rfl, rfl⟩ := hy
  rw [e] at hi
  refine ⟨G, _, Same.refl _, w, ?_, .int _, Same.refl _, fun b o e => .inl e⟩
  unfold rangeD
  rw [List.getElem?_map, List.getElem?_range hi]
  rfl
theorem wi_range1 (hm : X.mg "range" = none) (hg : Gl X "range") (h : WA X B ex [e] (fun xs M1 => ∃ n : Int, xs = [.dat (.int n)] ∧ (-(2 ^ 62) ≤ n ∧ n < 2 ^ 62) ∧ QL (rangeD 0 n.toNat) M1) ss M)
    (hs1 : starEach [e] X.env = [(false, eval e X.env)] := by rfl) : WI X B ex tg (.Call (.Name "range" p) [e] [] p2) QL ss M := .mk fun ck G A H σ w sl R k => by
  refine ti_of (pi_range1 hg hm pa_self hs1) ?_
  refine h ck G A H σ w sl _ fun vs xs G1 A1 M1 H1 e1 w1 s1 h1 => ?_
  obtain ⟨n, rfl, hz, q⟩ := h1
  cases s1 with
  | cons s r =>
    cases r
    cases s
    exact ⟨n, rfl, hz.1, hz.2, k _ _ G1 A1 M1 H1 e1 w1 src_range q⟩
theorem wi_range2 (hm : X.mg "range" = none) (hg : Gl X "range") (h : WA X B ex [a, b] (fun xs M1 => ∃ i n : Int, xs = [.dat (.int i), .dat (.int n)] ∧ (-(2 ^ 62) ≤ i ∧ i < 2 ^ 62 ∧ -(2 ^ 62) ≤ n ∧ n < 2 ^ 62) ∧ QL (rangeD i (n - i).toNat) M1) ss M)
    (hs1 : starEach [a, b] X.env = [(false, eval a X.env), (false, eval b X.env)] := by rfl) (hs2 : starEach [b] X.env = [(false, eval b X.env)] := by rfl) : WI X B ex tg (.Call (.Name "range" p) [a, b] [] p2) QL ss M := .mk fun ck G A H σ w sl R k => by
  refine ti_of (pi_range2 hg hm pa_self hs1 hs2) ?_
  refine h ck G A H σ w sl _ fun vs xs G1 A1 M1 H1 e1 w1 s1 h1 => ?_
  obtain ⟨i, n, rfl, hz, q⟩ := h1
  cases s1 with
  | cons s r =>
    cases r with
    | cons s' r =>
      cases r
      cases s
      cases s'
      exact ⟨i, n, rfl, hz, k _ _ G1 A1 M1 H1 e1 w1 src_range q⟩
/-- pairs that are made while one walks -/
theorem src_pair {K : PySem.W.Frag} {G1 : Hp} {J : It} {Gp : Hp → Prop} {xs ys : Nat → Option V} {ds es : List D} {n : Nat} (wk : Walk J n Gp (YPair xs ys)) (hG : ∀ H, Same G1 H → Gp H) (h1 : ds.length = n) (h2 : es.length = n)
    (r1 : ∀ i x, i < n → xs i = some x → ∃ d, ds[i]? = some d ∧ Rep K G1 x d) (r2 : ∀ i x, i < n → ys i = some x → ∃ d, es[i]? = some d ∧ Rep K G1 x d) : SrcOk K B J G1 (List.zipWith (fun a b => D.tup [a, b]) ds es) := by
  have e : (List.zipWith (fun a b => D.tup [a, b]) ds es).length = n := by rw [List.length_zipWith, h1, h2, Nat.min_self]
  refine ⟨Gp, _, by rw [e]; exact wk, hG, fun i H x H' G A M hi s w hy => ?_⟩
  rw [e] at hi
  obtain ⟨T, x1, x2, rfl, hT, rfl, hx, hy⟩ := hy
  obtain ⟨d1, e1, q1⟩ := r1 i x1 hi hx
  obtain ⟨d2, e2, q2⟩ := r2 i x2 hi hy
  obtain ⟨w2, ext⟩ := w.newD (o := .tup [x1, x2]) hT
  refine ⟨_, .tup [d1, d2], ext.1, w2, ?_, .tup (.of upd_same) (.cons (q1.mono (s.trans ext.1)) (.cons (q2.mono (s.trans ext.1)) .nil)), same_upd hT, fun b o e => ?_⟩
  · rw [List.getElem?_zipWith, e1, e2]
  · by_cases c : b = T
    · subst c; exact .inr hT
    · rw [upd_ne c] at e; exact .inl e
theorem wi_enum {elts : List Expr} {kk : Nat} {tpos : Pos} (hm : X.mg "enumerate" = none) (hg : Gl X "enumerate") (h : WA X B ex [e] (fun xs M1 => ∃ ds : List D, xs = [.dat (.lst ds)] ∧ QL (List.zipWith (fun a b => D.tup [a, b]) (rangeD 0 ds.length) ds) M1) ss M)
    (hs1 : starEach [e] X.env = [(false, eval e X.env)] := by rfl) : WI X B ex (.Tuple elts kk tpos) (.Call (.Name "enumerate" p) [e] [] p2) QL ss M := .mk fun ck G A H σ w sl R k => by
  refine ti_of (pi_enum hg hm pa_self hs1) ?_
  refine h ck G A H σ w sl _ fun vs xs G1 A1 M1 H1 e1 w1 s1 h1 => ?_
  obtain ⟨ds, rfl, q⟩ := h1
  cases s1 with
  | cons s r =>
    cases r
    have s : Rep X.K G1 _ (.lst ds) := s
    cases s with
    | lst hl r =>
      rename_i l vs
      refine ⟨l, vs, rfl, .inl (rdM w1.gh hl), k _ _ G1 A1 M1 H1 e1 w1 (src_pair (n := vs.length) (walk_enum (K := X.K) (a := l) (xs := vs)) (fun H s => .inl (rdM s hl)) (by unfold rangeD; rw [List.length_map, List.length_range, r.length]) r.length.symm (fun i x hi hx => ?_) fun i x hi hx => r.at hx) q⟩
      cases hx
      refine ⟨.int (0 + (i : Int)), ?_, by rw [Int.zero_add]; exact .int _⟩
      unfold rangeD
      rw [List.getElem?_map, List.getElem?_range (by rw [← r.length]; exact hi)]
      rfl
theorem wi_zip {elts : List Expr} {kk : Nat} {tpos : Pos} (hm : X.mg "zip" = none) (hg : Gl X "zip") (h : WA X B ex [a, b] (fun xs M1 => ∃ ds es : List D, xs = [.dat (.lst ds), .dat (.lst es)] ∧ ds.length = es.length ∧ QL (List.zipWith (fun a b => D.tup [a, b]) ds es) M1) ss M)
    (hs1 : starEach [a, b] X.env = (false, eval a X.env) :: starEach [b] X.env := by rfl) (hpl : (backTo p2 (starEach [b] X.env)).any (·.1) = false := by rfl) : WI X B ex (.Tuple elts kk tpos) (.Call (.Name "zip" p) [a, b] [] p2) QL ss M := .mk fun ck G A H σ w sl R k => by
  refine ti_of (pi_zip hg hm pa_self hs1 hpl) ?_
  refine h ck G A H σ w sl _ fun vs xs G1 A1 M1 H1 e1 w1 s1 h1 => ?_
  obtain ⟨ds, es, rfl, hl, q⟩ := h1
  cases s1 with
  | cons s r =>
    cases r with
    | cons s' r =>
      cases r
      have s : Rep X.K G1 _ (.lst ds) := s
      have s' : Rep X.K G1 _ (.lst es) := s'
      cases s with
      | lst h1 r1 =>
        cases s' with
        | lst h2 r2 =>
          refine ⟨_, _, _, _, rfl, .inl (rdM w1.gh h1), .inl (rdM w1.gh h2), k _ _ G1 A1 M1 H1 e1 w1 (src_pair (n := ds.length) (walk_zip (by rw [r1.length, r2.length, ← hl, Nat.min_self])) (fun H s => ⟨.inl (rdM s h1), .inl (rdM s h2)⟩) rfl hl.symm (fun i x hi hx => r1.at hx) fun i x hi hx => r2.at hx) q⟩
/-! ### for -/
/-- the turns of a loop: I by the number of turns -/
def ForQ (X : Cx) (B : Base) (ex : XD) (tg : Expr) (body : List Stmt) (N : Nd) (ds : List D) (I : Nat → Sst → Mem → Prop) : Prop :=
  (∀ i d ss M, ds[i]? = some d → I i ss M → WG X B ex tg (.dat d) (fun ss2 M2 => WB X B ex body { N with nx := I (i + 1), ct := I (i + 1), bk := N.nx } ss2 M2) ss M) ∧ ∀ ss M, I ds.length ss M → N.nx ss M
theorem ws_for (hc : X.calm = true) (h : WI X B ex tg iter (fun ds M1 => ∃ I, I 0 ss M1 ∧ ForQ X B ex tg body N ds I) ss M) (hs : ∀ x, foldedSetIterable iter X.env x = pure x := by intro _; rfl) : WS X B ex (.For tg iter body [] pos) N ss M := .mk fun ck G A H σ w sl E k => by
  refine ts_of (ps_for ck.ps hc pi_self pg_self pb_self hs) ?_
  refine h ck G A H σ w sl _ fun J ds G1 A1 M1 H1 e1 w1 src h1 => ?_
  obtain ⟨I, h0, hq⟩ := h1
  obtain ⟨Gp, Y, wk, hG, hY⟩ := src
  refine for_it wk (fun i σ H => ∃ ss G A M, Same G1 G ∧ Wd X.K B G A M H ∧ Sl X.K G A σ ss ∧ I i ss M) ⟨ss, G1, A1, M1, Same.refl _, w1, sl.mono e1, h0⟩ (fun i σ H _ ⟨_, G', _, _, s', w', _⟩ => hG H (s'.trans w'.gh)) (fun i y σ H H' hi hj hy => ?_) fun σ H hj => ?_
  · obtain ⟨ss, G2, A2, M2, s1, w2, sl2, q⟩ := hj
    obtain ⟨G3, d, s3, w3, hd, rd, _⟩ := hY i H y H' G2 A2 M2 hi s1 w2 hy
    have s13 := s1.trans s3
    refine hq.1 i d ss M2 hd q ck G3 A2 H' σ y w3 (sl2.mono ⟨s3, [], by simp⟩) rd _ fun σ4 ss4 G4 A4 M4 H4 s4 w4 sl4 h4 => ?_
    have s14 := s13.trans s4
    refine h4 ck G4 A4 H4 σ4 w4 sl4 _ ⟨fun σ' ss' G' A' M' H' s' w' sl' q' => ?_, fun v x G' A' M' H' s' w' sv q' => ?_, fun σ' ss' G' A' M' H' s' w' sl' q' => ?_, fun σ' ss' G' A' M' H' s' w' sl' q' => ?_⟩
    · exact ⟨ss', G', A', M', s14.trans s', w', sl', q'⟩
    · exact k.rt v x G' A' M' H' ((e1.1.trans s14).trans s') w' sv q'
    · exact k.nx σ' ss' G' A' M' H' ((e1.1.trans s14).trans s') w' sl' q'
    · exact ⟨ss', G', A', M', s14.trans s', w', sl', q'⟩
  · obtain ⟨ss, G2, A2, M2, s1, w2, sl2, q⟩ := hj
    exact k.nx σ ss G2 A2 M2 H (e1.1.trans s1) w2 sl2 (hq.2 ss M2 q)
/-- while: I with a measure -/
theorem ws_while (I : Nat → Sst → Mem → Prop) (m : Nat) (h0 : I m ss M) (hs : ∀ m ss' M', I m ss' M' → WT X B ex c (fun b M1 => if b = true then WB X B ex body { N with nx := fun ss2 M2 => ∃ m', m' < m ∧ I m' ss2 M2, ct := fun ss2 M2 => ∃ m', m' < m ∧ I m' ss2 M2, bk := N.nx } ss' M1 else N.nx ss' M1) ss' M') :
    WS X B ex (.While c body [] pos) N ss M := .mk fun ck G A H σ w sl E k => by
  refine ts_of (ps_while ck.ps pt_self pb_self) ?_
  refine ⟨fun m σ H => ∃ ss G' A M, Same G G' ∧ Wd X.K B G' A M H ∧ Sl X.K G' A σ ss ∧ I m ss M, ⟨m, ss, G, A, M, Same.refl _, w, sl, h0⟩, fun m σ H hj => ?_⟩
  obtain ⟨ss1, G1, A1, M1, s1, w1, sl1, q⟩ := hj
  refine hs m ss1 M1 q ck G1 A1 H σ w1 sl1 _ fun b G2 A2 M2 H2 e2 w2 h2 => ?_
  cases b with
  | false =>
    rw [if_neg Bool.false_ne_true] at h2 ⊢
    exact k.nx σ ss1 G2 A2 M2 H2 (s1.trans e2.1) w2 (sl1.mono e2) h2
  | true =>
    rw [if_pos rfl] at h2 ⊢
    refine ⟨fun σ' H' => ∃ m', m' < m ∧ ∃ ss G' A M, Same G G' ∧ Wd X.K B G' A M H' ∧ Sl X.K G' A σ' ss ∧ I m' ss M, fun σ' H' q => q, ?_⟩
    refine h2 ck G2 A2 H2 σ w2 (sl1.mono e2) _ ⟨fun σ' ss' G' A' M' H' s' w' sl' q' => ?_, fun v x G' A' M' H' s' w' sv q' => ?_, fun σ' ss' G' A' M' H' s' w' sl' q' => ?_, fun σ' ss' G' A' M' H' s' w' sl' q' => ?_⟩
    · obtain ⟨m', hm, q'⟩ := q'
      exact ⟨m', hm, ss', G', A', M', (s1.trans e2.1).trans s', w', sl', q'⟩
    · exact k.rt v x G' A' M' H' ((s1.trans e2.1).trans s') w' sv q'
    · exact k.nx σ' ss' G' A' M' H' ((s1.trans e2.1).trans s') w' sl' q'
    · obtain ⟨m', hm, q'⟩ := q'
      exact ⟨m', hm, ss', G', A', M', (s1.trans e2.1).trans s', w', sl', q'⟩
/-! ### a, b = a tuple -/
theorem wg_tup2 {t1 t2 : Expr} {j : Nat} {d1 d2 : D} {Q : Sst → Mem → Prop} (hc : X.calm = true) (h : WG X B ex t1 (.dat d1) (fun ss2 M2 => WG X B ex t2 (.dat d2) Q ss2 M2) ss M)
    (hn : (assignEach [t1, t2] X.env).length = 2 := by rfl) (hst : (assignEach [t1, t2] X.env).findIdx? (·.1) = none := by rfl) (h1 : (assignEach [t1, t2] X.env).map (·.2) = assign t1 X.env :: (assignEach [t2] X.env).map (·.2) := by rfl) (h2 : (assignEach [t2] X.env).map (·.2) = assign t2 X.env :: (assignEach [] X.env).map (·.2) := by rfl) :
    WG X B ex (.Tuple [t1, t2] j pos) (.dat (.tup [d1, d2])) Q ss M := .mk fun ck G A H σ v w sl s Kq k => by
  refine tg_of (pg_tup hc (pgs_cons pg_self (pgs_cons pg_self pgs_nil h2) h1) hn hst) ?_
  have s : Rep X.K G v (.tup [d1, d2]) := s
  cases s with
  | tup hl r =>
    cases r with
    | cons r1 r =>
      cases r with
      | cons r2 r =>
        cases r
        refine ⟨_, _, rfl, sqtM w.gh hl, rfl, _, _, rfl, ?_⟩
        refine h ck G A H σ _ w sl r1 _ fun σ' ss' G' A' M' H' s' w' sl' q => ?_
        refine ⟨_, _, rfl, ?_⟩
        exact q ck G' A' H' σ' _ w' sl' (Rep.mono s' r2) _ fun σ2 ss2 G2 A2 M2 H2 s2 w2 sl2 q2 => ⟨rfl, k σ2 ss2 G2 A2 M2 H2 (s'.trans s2) w2 sl2 q2⟩
theorem wg_tup3 {t1 t2 t3 : Expr} {j : Nat} {d1 d2 d3 : D} {Q : Sst → Mem → Prop} (hc : X.calm = true) (h : WG X B ex t1 (.dat d1) (fun ss2 M2 => WG X B ex t2 (.dat d2) (fun ss3 M3 => WG X B ex t3 (.dat d3) Q ss3 M3) ss2 M2) ss M)
    (hn : (assignEach [t1, t2, t3] X.env).length = 3 := by rfl) (hst : (assignEach [t1, t2, t3] X.env).findIdx? (·.1) = none := by rfl) (h1 : (assignEach [t1, t2, t3] X.env).map (·.2) = assign t1 X.env :: (assignEach [t2, t3] X.env).map (·.2) := by rfl)
    (h2 : (assignEach [t2, t3] X.env).map (·.2) = assign t2 X.env :: (assignEach [t3] X.env).map (·.2) := by rfl) (h3 : (assignEach [t3] X.env).map (·.2) = assign t3 X.env :: (assignEach [] X.env).map (·.2) := by rfl) :
    WG X B ex (.Tuple [t1, t2, t3] j pos) (.dat (.tup [d1, d2, d3])) Q ss M := .mk fun ck G A H σ v w sl s Kq k => by
  refine tg_of (pg_tup hc (pgs_cons pg_self (pgs_cons pg_self (pgs_cons pg_self pgs_nil h3) h2) h1) hn hst) ?_
  have s : Rep X.K G v (.tup [d1, d2, d3]) := s
  cases s with
  | tup hl r =>
    cases r with
    | cons r1 r =>
      cases r with
      | cons r2 r =>
        cases r with
        | cons r3 r =>
          cases r
          refine ⟨_, _, rfl, sqtM w.gh hl, rfl, _, _, rfl, ?_⟩
          refine h ck G A H σ _ w sl r1 _ fun σ' ss' G' A' M' H' s' w' sl' q => ⟨_, _, rfl, ?_⟩
          refine q ck G' A' H' σ' _ w' sl' (Rep.mono s' r2) _ fun σ2 ss2 G2 A2 M2 H2 s2 w2 sl2 q2 => ⟨_, _, rfl, ?_⟩
          exact q2 ck G2 A2 H2 σ2 _ w2 sl2 (Rep.mono (s'.trans s2) r3) _ fun σ3 ss3 G3 A3 M3 H3 s3 w3 sl3 q3 => ⟨rfl, k σ3 ss3 G3 A3 M3 H3 ((s'.trans s2).trans s3) w3 sl3 q3⟩
/-- a, b = a list of two -/
theorem wg_lst2 {t1 t2 : Expr} {j : Nat} {d1 d2 : D} {Q : Sst → Mem → Prop} (hc : X.calm = true) (h : WG X B ex t1 (.dat d1) (fun ss2 M2 => WG X B ex t2 (.dat d2) Q ss2 M2) ss M)
    (hn : (assignEach [t1, t2] X.env).length = 2 := by rfl) (hst : (assignEach [t1, t2] X.env).findIdx? (·.1) = none := by rfl) (h1 : (assignEach [t1, t2] X.env).map (·.2) = assign t1 X.env :: (assignEach [t2] X.env).map (·.2) := by rfl) (h2 : (assignEach [t2] X.env).map (·.2) = assign t2 X.env :: (assignEach [] X.env).map (·.2) := by rfl) :
    WG X B ex (.Tuple [t1, t2] j pos) (.dat (.lst [d1, d2])) Q ss M := .mk fun ck G A H σ v w sl s Kq k => by
  refine tg_of (pg_lst hc (pgs_cons pg_self (pgs_cons pg_self pgs_nil h2) h1) hn hst) ?_
  have s : Rep X.K G v (.lst [d1, d2]) := s
  cases s with
  | lst hl r =>
    cases r with
    | cons r1 r =>
      cases r with
      | cons r2 r =>
        cases r
        refine ⟨_, _, rfl, .inl (rdM w.gh hl), rfl, _, _, rfl, ?_⟩
        refine h ck G A H σ _ w sl r1 _ fun σ' ss' G' A' M' H' s' w' sl' q => ?_
        refine ⟨_, _, rfl, ?_⟩
        exact q ck G' A' H' σ' _ w' sl' (Rep.mono s' r2) _ fun σ2 ss2 G2 A2 M2 H2 s2 w2 sl2 q2 => ⟨rfl, k σ2 ss2 G2 A2 M2 H2 (s'.trans s2) w2 sl2 q2⟩
/-! ### methods of lists -/
def rExtT : V → List V → Hp → VK → Prop := fun x vs H Q => ∃ l b xs zs, x = .ref l ∧ vs = [.ref b] ∧ H l = some (.lst xs) ∧ Rd H b (.lst zs) ∧ xs.length + zs.length ≤ sizeLine ∧ Q .non (upd H l (.lst (xs ++ zs)))
theorem mt_extT : MtR X "list.extend" rExtT := by
  intro pins s σ H x vs v us Q I rx rv hh
  obtain ⟨l, b, xs, zs, rfl, rfl, hH, hB, hz, q⟩ := hh
  cases rx
  obtain ⟨u, rfl, ru⟩ := rv.one
  cases ru
  obtain ⟨z, i1, n1, r1, hl1, e1⟩ := I.lstM hH
  obtain ⟨_, i2, n2, r2, e2⟩ := hB.ok I.hok
  have hl2 := r2.length
  have n3 : i1.toArray.size + i2.toArray.size ≤ sizeLine := by rw [List.size_toArray, List.size_toArray]; omega
  have n4 : ¬ (!i1.toArray.isEmpty && Builtin.List.listTooLong (i1.toArray.size + i2.toArray.size)) = true := by rw [notLongL n3, Bool.and_false]; simp
  refine call_meets F.slot_list_extend ⟨_, e1, rfl⟩ F.entry_list_extend (F.args_list_extend_2 _ _) (AutoSeq1.list_extend_list_list_0 l i1.toArray n1 b i2.toArray n2 n4 (by rw [List.size_toArray]; omega) (by omega)) ⟨e1, e2, ?_⟩
  exact ⟨.non, _, I.lset (its' := i1 ++ i2) hH e1 (by simp) (r1.append r2) (by rw [List.length_append]; omega), rfl, q⟩
/-- x a list of ours: its items -/
def cellL0 (M : Mem) (x : SV) (k : Nat → List D → Prop) : Prop := match x with
  | .cel i => match M[i]? with
    | some (.lst ds) => k i ds
    | _ => False
  | _ => False
structure cellL (M : Mem) (x : SV) (k : Nat → List D → Prop) : Prop where
  run : cellL0 M x k
theorem cellL_get {M : Mem} {x : SV} {k : Nat → List D → Prop} (h : cellL M x k) : ∃ i ds, x = .cel i ∧ M[i]? = some (.lst ds) ∧ k i ds := by
  have h := h.run
  unfold cellL0 at h
  cases x with
  | dat d => exact h.elim
  | raw u => exact h.elim
  | exc u v w => exact h.elim
  | tup xs => exact h.elim
  | xt xs => exact h.elim
  | cel i =>
    simp only at h
    cases e : M[i]? with
    | none => simp [e] at h
    | some c =>
      cases c <;> simp [e] at h
      exact ⟨i, _, rfl, e, h⟩
/-- one argument, data -/
def one10 (ys : List SV) (k : D → Prop) : Prop := match ys with
  | [.dat d] => k d
  | _ => False
structure one1 (ys : List SV) (k : D → Prop) : Prop where
  run : one10 ys k
theorem one1_get {K : PySem.W.Frag} {G : Hp} {A : List Addr} {vs : List V} {ys : List SV} {k : D → Prop} (r : Svs K G A vs ys) (h : one1 ys k) : ∃ v d, vs = [v] ∧ Rep K G v d ∧ ys = [.dat d] ∧ k d := by
  have h := h.run
  unfold one10 at h
  split at h
  · cases r with
    | cons s r => cases r; exact ⟨_, _, rfl, s, rfl, h⟩
  · exact h.elim
theorem we_append (h : WE X B ex o (fun x M1 => cellL M1 x fun _ _ => WA X B ex [e] (fun ys M2 => one1 ys fun d => cellL M2 x fun i ds => ds.length < sizeLine ∧ Q (.dat .non) (M2.set i (.lst (ds ++ [d])))) ss M1) ss M)
    (hbase : attributeBase o "append" X.env (eval o X.env) = eval o X.env := by rfl)
    (hfew : ((backTo pos (starEach [e] X.env)).all (fun x => !x.1) && (backToKw pos (keywordEach [] X.env)).all (fun x => x.1.isSome) && decide ([e].length + ([] : List Keyword).length + (if ([] : List Keyword).isEmpty then 0 else 1) < 30)) = true := by rfl)
    (hline : (apos.endLine == pos.line) = true := by rfl) (hs : starEach [e] X.env = (false, eval e X.env) :: starEach [] X.env := by rfl) (hpl : (backTo pos (starEach [] X.env)).any (·.1) = false := by rfl) :
    WE X B ex (.Call (.Attribute o "append" apos) [e] [] pos) Q ss M := .mk fun ck G A H σ w sl Kq k => by
  refine te_of (pe_bm PySem.F.plainAttrs_list PySem.F.slot_list_append PySem.F.type_list_append mt_append pe_self pa_self hbase hfew hline hs hpl) ?_
  refine h ck G A H σ w sl _ fun v x G1 A1 M1 H1 e1 w1 s1 h1 => ?_
  obtain ⟨i, ds, rfl, hM, h1⟩ := cellL_get h1
  obtain ⟨l, rfl, hl⟩ := s1
  obtain ⟨gn, vs, hv, r⟩ := w1.cl.get hl hM
  refine ⟨.inl ⟨rfl, vs, .inl (.inl hv)⟩, ?_⟩
  refine h1 ck G1 A1 H1 σ w1 (sl.mono e1) _ fun us ys G2 A2 M2 H2 e2 w2 s2 h2 => ?_
  obtain ⟨u, d, rfl, ru, eys, h3⟩ := one1_get s2 h2
  obtain ⟨j, ds2, ej, hM2, hz, h4⟩ := cellL_get h3
  cases ej
  have hl2 := pre_get e2.2 hl
  obtain ⟨gn2, vs2, hv2, r2⟩ := w2.cl.get hl2 hM2
  refine ⟨l, vs2, u, rfl, rfl, hv2, by rw [r2.length]; exact hz, ?_⟩
  exact k .non (.dat .non) G2 A2 _ _ (e1.trans e2) (w2.setC (c' := .lst (ds2 ++ [d])) hl2 gn2 ⟨gn2, _, upd_same, r2.append (.cons ru .nil)⟩) .non h4
theorem we_extend (h : WE X B ex o (fun x M1 => cellL M1 x fun _ _ => WA X B ex [e] (fun ys M2 => ∃ y, ys = [y] ∧ with1 M2 y fun d => ∃ es, d = .lst es ∧ cellL M2 x fun i ds => ds.length + es.length ≤ sizeLine ∧ Q (.dat .non) (M2.set i (.lst (ds ++ es)))) ss M1) ss M)
    (hbase : attributeBase o "extend" X.env (eval o X.env) = eval o X.env := by rfl)
    (hfew : ((backTo pos (starEach [e] X.env)).all (fun x => !x.1) && (backToKw pos (keywordEach [] X.env)).all (fun x => x.1.isSome) && decide ([e].length + ([] : List Keyword).length + (if ([] : List Keyword).isEmpty then 0 else 1) < 30)) = true := by rfl)
    (hline : (apos.endLine == pos.line) = true := by rfl) (hs : starEach [e] X.env = (false, eval e X.env) :: starEach [] X.env := by rfl) (hpl : (backTo pos (starEach [] X.env)).any (·.1) = false := by rfl) :
    WE X B ex (.Call (.Attribute o "extend" apos) [e] [] pos) Q ss M := .mk fun ck G A H σ w sl Kq k => by
  refine te_of (pe_bm PySem.F.plainAttrs_list PySem.F.slot_list_extend PySem.F.type_list_extend mt_extT pe_self pa_self hbase hfew hline hs hpl) ?_
  refine h ck G A H σ w sl _ fun v x G1 A1 M1 H1 e1 w1 s1 h1 => ?_
  obtain ⟨i, ds, rfl, hM, h1⟩ := cellL_get h1
  obtain ⟨l, rfl, hl⟩ := s1
  obtain ⟨gn, vs, hv, r⟩ := w1.cl.get hl hM
  refine ⟨.inl ⟨rfl, vs, .inl (.inl hv)⟩, ?_⟩
  refine h1 ck G1 A1 H1 σ w1 (sl.mono e1) _ fun us ys G2 A2 M2 H2 e2 w2 s2 h2 => ?_
  obtain ⟨y, rfl, h2⟩ := h2
  obtain ⟨d, g, es2, rfl, h2⟩ := with1_get h2
  cases s2 with
  | cons sy r0 =>
    cases r0
    obtain ⟨b, vb, rfl, hb, rb⟩ := sy.s w2 g
    obtain ⟨j, ds2, ej, hM2, hz, h2⟩ := cellL_get h2
    cases ej
    have hl2 := pre_get e2.2 hl
    obtain ⟨gn2, vs2, hv2, r2⟩ := w2.cl.get hl2 hM2
    refine ⟨l, b, vs2, vb, rfl, rfl, hv2, hb, by rw [r2.length, rb.length]; exact hz, ?_⟩
    exact k .non (.dat .non) G2 A2 _ _ (e1.trans e2) (w2.setC (c' := .lst (ds2 ++ es2)) hl2 gn2 ⟨gn2, _, upd_same, r2.append rb⟩) .non h2
/-! ### texts: join, split -/
theorem strOk_app {x y : Str} (a : PyData.strOk x = true) (b : PyData.strOk y = true) : PyData.strOk (x ++ y) = true := by
  unfold PyData.strOk at a b ⊢
  show (x.cps ++ y.cps).all _ = true
  rw [Array.all_append, a, b]
  rfl
theorem join_ok {z : Str} (hz : PyData.strOk z = true) : ∀ (ys : List Str), (∀ y ∈ ys, PyData.strOk y = true) → PyData.strOk (Str.join z ys) = true ∧ (Str.join z ys).length ≤ (ys.map (·.length)).sum + ys.length * z.length
  | [], _ => ⟨(by decide +kernel : PyData.strOk Str.empty = true), by show 0 ≤ _; omega⟩
  | [y], h => ⟨h y List.mem_cons_self, by show y.length ≤ _; simp⟩
  | y :: y2 :: r, h => by
    have q := join_ok hz (y2 :: r) fun t m => h t (List.mem_cons_of_mem _ m)
    refine ⟨?_, ?_⟩
    · show PyData.strOk (y ++ z ++ Str.join z (y2 :: r)) = true
      exact strOk_app (strOk_app (h y List.mem_cons_self) hz) q.1
    · show (y ++ z ++ Str.join z (y2 :: r)).length ≤ _
      rw [str_len_app, str_len_app]
      have q2 := q.2
      rw [List.map_cons, List.sum_cons, List.length_cons, Nat.add_mul, Nat.one_mul]
      omega
theorem tjoin_ok {z : Str} {ys : List Str} (hz : SOk z) (yok : ∀ y ∈ ys, SOk y) (hn : (ys.map (·.length)).sum + ys.length * z.length ≤ 16777216) : SOk (Txt.join z ys) := by
  have q := join_ok hz.2 ys fun y m => (yok y m).2
  rw [TL.join_eq]
  refine ⟨?_, q.1⟩
  rw [sizeLine_eq]
  exact Nat.le_trans q.2 hn
theorem we_join (h : WE X B ex o (fun x M1 => ∃ z, x = .dat (.str z) ∧ WE X B ex e (fun y M2 => with1 M2 y fun d => ∃ ys : List Str, (d = .lst (ys.map D.str) ∨ d = .tup (ys.map D.str)) ∧ (ys.map (·.length)).sum + ys.length * z.length ≤ 16777216 ∧ Q (.dat (.str (Txt.join z ys))) M2) ss M1) ss M)
    (hs : starEach [e] X.env = [(false, eval e X.env)] := by rfl) (hbase : attributeBase o "join" X.env (eval o X.env) = eval o X.env := by rfl) (hline : (apos.endLine == pos.line) = true := by rfl) :
    WE X B ex (.Call (.Attribute o "join" apos) [e] [] pos) Q ss M := .mk fun ck G A H σ w sl Kq k => by
  refine te_of (pe_join pe_self pe_self hs hbase hline) ?_
  refine h ck G A H σ w sl _ fun v x G1 A1 M1 H1 e1 w1 s1 h1 => ?_
  obtain ⟨z, rfl, h1⟩ := h1
  have s1 : Rep X.K G1 v (.str z) := s1
  cases s1 with
  | str _ hz =>
    refine ⟨⟨z, rfl⟩, ?_⟩
    refine h1 ck G1 A1 H1 σ w1 (sl.mono e1) _ fun u y G2 A2 M2 H2 e2 w2 s2 h2 => ?_
    obtain ⟨d, g, ys, hd, hn, q⟩ := with1_get h2
    have qs := s2.s w2 g
    have fin : ∀ yok : (∀ y ∈ ys, SOk y), SOk (Txt.join z ys) := fun yok => tjoin_ok hz yok hn
    rcases hd with rfl | rfl
    · obtain ⟨l, vs, rfl, hl, r⟩ := qs
      obtain ⟨rfl, yok⟩ := reps_strs r
      exact ⟨z, l, ys, rfl, rfl, .inl (.inl hl), hn, k _ (.dat _) G2 A2 M2 H2 (e1.trans e2) w2 (Rep.str _ (fin yok)) q⟩
    · obtain ⟨l, vs, rfl, hl, r⟩ := qs
      obtain ⟨rfl, yok⟩ := reps_strs r
      exact ⟨z, l, ys, rfl, rfl, .inr (hl), hn, k _ (.dat _) G2 A2 M2 H2 (e1.trans e2) w2 (Rep.str _ (fin yok)) q⟩
theorem we_split (h : WE X B ex o (fun x M1 => ∃ z, x = .dat (.str z) ∧ WE X B ex e (fun y M2 => ∃ u, y = .dat (.str u) ∧ ((u.length == 0) = false ∧ z.length + 2 ≤ sizeLine ∧ ∀ t ∈ Txt.split z u, SOk t) ∧ Q (.dat (.lst ((Txt.split z u).map D.str))) M2) ss M1) ss M)
    (hs : starEach [e] X.env = [(false, eval e X.env)] := by rfl) (hbase : attributeBase o "split" X.env (eval o X.env) = eval o X.env := by rfl) (hline : (apos.endLine == pos.line) = true := by rfl) :
    WE X B ex (.Call (.Attribute o "split" apos) [e] [] pos) Q ss M := .mk fun ck G A H σ w sl Kq k => by
  refine te_of (pe_split pe_self pe_self hs hbase hline) ?_
  refine h ck G A H σ w sl _ fun v x G1 A1 M1 H1 e1 w1 s1 h1 => ?_
  obtain ⟨z, rfl, h1⟩ := h1
  have s1 : Rep X.K G1 v (.str z) := s1
  cases s1 with
  | str _ hz =>
    refine ⟨⟨z, rfl⟩, ?_⟩
    refine h1 ck G1 A1 H1 σ w1 (sl.mono e1) _ fun u y G2 A2 M2 H2 e2 w2 s2 h2 => ?_
    obtain ⟨t, rfl, hc, q⟩ := h2
    have s2 : Rep X.K G2 u (.str t) := s2
    cases s2 with
    | str _ ht =>
      refine ⟨z, t, rfl, rfl, hc.1, hc.2.1, ?_⟩
      exact k.new (e1.trans e2) w2 q fun p hp => .lst (.inl upd_same) (strs_reps hc.2.2)
/-! ### slices -/
def cutD (xs : List D) (lo hi : Option Int) : List D := (xs.drop (HT.sIx xs.length 0 lo)).take (HT.sIx xs.length xs.length hi - HT.sIx xs.length 0 lo)
def slD (M : Mem) (d : D) (lo hi : Option Int) (Q : SV → Mem → Prop) : Prop := match d with
  | .lst ds => Q (.dat (.lst (cutD ds lo hi))) M
  | .tup ds => Q (.dat (.tup (cutD ds lo hi))) M
  | .str z => Q (.dat (.str (cutS z lo hi))) M
  | _ => False
/-- a part of a slice -/
def WO0 (X : Cx) (B : Base) (ex : XD) (e : Option Expr) (Q : Option Int → Mem → Prop) (ss : Sst) (M : Mem) : Prop := match e with
  | none => Q none M
  | some e => WE X B ex e (fun x M1 => ∃ i, x = .dat (.int i) ∧ Q (some i) M1) ss M
structure WO (X : Cx) (B : Base) (ex : XD) (e : Option Expr) (Q : Option Int → Mem → Prop) (ss : Sst) (M : Mem) : Prop where
  run : WO0 X B ex e Q ss M
def toW (X : Cx) (e : Option Expr) : TO := match e with
  | none => tNoPart
  | some e => tPart (teW X e)
theorem po_self {e : Option Expr} : PO X e (toW X e) := by
  cases e with
  | none => exact po_none
  | some e => exact po_some pe_self
theorem WO.goes {e : Option Expr} {QO : Option Int → Mem → Prop} {G : Hp} {A : List Addr} {H : Hp} {σ : L2.St} {Kq : Option Int → Hp → Prop} (ck : Cok X B ex) (h : WO X B ex e QO ss M) (w : Wd X.K B G A M H) (sl : Sl X.K G A σ ss)
    (k : ∀ o G' A' M' H', Ext G A G' A' → Wd X.K B G' A' M' H' → QO o M' → Kq o H') : toW X e σ H Kq := by
  cases e with
  | none => exact k none G A M H .refl w h.run
  | some e =>
    refine WE.run h.run ck G A H σ w sl _ fun v x G1 A1 M1 H1 e1 w1 s1 h1 => ?_
    obtain ⟨i, rfl, q⟩ := h1
    cases s1
    exact ⟨i, rfl, k _ G1 A1 M1 H1 e1 w1 q⟩
theorem cutV_reps {K : PySem.W.Frag} {G : Hp} {vs : List V} {ds : List D} (r : Reps K G vs ds) (lo hi : Option Int) : Reps K G (cutV vs lo hi) (cutD ds lo hi) := by
  unfold cutV cutD
  rw [r.length]
  exact (r.drop _).take _
theorem cutS_ok {z : Str} (h : SOk z) (lo hi : Option Int) : SOk (cutS z lo hi) := by
  refine ⟨Nat.le_trans (cutS_length z lo hi) h.1, ?_⟩
  have a := h.2
  unfold PyData.strOk at a ⊢
  rw [Array.all_eq_true'] at a ⊢
  intro c m
  refine a c ?_
  unfold cutS at m
  rw [List.mem_toArray] at m
  exact Array.mem_def.mpr (List.mem_of_mem_drop (List.mem_of_mem_take m))
theorem we_slice {lo hi : Option Expr} (h : WE X B ex e (fun x M1 => WO X B ex lo (fun l M2 => WO X B ex hi (fun u M3 => with1 M3 x fun d => slD M3 d l u Q) ss M2) ss M1) ss M) : WE X B ex (.Subscript e (.Slice lo hi none p2) pos) Q ss M := .mk fun ck G A H σ w sl Kq k => by
  refine te_of (pe_slice (SlR.or (SlR.or sl_list sl_tupA) sl_str) pe_self po_self po_self) ?_
  refine h ck G A H σ w sl _ fun v x G1 A1 M1 H1 e1 w1 s1 h1 => ?_
  refine WO.goes ck h1 w1 (sl.mono e1) fun l G2 A2 M2 H2 e2 w2 h2 => ?_
  refine WO.goes ck h2 w2 (sl.mono (e1.trans e2)) fun u G3 A3 M3 H3 e3 w3 h3 => ?_
  have s3 := s1.mono (e2.trans e3)
  have e123 := (e1.trans e2).trans e3
  obtain ⟨d, g, h3⟩ := with1_get h3
  have q := s3.s w3 g
  cases d <;> try exact h3.elim
  · obtain ⟨rfl, z⟩ := q
    exact .inr ⟨_, rfl, z.1, k _ (.dat _) G3 A3 M3 H3 e123 w3 (Rep.str _ (cutS_ok z _ _)) h3⟩
  · obtain ⟨t, vs, rfl, ht, r⟩ := q
    exact .inl (.inl ⟨t, vs, rfl, .inl ht, k.new e123 w3 h3 fun p hp => .lst (.inl upd_same) ((cutV_reps r _ _).mono (same_upd (w3.none hp).2.2))⟩)
  · have rd := RepS.data (H := H3) s3 g ⟨fun _ z => (by cases z), fun _ z => (by cases z)⟩
    obtain ⟨t, vs, rfl, ht, r⟩ := q
    refine .inl (.inr ⟨t, vs, rfl, ht, fun hw => ?_, fun _ => k.new e123 w3 h3 fun p hp => .tup (.of upd_same) ((cutV_reps r _ _).mono (same_upd (w3.none hp).2.2))⟩)
    refine k _ (.dat _) G3 A3 M3 H3 e123 w3 rd ?_
    rename_i ds
    have e : cutD ds l u = ds := by
      unfold cutD
      rw [r.length] at hw
      rw [hw.1, hw.2, List.drop_zero, Nat.sub_zero, List.take_length]
    have h3 : Q (.dat (.tup (cutD ds l u))) M3 := h3
    rw [e] at h3
    exact h3
end
end Mb

/-! Mb, part 10: comprehensions. -/
namespace Mb
open PySem L2 PyProof.Rows
section
variable {K : PySem.W.Frag} {B : Base} {G : Hp} {A : List Addr} {M : List Cell} {H : Hp}
/-- a world within a world -/
theorem Wd.rebase (w : Wd K B G A M H) {G' : Hp} {A' : List Addr} {M' : List Cell} {H' : Hp} (w' : Wd K ⟨G, A, H⟩ G' A' M' H') : Wd K B G' A' M' H' ∧ Ext G A G' A' := by
  obtain ⟨more, e⟩ := w'.pre
  have e : A' = A ++ more := e
  refine ⟨⟨w.gg.trans w'.gg, w'.gh, fun b o e nb => ?_, fun b o e => ?_, w'.nd, ?_, w'.there, fun b m => ?_, w'.cl⟩, w'.gg, more, e⟩
  · refine w'.fr b o (w.fr b o e nb) fun m => ?_
    rcases w.an b m with q | q
    · exact nb q
    · rw [q] at e; cases e
  · rcases w'.fresh b o e with q | q
    · exact w.fresh b o q
    · exact .inr (w.none q).1
  · obtain ⟨m0, e0⟩ := w.pre
    exact ⟨m0 ++ more, by rw [e, e0]; simp⟩
  · rcases w'.an b m with q | q
    · exact w.an b q
    · exact .inr (w.none q).1
theorem Wd.self (w : Wd K B G A M H) : Wd K ⟨G, A, H⟩ G A M H := Wd.start w.gh w.nd w.there w.cl
/-- a new object of the heap is taken as data -/
theorem Wd.adopt (w : Wd K B G A M H) {p : Addr} {o : HO} (hp : H p = some o) (hA : p ∉ A) (hg : G p = Option.none) (hb : B.H p = Option.none) : Wd K B (upd G p o) A M H ∧ Ext G A (upd G p o) A := by
  have s1 := same_upd (o := o) hg
  have ex : Ext G A (upd G p o) A := ⟨s1, [], by simp⟩
  refine ⟨⟨w.gg.trans s1, fun b u e => ?_, w.fr, fun b u e => ?_, w.nd, w.pre, w.there, w.an, w.cl.imp fun a c m h => h.keep ex (fun g => ?_) fun _ e => e⟩, ex⟩
  · by_cases c : b = p
    · subst c; rw [upd_same] at e; rw [← e]; exact hp
    · rw [upd_ne c] at e; exact w.gh b u e
  · by_cases c : b = p
    · subst c; exact .inr hb
    · rw [upd_ne c] at e; exact w.fresh b u e
  · rw [upd_ne (show a ≠ p from fun z => hA (z ▸ m))]; exact g
/-- an object that nobody tells of is written -/
theorem Wd.beside (w : Wd K B G A M H) {p : Addr} {o : HO} (hA : p ∉ A) (hg : G p = Option.none) (hb : B.H p = Option.none) : Wd K B G A M (upd H p o) := by
  refine ⟨w.gg, fun b u e => ?_, fun b u e nb => ?_, w.fresh, w.nd, w.pre, fun b m => ?_, w.an, w.cl.imp fun a c m h => h.keep .refl (fun g => g) fun u e => ?_⟩
  · rw [upd_ne (show b ≠ p from fun z => by subst z; rw [hg] at e; cases e)]; exact w.gh b u e
  · rw [upd_ne (show b ≠ p from fun z => by subst z; rw [hb] at e; cases e)]; exact w.fr b u e nb
  · rw [upd_ne (show b ≠ p from fun z => hA (z ▸ m))]; exact w.there b m
  · rw [upd_ne (show a ≠ p from fun z => hA (z ▸ m))]; exact e
end
/-- no exception -/
abbrev exF : XD := fun _ _ _ _ => False
def wipeD (ss : Sst) : List Nat → Sst
  | [] => ss
  | v :: vs => (wipeD ss vs).set v none
theorem Sl.wipe {K : PySem.W.Frag} {G : Hp} {A : List Addr} {σ : L2.St} {ss : Sst} (h : Sl K G A σ ss) : ∀ vs : List Nat, Sl K G A (L2.wipe σ vs) (wipeD ss vs)
  | [] => h
  | v :: vs => (Sl.wipe h vs).setN v
section
variable {X : Cx} {B : Base} {ex : XD} {ss : Sst} {M : Mem} {a b c e tg o iter elt : Expr} {es ifs : List Expr} {pos p p' apos p2 : Pos} {Q : SV → Mem → Prop} {scope : Scope} {own : List (Str × Nat)}
/-- the contexts of a comprehension's block -/
abbrev Blk (X : Cx) (scope : Scope) (s : Shared) (H : Hp) (C : Addr) (cl : List (Str × Addr)) (fp : List Addr) : Cx := X.blk s H scope (compEnvC scope cl C X.env) fp
theorem ck_blk {Y : Cx} (hx : Y.xe = fun _ _ => False) : Cok Y B exF := by
  refine ⟨fun u s' h => ?_, ?_⟩
  · obtain ⟨a, Bh, sI, pins, σ, H, cls, d, _, _, _, _, _, _, _, _, q⟩ := h
    obtain ⟨_, _, _, _, _, _, _, _, _, _, q⟩ := q
    exact q.elim
  · rw [hx]; exact PassesOwn.never
/-- a turn of a comprehension: what stands behind the target's store -/
def LcTurn (X : Cx) (scope : Scope) (elt : Expr) (ifs : List Expr) (acc : List D) (I1 : List D → Mem → Prop) (ss : Sst) (M : Mem) : Prop :=
  match ifs with
  | [] => ∀ (s : Shared) (H : Hp) (C : Addr) (cl : List (Str × Addr)) (fp : List Addr) (B : Base), B.A.length = M.length → WE (Blk X scope s H C cl fp) B exF elt (fun y M4 => ∃ d, y = .dat d ∧ acc.length < sizeLine ∧ I1 (acc ++ [d]) M4) ss M
  | [c] => ∀ (s : Shared) (H : Hp) (C : Addr) (cl : List (Str × Addr)) (fp : List Addr) (B : Base), B.A.length = M.length → WT (Blk X scope s H C cl fp) B exF c (fun b M3 => if b = true then
      ∀ (s : Shared) (H : Hp) (C : Addr) (cl : List (Str × Addr)) (fp : List Addr) (B : Base), B.A.length = M3.length → WE (Blk X scope s H C cl fp) B exF elt (fun y M4 => ∃ d, y = .dat d ∧ acc.length < sizeLine ∧ I1 (acc ++ [d]) M4) ss M3 else I1 acc M3) ss M
  | _ => False
/-- the uniform readings over all blocks -/
def teB (X : Cx) (scope : Scope) (e : Expr) : TE := fun σ H Q => ∀ s0 H0 C cl fp, teW (Blk X scope s0 H0 C cl fp) e σ H Q
def ttB (X : Cx) (scope : Scope) (e : Expr) : TT := fun σ H Q => ∀ s0 H0 C cl fp, ttW (Blk X scope s0 H0 C cl fp) e σ H Q
def tsB (X : Cx) (scope : Scope) (ifs : List Expr) : TT := match ifs with
  | [] => tYes
  | [c] => ttB X scope c
  | _ => fun _ _ _ => False
theorem pe_blk {s : Shared} {H : Hp} {C : Addr} {cl : List (Str × Addr)} {fp : List Addr} : PE (Blk X scope s H C cl fp) e (teB X scope e) := ⟨fun pins t _ _ _ I h => h s H C cl fp pins t I⟩
theorem pt_blk {s : Shared} {H : Hp} {C : Addr} {cl : List (Str × Addr)} {fp : List Addr} : PT (Blk X scope s H C cl fp) e (ttB X scope e) := ⟨fun pins t _ _ _ I h => h s H C cl fp pins t I⟩
theorem ps_blk (hi : ifs.length ≤ 1) {s : Shared} {H : Hp} {C : Addr} {cl : List (Str × Addr)} {fp : List Addr} : PTs (Blk X scope s H C cl fp) ifs (tsB X scope ifs) := by
  match ifs, hi with
  | [], _ => exact pts_nil
  | [c], _ => exact pts_one pt_blk
/-- the invariant of the loop, over the heap -/
def LcInv (K : PySem.W.Frag) (B : Base) (G1 : Hp) (A1 : List Addr) (σ : L2.St) (ss : Sst) (p : Addr) (I : Nat → List D → Mem → Prop) (i : Nat) (H : Hp) : Prop :=
  ∃ acc us G A M, Ext G1 A1 G A ∧ Wd K B G A M H ∧ Sl K G A σ ss ∧ H p = some (.lst us) ∧ Reps K G us acc ∧ p ∉ A ∧ G p = none ∧ I i acc M
theorem lc_turn {I1 : List D → Mem → Prop} {acc : List D} {us : List V} {G1 G : Hp} {A A1 : List Addr} {H : Hp} {σ σ2 : L2.St} {ss0 ss2 : Sst} {q : Addr} {i : Nat} {I : Nat → List D → Mem → Prop} (hI : I1 = I (i + 1)) (hb : B.H q = none) (s1 : Ext G1 A1 G A) (w : Wd X.K B G A M H) (sl : Sl X.K G A σ ss0) (sl2 : Sl X.K G A σ2 ss2) (hq : H q = some (.lst us)) (r : Reps X.K G us acc) (nA : q ∉ A) (gq : G q = none)
    (h : LcTurn X scope elt ifs acc I1 ss2 M) :
    tsB X scope ifs σ2 H fun b H3 => if b = true then teB X scope elt σ2 H3 fun y H4 => ∃ a, H4 q = some (.lst a) ∧ a.length < sizeLine ∧ LcInv X.K B G1 A1 σ ss0 q I (i + 1) (upd H4 q (.lst (a ++ [y]))) else LcInv X.K B G1 A1 σ ss0 q I (i + 1) H3 := by
  have body : ∀ {G : Hp} {A : List Addr} {M : Mem} {H : Hp}, Ext G1 A1 G A → Wd X.K B G A M H → Sl X.K G A σ ss0 → Sl X.K G A σ2 ss2 → H q = some (.lst us) → Reps X.K G us acc → q ∉ A → G q = none →
      (∀ (s : Shared) (H : Hp) (C : Addr) (cl : List (Str × Addr)) (fp : List Addr) (B : Base), B.A.length = M.length → WE (Blk X scope s H C cl fp) B exF elt (fun y M4 => ∃ d, y = .dat d ∧ acc.length < sizeLine ∧ I1 (acc ++ [d]) M4) ss2 M) →
      teB X scope elt σ2 H fun y H4 => ∃ a, H4 q = some (.lst a) ∧ a.length < sizeLine ∧ LcInv X.K B G1 A1 σ ss0 q I (i + 1) (upd H4 q (.lst (a ++ [y]))) := by
    intro G A M H s1 w sl sl2 hq r nA gq h s0 H0 C cl fp
    refine h s0 H0 C cl fp ⟨G, A, H⟩ w.len (ck_blk rfl) G A H σ2 w.self sl2 _ fun v x G' A' M' H' e' w' s' q' => ?_
    obtain ⟨d, rfl, hz, q'⟩ := q'
    obtain ⟨w2, e2⟩ := w.rebase w'
    have hq' : H' q = some (.lst us) := w'.fr q _ hq nA
    have nA' : q ∉ A' := fun m => by
      rcases w'.an q m with z | z
      · exact nA z
      · have z : H q = none := z
        rw [hq] at z; cases z
    have gq' : G' q = none := by
      cases e : G' q with
      | none => rfl
      | some u =>
        rcases w'.fresh q u e with z | z
        · have z : G q = some u := z
          rw [gq] at z; cases z
        · have z : H q = none := z
          rw [hq] at z; cases z
    refine ⟨us, hq', by rw [r.length]; exact hz, acc ++ [d], us ++ [v], G', A', M', s1.trans e2, w2.beside nA' gq' hb, sl.mono e2, upd_same, (r.mono e2.1).append (.cons s' .nil), nA', gq', ?_⟩
    rw [← hI]; exact q'
  match ifs, h with
  | [], h => exact body s1 w sl sl2 hq r nA gq h
  | [c], h =>
    intro s0 H0 C cl fp
    refine h s0 H0 C cl fp ⟨G, A, H⟩ w.len (ck_blk rfl) G A H σ2 w.self sl2 _ fun b G' A' M' H' e' w' q' => ?_
    obtain ⟨w2, e2⟩ := w.rebase w'
    have hq' : H' q = some (.lst us) := w'.fr q _ hq nA
    have nA' : q ∉ A' := fun m => by
      rcases w'.an q m with z | z
      · exact nA z
      · have z : H q = none := z
        rw [hq] at z; cases z
    have gq' : G' q = none := by
      cases e : G' q with
      | none => rfl
      | some u =>
        rcases w'.fresh q u e with z | z
        · have z : G q = some u := z
          rw [gq] at z; cases z
        · have z : H q = none := z
          rw [hq] at z; cases z
    cases b with
    | true =>
      rw [if_pos rfl] at q' ⊢
      exact body (s1.trans e2) w2 (sl.mono e2) (sl2.mono e2) hq' (r.mono e2.1) nA' gq' q'
    | false =>
      rw [if_neg Bool.false_ne_true] at q' ⊢
      refine ⟨acc, us, G', A', M', s1.trans e2, w2, sl.mono e2, hq', r.mono e2.1, nA', gq', ?_⟩
      rw [← hI]; exact q'
/-- what a comprehension over ds with the invariant I asks; T: what the target does to the slots -/
def LcQ (X : Cx) (scope : Scope) (elt : Expr) (ifs : List Expr) (T : D → Sst → (Sst → Prop) → Prop) (vs : List Nat) (ds : List D) (I : Nat → List D → Mem → Prop) (Q : SV → Mem → Prop) (ss : Sst) : Prop :=
  (∀ i d acc M, ds[i]? = some d → I i acc M → T d (wipeD ss vs) fun ss2 => LcTurn X scope elt ifs acc (I (i + 1)) ss2 M) ∧ ∀ acc M, I ds.length acc M → Q (.dat (.lst acc)) M
/-- the target's readings that serve -/
structure TgOk (K : PySem.W.Frag) (g : TG) (T : D → Sst → (Sst → Prop) → Prop) (vs : List Nat) : Prop where
  run : ∀ {B : Base} {G A M H v d σ ss} {R : Sst → Prop} {Q' : L2.St → Hp → Prop}, Wd K B G A M H → Sl K G A σ ss → Rep K G v d → T d (wipeD ss vs) R → (∀ σ2 ss2, L2.wipe σ2 vs = L2.wipe σ vs → Sl K G A σ2 ss2 → R ss2 → Q' σ2 H) → g v (L2.wipe σ vs) H Q'
theorem lc_all {g : TG} {T : D → Sst → (Sst → Prop) → Prop} {vs : List Nat} {σ : L2.St} {G A H Kq} (ck : Cok X B ex) (hT : TgOk X.K g T vs) (w : Wd X.K B G A M H) (sl : Sl X.K G A σ ss) (k : VPost X.K B G A Q Kq)
    (h : WI X B ex tg iter (fun ds M1 => ∃ I, I 0 [] M1 ∧ LcQ X scope elt ifs T vs ds I Q ss) ss M) : tLc (tiW X tg iter) g (tsB X scope ifs) (teB X scope elt) vs σ H Kq := by
  refine h ck G A H σ w sl _ fun J ds G1 A1 M1 H1 e1 w1 src h1 q hq => ?_
  obtain ⟨I, h0, hL⟩ := h1
  obtain ⟨Gp, Y, wk, hG, hY⟩ := src
  obtain ⟨hbq, nAq, ngq⟩ := w1.none hq
  refine lc_it wk (LcInv X.K B G1 A1 σ ss q I) ⟨[], [], G1, A1, M1, .refl, w1.grow hq, sl.mono e1, upd_same, .nil, nAq, ngq, h0⟩ (fun i H _ ⟨_, _, G', _, _, s', w', _⟩ => hG H (s'.1.trans w'.gh)) (fun i y H H' hi hj hy => ?_) fun H hj => ?_
  · obtain ⟨acc, us, G2, A2, M2, s2, w2, sl2, hq2, r2, nA2, gq2, hi2⟩ := hj
    obtain ⟨G3, d, s3, w3, hd, rd, sH, fG⟩ := hY i H y H' G2 A2 M2 hi s2.1 w2 hy
    have hq3 : H' q = some (.lst us) := sH _ _ hq2
    have gq3 : G3 q = none := by
      cases e : G3 q with
      | none => rfl
      | some u =>
        rcases fG q u e with z | z
        · rw [gq2] at z; cases z
        · rw [hq2] at z; cases z
    have e3 : Ext G2 A2 G3 A2 := ⟨s3, [], by simp⟩
    refine hT.run w3 (sl2.mono e3) rd (hL.1 i d acc M2 hd hi2) fun σ2 ss2 hw sl3 ht => ⟨hw, ?_⟩
    exact lc_turn rfl hbq (s2.trans e3) w3 (sl2.mono e3) sl3 hq3 (r2.mono s3) nA2 gq3 ht
  · obtain ⟨acc, us, G2, A2, M2, s2, w2, sl2, hq2, r2, nA2, gq2, hi2⟩ := hj
    obtain ⟨w3, e3⟩ := w2.adopt hq2 nA2 gq2 hbq
    exact k (.ref q) (.dat (.lst acc)) _ A2 M2 H (e1.trans (s2.trans e3)) w3 (.lst (.inl upd_same) (r2.mono e3.1)) (hL.2 acc M2 hi2)
/-! ### targets -/
def tg1 (j : Nat) (d : D) (ss : Sst) (R : Sst → Prop) : Prop := R (ss.set j (some (.dat d)))
theorem tgOk1 {K : PySem.W.Frag} {j : Nat} : TgOk K (gName j) (tg1 j) [j] := by
  refine ⟨fun {B G A M H v d σ ss R Q'} w sl r h k => ?_⟩
  refine k _ _ ?_ ((sl.wipe [j]).set (x := .dat d) r j) h
  show List.set (List.set (List.set σ j none) j (some v)) j none = List.set σ j none
  rw [List.set_set, List.set_set]
def tg2 (i j : Nat) (d : D) (ss : Sst) (R : Sst → Prop) : Prop := ∃ a b, d = .tup [a, b] ∧ R ((ss.set i (some (.dat a))).set j (some (.dat b)))
theorem set_back (σ : L2.St) (i j : Nat) (hij : i ≠ j) (u v : V) : L2.wipe (((L2.wipe σ [i, j]).set i (some u)).set j (some v)) [i, j] = L2.wipe σ [i, j] := by
  show List.set (List.set (List.set (List.set (List.set (List.set σ j none) i none) i (some u)) j (some v)) j none) i none = List.set (List.set σ j none) i none
  apply List.ext_getElem?
  intro n
  simp only [List.getElem?_set, List.length_set]
  by_cases h1 : i = n
  · subst h1; by_cases h3 : i < σ.length <;> simp [h3]
  · by_cases h2 : j = n
    · subst h2; simp [h1]
    · simp [h1, h2]
theorem tgOk2 {K : PySem.W.Frag} {i j : Nat} (hij : i ≠ j) : TgOk K (gTup K 2 (gCons (gName i) (gCons (gName j) gNil))) (tg2 i j) [i, j] := by
  refine ⟨fun {B G A M H v d σ ss R Q'} w sl r h k => ?_⟩
  obtain ⟨a, b, rfl, h⟩ := h
  cases r with
  | tup hl r =>
    cases r with
    | cons r1 r =>
      cases r with
      | cons r2 r =>
        cases r
        refine ⟨_, _, rfl, sqtM w.gh hl, rfl, _, _, rfl, _, _, rfl, rfl, ?_⟩
        exact k _ _ (set_back σ i j hij _ _) (((sl.wipe [i, j]).set (x := .dat a) r1 i).set (x := .dat b) r2 j) h
/-! ### the rules -/
theorem we_lc1 {x : Str} {j : Nat} {tp : Pos} (hc : X.calm = true) (hN : X.N.Nodup) (ok : BlkOk X.N X.env.scope scope [(x, j)]) (hj : X.N[j]? = some x) (hL : ∀ s H C cl fp, Loc (Blk X scope s H C cl fp).env.scope x) (hi : ifs.length ≤ 1)
    (h : WI X B ex (.Name x tp) iter (fun ds M1 => ∃ I, I 0 [] M1 ∧ LcQ X scope elt ifs (tg1 j) [j] ds I Q ss) ss M)
    (hf : ∀ s H C cl fp, (Blk X scope s H C cl fp).fn x = true ∨ (Blk X scope s H C cl fp).env.scope.names.lookup x = some .local := by intro _ _ _ _ _; first | exact .inl rfl | exact .inr rfl)
    (hs : ∀ x, foldedSetIterable iter X.env x = pure x := by intro _; rfl) : WE X B ex (.ListComp elt [⟨.Name x tp, iter, ifs, 0⟩] scope pos) Q ss M := .mk fun ck G A H σ w sl Kq k => by
  refine te_of (pe_lc (own := [(x, j)]) (g := gName j) hc hN pi_self ok (fun s H C cl fp => pg_name (i := j) hN hj (hL s H C cl fp) (hf s H C cl fp)) (fun s H C cl fp => ps_blk hi) (fun s H C cl fp => pe_blk) hs) ?_
  exact lc_all ck tgOk1 w sl k h
theorem we_lc2 {x y : Str} {i j kt : Nat} {tp tp1 tp2 : Pos} (hc : X.calm = true) (hN : X.N.Nodup) (ok : BlkOk X.N X.env.scope scope [(x, i), (y, j)]) (hi : X.N[i]? = some x) (hj : X.N[j]? = some y) (hij : i ≠ j) (hL : ∀ s H C cl fp, Loc (Blk X scope s H C cl fp).env.scope x) (hL2 : ∀ s H C cl fp, Loc (Blk X scope s H C cl fp).env.scope y) (hl : ifs.length ≤ 1)
    (h : WI X B ex (.Tuple [.Name x tp1, .Name y tp2] kt tp) iter (fun ds M1 => ∃ I, I 0 [] M1 ∧ LcQ X scope elt ifs (tg2 i j) [i, j] ds I Q ss) ss M)
    (hf : ∀ s H C cl fp, (Blk X scope s H C cl fp).fn x = true ∨ (Blk X scope s H C cl fp).env.scope.names.lookup x = some .local := by intro _ _ _ _ _; first | exact .inl rfl | exact .inr rfl)
    (hf2 : ∀ s H C cl fp, (Blk X scope s H C cl fp).fn y = true ∨ (Blk X scope s H C cl fp).env.scope.names.lookup y = some .local := by intro _ _ _ _ _; first | exact .inl rfl | exact .inr rfl)
    (hs : ∀ x, foldedSetIterable iter X.env x = pure x := by intro _; rfl) : WE X B ex (.ListComp elt [⟨.Tuple [.Name x tp1, .Name y tp2] kt tp, iter, ifs, 0⟩] scope pos) Q ss M := .mk fun ck G A H σ w sl Kq k => by
  refine te_of (pe_lc (own := [(x, i), (y, j)]) (g := gTup X.K 2 (gCons (gName i) (gCons (gName j) gNil))) hc hN pi_self ok (fun s H C cl fp => pg_tup hc (pgs_cons (pg_name (i := i) hN hi (hL s H C cl fp) (hf s H C cl fp)) (pgs_cons (pg_name (i := j) hN hj (hL2 s H C cl fp) (hf2 s H C cl fp)) pgs_nil))) (fun s H C cl fp => ps_blk hl) (fun s H C cl fp => pe_blk) hs) ?_
  exact lc_all ck (tgOk2 hij) w sl k h
/-- y = [..], y a local of the def, on one line -/
theorem ws_lc1 {x y : Str} {i j : Nat} {tp py spos : Pos} {N : Nd} (hc : X.calm = true) (hN : X.N.Nodup) (hy : X.N[i]? = some y) (hyl : X.env.scope.names.lookup y = some .local) (hsw : swapsWith (.ListComp elt [⟨.Name x tp, iter, ifs, 0⟩] scope pos) (some (.Name y py)) spos.line X.env = pure true)
    (ok : BlkOk X.N X.env.scope scope [(x, j)]) (hj : X.N[j]? = some x) (hL : ∀ s H C cl fp, Loc (Blk X scope s H C cl fp).env.scope x) (hi : ifs.length ≤ 1)
    (h : WI X B ex (.Name x tp) iter (fun ds M1 => ∃ I, I 0 [] M1 ∧ LcQ X scope elt ifs (tg1 j) [j] ds I (fun v M' => N.nx (ss.set i (some v)) M') ss) ss M)
    (hf : ∀ s H C cl fp, (Blk X scope s H C cl fp).fn x = true ∨ (Blk X scope s H C cl fp).env.scope.names.lookup x = some .local := by intro _ _ _ _ _; first | exact .inl rfl | exact .inr rfl)
    (hs : ∀ x, foldedSetIterable iter X.env x = pure x := by intro _; rfl) : WS X B ex (.Assign [.Name y py] (.ListComp elt [⟨.Name x tp, iter, ifs, 0⟩] scope pos) spos) N ss M := .mk fun ck G A H σ w sl E k => by
  refine ts_of (ps_setLc (own := [(x, j)]) (g := gName j) hc hN hy hyl hsw pi_self ok (fun s H C cl fp => pg_name (i := j) hN hj (hL s H C cl fp) (hf s H C cl fp)) (fun s H C cl fp => ps_blk hi) (fun s H C cl fp => pe_blk) hs) ?_
  exact lc_all ck tgOk1 w sl (fun v z G' A' M' H' e' w' s' q => k.nx _ _ G' A' M' H' e'.1 w' ((sl.mono e').set s' i) q) h
theorem ws_lc2 {x y z : Str} {i j n kt : Nat} {tp tp1 tp2 py spos : Pos} {N : Nd} (hc : X.calm = true) (hN : X.N.Nodup) (hz : X.N[n]? = some z) (hzl : X.env.scope.names.lookup z = some .local) (hsw : swapsWith (.ListComp elt [⟨.Tuple [.Name x tp1, .Name y tp2] kt tp, iter, ifs, 0⟩] scope pos) (some (.Name z py)) spos.line X.env = pure true)
    (ok : BlkOk X.N X.env.scope scope [(x, i), (y, j)]) (hi : X.N[i]? = some x) (hj : X.N[j]? = some y) (hij : i ≠ j) (hL : ∀ s H C cl fp, Loc (Blk X scope s H C cl fp).env.scope x) (hL2 : ∀ s H C cl fp, Loc (Blk X scope s H C cl fp).env.scope y) (hl : ifs.length ≤ 1)
    (h : WI X B ex (.Tuple [.Name x tp1, .Name y tp2] kt tp) iter (fun ds M1 => ∃ I, I 0 [] M1 ∧ LcQ X scope elt ifs (tg2 i j) [i, j] ds I (fun v M' => N.nx (ss.set n (some v)) M') ss) ss M)
    (hf : ∀ s H C cl fp, (Blk X scope s H C cl fp).fn x = true ∨ (Blk X scope s H C cl fp).env.scope.names.lookup x = some .local := by intro _ _ _ _ _; first | exact .inl rfl | exact .inr rfl)
    (hf2 : ∀ s H C cl fp, (Blk X scope s H C cl fp).fn y = true ∨ (Blk X scope s H C cl fp).env.scope.names.lookup y = some .local := by intro _ _ _ _ _; first | exact .inl rfl | exact .inr rfl)
    (hs : ∀ x, foldedSetIterable iter X.env x = pure x := by intro _; rfl) : WS X B ex (.Assign [.Name z py] (.ListComp elt [⟨.Tuple [.Name x tp1, .Name y tp2] kt tp, iter, ifs, 0⟩] scope pos) spos) N ss M := .mk fun ck G A H σ w sl E k => by
  refine ts_of (ps_setLc (own := [(x, i), (y, j)]) (g := gTup X.K 2 (gCons (gName i) (gCons (gName j) gNil))) hc hN hz hzl hsw pi_self ok (fun s H C cl fp => pg_tup hc (pgs_cons (pg_name (i := i) hN hi (hL s H C cl fp) (hf s H C cl fp)) (pgs_cons (pg_name (i := j) hN hj (hL2 s H C cl fp) (hf2 s H C cl fp)) pgs_nil))) (fun s H C cl fp => ps_blk hl) (fun s H C cl fp => pe_blk) hs) ?_
  exact lc_all ck (tgOk2 hij) w sl (fun v z G' A' M' H' e' w' s' q => k.nx _ _ G' A' M' H' e'.1 w' ((sl.mono e').set s' n) q) h
end
end Mb

/-! Mb, part 11: exceptions. -/
namespace Mb
open PySem L2 PyProof.Rows
/-! ### the making of an error: its own __init__ stores one field, two fields -/
def spX1 (K : PySem.W.Frag) (f : Str) : Sp := fun vs H Q _ => ∃ (a C : Addr) (v : V), vs = [.ref a, v] ∧ OexC K C ∧ PySem.W.findIn K (.ref C) f = some none ∧ H a = some (exo a C none) ∧ ∀ dx, H dx = none → dx ≠ a → Q .non (upd (upd H dx (exd dx [(f, v)])) a (exo a C (some dx)))
def spX2 (K : PySem.W.Frag) (f g : Str) : Sp := fun vs H Q _ => ∃ (a C : Addr) (v u : V), vs = [.ref a, v, u] ∧ OexC K C ∧ (PySem.W.findIn K (.ref C) f = some none ∧ PySem.W.findIn K (.ref C) g = some none) ∧ H a = some (exo a C none) ∧
  ∀ dx, H dx = none → dx ≠ a → Q .non (upd (upd (upd H dx (exd dx [(f, v)])) a (exo a C (some dx))) dx (exd dx [(g, u), (f, v)]))
/-- what the text says of an error's class -/
structure ErrC (K : PySem.W.Frag) (mg : Str → Option Value) (x : Str) (C fI : Addr) : Prop where
  oex : OexC K C
  gC : mg x = some (.ref C)
  iC : PySem.W.findIn K (.ref C) "__init__" = some (some (.ref fI))
  tI : PySem.W.typeIn K (.ref fI) = some (.type "function")
section
variable {X : Cx} {B : Base} {ex : XD} {ss : Sst} {M : Mem} {a b c e tg o : Expr} {es : List Expr} {pos p p' apos p2 : Pos} {Q : SV → Mem → Prop} {N : Nd} {x : Str}
theorem end_heap {H1 H2 : Hp} {a d : Addr} {u : HO} (ha : H1 a = none) (h2 : ∀ b, b ≠ a → b ≠ d → H2 b = H1 b) : upd (del H2 a) d u = upd H1 d u := by
  funext b
  by_cases c : b = d
  · subst c; rw [upd_same, upd_same]
  · rw [upd_ne c, upd_ne c]
    by_cases c2 : b = a
    · subst c2; rw [del_same, ha]
    · rw [del_ne c2]; exact h2 b c2 c
theorem ws_raise1 {C fI : Addr} {fd : FuncData} {k : Nat} {f y : Str} (hc : X.calm = true) (T : ErrC X.K X.mg x C fI) (hno : PySem.W.findIn X.K (.ref C) f = some none) (F : FnOk X.prog X.w X.K X.mg X.base CX0 k fI fd ["self", y] (spX1 X.K f)) (hr : Room (k + 1) X.A) (hb : Binds X.K fd ["self", y] []) (hg : Gl X x)
    (h : WA X B ex [e] (fun xs M1 => one1 xs fun d => ex C [(f, d)] ss M1) ss M)
    (hdb : (x == ("__debug__" : Str)) = false := by decide) (he : starEach [e] X.env = (false, eval e X.env) :: starEach [] X.env := by rfl) (hpl : (backTo pos (starEach [] X.env)).any (·.1) = false := by rfl) :
    WS X B ex (.Raise (some (.Call (.Name x p) [e] [] pos)) none p2) N ss M := .mk fun ck G A H σ w sl E kk => by
  refine ts_of (ps_raise hc ck.tk (pmk_oex T.oex T.iC T.tI F hr hb .nil pass0 hg T.gC pa_self hdb he hpl)) ?_
  refine h ck G A H σ w sl _ fun vs xs G1 A1 M1 H1 e1 w1 s1 h1 => ?_
  obtain ⟨v, d, rfl, rv, _, q⟩ := one1_get s1 h1
  refine ⟨by show 1 ≤ 1000; decide, fun a ha => ⟨a, C, v, rfl, T.oex, hno, upd_same, fun dx hdx ne => ⟨rfl, dx, [(f, v)], upd_same, ?_, ?_, ?_⟩⟩⟩
  · exact (by rw [upd_ne ne, upd_same])
  · rw [upd_ne ne] at hdx; exact hdx
  · rw [upd_ne ne] at hdx
    rw [end_heap (H1 := H1) ha (fun b h1 h2 => by rw [upd_ne h1, upd_ne h2, upd_ne h1])]
    obtain ⟨w2, e2⟩ := w1.newD (o := .xd [(f, v)]) hdx
    exact ⟨C, [(f, d)], ss, _, A1, M1, rfl, .inr ⟨dx, _, rfl, upd_same, .cons (rv.mono e2.1) .nil⟩, w2, sl.mono (e1.trans e2), q⟩
theorem ws_raise2 {C fI : Addr} {fd : FuncData} {k : Nat} {f g y z : Str} (hc : X.calm = true) (T : ErrC X.K X.mg x C fI) (hno : PySem.W.findIn X.K (.ref C) f = some none ∧ PySem.W.findIn X.K (.ref C) g = some none) (F : FnOk X.prog X.w X.K X.mg X.base CX0 k fI fd ["self", y, z] (spX2 X.K f g)) (hr : Room (k + 1) X.A) (hb : Binds X.K fd ["self", y, z] []) (hg : Gl X x)
    (h : WA X B ex [a, b] (fun xs M1 => ∃ d1 d2, xs = [.dat d1, .dat d2] ∧ ex C [(g, d2), (f, d1)] ss M1) ss M)
    (hdb : (x == ("__debug__" : Str)) = false := by decide) (he : starEach [a, b] X.env = (false, eval a X.env) :: starEach [b] X.env := by rfl) (hpl : (backTo pos (starEach [b] X.env)).any (·.1) = false := by rfl) :
    WS X B ex (.Raise (some (.Call (.Name x p) [a, b] [] pos)) none p2) N ss M := .mk fun ck G A H σ w sl E kk => by
  refine ts_of (ps_raise hc ck.tk (pmk_oex T.oex T.iC T.tI F hr hb .nil pass0 hg T.gC pa_self hdb he hpl)) ?_
  refine h ck G A H σ w sl _ fun vs xs G1 A1 M1 H1 e1 w1 s1 h1 => ?_
  obtain ⟨d1, d2, rfl, q⟩ := h1
  cases s1 with
  | cons rv s1 =>
    cases s1 with
    | cons ru s1 =>
      cases s1
      rename_i v u
      refine ⟨by show 2 ≤ 1000; decide, fun a ha => ⟨a, C, v, u, rfl, T.oex, hno, upd_same, fun dx hdx ne => ⟨rfl, dx, [(g, u), (f, v)], ?_, upd_same, ?_, ?_⟩⟩⟩
      · rw [upd_ne (Ne.symm ne)]; exact upd_same
      · rw [upd_ne ne] at hdx; exact hdx
      · rw [upd_ne ne] at hdx
        rw [end_heap (H1 := H1) ha (fun b h1 h2 => by rw [upd_ne h2, upd_ne h1, upd_ne h2, upd_ne h1])]
        obtain ⟨w2, e2⟩ := w1.newD (o := .xd [(g, u), (f, v)]) hdx
        exact ⟨C, [(g, d2), (f, d1)], ss, _, A1, M1, rfl, .inr ⟨dx, _, rfl, upd_same, .cons (Rep.mono e2.1 ru) (.cons (Rep.mono e2.1 rv) .nil)⟩, w2, sl.mono (e1.trans e2), q⟩
/-! ### try -/
/-- the exception that a suite holds, as a symbolic value -/
def excSV (d : Option Addr) (fs : List (Str × D)) (a : Addr) : SV := match d with
  | some dd => .exc dd fs a
  | none => .raw (.ref a)
theorem excSV_ok {K : PySem.W.Frag} {G : Hp} {A : List Addr} {d : Option Addr} {fs : List (Str × D)} {a : Addr} (h : XdOk K G d fs) : SvOk K G A (.ref a) (excSV d fs a) := by
  rcases h with ⟨rfl, rfl⟩ | ⟨dd, fv, rfl, h1, h2⟩
  · exact rfl
  · exact ⟨rfl, fv, h1, h2⟩
/-- what a suite wants of a caught exception: C its class, fs its fields -/
def SuiteQ (X : Cx) (B : Base) (i : Option Nat) (suite : List Stmt) (N : Nd) (C : Addr) (fs : List (Str × D)) (ss : Sst) (M : Mem) : Prop :=
  ∀ (a : Addr) (oe : Obj) (d : Option Addr) (pn : List (Addr × Obj)), Zc (.ref C) d oe → (∃ vs, oe.data = .fields vs) → (d = none → fs = []) →
    match i with
    | some i => WB (X.suite a ((a, oe) :: pn)) B exF suite { nx := fun ss' M' => N.nx (ss'.set i none) M', rt := N.rt, bk := fun ss' M' => N.bk (ss'.set i none) M', ct := fun ss' M' => N.ct (ss'.set i none) M' } (ss.set i (some (excSV d fs a))) M
    | none => WB (X.suite a ((a, oe) :: pn)) B exF suite N ss M
/-- one clause -/
def ClauseQ (X : Cx) (B : Base) (ex : XD) (C0 : Value) (i : Option Nat) (suite : List Stmt) (N : Nd) : XD := fun C fs ss M =>
  ∃ b, PySem.W.exmOne X.K (.ref C) C0 = some b ∧ if b = true then SuiteQ X B i suite N C fs ss M else ex C fs ss M
theorem ck_tr {B' : Base} {pn : List (Addr × Obj)} {xe : Value → Shared → Prop} {W : WX} {exT : XD} (tk : Takes (X.tr pn xe) W) (ps : PassesOwn (model X.prog X.w) X.A X.env xe) (h : ∀ cls d σ H, XW X.K B' exT cls d σ H → W cls d σ H) : Cok (X.tr pn xe) B' exT := ⟨tk.imp h, ps⟩
theorem nd_rebase {K : PySem.W.Frag} {G : Hp} {A : List Addr} {H : Hp} {E : Ends} (w : Wd K B G A M H) (k : NdOk K B G N E) : NdOk K ⟨G, A, H⟩ G N E :=
  ⟨fun σ ss G' A' M' H' s w' => k.nx σ ss G' A' M' H' s (w.rebase w').1, fun v x G' A' M' H' s w' => k.rt v x G' A' M' H' s (w.rebase w').1, fun σ ss G' A' M' H' s w' => k.bk σ ss G' A' M' H' s (w.rebase w').1, fun σ ss G' A' M' H' s w' => k.ct σ ss G' A' M' H' s (w.rebase w').1⟩
theorem ck_suite {B' : Base} {a : Addr} {pn : List (Addr × Obj)} : Cok (X.suite a pn) B' exF := ck_blk rfl
theorem ws_tryAs {n : Str} {C0 : Value} {i : Nat} {body suite : List Stmt} {b₀ : Stmt} {np pos' : Pos} (hN : X.N.Nodup) (hi : X.N[i]? = some n) (hln : X.env.kindOf n = some .local) (hc : Names X x C0)
    (hb : ∀ pn xe (B' : Base), B'.A.length = M.length → WB (X.tr pn xe) B' (ClauseQ X B ex C0 (some i) (b₀ :: suite) N) body N ss M)
    (hs : X.stack = X.env :: X.outer := by rfl) (hf : X.env.frame = some X.env.locals := by rfl) :
    WS X B ex (.Try body [.ExceptHandler (some (.Name x np)) (some n) (b₀ :: suite) pos'] [] [] pos) N ss M := .mk fun ck G A H σ w sl E k => by
  refine ts_of (ps_try_as (Wout := XW X.K B ex) (tb := fun W D σ H => ∀ pn xe, Takes (X.tr pn xe) W → PassesOwn (model X.prog X.w) X.A X.env xe → tbW (X.tr pn xe) body D σ H) (ts := fun a cls d D σ H => ∀ oe pn, Zc cls d oe → (∃ vs, oe.data = .fields vs) → tbW (X.suite a ((a, oe) :: pn)) (b₀ :: suite) D σ H)
    hs hf hN hi hln hc ck.tk (fun W pn xe tk ps => ⟨fun pins s σ H D I h => h pn xe tk ps pins s I⟩) (fun a oe cls d pn hz hv => ⟨fun pins s σ H D I h => h oe pn hz hv pins s I⟩)) ?_
  intro pn xe tk ps
  refine hb pn xe ⟨G, A, H⟩ w.len (ck_tr tk ps fun cls d σ' H' hx => ?_) G A H σ w.self sl E (nd_rebase w k)
  obtain ⟨C, fs, ss', G', A', M', rfl, xd, w', sl', b, hexm, q⟩ := hx
  obtain ⟨w2, e2⟩ := w.rebase w'
  refine ⟨b, hexm, fun hbt a ha oe pn2 hz hv => ?_, fun hbf => ?_⟩
  · rw [if_pos hbt] at q
    have q := q a oe d pn2 hz hv (fun hd => by rcases xd with ⟨_, h⟩ | ⟨_, _, h, _⟩; exact h; rw [hd] at h; cases h)
    refine q ck_suite G' A' H' _ w2 (sl'.set (excSV_ok xd) i) _ ⟨fun σ2 ss2 G2 A2 M2 H2 s2 w3 sl2 q2 => ?_, fun v y G2 A2 M2 H2 s2 w3 sv q2 => ?_, fun σ2 ss2 G2 A2 M2 H2 s2 w3 sl2 q2 => ?_, fun σ2 ss2 G2 A2 M2 H2 s2 w3 sl2 q2 => ?_⟩
    · exact k.nx _ _ G2 A2 M2 H2 (e2.1.trans s2) w3 (sl2.setN i) q2
    · exact k.rt v y G2 A2 M2 H2 (e2.1.trans s2) w3 sv q2
    · exact k.bk _ _ G2 A2 M2 H2 (e2.1.trans s2) w3 (sl2.setN i) q2
    · exact k.ct _ _ G2 A2 M2 H2 (e2.1.trans s2) w3 (sl2.setN i) q2
  · rw [hbf, if_neg Bool.false_ne_true] at q
    exact ⟨C, fs, ss', G', A', M', rfl, xd, w2, sl', q⟩
theorem ws_tryOnly {C0 : Value} {body suite : List Stmt} {b₀ : Stmt} {np pos' : Pos} (hc : Names X x C0)
    (hb : ∀ pn xe (B' : Base), B'.A.length = M.length → WB (X.tr pn xe) B' (ClauseQ X B ex C0 none (b₀ :: suite) N) body N ss M)
    (hs : X.stack = X.env :: X.outer := by rfl) (hf : X.env.frame = some X.env.locals := by rfl) :
    WS X B ex (.Try body [.ExceptHandler (some (.Name x np)) none (b₀ :: suite) pos'] [] [] pos) N ss M := .mk fun ck G A H σ w sl E k => by
  refine ts_of (ps_try_only (Wout := XW X.K B ex) (tb := fun W D σ H => ∀ pn xe, Takes (X.tr pn xe) W → PassesOwn (model X.prog X.w) X.A X.env xe → tbW (X.tr pn xe) body D σ H) (ts := fun a cls d D σ H => ∀ oe pn, Zc cls d oe → (∃ vs, oe.data = .fields vs) → tbW (X.suite a ((a, oe) :: pn)) (b₀ :: suite) D σ H)
    hs hf hc ck.tk (fun W pn xe tk ps => ⟨fun pins s σ H D I h => h pn xe tk ps pins s I⟩) (fun a oe cls d pn hz hv => ⟨fun pins s σ H D I h => h oe pn hz hv pins s I⟩)) ?_
  intro pn xe tk ps
  refine hb pn xe ⟨G, A, H⟩ w.len (ck_tr tk ps fun cls d σ' H' hx => ?_) G A H σ w.self sl E (nd_rebase w k)
  obtain ⟨C, fs, ss', G', A', M', rfl, xd, w', sl', b, hexm, q⟩ := hx
  obtain ⟨w2, e2⟩ := w.rebase w'
  refine ⟨b, hexm, fun hbt a ha oe pn2 hz hv => ?_, fun hbf => ?_⟩
  · rw [if_pos hbt] at q
    have q := q a oe d pn2 hz hv (fun hd => by rcases xd with ⟨_, h⟩ | ⟨_, _, h, _⟩; exact h; rw [hd] at h; cases h)
    exact q ck_suite G' A' H' _ w2 sl' _ (k.mono e2.1)
  · rw [hbf, if_neg Bool.false_ne_true] at q
    exact ⟨C, fs, ss', G', A', M', rfl, xd, w2, sl', q⟩
/-- e.f, e the exception that the suite holds -/
theorem we_xf {l C dd : Addr} {oe : Obj} {pn : List (Addr × Obj)} {f : Str} (T : XfC X.K C) (hno : PySem.W.findIn X.K (.ref C) f = some none) (hz : Zc (.ref C) (some dd) oe) (hf : ∃ vs, oe.data = .fields vs)
    (h : WE (X.suite l ((l, oe) :: pn)) B ex e (fun x M1 => ∃ fs d, x = .exc dd fs l ∧ fs.lookup f = some d ∧ Q (.dat d) M1) ss M) (hb : attributeBase e f X.env (eval e X.env) = eval e X.env := by rfl) :
    WE (X.suite l ((l, oe) :: pn)) B ex (.Attribute e f pos) Q ss M := .mk fun ck G A H σ w sl Kq k => by
  refine te_of (pe_xf T hno hz hf pe_self hb) ?_
  refine h ck G A H σ w sl _ fun v x G1 A1 M1 H1 e1 w1 s1 h1 => ?_
  obtain ⟨fs, d, rfl, hl, q⟩ := h1
  obtain ⟨rfl, fv, hd, r⟩ := s1
  obtain ⟨y, hy, ry⟩ := r.look hl
  exact ⟨rfl, rfl, dd, fv, y, rfl, w1.gh _ _ hd, hy, k _ (.dat d) G1 A1 M1 H1 e1 w1 ry q⟩
theorem call_isX {l D : Addr} {oe : Obj} {d : Option Addr} {pn : List (Addr × Obj)} (C : ExcC X.K D) (hz : Zc (.ref D) d oe) (hf : ∃ vs, oe.data = .fields vs) : CallR (X.suite l ((l, oe) :: pn)) (.builtin "isinstance") (fun xs H Q => (d = none ∨ ∃ dd fv, d = some dd ∧ H dd = some (.xd fv)) ∧ rIsE X.K D l xs H Q) := by
  intro pins s σ H xs us Q I r hh
  obtain ⟨hd, c, cv, b, rfl, hcv, e, q⟩ := hh
  cases r with
  | cons rx rr =>
    cases rr with
    | cons rt rr =>
      cases rr
      cases rx
      obtain rfl := hcv _ rt
      obtain ⟨g0, _⟩ := I.pin (l, oe) (List.mem_append.mpr (.inl List.mem_cons_self))
      obtain ⟨vs, hv⟩ := hf
      have J : ∃ od, PySem.W.InstAt s.heap l oe D od := by
        obtain ⟨oc, ood, oda, osl⟩ := oe
        obtain ⟨h1, h2⟩ := hz
        dsimp only at h1 h2 hv
        subst h1 h2 hv
        rcases hd with rfl | ⟨dd, fv, rfl, hH⟩
        · exact ⟨none, g0, rfl, rfl, trivial⟩
        · have hx : ObjOk X.prog X.w H s.heap dd (.xd fv) := I.hok dd _ hH
          obtain ⟨mA, hns, _⟩ := hx
          obtain ⟨od, ho, _⟩ := lookIn_ns hns
          exact ⟨some od, g0, rfl, rfl, ho⟩
      obtain ⟨od, J⟩ := J
      have hcl : (PySem.W.clsIn X.K D).isSome = true := by
        have z := C.hd
        unfold PySem.W.hasDictIn at z
        cases e : PySem.W.clsIn X.K D with
        | none => simp [e] at z
        | some _ => rfl
      exact PySem.W.kia_one (PySem.W.kitx_exc hcl C.hg C.hk C.hs C.ha C.hn C.ht C.hm) I.kIn J e (fun z => nomatch z) fun tk => ⟨.bl b, H, I.kept (t' := tk) fun _ _ z => z, rfl, q⟩
/-- isinstance(e, C), e the exception that the suite holds -/
theorem we_isX {l D : Addr} {oe : Obj} {d : Option Addr} {pn : List (Addr × Obj)} (C : ExcC X.K D) (hz : Zc (.ref D) d oe) (hf : ∃ vs, oe.data = .fields vs) (hm : X.mg "isinstance" = none) (hg : Gl X "isinstance")
    (h : WA (X.suite l ((l, oe) :: pn)) B ex [a, b] (fun xs M1 => ∃ fs c cv k, xs = [excSV d fs l, .raw c] ∧ ClsV c cv ∧ PySem.W.kitOne X.K (.ref D) cv = some k ∧ Q (.dat (.bl k)) M1) ss M)
    (he : starEach [a, b] X.env = (false, eval a X.env) :: starEach [b] X.env := by rfl) (hpl : (backTo pos (starEach [b] X.env)).any (·.1) = false := by rfl) :
    WE (X.suite l ((l, oe) :: pn)) B ex (.Call (.Name "isinstance" p) [a, b] [] pos) Q ss M := .mk fun ck G A H σ w sl Kq k => by
  refine te_of (pe_callB (call_isX C hz hf) hg hm (by decide +kernel) pa_self (by decide) (by decide) he hpl) ?_
  refine h ck G A H σ w sl _ fun vs xs G1 A1 M1 H1 e1 w1 s1 h1 => ?_
  obtain ⟨fs, c, cv, kb, rfl, hcv, hk, q⟩ := h1
  cases s1 with
  | cons s s1 =>
    cases s1 with
    | cons s' s1 =>
      cases s1
      obtain rfl := s'
      rename_i v0 _
      have : (d = none ∨ ∃ dd fv, d = some dd ∧ H1 dd = some (.xd fv)) ∧ v0 = V.ref l := by
        cases d with
        | none => exact ⟨.inl rfl, s⟩
        | some dd =>
          obtain ⟨h1, fv, h2, _⟩ := s
          exact ⟨.inr ⟨dd, fv, rfl, w1.gh _ _ h2⟩, h1⟩
      obtain ⟨hd, rfl⟩ := this
      exact ⟨hd, _, cv, kb, rfl, fun u r => hcv.eq r, hk, k _ (.dat (.bl kb)) G1 A1 M1 H1 e1 w1 (Rep.bl kb) q⟩
end
end Mb

/-! Mb, part 12: dicts, a class's def called by its name, cells that are frozen everywhere. -/
namespace Mb
open PySem L2 PyProof.Rows
def valD (kvs : List (Key × D)) (k : Key) : Option D := (kvs.find? fun kv => decide (kv.1 = k)).map (·.2)
def putD (kvs : List (Key × D)) (k : Key) (v : D) : List (Key × D) :=
  if (kvs.any fun kv => decide (kv.1 = k)) = true then kvs.map (fun kv => if kv.1 = k then (kv.1, v) else kv) else kvs ++ [(k, v)]
def keyD : D → Option Key
  | .str x => some (Sum.inr x)
  | .int i => some (Sum.inl i)
  | _ => none
theorem valD_pos {p : Key × D} {r : List (Key × D)} {k : Key} (e : p.1 = k) : valD (p :: r) k = some p.2 := by
  unfold valD
  rw [List.find?_cons_of_pos (by simpa using e)]
  rfl
theorem valD_neg {p : Key × D} {r : List (Key × D)} {k : Key} (e : ¬ p.1 = k) : valD (p :: r) k = valD r k := by
  unfold valD
  rw [List.find?_cons_of_neg (by simpa using e)]
theorem RepK.valS {K : PySem.W.Frag} {G : Hp} {k : Key} : ∀ {kv : List (Key × V)} {kvs : List (Key × D)}, RepK K G kv kvs → ∀ d, valD kvs k = some d → ∃ v, valV kv k = some v ∧ Rep K G v d
  | _, _, .nil, d, e => by simp [valD] at e
  | (g, v) :: kv, (_, y) :: kvs, .cons h r, d, e => by
    by_cases c : g = k
    · rw [valD_pos (p := (g, y)) c] at e
      cases e
      exact ⟨v, valV_pos (p := (g, v)) c, h⟩
    · rw [valD_neg (p := (g, y)) c] at e
      obtain ⟨w, h1, h2⟩ := r.valS d e
      exact ⟨w, (valV_neg (p := (g, v)) c).trans h1, h2⟩
theorem RepK.valN {K : PySem.W.Frag} {G : Hp} {k : Key} : ∀ {kv : List (Key × V)} {kvs : List (Key × D)}, RepK K G kv kvs → valD kvs k = none → valV kv k = none
  | _, _, .nil, e => valV_nil
  | (g, v) :: kv, (_, y) :: kvs, .cons h r, e => by
    by_cases c : g = k
    · rw [valD_pos (p := (g, y)) c] at e
      cases e
    · rw [valD_neg (p := (g, y)) c] at e
      exact (valV_neg (p := (g, v)) c).trans (r.valN e)
theorem RepK.some_eq {K : PySem.W.Frag} {G : Hp} {k : Key} {kv : List (Key × V)} {kvs : List (Key × D)} (r : RepK K G kv kvs) : (valV kv k).isSome = (valD kvs k).isSome := by
  cases e : valD kvs k with
  | none => rw [r.valN e]; rfl
  | some d => obtain ⟨v, h, _⟩ := r.valS d e; rw [h]; rfl
theorem RepK.anyE {K : PySem.W.Frag} {G : Hp} {k : Key} : ∀ {kv : List (Key × V)} {kvs : List (Key × D)}, RepK K G kv kvs → (kv.any fun x => decide (x.1 = k)) = kvs.any fun x => decide (x.1 = k)
  | _, _, .nil => rfl
  | (g, v) :: kv, (_, y) :: kvs, .cons h r => by
    rw [List.any_cons, List.any_cons, r.anyE]
theorem RepK.mapE {K : PySem.W.Frag} {G : Hp} {k : Key} {v : V} {d : D} (q : Rep K G v d) : ∀ {kv : List (Key × V)} {kvs : List (Key × D)}, RepK K G kv kvs → RepK K G (kv.map fun x => if x.1 = k then (x.1, v) else x) (kvs.map fun x => if x.1 = k then (x.1, d) else x)
  | _, _, .nil => .nil
  | (g, u) :: kv, (_, y) :: kvs, .cons h r => by
    rw [List.map_cons, List.map_cons]
    by_cases c : g = k
    · rw [if_pos c, if_pos c]; exact .cons q (r.mapE q)
    · rw [if_neg c, if_neg c]; exact .cons h (r.mapE q)
theorem RepK.snoc {K : PySem.W.Frag} {G : Hp} {k : Key} {v : V} {d : D} (q : Rep K G v d) : ∀ {kv : List (Key × V)} {kvs : List (Key × D)}, RepK K G kv kvs → RepK K G (kv ++ [(k, v)]) (kvs ++ [(k, d)])
  | _, _, .nil => .cons q .nil
  | (g, u) :: kv, (_, y) :: kvs, .cons h r => .cons h (r.snoc q)
theorem RepK.put {K : PySem.W.Frag} {G : Hp} {k : Key} {v : V} {d : D} (q : Rep K G v d) {kv : List (Key × V)} {kvs : List (Key × D)} (r : RepK K G kv kvs) : RepK K G (putK kv k v) (putD kvs k d) := by
  unfold putK putD
  rw [r.anyE]
  split
  · exact r.mapE q
  · exact r.snoc q
theorem keyD_kV {K : PySem.W.Frag} {G H : Hp} {v : V} {d : D} {k : Key} (h : RepS K G H v d) (e : keyD d = some k) : v = kV k := by
  cases d <;> simp [keyD] at e
  · subst e; exact h
  · subst e; exact h.1
section
variable {X : Cx} {B : Base} {ex : XD} {ss : Sst} {M : Mem} {a b c e tg o : Expr} {es : List Expr} {pos p p' apos p2 : Pos} {Q : SV → Mem → Prop} {QB : Bool → Mem → Prop} {N : Nd} {x : Str} {sts : List Stmt}
/-! ### dicts -/
theorem we_dnew (q : Q (.cel M.length) (M ++ [.dic []])) : WE X B ex (.Dict [] [] pos) Q ss M := .mk fun ck G A H σ w sl Kq k => by
  refine te_of pe_dnewK fun l hl => ?_
  obtain ⟨w2, e2⟩ := w.newC (c := .dic []) (o := .dK []) hl ⟨(w.none hl).2.2, [], upd_same, .nil⟩
  refine k _ (.cel M.length) _ _ _ _ e2 w2 ⟨l, rfl, ?_⟩ q
  rw [← w.len, List.getElem?_append_right (Nat.le_refl _), Nat.sub_self]
  rfl
def dinD0 (a b : D) (k : Bool → Prop) : Prop := match keyD a, b with
  | some key, .dic kvs => k (valD kvs key).isSome
  | _, _ => False
structure dinD (a b : D) (k : Bool → Prop) : Prop where
  run : dinD0 a b k
theorem dinD_get {a b : D} {k : Bool → Prop} (h : dinD a b k) : ∃ key kvs, keyD a = some key ∧ b = .dic kvs ∧ k (valD kvs key).isSome := by
  have h := h.run
  unfold dinD0 at h
  cases e : keyD a with
  | none => simp [e] at h
  | some key => cases b <;> simp [e] at h; exact ⟨key, _, rfl, rfl, h⟩
theorem wt_din {k : Nat} (hr : Room k X.A) (hm : behindInMarks .In b = false) (h : WE X B ex a (fun x M1 => WE X B ex b (fun y M2 => with1 M2 x fun p => with1 M2 y fun q => dinD p q fun k => QB k M2) ss M1) ss M) : WT X B ex (.Compare a [.In] [b] pos) QB ss M := .mk fun ck G A H σ w sl Kq k => by
  refine tt_of (pt_cmp (pc_din (hu_of hr) pe_self pe_self) hm) ?_
  refine h ck G A H σ w sl _ fun u x G1 A1 M1 H1 e1 w1 s1 h1 => ?_
  refine h1 ck G1 A1 H1 σ w1 (sl.mono e1) _ fun v y G2 A2 M2 H2 e2 w2 s2 h2 => ?_
  obtain ⟨d1, g1, h2⟩ := with1_get h2
  obtain ⟨d2, g2, h2⟩ := with1_get h2
  obtain ⟨key, kvs, hk, rfl, h9⟩ := dinD_get h2
  obtain ⟨l, kv, rfl, hl, r⟩ := s2.s w2 g2
  obtain rfl := keyD_kV ((s1.mono e2).s w2 g1) hk
  refine ⟨l, _, rfl, DGet.k hl, _, rfl, ?_⟩
  rw [r.some_eq]
  exact k _ G2 A2 M2 H2 (e1.trans e2) w2 h9
theorem wt_dni {k : Nat} (hr : Room k X.A) (hm : behindInMarks .NotIn b = false) (h : WE X B ex a (fun x M1 => WE X B ex b (fun y M2 => with1 M2 x fun p => with1 M2 y fun q => dinD p q fun k => QB (!k) M2) ss M1) ss M) : WT X B ex (.Compare a [.NotIn] [b] pos) QB ss M := .mk fun ck G A H σ w sl Kq k => by
  refine tt_of (pt_cmp (pc_dnotin (hu_of hr) pe_self pe_self) hm) ?_
  refine h ck G A H σ w sl _ fun u x G1 A1 M1 H1 e1 w1 s1 h1 => ?_
  refine h1 ck G1 A1 H1 σ w1 (sl.mono e1) _ fun v y G2 A2 M2 H2 e2 w2 s2 h2 => ?_
  obtain ⟨d1, g1, h2⟩ := with1_get h2
  obtain ⟨d2, g2, h2⟩ := with1_get h2
  obtain ⟨key, kvs, hk, rfl, h9⟩ := dinD_get h2
  obtain ⟨l, kv, rfl, hl, r⟩ := s2.s w2 g2
  obtain rfl := keyD_kV ((s1.mono e2).s w2 g1) hk
  refine ⟨l, _, rfl, DGet.k hl, _, rfl, ?_⟩
  rw [r.some_eq]
  exact k _ G2 A2 M2 H2 (e1.trans e2) w2 h9
theorem we_dget {k : Nat} (hr : Room k X.A) (h : WE X B ex a (fun x M1 => WE X B ex b (fun y M2 => with1 M2 x fun p => with1 M2 y fun q => ∃ key kvs d, keyD q = some key ∧ p = .dic kvs ∧ valD kvs key = some d ∧ Q (.dat d) M2) ss M1) ss M) (hs : NoSl b := by intro _ _; rfl) : WE X B ex (.Subscript a b pos) Q ss M := .mk fun ck G A H σ w sl Kq kk => by
  refine te_of (pe_dget (hu_of hr) pe_self pe_self hs) ?_
  refine h ck G A H σ w sl _ fun u x G1 A1 M1 H1 e1 w1 s1 h1 => ?_
  refine h1 ck G1 A1 H1 σ w1 (sl.mono e1) _ fun v y G2 A2 M2 H2 e2 w2 s2 h2 => ?_
  obtain ⟨d1, g1, h2⟩ := with1_get h2
  obtain ⟨d2, g2, key, kvs, d, hk, rfl, hv, q⟩ := with1_get h2
  obtain ⟨l, kv, rfl, hl, r⟩ := (s1.mono e2).s w2 g1
  obtain rfl := keyD_kV (s2.s w2 g2) hk
  obtain ⟨z, hz, rz⟩ := r.valS d hv
  refine ⟨l, z, rfl, ?_, kk _ (.dat d) G2 A2 M2 H2 (e1.trans e2) w2 rz q⟩
  rw [← hz]; exact DGet.k hl
/-- x a dict of ours -/
def cellDc0 (M : Mem) (x : SV) (k : Nat → List (Key × D) → Prop) : Prop := match x with
  | .cel i => match M[i]? with
    | some (.dic ds) => k i ds
    | _ => False
  | _ => False
structure cellDc (M : Mem) (x : SV) (k : Nat → List (Key × D) → Prop) : Prop where
  run : cellDc0 M x k
theorem cellDc_get {M : Mem} {x : SV} {k : Nat → List (Key × D) → Prop} (h : cellDc M x k) : ∃ i ds, x = .cel i ∧ M[i]? = some (.dic ds) ∧ k i ds := by
  have h := h.run
  unfold cellDc0 at h
  cases x with
  | dat d => exact h.elim
  | raw u => exact h.elim
  | exc u v w => exact h.elim
  | tup xs => exact h.elim
  | xt xs => exact h.elim
  | cel i =>
    simp only at h
    cases e : M[i]? with
    | none => simp [e] at h
    | some c =>
      cases c <;> simp [e] at h
      exact ⟨i, _, rfl, e, h⟩
theorem ws_dput {k : Nat} (hr : Room k X.A) (h : WE X B ex e (fun v M1 => WE X B ex a (fun x M2 => WE X B ex b (fun y M3 => ∃ d key, v = .dat d ∧ y.get M3 = some (match key with | Sum.inr s => .str s | Sum.inl i => .int i) ∧ cellDc M3 x fun i kvs => kvs.length < sizeLine ∧ N.nx ss (M3.set i (.dic (putD kvs key d)))) ss M2) ss M1) ss M)
    (hs : swapsWith e (some (.Subscript a b p')) pos.line X.env = pure false := by rfl) : WS X B ex (.Assign [.Subscript a b p'] e pos) N ss M := .mk fun ck G A H σ w sl E kk => by
  refine ts_of (ps_dput (hu_of hr) pe_self pe_self pe_self hs) ?_
  refine h ck G A H σ w sl _ fun v z G1 A1 M1 H1 e1 w1 s1 h1 => ?_
  refine h1 ck G1 A1 H1 σ w1 (sl.mono e1) _ fun u x G2 A2 M2 H2 e2 w2 s2 h2 => ?_
  refine h2 ck G2 A2 H2 σ w2 (sl.mono (e1.trans e2)) _ fun t y G3 A3 M3 H3 e3 w3 s3 h3 => ?_
  obtain ⟨d, key, rfl, hy, h3⟩ := h3
  obtain ⟨i, kvs, rfl, hM, hz, q⟩ := cellDc_get h3
  obtain ⟨l, rfl, hl⟩ := s2.mono e3
  obtain ⟨gn, kv, hv, r⟩ := w3.cl.get hl hM
  obtain rfl := keyD_kV (k := key) (s3.s w3 hy) (by cases key <;> rfl)
  have rd : Rep X.K G3 v d := (SvOk.mono (e2.trans e3) s1 : SvOk X.K G3 A3 v (.dat d))
  refine ⟨l, _, rfl, DPut.k hv (by rw [r.length]; exact hz), ?_⟩
  exact kk.nx σ ss G3 A3 _ _ ((e1.trans e2).trans e3).1 (w3.setC (c' := .dic (putD kvs key d)) hl gn ⟨gn, _, upd_same, r.put rd⟩) (sl.mono ((e1.trans e2).trans e3)) q
/-! ### C.m(self, ..), the class written out -/
theorem we_cls {C f : Addr} {m y : Str} {fd : FuncData} {ps : List Str} {k n : Nat} {S : SpD} {pl : Sem Bool} {mc : Value} (hm : X.mg y = some (.ref C)) (hg : Gl X y) (cr : ClX.CRead X.K C mc) (cv : ClX.CVal X.K C mc m (.ref f) (.ref f)) (hk : PySem.W.keepIn X.K (.ref f) = true)
    (F : FnOk X.prog X.w X.K X.mg X.base (L2.CX X.prog X.w) k f fd ps (spOf X.K n S)) (hr : Room k X.A) (hb : Binds X.K fd ps [])
    (h : WA X B ex (e :: es) (fun xs M2 => CallQ n S xs M2 Q ex ss) ss M)
    (hdb : (y == ("__debug__" : Str)) = false := by decide) (hst : starEach (e :: es) X.env = (false, eval e X.env) :: starEach es X.env := by rfl) (hpl : (backTo pos (starEach es X.env)).any (·.1) = false := by rfl)
    (ht : eval (.Call (.Attribute (.Name y p) m apos) (e :: es) [] pos) X.env = (do
      let ov ← eval (.Name y p) X.env
      standAt apos.atName
      let (f, first) ← holding [ov] (getMethod ov m pl)
      callWith pos f first (backTo pos (starEach (e :: es) X.env)) (backToKw pos (keywordEach [] X.env))) := by rfl) :
    WE X B ex (.Call (.Attribute (.Name y p) m apos) (e :: es) [] pos) Q ss M := .mk fun ck G A H σ w sl Kq kk pins s I => by
  refine PySem.W.methodCall_KW (pl := pl) (ld_glob I hg hm ?_ hdb) ht
  refine PySem.W.method_cls I.kIn cr.ga (ClX.getcval_ok I cr cv fun s1 I1 => ?_)
  have hO : taW X (e :: es) σ H (fun vs H2 => spOf X.K n S vs H2 Kq (fun cls d H' => XW X.K B ex cls d σ H')) := by
    refine h ck G A H σ w sl _ fun vs xs G2 A2 M2 H2 e2 w2 s2 h2 => ?_
    exact call_sp w2 (sl.mono e2) s2 h2 fun v x G' A' M' H' e' => kk v x G' A' M' H' (e2.trans e')
  refine PySem.W.callWith_K (first := []) (h₀ := X.base) I.ok.mod.kin hk (thn (hO pos pins s1 I1) fun us s2 ⟨vs, H2, I2, r, q2⟩ => ⟨I2.kIn, ?_⟩) hst hpl
  exact run_fnSD (E := fun σ cls d H' => XW X.K B ex cls d σ H') (dvs := []) (us := us) (vs := vs) F hr hb .nil (ck.at σ) I2 r (by rw [List.append_nil]; exact q2)
end
/-! ### a cell is frozen wherever it is named -/
def FV.fz (j : Nat) (d : D) : FV → FV
  | .cel i => if i = j then .dat d else .cel i
  | x => x
def SV.fz (j : Nat) (d : D) : SV → SV
  | .cel i => if i = j then .dat d else .cel i
  | .tup xs => .tup (xs.map (FV.fz j d))
  | x => x
def Cell.fz (j : Nat) (d : D) : Cell → Cell
  | .ins C fs => .ins C (fs.map fun p => (p.1, p.2.fz j d))
  | .mix xs => .mix (xs.map (SV.fz j d))
  | c => c
/-- the data of a value that names no cell -/
def fvsD : List FV → Option (List D)
  | [] => some []
  | .dat d :: r => (fvsD r).map (d :: ·)
  | .cel _ :: _ => none
def svD : SV → Option D
  | .dat d => some d
  | .tup xs => (fvsD xs).map .tup
  | .xt ds => some (.tup ds)
  | _ => none
def svsD : List SV → Option (List D)
  | [] => some []
  | x :: r => match svD x, svsD r with
    | some d, some ds => some (d :: ds)
    | _, _ => none
def cellD : Cell → Option D
  | .lst ds => some (.lst ds)
  | .dic ds => some (.dic ds)
  | .ins C fs => (fdats fs).map (.ins C)
  | .mix xs => (svsD xs).map .lst
  | .dead => none
  | .dct _ _ _ => none
theorem Fvs.reps {K : PySem.W.Frag} {G : Hp} {A : List Addr} : ∀ {vs : List V} {xs : List FV} {ds : List D}, Fvs K G A vs xs → fvsD xs = some ds → Reps K G vs ds
  | _, _, _, .nil, e => by
    simp only [fvsD, Option.some.injEq] at e
    subst e
    exact .nil
  | _, .dat d :: r, _, .cons h q, e => by
    simp only [fvsD, Option.map_eq_some_iff] at e
    obtain ⟨ds, e, rfl⟩ := e
    exact .cons h (q.reps e)
  | _, .cel _ :: _, _, .cons _ _, e => by simp [fvsD] at e
theorem SvOk.repD {K : PySem.W.Frag} {G : Hp} {A : List Addr} {v : V} {x : SV} {d : D} (h : SvOk K G A v x) (e : svD x = some d) : Rep K G v d := by
  cases x with
  | dat d' => simp only [svD, Option.some.injEq] at e; subst e; exact h
  | tup xs =>
    simp only [svD, Option.map_eq_some_iff] at e
    obtain ⟨ds, e, rfl⟩ := e
    obtain ⟨a, vs, rfl, h2, h3⟩ := h
    exact .tup h2 (h3.reps e)
  | cel i => simp [svD] at e
  | xt ds => simp only [svD, Option.some.injEq] at e; subst e; obtain ⟨_, _, _, q⟩ := h; exact q
  | raw u => simp [svD] at e
  | exc a b c => simp [svD] at e
theorem Svs.repsD {K : PySem.W.Frag} {G : Hp} {A : List Addr} : ∀ {vs : List V} {xs : List SV} {ds : List D}, Svs K G A vs xs → svsD xs = some ds → Reps K G vs ds
  | _, _, _, .nil, e => by
    simp only [svsD, Option.some.injEq] at e
    subst e
    exact .nil
  | _, x :: r, _, .cons h q, e => by
    simp only [svsD] at e
    cases e1 : svD x with
    | none => simp [e1] at e
    | some d =>
      cases e2 : svsD r with
      | none => simp [e1, e2] at e
      | some ds =>
        simp only [e1, e2, Option.some.injEq] at e
        subst e
        exact .cons (h.repD e1) (q.repsD e2)
section
variable {K : PySem.W.Frag} {B : Base} {G : Hp} {A : List Addr} {M : List Cell} {H : Hp}
theorem FvOk.fz {v : V} {x : FV} {j : Nat} {d : D} {a : Addr} (hj : A[j]? = some a) (r : Rep K G (.ref a) d) (h : FvOk K G A v x) : FvOk K G A v (x.fz j d) := by
  cases x with
  | dat d => exact h
  | cel i =>
    unfold FV.fz
    by_cases c : i = j
    · simp only [c, if_true]
      obtain ⟨b, rfl, hb⟩ := h
      subst c
      rw [hj] at hb
      cases hb
      exact r
    · simp only [c, if_false]; exact h
theorem Fvs.fz {j : Nat} {d : D} {a : Addr} (hj : A[j]? = some a) (r : Rep K G (.ref a) d) : ∀ {vs : List V} {xs : List FV}, Fvs K G A vs xs → Fvs K G A vs (xs.map (FV.fz j d))
  | _, _, .nil => .nil
  | _, _, .cons h s => .cons (h.fz hj r) (s.fz hj r)
theorem SvOk.fz {v : V} {x : SV} {j : Nat} {d : D} {a : Addr} (hj : A[j]? = some a) (r : Rep K G (.ref a) d) (h : SvOk K G A v x) : SvOk K G A v (x.fz j d) := by
  cases x with
  | dat d => exact h
  | raw u => exact h
  | exc u v w => exact h
  | xt ds => exact h
  | tup xs =>
    obtain ⟨b, vs, h1, h2, h3⟩ := h
    exact ⟨b, vs, h1, h2, h3.fz hj r⟩
  | cel i =>
    unfold SV.fz
    by_cases c : i = j
    · simp only [c, if_true]
      obtain ⟨b, rfl, hb⟩ := h
      subst c
      rw [hj] at hb
      cases hb
      exact r
    · simp only [c, if_false]; exact h
theorem Sl.fz {j : Nat} {d : D} {a : Addr} (hj : A[j]? = some a) (r : Rep K G (.ref a) d) : ∀ {σ : L2.St} {ss : Sst}, Sl K G A σ ss → Sl K G A σ (ss.map (Option.map (SV.fz j d)))
  | _, _, .nil => .nil
  | _, _, .skip s => .skip (s.fz hj r)
  | _, _, .cons h s => .cons (h.fz hj r) (s.fz hj r)
theorem Svs.fz {j : Nat} {d : D} {a : Addr} (hj : A[j]? = some a) (r : Rep K G (.ref a) d) : ∀ {vs : List V} {xs : List SV}, Svs K G A vs xs → Svs K G A vs (xs.map (SV.fz j d))
  | _, _, .nil => .nil
  | _, _, .cons h s => .cons (h.fz hj r) (s.fz hj r)
theorem FldsOk.fz {j : Nat} {d : D} {a : Addr} (hj : A[j]? = some a) (r : Rep K G (.ref a) d) : ∀ {fv : List (Str × V)} {fs : List (Str × SV)}, FldsOk K G A fv fs → FldsOk K G A fv (fs.map fun p => (p.1, p.2.fz j d))
  | _, _, .nil => .nil
  | _, _, .cons h s => .cons (h.fz hj r) (s.fz hj r)
theorem CellOk.fz {j : Nat} {d : D} {a b : Addr} {c : Cell} (hj : A[j]? = some a) (r : Rep K G (.ref a) d) (h : CellOk K G A H b c) : CellOk K G A H b (c.fz j d) := by
  cases c with
  | dead => trivial
  | lst ds => exact h
  | dic ds => exact h
  | dct P w ds => exact h
  | ins C fs =>
    obtain ⟨g, dx, fv, h1, q⟩ := h
    exact ⟨g, dx, fv, h1, q.fz hj r⟩
  | mix xs =>
    obtain ⟨g, vs, h1, q⟩ := h
    exact ⟨g, vs, h1, q.fz hj r⟩
theorem Cells.fz {j : Nat} {d : D} {a : Addr} (hj : A[j]? = some a) (r : Rep K G (.ref a) d) : ∀ {as : List Addr} {cs : List Cell}, Cells K G A H as cs → Cells K G A H as (cs.map (Cell.fz j d))
  | _, _, .nil => .nil
  | _, _, .cons h s => .cons (h.fz hj r) (s.fz hj r)
theorem Wd.freezeA (w : Wd K B G A M H) {j : Nat} {c : Cell} {d : D} (hb : B.A.length ≤ j) (hM : M[j]? = some c) (hd : cellD c = some d) :
    ∃ G' a, A[j]? = some a ∧ Wd K B G' A ((M.map (Cell.fz j d)).set j .dead) H ∧ Same G G' ∧ Rep K G' (.ref a) d := by
  have hl := w.len
  have hj : j < A.length := by rw [hl]; exact (List.getElem?_eq_some_iff.mp hM).1
  have ha : A[j]? = some A[j] := List.getElem?_eq_getElem hj
  generalize A[j] = a at ha
  have hc := w.cl.get ha hM
  have hA : a ∈ A := List.mem_of_getElem? ha
  obtain ⟨gn, o, ho, rep⟩ : G a = Option.none ∧ ∃ o, H a = some o ∧ ∀ G', Same G G' → G' a = some o → Rep K G' (.ref a) d := by
    cases c with
    | dead => simp [cellD] at hd
    | dct P w ds => simp [cellD] at hd
    | lst ds =>
      simp only [cellD, Option.some.injEq] at hd; subst hd
      obtain ⟨g, vs, h1, r⟩ := hc
      exact ⟨g, _, h1, fun G' s e => .lst (.inl e) (r.mono s)⟩
    | dic ds =>
      simp only [cellD, Option.some.injEq] at hd; subst hd
      obtain ⟨g, vs, h1, r⟩ := hc
      exact ⟨g, _, h1, fun G' s e => .dic e (r.mono s)⟩
    | ins C fs =>
      simp only [cellD, Option.map_eq_some_iff] at hd
      obtain ⟨ds, hf, rfl⟩ := hd
      obtain ⟨g, dx, fv, h1, r⟩ := hc
      exact ⟨g, _, h1, fun G' s e => .ins e ((r.repF hf).mono s) ((r.nx hf).mono s)⟩
    | mix xs =>
      simp only [cellD, Option.map_eq_some_iff] at hd
      obtain ⟨ds, hf, rfl⟩ := hd
      obtain ⟨g, vs, h1, r⟩ := hc
      exact ⟨g, _, h1, fun G' s e => .lst (.inl e) ((r.repsD hf).mono s)⟩
  have hnB : B.H a = Option.none := by
    rcases w.an a hA with q | q
    · exfalso
      obtain ⟨more, e⟩ := w.pre
      obtain ⟨i, hi, ei⟩ := List.mem_iff_getElem.mp q
      have h1 : A[i]? = some a := by rw [e, List.getElem?_append_left hi, List.getElem?_eq_getElem hi, ei]
      have := nd_ix w.nd ha h1
      omega
    · exact q
  have s1 : Same G (upd G a o) := same_upd gn
  have ex : Ext G A (upd G a o) A := ⟨s1, [], by simp⟩
  have r1 := rep (upd G a o) s1 upd_same
  refine ⟨upd G a o, a, ha, ⟨w.gg.trans s1, fun b u e => ?_, w.fr, fun b u e => ?_, w.nd, w.pre, w.there, w.an, ?_⟩, s1, r1⟩
  · by_cases c : b = a
    · subst c; rw [upd_same] at e; rw [← e]; exact ho
    · rw [upd_ne c] at e; exact w.gh b u e
  · by_cases c : b = a
    · subst c; exact .inr hnB
    · rw [upd_ne c] at e; exact w.fresh b u e
  · have go : ∀ {as : List Addr} {cs : List Cell} {i : Nat}, as.Nodup → Cells K G A H as cs → as[i]? = some a → Cells K (upd G a o) A H as ((cs.map (Cell.fz j d)).set i .dead) := by
      intro as cs i nd q
      induction q generalizing i with
      | nil => intro e; simp at e
      | @cons b as c cs h r ih =>
        intro e
        cases i with
        | zero =>
          simp at e
          subst e
          refine .cons trivial (Cells.fz ha r1 (r.imp fun x y m q => q.keep ex (fun g => ?_) fun _ e => e))
          rw [upd_ne (show x ≠ b from fun z => (List.nodup_cons.mp nd).1 (z ▸ m))]; exact g
        | succ n =>
          have e' : as[n]? = some a := by simpa using e
          have hp : a ∈ as := List.mem_of_getElem? e'
          refine .cons ((h.keep ex (fun g => ?_) fun _ e => e).fz ha r1) (ih (List.nodup_cons.mp nd).2 e')
          rw [upd_ne (show b ≠ a from fun z => (List.nodup_cons.mp nd).1 (z ▸ hp))]; exact g
    exact go w.nd w.cl ha
end
section
variable {X : Cx} {B : Base} {ex : XD} {ss : Sst} {M : Mem} {N : Nd} {sts : List Stmt}
theorem wb_freeze (j : Nat) {c : Cell} {d : D} (hb : B.A.length ≤ j) (hM : M[j]? = some c) (hd : cellD c = some d) (h : WB X B ex sts N (ss.map (Option.map (SV.fz j d))) ((M.map (Cell.fz j d)).set j .dead)) : WB X B ex sts N ss M := .mk fun ck G A H σ w sl E k => by
  obtain ⟨G', a, ha, w', s', r⟩ := w.freezeA hb hM hd
  exact h ck G' A H σ w' ((sl.mono ⟨s', [], by simp⟩).fz ha r) E (k.mono s')
end
end Mb

/-! Mb, part 13: small steps, what a law's top holds, the draw. -/
namespace Mb
open PySem L2 PyProof.Rows
section
variable {M : Mem} {k : D → Prop} {A B : Prop} {X : Cx}
theorem w1d {d : D} (h : k d) : with1 M (.dat d) k := ⟨h⟩
theorem w1c {i : Nat} {ds : List D} (e : M[i]? = some (.lst ds)) (h : k (.lst ds)) : with1 M (.cel i) k := by
  have g : SV.get M (.cel i) = some (.lst ds) := by simp only [SV.get, e]
  exact with1_mk g h
theorem w1k {i : Nat} {ds : List (Key × D)} (e : M[i]? = some (.dic ds)) (h : k (.dic ds)) : with1 M (.cel i) k := by
  have g : SV.get M (.cel i) = some (.dic ds) := by simp only [SV.get, e]
  exact with1_mk g h
theorem addI {i j : Int} (h : k (.int (i + j))) : addD (.int i) (.int j) k := ⟨h⟩
theorem addS {i j : Str} (hl : i.length + j.length ≤ sizeLine) (h : k (.str (i ++ j))) : addD (.str i) (.str j) k := ⟨⟨hl, h⟩⟩
theorem addL {i j : List D} (hl : i.length + j.length ≤ sizeLine) (h : k (.lst (i ++ j))) : addD (.lst i) (.lst j) k := ⟨⟨hl, h⟩⟩
theorem addT {i j : List D} (hl : i.length + j.length ≤ sizeLine) (h : k (.tup (i ++ j))) : addD (.tup i) (.tup j) k := ⟨⟨hl, h⟩⟩
theorem mulI {i j : Int} (hl : CMul i j) (h : k (.int (i * j))) : mulD (.int i) (.int j) k := ⟨⟨hl, h⟩⟩
theorem wsd {xs : List SV} {ds : List D} {k : List D → Prop} (e : datsOf xs = some ds) (h : k ds) : withs xs k := by
  refine ⟨?_⟩
  unfold withs0
  rw [e]
  exact h
theorem deq_int {i j : Int} : deq (.int i) (.int j) = decide (i = j) := by
  unfold deq
  simp only [py, PyData.eqv]
  rfl
theorem deq_str {i j : Str} : deq (.str i) (.str j) = decide (i = j) := by
  unfold deq
  simp only [py, PyData.eqv]
  by_cases c : i = j
  · subst c; simp
  · rw [decide_eq_false c]; simpa using c
theorem eqI {i j : Int} {Q : Bool → Mem → Prop} (h : Q (decide (i = j)) M) : eq2t false M (.dat (.int i)) (.dat (.int j)) Q := ⟨w1d (w1d ⟨⟨rfl, rfl⟩, by rw [deq_int]; exact h⟩)⟩
theorem neI {i j : Int} {Q : Bool → Mem → Prop} (h : Q (!decide (i = j)) M) : eq2t true M (.dat (.int i)) (.dat (.int j)) Q := ⟨w1d (w1d ⟨⟨rfl, rfl⟩, by rw [deq_int]; exact h⟩)⟩
theorem eqS {i j : Str} {Q : Bool → Mem → Prop} (h : Q (decide (i = j)) M) : eq2t false M (.dat (.str i)) (.dat (.str j)) Q := ⟨w1d (w1d ⟨⟨rfl, rfl⟩, by rw [deq_str]; exact h⟩)⟩
theorem neS {i j : Str} {Q : Bool → Mem → Prop} (h : Q (!decide (i = j)) M) : eq2t true M (.dat (.str i)) (.dat (.str j)) Q := ⟨w1d (w1d ⟨⟨rfl, rfl⟩, by rw [deq_str]; exact h⟩)⟩
theorem eqD {d e : D} {Q : Bool → Mem → Prop} (h1 : D.pl 60 d = true) (h2 : D.pl 60 e = true) (h : Q (deq d e) M) : eq2t false M (.dat d) (.dat e) Q := ⟨w1d (w1d ⟨⟨h1, h2⟩, h⟩)⟩
theorem neD {d e : D} {Q : Bool → Mem → Prop} (h1 : D.pl 60 d = true) (h2 : D.pl 60 e = true) (h : Q (!deq d e) M) : eq2t true M (.dat d) (.dat e) Q := ⟨w1d (w1d ⟨⟨h1, h2⟩, h⟩)⟩
theorem ixL {ds : List D} {n : Int} {d : D} (e : atI ds n = some d) (h : k d) : ixD (.lst ds) (.int n) k := ⟨⟨d, e, h⟩⟩
theorem ixT {ds : List D} {n : Int} {d : D} (e : atI ds n = some d) (h : k d) : ixD (.tup ds) (.int n) k := ⟨⟨d, e, h⟩⟩
theorem ixS {z : Str} {n : Int} {c : Nat} (e : atI z.cps.toList n = some c) (h : k (.str ⟨#[c]⟩)) : ixD (.str z) (.int n) k := ⟨⟨c, e, h⟩⟩
theorem ite_b {p : Prop} [Decidable p] (h1 : p → A) (h2 : ¬ p → B) : if decide p = true then A else B := by
  by_cases c : p
  · rw [if_pos (decide_eq_true c)]; exact h1 c
  · rw [if_neg (by rw [decide_eq_false c]; exact Bool.false_ne_true)]; exact h2 c
theorem ite_n {p : Prop} [Decidable p] (h1 : ¬ p → A) (h2 : p → B) : if (!decide p) = true then A else B := by
  by_cases c : p
  · rw [if_neg (by rw [decide_eq_true c]; exact Bool.false_ne_true)]; exact h2 c
  · rw [if_pos (by rw [decide_eq_false c]; rfl)]; exact h1 c
theorem ite_v {b : Bool} (h1 : b = true → A) (h2 : b = false → B) : if b = true then A else B := by
  cases b with
  | true => rw [if_pos rfl]; exact h1 rfl
  | false => rw [if_neg Bool.false_ne_true]; exact h2 rfl
theorem it_t {b : Bool} (e : b = true) (h : A) : if b = true then A else B := by rw [if_pos e]; exact h
theorem it_f {b : Bool} (e : b = false) (h : B) : if b = true then A else B := by rw [if_neg (by rw [e]; exact Bool.false_ne_true)]; exact h
theorem vis {sc : Scope} {x : Str} (h : (sc.names.lookup x == some .local || sc.names.lookup x == some .cell || sc.names.lookup x == some .free) = true) : Vis sc x := by
  simp only [Bool.or_eq_true, beq_iff_eq] at h
  rcases h with (h | h) | h
  · exact .inl h
  · exact .inr (.inl h)
  · exact .inr (.inr h)
theorem room {j k : Nat} {A : Around} (r : Room k A) (h : j ≤ k) : Room j A := r.mono h
end
section
variable {X : Cx} {B : Base} {ex : XD} {ss : Sst} {M : Mem} {a b c : Expr} {pos : Pos} {Q : SV → Mem → Prop} {QB : Bool → Mem → Prop}
theorem we_lt (h : WE X B ex a (fun x M1 => WE X B ex b (fun y M2 => ∃ i j, x = .dat (.int i) ∧ y = .dat (.int j) ∧ Q (.dat (.bl (decide (i < j)))) M2) ss M1) ss M) (hm : behindInMarks .Lt b = false := by exact nomark _) : WE X B ex (.Compare a [.Lt] [b] pos) Q ss M :=
  we_cmpI op_lt hm (h.mono fun x M1 h1 => h1.mono fun y M2 ⟨i, j, e1, e2, q⟩ => by subst e1; subst e2; exact w1d (w1d q))
theorem wt_lt (h : WE X B ex a (fun x M1 => WE X B ex b (fun y M2 => ∃ i j, x = .dat (.int i) ∧ y = .dat (.int j) ∧ QB (decide (i < j)) M2) ss M1) ss M) (hm : behindInMarks .Lt b = false := by exact nomark _) : WT X B ex (.Compare a [.Lt] [b] pos) QB ss M :=
  wt_cmpI op_lt hm (h.mono fun x M1 h1 => h1.mono fun y M2 ⟨i, j, e1, e2, q⟩ => by subst e1; subst e2; exact w1d (w1d q))
theorem we_le (h : WE X B ex a (fun x M1 => WE X B ex b (fun y M2 => ∃ i j, x = .dat (.int i) ∧ y = .dat (.int j) ∧ Q (.dat (.bl (decide (i ≤ j)))) M2) ss M1) ss M) (hm : behindInMarks .LtE b = false := by exact nomark _) : WE X B ex (.Compare a [.LtE] [b] pos) Q ss M :=
  we_cmpI op_le hm (h.mono fun x M1 h1 => h1.mono fun y M2 ⟨i, j, e1, e2, q⟩ => by subst e1; subst e2; exact w1d (w1d q))
theorem wt_le (h : WE X B ex a (fun x M1 => WE X B ex b (fun y M2 => ∃ i j, x = .dat (.int i) ∧ y = .dat (.int j) ∧ QB (decide (i ≤ j)) M2) ss M1) ss M) (hm : behindInMarks .LtE b = false := by exact nomark _) : WT X B ex (.Compare a [.LtE] [b] pos) QB ss M :=
  wt_cmpI op_le hm (h.mono fun x M1 h1 => h1.mono fun y M2 ⟨i, j, e1, e2, q⟩ => by subst e1; subst e2; exact w1d (w1d q))
theorem we_gt (h : WE X B ex a (fun x M1 => WE X B ex b (fun y M2 => ∃ i j, x = .dat (.int i) ∧ y = .dat (.int j) ∧ Q (.dat (.bl (decide (j < i)))) M2) ss M1) ss M) (hm : behindInMarks .Gt b = false := by exact nomark _) : WE X B ex (.Compare a [.Gt] [b] pos) Q ss M :=
  we_cmpI op_gt hm (h.mono fun x M1 h1 => h1.mono fun y M2 ⟨i, j, e1, e2, q⟩ => by subst e1; subst e2; exact w1d (w1d q))
theorem wt_gt (h : WE X B ex a (fun x M1 => WE X B ex b (fun y M2 => ∃ i j, x = .dat (.int i) ∧ y = .dat (.int j) ∧ QB (decide (j < i)) M2) ss M1) ss M) (hm : behindInMarks .Gt b = false := by exact nomark _) : WT X B ex (.Compare a [.Gt] [b] pos) QB ss M :=
  wt_cmpI op_gt hm (h.mono fun x M1 h1 => h1.mono fun y M2 ⟨i, j, e1, e2, q⟩ => by subst e1; subst e2; exact w1d (w1d q))
theorem we_ge (h : WE X B ex a (fun x M1 => WE X B ex b (fun y M2 => ∃ i j, x = .dat (.int i) ∧ y = .dat (.int j) ∧ Q (.dat (.bl (decide (j ≤ i)))) M2) ss M1) ss M) (hm : behindInMarks .GtE b = false := by exact nomark _) : WE X B ex (.Compare a [.GtE] [b] pos) Q ss M :=
  we_cmpI op_ge hm (h.mono fun x M1 h1 => h1.mono fun y M2 ⟨i, j, e1, e2, q⟩ => by subst e1; subst e2; exact w1d (w1d q))
theorem wt_ge (h : WE X B ex a (fun x M1 => WE X B ex b (fun y M2 => ∃ i j, x = .dat (.int i) ∧ y = .dat (.int j) ∧ QB (decide (j ≤ i)) M2) ss M1) ss M) (hm : behindInMarks .GtE b = false := by exact nomark _) : WT X B ex (.Compare a [.GtE] [b] pos) QB ss M :=
  wt_cmpI op_ge hm (h.mono fun x M1 h1 => h1.mono fun y M2 ⟨i, j, e1, e2, q⟩ => by subst e1; subst e2; exact w1d (w1d q))
theorem wt_lele (h : WE X B ex a (fun x M1 => WE X B ex b (fun y M2 => ∃ i j, x = .dat (.int i) ∧ y = .dat (.int j) ∧ if decide (i ≤ j) = true then WE X B ex c (fun z M3 => ∃ n, z = .dat (.int n) ∧ QB (decide (j ≤ n)) M3) ss M2 else QB false M2) ss M1) ss M)
    (hm : lastMarks [.LtE, .LtE] [b, c] = false := by with_unfolding_all rfl) : WT X B ex (.Compare a [.LtE, .LtE] [b, c] pos) QB ss M := wt_chain op_le op_le h hm
theorem wt_lelt (h : WE X B ex a (fun x M1 => WE X B ex b (fun y M2 => ∃ i j, x = .dat (.int i) ∧ y = .dat (.int j) ∧ if decide (i ≤ j) = true then WE X B ex c (fun z M3 => ∃ n, z = .dat (.int n) ∧ QB (decide (j < n)) M3) ss M2 else QB false M2) ss M1) ss M)
    (hm : lastMarks [.LtE, .Lt] [b, c] = false := by with_unfolding_all rfl) : WT X B ex (.Compare a [.LtE, .Lt] [b, c] pos) QB ss M := wt_chain op_le op_lt h hm
theorem wt_ltle (h : WE X B ex a (fun x M1 => WE X B ex b (fun y M2 => ∃ i j, x = .dat (.int i) ∧ y = .dat (.int j) ∧ if decide (i < j) = true then WE X B ex c (fun z M3 => ∃ n, z = .dat (.int n) ∧ QB (decide (j ≤ n)) M3) ss M2 else QB false M2) ss M1) ss M)
    (hm : lastMarks [.Lt, .LtE] [b, c] = false := by with_unfolding_all rfl) : WT X B ex (.Compare a [.Lt, .LtE] [b, c] pos) QB ss M := wt_chain op_lt op_le h hm
theorem wt_ltlt (h : WE X B ex a (fun x M1 => WE X B ex b (fun y M2 => ∃ i j, x = .dat (.int i) ∧ y = .dat (.int j) ∧ if decide (i < j) = true then WE X B ex c (fun z M3 => ∃ n, z = .dat (.int n) ∧ QB (decide (j < n)) M3) ss M2 else QB false M2) ss M1) ss M)
    (hm : lastMarks [.Lt, .Lt] [b, c] = false := by with_unfolding_all rfl) : WT X B ex (.Compare a [.Lt, .Lt] [b, c] pos) QB ss M := wt_chain op_lt op_lt h hm
theorem we_sub1 (h : WE X B ex a (fun x M1 => WE X B ex b (fun y M2 => ∃ i j, x = .dat (.int i) ∧ y = .dat (.int j) ∧ Q (.dat (.int (i - j))) M2) ss M1) ss M) : WE X B ex (.BinOp a .Sub b pos) Q ss M :=
  we_sub (h.mono fun x M1 h1 => h1.mono fun y M2 ⟨i, j, e1, e2, q⟩ => by subst e1; subst e2; exact w1d (w1d q))
theorem we_fdiv1 (h : WE X B ex a (fun x M1 => WE X B ex b (fun y M2 => ∃ i j, x = .dat (.int i) ∧ y = .dat (.int j) ∧ (0 < j ∧ j < 1073741824) ∧ Q (.dat (.int (i / j))) M2) ss M1) ss M) : WE X B ex (.BinOp a .FloorDiv b pos) Q ss M :=
  we_fdiv (h.mono fun x M1 h1 => h1.mono fun y M2 ⟨i, j, e1, e2, q⟩ => by subst e1; subst e2; exact w1d (w1d q))
theorem we_mod1 (h : WE X B ex a (fun x M1 => WE X B ex b (fun y M2 => ∃ i j, x = .dat (.int i) ∧ y = .dat (.int j) ∧ (0 < j) ∧ Q (.dat (.int (i % j))) M2) ss M1) ss M) : WE X B ex (.BinOp a .Mod b pos) Q ss M :=
  we_mod (h.mono fun x M1 h1 => h1.mono fun y M2 ⟨i, j, e1, e2, q⟩ => by subst e1; subst e2; exact w1d (w1d q))
theorem we_pow1 (h : WE X B ex a (fun x M1 => WE X B ex b (fun y M2 => ∃ i j, x = .dat (.int i) ∧ y = .dat (.int j) ∧ (0 ≤ j ∧ j ≤ 1000000 ∧ i.natAbs < 2 ^ 64) ∧ Q (.dat (.int (i ^ j.toNat))) M2) ss M1) ss M) : WE X B ex (.BinOp a .Pow b pos) Q ss M :=
  we_pow (h.mono fun x M1 h1 => h1.mono fun y M2 ⟨i, j, e1, e2, q⟩ => by subst e1; subst e2; exact w1d (w1d q))
theorem we_mul1 (h : WE X B ex a (fun x M1 => WE X B ex b (fun y M2 => ∃ i j, x = .dat (.int i) ∧ y = .dat (.int j) ∧ ((-(2 ^ 64) < i ∧ i < 2 ^ 64) ∨ (-(2 ^ 64) < j ∧ j < 2 ^ 64)) ∧ Q (.dat (.int (i * j))) M2) ss M1) ss M) : WE X B ex (.BinOp a .Mult b pos) Q ss M :=
  we_mul (h.mono fun x M1 h1 => h1.mono fun y M2 ⟨i, j, e1, e2, q⟩ => by subst e1; subst e2; exact w1d (w1d ⟨q⟩))
end
section
variable {X : Cx} {B : Base} {ex : XD} {ss : Sst} {M : Mem} {a b c : Expr} {es : List Expr} {pos : Pos} {Q : SV → Mem → Prop} {QB : Bool → Mem → Prop} {N : Nd} {st : Stmt} {sts : List Stmt}
theorem a1 {k : Mem → D → (SV → Mem → Prop) → Prop} {x : SV} (h : with1 M x fun d => k M d Q) : arg1 k M [x] Q := ⟨h⟩
theorem gF (x : Str) {p : Pos} {kw : List Keyword} (h : WE X B ex (.Call (.Name x p) es kw pos) Q ss M) : WE X B ex (.Call (.Name x p) es kw pos) Q ss M := h
theorem gX (x : Str) {p : Pos} {kw : List Keyword} (h : WE X B ex (.Call (.Attribute a x p) es kw pos) Q ss M) : WE X B ex (.Call (.Attribute a x p) es kw pos) Q ss M := h
theorem cq {n : Nat} {S : SpD} {xs : List SV} (h0 : (xs.all (SV.lt n) && (M.take n).all (Cell.lt n) && decide (n ≤ M.length)) = true) (h : S xs (M.take n) (fun x M' => Q (x.sh n M.length) (M'.take n ++ M.drop n ++ M'.drop n)) (fun C fs M' => ex C fs ss (M'.take n ++ M.drop n ++ M'.drop n))) : CallQ n S xs M Q ex ss := ⟨⟨h0, h⟩⟩
theorem mq {S : SpD} {C : Addr} {xs : List SV} (h0 : (xs.all (SV.lt 0) && M.all (Cell.lt M.length)) = true) (h : S (.cel 0 :: xs) [.ins C []] (fun y M' => y = .dat .non ∧ ∃ fs ds, M'[0]? = some (.ins C fs) ∧ fdats fs = some ds ∧ Q (.dat (.ins C ds)) M) (fun D fs _ => ex D fs ss M)) : MakeQ S C xs M Q ex ss := ⟨⟨h0, h⟩⟩
theorem wo_none {Q : Option Int → Mem → Prop} (q : Q none M) : WO X B ex none Q ss M := ⟨q⟩
theorem wo_some {Q : Option Int → Mem → Prop} (h : WE X B ex a (fun x M1 => ∃ i, x = .dat (.int i) ∧ Q (some i) M1) ss M) : WO X B ex (some a) Q ss M := ⟨h⟩
theorem gB (h : WB X B ex sts N ss M) : WB X B ex sts N ss M := h
theorem gS (h : WS X B ex st N ss M) : WS X B ex st N ss M := h
theorem gE (h : WE X B ex a Q ss M) : WE X B ex a Q ss M := h
theorem gT (h : WT X B ex a QB ss M) : WT X B ex a QB ss M := h
theorem gW (h : WW X B ex a QB ss M) : WW X B ex a QB ss M := h
theorem gA {Q : List SV → Mem → Prop} (h : WA X B ex es Q ss M) : WA X B ex es Q ss M := h
theorem gN {x : Str} (h : WE X B ex (.Name x pos) Q ss M) : WE X B ex (.Name x pos) Q ss M := h
theorem gC {x : Const} {j : Nat} (h : WE X B ex (.Constant x j pos) Q ss M) : WE X B ex (.Constant x j pos) Q ss M := h
theorem gO {op : Operator} (h : WE X B ex (.BinOp a op b pos) Q ss M) : WE X B ex (.BinOp a op b pos) Q ss M := h
theorem gI (h : WE X B ex (.Subscript a b pos) Q ss M) : WE X B ex (.Subscript a b pos) Q ss M := h
theorem gL {kw : List Keyword} (h : WE X B ex (.Call a es kw pos) Q ss M) : WE X B ex (.Call a es kw pos) Q ss M := h
theorem gM {ops : List CmpOp} (h : WE X B ex (.Compare a ops es pos) Q ss M) : WE X B ex (.Compare a ops es pos) Q ss M := h
theorem gR {x : Expr} (h : WS X B ex (.Assign [x] a pos) N ss M) : WS X B ex (.Assign [x] a pos) N ss M := h
end
instance {x : Str} : Decidable (SOk x) := inferInstanceAs (Decidable (_ ∧ _))
/-! ### what the top holds -/
def FnRaw (K : PySem.W.Frag) (x qual : Str) (st : Stmt) (f : Addr) : Prop := ∃ fd : FuncData, Fun K x qual st f fd
def ConS (K : PySem.W.Frag) (x y : Str) : Prop := ∃ t, PySem.W.nsIn K mainGlobals x = some (some (.str y t))
def ConI (K : PySem.W.Frag) (x : Str) (i : Int) : Prop := ∃ t, PySem.W.nsIn K mainGlobals x = some (some (.int i t))
section
variable {K : PySem.W.Frag} {h : Heap} {mg : Str → Option Value}
theorem conS_of {x y : Str} (X : K.In h) (G : h.Ns mainGlobals mg) (c : ConS K x y) : ∃ t, mg x = some (.str y t) := by
  obtain ⟨t, e⟩ := c
  exact ⟨t, PySem.W.mg_of X G e⟩
theorem conI_of {x : Str} {i : Int} (X : K.In h) (G : h.Ns mainGlobals mg) (c : ConI K x i) : ∃ t, mg x = some (.int i t) := by
  obtain ⟨t, e⟩ := c
  exact ⟨t, PySem.W.mg_of X G e⟩
theorem fnraw {x qual : Str} {st : Stmt} {f : Addr} {oc : Value} {od an : Option Addr} {osl : Array (Option Value)} {kV doc pm cdv ct : Value} (l : K.lookup f = some ⟨oc, od, .func (PySem.W.fnOf x qual (defArgs st) (defBody st) (defScope st) .none kV doc pm an cdv ct), osl⟩)
    (c : PySem.W.codeIn K cdv qual = true) (k : PySem.W.keepIn K (.ref f) = true) : FnRaw K x qual st f := ⟨_, fun_mk l c k⟩
theorem oexc {C : Addr} {nm q : Str} {N : Addr} {bs bm : List Value} {sn : List Str} {sub : List Value} {ab : Bool} {col : Option Bool} {dd : Option Addr} {m0 m1 m2 m3 m5 : Option Value}
    (xL : K.lookup C = some (excClassObj nm q C N bs bm true sn sub ab col dd m0 m1 m2 m3 m5 "ValueError.__new__")) (xr : PySem.HandSPX.refsVE bm = true)
    (sa : PySem.W.findIn K (.ref C) "__setattr__" = some (some (.builtin "object.__setattr__"))) (eC : PySem.W.subIn K (.ref C) (.type "BaseException") = some true) (tC : PySem.W.typeIn K (.ref C) = some (.type "type")) (kC : PySem.W.keepIn K (.ref C) = true) : OexC K C :=
  ⟨⟨nm, q, N, bs, bm, sn, sub, ab, col, dd, m0, m1, m2, m3, m5, xL, xr⟩, sa, eC, tC, kC⟩
end
/-! ### the errors' __init__ -/
section
variable {P : Program} {w : World} {K : PySem.W.Frag} {mg : Str → Option Value} {base : Heap}
end
end Mb

/-! Mb, part 14: the draw that all laws share, plain. -/
namespace Mb
open PySem L2 PyProof.Rows
def dC (st : Int × Int × Int) : Cell := .lst [.int st.1, .int st.2.1, .int st.2.2]
structure DOk (st : Int × Int × Int) : Prop where
  a : 0 ≤ st.1
  b : 0 ≤ st.2.1 ∧ st.2.1 < 2147483647
  c : 0 ≤ st.2.2 ∧ st.2.2 < 2147483647
/-- a state of the draw from any whole number -/
def sp_state : SpD := fun xs M R _ => ∃ n : Int, xs = [.dat (.int n)] ∧ M = [] ∧ ∀ st, DOk st → R (.cel 0) [dC st]
/-- a draw below b: some number below b, the state is changed -/
def sp_digit : SpD := fun xs M R _ => ∃ st b, xs = [.cel 0, .dat (.int b)] ∧ M = [dC st] ∧ DOk st ∧ (0 < b ∧ b < 1073741824) ∧ ∀ st' n, DOk st' → 0 ≤ n → n < b → R (.dat (.int n)) [dC st']
theorem atI_lt {α : Type} {l : List α} {n : Int} (h0 : 0 ≤ n) (h1 : n < l.length) : ∃ c, atI l n = some c := by
  obtain ⟨m, rfl⟩ := Int.eq_ofNat_of_zero_le h0
  have hm : m < l.length := by omega
  exact ⟨l[m], atI_nat (List.getElem?_eq_getElem hm)⟩
theorem atI_mem {α : Type} {l : List α} {n : Int} {c : α} (h : atI l n = some c) : c ∈ l := by
  obtain ⟨j, _, h2, _⟩ := atI_get h
  exact List.mem_of_getElem? h2
theorem size_ge {n : Nat} (h : n ≤ 1000000) : n ≤ sizeLine := Nat.le_trans h (by decide)
theorem ix_str {z : Str} {n : Int} {k : D → Prop} (h0 : 0 ≤ n) (h1 : n < z.cps.size) (h : ∀ c, c ∈ z.cps.toList → k (.str ⟨#[c]⟩)) : ixD (.str z) (.int n) k := by
  obtain ⟨c, e⟩ := atI_lt (l := z.cps.toList) h0 (by simpa using h1)
  exact ixS e (h c (atI_mem e))
theorem ix_lst {ds : List D} {n : Int} {k : D → Prop} (h0 : 0 ≤ n) (h1 : n < ds.length) (h : ∀ d, d ∈ ds → k d) : ixD (.lst ds) (.int n) k := by
  obtain ⟨c, e⟩ := atI_lt (l := ds) h0 h1
  exact ixL e (h c (atI_mem e))
theorem ix_tup {ds : List D} {n : Int} {k : D → Prop} (h0 : 0 ≤ n) (h1 : n < ds.length) (h : ∀ d, d ∈ ds → k d) : ixD (.tup ds) (.int n) k := by
  obtain ⟨c, e⟩ := atI_lt (l := ds) h0 h1
  exact ixT e (h c (atI_mem e))
theorem rangeD_get {lo : Int} {n i : Nat} {d : D} (h : (rangeD lo n)[i]? = some d) : i < n ∧ d = .int (lo + i) := by
  unfold rangeD at h
  rw [List.getElem?_map] at h
  cases e : (List.range n)[i]? with
  | none => rw [e] at h; cases h
  | some j =>
    rw [e] at h
    obtain ⟨h1, h2⟩ := List.getElem?_eq_some_iff.mp e
    simp at h1 h2
    subst h2
    exact ⟨h1, (Option.some.inj h).symm⟩
theorem rangeD_len {lo : Int} {n : Nat} : (rangeD lo n).length = n := by unfold rangeD; simp
/-- a text of n signs at most -/
def sp_plain : SpD := fun xs M R _ => ∃ st n, xs = [.cel 0, .dat (.int n)] ∧ M = [dC st] ∧ DOk st ∧ (0 ≤ n ∧ n ≤ 100) ∧ ∀ st' z, DOk st' → z.length ≤ 100 → R (.dat (.str z)) [dC st']
/-- any text, drawn -/
def sp_text : SpD := fun xs M R _ => ∃ st, xs = [.cel 0] ∧ M = [dC st] ∧ DOk st ∧ ∀ st' z, DOk st' → z.length ≤ 300 → R (.dat (.str z)) [dC st']
end Mb

/-! Mb, part 15: what can be called, bundled. -/
namespace Mb
open PySem L2 PyProof.Rows
section
variable (P : Program) (w : World) (K : PySem.W.Frag) (mg : Str → Option Value) (base : Heap)
/-- the module's def x keeps S (n cells handed in, k levels) -/
def Cal (x : Str) (k n : Nat) (S : SpD) : Prop := ∃ f fd ps, FnOk P w K mg base (L2.CX P w) k f fd ps (spOf K n S) ∧ mg x = some (.ref f) ∧ PySem.W.keepIn K (.ref f) = true ∧ Binds K fd ps []
/-- the method m of the class C -/
def Mtd (C : Addr) (m : Str) (k n : Nat) (S : SpD) : Prop := ∃ f fd ps, Cls K C ∧ Meth K C m f ∧ FnOk P w K mg base (L2.CX P w) k f fd ps (spOf K n S) ∧ Binds K fd ps []
/-- C(..) -/
def Mkr (x : Str) (C : Addr) (k : Nat) (S : SpD) : Prop := ∃ f fd ps, Mk K C f ∧ FnOk P w K mg base (L2.CX P w) k f fd ps (spOf K 1 S) ∧ mg x = some (.ref C) ∧ Binds K fd ps []
/-- D.m(self, ..) -/
def Clm (x : Str) (m : Str) (k n : Nat) (S : SpD) : Prop := ∃ C f fd ps mc, mg x = some (.ref C) ∧ ClX.CRead K C mc ∧ ClX.CVal K C mc m (.ref f) (.ref f) ∧ PySem.W.keepIn K (.ref f) = true ∧ FnOk P w K mg base (L2.CX P w) k f fd ps (spOf K n S) ∧ Binds K fd ps []
/-- raise x(v): its one field f -/
def Rai (x : Str) (C : Addr) (f : Str) : Prop := ∃ fI fd y, ErrC K mg x C fI ∧ PySem.W.findIn K (.ref C) f = some none ∧ FnOk P w K mg base CX0 1 fI fd ["self", y] (spX1 K f) ∧ Binds K fd ["self", y] []
def Rai2 (x : Str) (C : Addr) (f g : Str) : Prop := ∃ fI fd y z, ErrC K mg x C fI ∧ (PySem.W.findIn K (.ref C) f = some none ∧ PySem.W.findIn K (.ref C) g = some none) ∧ FnOk P w K mg base CX0 1 fI fd ["self", y, z] (spX2 K f g) ∧ Binds K fd ["self", y, z] []
end
section
variable {X : Cx} {B : Base} {ex : XD} {ss : Sst} {M : Mem} {a b e o : Expr} {es : List Expr} {pos p p2 apos : Pos} {Q : SV → Mem → Prop} {N : Nd} {x : Str} {k n : Nat} {S : SpD} {C : Addr} {m : Str}
theorem we_own (F : Cal X.prog X.w X.K X.mg X.base x k n S) (hr : Room k X.A) (hg : Gl X x) (h : WA X B ex (e :: es) (fun xs M1 => CallQ n S xs M1 Q ex ss) ss M)
    (hdb : (x == ("__debug__" : Str)) = false := by decide) (he : starEach (e :: es) X.env = (false, eval e X.env) :: starEach es X.env := by rfl) (hpl : (backTo pos (starEach es X.env)).any (·.1) = false := by rfl) : WE X B ex (.Call (.Name x p) (e :: es) [] pos) Q ss M := by
  obtain ⟨f, fd, ps, F, hm, hk, hb⟩ := F
  refine we_call (dvs := []) (dxs := []) (ds := []) F hr hm hk hb .nil (fun _ _ => .nil) hg ?_ hdb he hpl
  refine .mk fun ck G A H σ w sl Kq kq => ?_
  exact h ck G A H σ w sl Kq fun vs xs G' A' M' H' e1 w' s q => kq vs xs G' A' M' H' e1 w' s (by show CallQ n S (xs ++ []) M' Q ex ss; rw [List.append_nil]; exact q)
theorem we_mtd {pl : Sem Bool} (F : Mtd X.prog X.w X.K X.mg X.base C m k n S) (hr : Room k X.A)
    (h : WE X B ex o (fun x M1 => insS M1 x C m ∧ WA X B ex (e :: es) (fun xs M2 => CallQ n S (x :: xs) M2 Q ex ss) ss M1) ss M)
    (hst : starEach (e :: es) X.env = (false, eval e X.env) :: starEach es X.env := by rfl) (hpl : (backTo pos (starEach es X.env)).any (·.1) = false := by rfl)
    (ht : eval (.Call (.Attribute o m apos) (e :: es) [] pos) X.env = (do
      let ov ← eval o X.env
      standAt apos.atName
      let (f, first) ← holding [ov] (getMethod ov m pl)
      callWith pos f first (backTo pos (starEach (e :: es) X.env)) (backToKw pos (keywordEach [] X.env))) := by rfl) :
    WE X B ex (.Call (.Attribute o m apos) (e :: es) [] pos) Q ss M := by
  obtain ⟨f, fd, ps, cl, hm, F, hb⟩ := F
  exact we_meth cl hm F hr hb h hst hpl ht
theorem we_mtd0 {pl : Sem Bool} (F : Mtd X.prog X.w X.K X.mg X.base C m k n S) (hr : Room k X.A)
    (h : WE X B ex o (fun x M1 => insS M1 x C m ∧ CallQ n S [x] M1 Q ex ss) ss M)
    (ht : eval (.Call (.Attribute o m apos) [] [] pos) X.env = (do
      let ov ← eval o X.env
      standAt apos.atName
      let (f, first) ← holding [ov] (getMethod ov m pl)
      callWith pos f first (backTo pos (starEach [] X.env)) (backToKw pos (keywordEach [] X.env))) := by rfl) :
    WE X B ex (.Call (.Attribute o m apos) [] [] pos) Q ss M := by
  obtain ⟨f, fd, ps, cl, hm, F, hb⟩ := F
  exact we_meth0 cl hm F hr hb h ht
theorem we_mkr (F : Mkr X.prog X.w X.K X.mg X.base x C k S) (hr : Room (k + 1) X.A) (hg : Gl X x) (h : WA X B ex (e :: es) (fun xs M1 => MakeQ S C xs M1 Q ex ss) ss M)
    (hdb : (x == ("__debug__" : Str)) = false := by decide) (he : starEach (e :: es) X.env = (false, eval e X.env) :: starEach es X.env := by rfl) (hpl : (backTo pos (starEach es X.env)).any (·.1) = false := by rfl) : WE X B ex (.Call (.Name x p) (e :: es) [] pos) Q ss M := by
  obtain ⟨f, fd, ps, Mk0, F, hm, hb⟩ := F
  refine we_make (dvs := []) (dxs := []) (ds := []) Mk0 F hr hm hb .nil (fun _ _ => .nil) hg ?_ hdb he hpl
  refine .mk fun ck G A H σ w sl Kq kq => ?_
  exact h ck G A H σ w sl Kq fun vs xs G' A' M' H' e1 w' s q => kq vs xs G' A' M' H' e1 w' s (by show MakeQ S C (xs ++ []) M' Q ex ss; rw [List.append_nil]; exact q)
theorem we_clm {pl : Sem Bool} (F : Clm X.prog X.w X.K X.mg X.base x m k n S) (hr : Room k X.A) (hg : Gl X x) (h : WA X B ex (e :: es) (fun xs M1 => CallQ n S xs M1 Q ex ss) ss M)
    (hdb : (x == ("__debug__" : Str)) = false := by decide) (hst : starEach (e :: es) X.env = (false, eval e X.env) :: starEach es X.env := by rfl) (hpl : (backTo pos (starEach es X.env)).any (·.1) = false := by rfl)
    (ht : eval (.Call (.Attribute (.Name x p) m apos) (e :: es) [] pos) X.env = (do
      let ov ← eval (.Name x p) X.env
      standAt apos.atName
      let (f, first) ← holding [ov] (getMethod ov m pl)
      callWith pos f first (backTo pos (starEach (e :: es) X.env)) (backToKw pos (keywordEach [] X.env))) := by rfl) :
    WE X B ex (.Call (.Attribute (.Name x p) m apos) (e :: es) [] pos) Q ss M := by
  obtain ⟨C, f, fd, ps, mc, hm, cr, cv, hk, F, hb⟩ := F
  exact we_cls hm hg cr cv hk F hr hb h hdb hst hpl ht
theorem ws_rai {f : Str} (F : Rai X.prog X.w X.K X.mg X.base x C f) (hr : Room 2 X.A) (hc : X.calm = true) (hg : Gl X x) (h : WA X B ex [e] (fun xs M1 => one1 xs fun d => ex C [(f, d)] ss M1) ss M)
    (hdb : (x == ("__debug__" : Str)) = false := by decide) (he : starEach [e] X.env = (false, eval e X.env) :: starEach [] X.env := by rfl) (hpl : (backTo pos (starEach [] X.env)).any (·.1) = false := by rfl) :
    WS X B ex (.Raise (some (.Call (.Name x p) [e] [] pos)) none p2) N ss M := by
  obtain ⟨fI, fd, y, T, hno, F, hb⟩ := F
  exact ws_raise1 hc T hno F hr hb hg h hdb he hpl
theorem ws_rai2 {f g : Str} (F : Rai2 X.prog X.w X.K X.mg X.base x C f g) (hr : Room 2 X.A) (hc : X.calm = true) (hg : Gl X x) (h : WA X B ex [a, b] (fun xs M1 => ∃ d1 d2, xs = [.dat d1, .dat d2] ∧ ex C [(g, d2), (f, d1)] ss M1) ss M)
    (hdb : (x == ("__debug__" : Str)) = false := by decide) (he : starEach [a, b] X.env = (false, eval a X.env) :: starEach [b] X.env := by rfl) (hpl : (backTo pos (starEach [b] X.env)).any (·.1) = false := by rfl) :
    WS X B ex (.Raise (some (.Call (.Name x p) [a, b] [] pos)) none p2) N ss M := by
  obtain ⟨fI, fd, y, z, T, hno, F, hb⟩ := F
  exact ws_raise2 hc T hno F hr hb hg h hdb he hpl
end
section
variable {X : Cx} {B : Base} {ex : XD} {ss : Sst} {M : Mem} {a b e elt : Expr} {es : List Expr} {pos : Pos} {Q : SV → Mem → Prop} {QB : Bool → Mem → Prop} {scope : Scope}
theorem we_gI {x : Str} {i : Int} (hm : ∃ t, X.mg x = some (.int i t)) (hg : Gl X x) (q : Q (.dat (.int i)) M) (hd : (x == ("__debug__" : Str)) = false := by decide) : WE X B ex (.Name x pos) Q ss M := by
  obtain ⟨t, hm⟩ := hm
  exact we_globI hg hm q hd
theorem we_gS {x y : Str} (hm : ∃ t, X.mg x = some (.str y t)) (hg : Gl X x) (hz : SOk y) (q : Q (.dat (.str y)) M) (hd : (x == ("__debug__" : Str)) = false := by decide) : WE X B ex (.Name x pos) Q ss M := by
  obtain ⟨t, hm⟩ := hm
  exact we_globS hg hm hz q hd
theorem gTc {kw : List Keyword} (h : WT X B ex (.Call a es kw pos) QB ss M) : WT X B ex (.Call a es kw pos) QB ss M := h
theorem on1 {d : D} {k : D → Prop} (h : k d) : one1 [.dat d] k := ⟨h⟩
theorem dinS {z : Str} {kvs : List (Key × D)} {k : Bool → Prop} (h : k (valD kvs (Sum.inr z)).isSome) : dinD (.str z) (.dic kvs) k := ⟨h⟩
theorem dinI {z : Int} {kvs : List (Key × D)} {k : Bool → Prop} (h : k (valD kvs (Sum.inl z)).isSome) : dinD (.int z) (.dic kvs) k := ⟨h⟩
theorem cdc {i : Nat} {ds : List (Key × D)} {k : Nat → List (Key × D) → Prop} (e : M[i]? = some (.dic ds)) (h : k i ds) : cellDc M (.cel i) k := by
  refine ⟨?_⟩
  unfold cellDc0
  simp only [e]
  exact h
theorem cl1 {i : Nat} {ds : List D} {k : Nat → List D → Prop} (e : M[i]? = some (.lst ds)) (h : k i ds) : cellL M (.cel i) k := by
  refine ⟨?_⟩
  unfold cellL0
  simp only [e]
  exact h
theorem gNa (x : Str) (h : WE X B ex (.Name x pos) Q ss M) : WE X B ex (.Name x pos) Q ss M := h
theorem inSs {c : Nat} {z : Str} (h : QB (decide (c ∈ z.cps.toList)) M) : in2t false M (.dat (.str ⟨#[c]⟩)) (.dat (.str z)) QB := ⟨w1d (w1d (inD_sign (k := fun b => QB (if false = true then !b else b) M) h))⟩
theorem niSs {c : Nat} {z : Str} (h : QB (!decide (c ∈ z.cps.toList)) M) : in2t true M (.dat (.str ⟨#[c]⟩)) (.dat (.str z)) QB := ⟨w1d (w1d (inD_sign (k := fun b => QB (if true = true then !b else b) M) h))⟩
theorem inSe {c : Nat} {z : Str} (h : Q (.dat (.bl (decide (c ∈ z.cps.toList)))) M) : in2 false M (.dat (.str ⟨#[c]⟩)) (.dat (.str z)) Q := ⟨w1d (w1d (inD_sign (k := fun b => Q (.dat (.bl (if false = true then !b else b))) M) h))⟩
theorem niSe {c : Nat} {z : Str} (h : Q (.dat (.bl (!decide (c ∈ z.cps.toList)))) M) : in2 true M (.dat (.str ⟨#[c]⟩)) (.dat (.str z)) Q := ⟨w1d (w1d (inD_sign (k := fun b => Q (.dat (.bl (if true = true then !b else b))) M) h))⟩
theorem inTp {d : D} {ds : List D} (h1 : D.pl 0 d = true) (h2 : ds.all (D.pl 0) = true) (h : QB (ds.any fun z => deq z d) M) : in2t false M (.dat d) (.dat (.tup ds)) QB := by
  refine ⟨w1d (w1d ⟨?_⟩)⟩
  unfold inD0
  cases d <;> first | exact ⟨⟨h1, h2⟩, h⟩ | cases h1
theorem inLs {d : D} {ds : List D} (h1 : D.pl 60 d = true) (h2 : ds.all (D.pl 60) = true) (h : QB (ds.any fun z => deq z d) M) : in2t false M (.dat d) (.dat (.lst ds)) QB := by
  refine ⟨w1d (w1d ⟨?_⟩)⟩
  unfold inD0
  cases d <;> first | exact ⟨⟨h1, h2⟩, h⟩ | cases h1
theorem map_take_succ {α β : Type} (f : α → β) : ∀ {l : List α} {i : Nat} {d : α}, l[i]? = some d → (l.take i).map f ++ [f d] = (l.take (i + 1)).map f
  | [], _, _, h => by simp at h
  | x :: l, 0, d, h => by simp at h; subst h; simp
  | x :: l, i + 1, d, h => by
    have := map_take_succ f (l := l) (i := i) (d := d) (by simpa using h)
    simp only [List.take_succ_cons, List.map_cons, List.cons_append, this]
/-- a comprehension that maps -/
theorem lcq_map {j : Nat} {ds : List D} (f : D → D) (hl : ds.length ≤ sizeLine)
    (ht : ∀ (i : Nat) (d : D), ds[i]? = some d → ∀ (s : Shared) (H : Hp) (C : Addr) (cl : List (Str × Addr)) (fp : List Addr) (B : Base), B.A.length = M.length → WE (Blk X scope s H C cl fp) B exF elt (fun y M4 => y = .dat (f d) ∧ M4 = M) ((wipeD ss [j]).set j (some (.dat d))) M)
    (q : Q (.dat (.lst (ds.map f))) M) : ∃ I, I 0 [] M ∧ LcQ X scope elt [] (tg1 j) [j] ds I Q ss := by
  refine ⟨fun i acc M' => i ≤ ds.length ∧ acc = (ds.take i).map f ∧ M' = M, ⟨Nat.zero_le _, rfl, rfl⟩, ?_, ?_⟩
  · rintro i d acc M' hd ⟨hi, rfl, rfl⟩
    intro s H C cl fp B hB
    have hlt := (List.getElem?_eq_some_iff.mp hd).1
    refine (ht i d hd s H C cl fp B hB).mono ?_
    rintro y M4 ⟨rfl, rfl⟩
    refine ⟨_, rfl, ?_, hlt, map_take_succ f hd, rfl⟩
    rw [List.length_map, List.length_take]
    omega
  · rintro acc M' ⟨_, rfl, rfl⟩
    rw [List.take_length]
    exact q
theorem lcq_map2 {j j' : Nat} {ds : List D} (f : D → D) (hl : ds.length ≤ sizeLine)
    (ht : ∀ (i : Nat) (d : D), ds[i]? = some d → ∃ a b, d = .tup [a, b] ∧ ∀ (s : Shared) (H : Hp) (C : Addr) (cl : List (Str × Addr)) (fp : List Addr) (B : Base), B.A.length = M.length → WE (Blk X scope s H C cl fp) B exF elt (fun y M4 => y = .dat (f d) ∧ M4 = M) (((wipeD ss [j, j']).set j (some (.dat a))).set j' (some (.dat b))) M)
    (q : Q (.dat (.lst (ds.map f))) M) : ∃ I, I 0 [] M ∧ LcQ X scope elt [] (tg2 j j') [j, j'] ds I Q ss := by
  refine ⟨fun i acc M' => i ≤ ds.length ∧ acc = (ds.take i).map f ∧ M' = M, ⟨Nat.zero_le _, rfl, rfl⟩, ?_, ?_⟩
  · rintro i d acc M' hd ⟨hi, rfl, rfl⟩
    have hlt := (List.getElem?_eq_some_iff.mp hd).1
    obtain ⟨a, b, e, ht⟩ := ht i d hd
    refine ⟨a, b, e, ?_⟩
    intro s H C cl fp B hB
    refine (ht s H C cl fp B hB).mono ?_
    rintro y M4 ⟨rfl, rfl⟩
    refine ⟨_, rfl, ?_, hlt, map_take_succ f hd, rfl⟩
    rw [List.length_map, List.length_take]
    omega
  · rintro acc M' ⟨_, rfl, rfl⟩
    rw [List.take_length]
    exact q
end
end Mb

/-! Mb, part 16: the script that a law is handed. -/
namespace Mb
open PySem L2 PyProof.Rows
/-- the script: a list of ours to read, or one that the top holds -/
def Scr (K : PySem.W.Frag) (x : SV) (ns : List Int) : Prop := x = .dat (.lst (ns.map D.int)) ∨ ∃ a, x = .raw (.ref a) ∧ ∀ H : Hp, SqL K H a (ns.map V.int)
theorem Scr.sq {K : PySem.W.Frag} {x : SV} {ns : List Int} {G H : Hp} {A : List Addr} {v : V} (h : Scr K x ns) (s : SvOk K G A v x) (e : Same G H) : ∃ a, v = .ref a ∧ SqL K H a (ns.map V.int) := by
  rcases h with rfl | ⟨a, rfl, h⟩
  · obtain ⟨a, vs, rfl, hr, r⟩ := Rep.s e (show Rep K G v (.lst (ns.map D.int)) from s)
    rw [reps_ints r] at hr
    exact ⟨a, rfl, .inl hr⟩
  · exact ⟨a, s, h H⟩
section
variable {X : Cx} {B : Base} {ex : XD} {ss : Sst} {M : Mem} {a b e : Expr} {es : List Expr} {pos p p2 : Pos} {Q : SV → Mem → Prop}
def rCatQ (K : PySem.W.Frag) : R2 := fun x y H Q => ∃ l b xs zs, x = .ref l ∧ y = .ref b ∧ SqL K H l xs ∧ Rd H b (.lst zs) ∧ xs.length + zs.length ≤ sizeLine ∧ ∀ p, H p = none → Q (.ref p) (upd H p (.lst (xs ++ zs)))
theorem op_catQ : OpR X (binaryOp .Add) (rCatQ X.K) := by
  intro pins s σ H x y v u Q I rx ry h
  obtain ⟨l, b, xs, zs, rfl, rfl, hL, hB, hz, q⟩ := h
  cases rx
  cases ry
  obtain ⟨its, r1, ⟨⟨c1, d1, dt1, sl1⟩, n1, g1, hc1, hd1, hs1⟩, _⟩ := I.list hL
  obtain ⟨_, its2, n2, r2, e2⟩ := hB.ok I.hok
  simp only at hc1 hd1 hs1
  subst hc1
  subst hd1
  subst hs1
  have k1 := r1.length
  have k2 := r2.length
  refine concat_meets (T := "list") (id := "list.__add__") ⟨_, g1, rfl⟩ ⟨_, e2, rfl⟩ noFill_list_add
    seq_list_add PySem.F.slot_list_add PySem.F.entry_list_add (PySem.F.args_list_add_2 _ _)
    (list_addW l b its.toArray its2.toArray n1 n2 none none sl1 _ (by rw [List.size_toArray, List.size_toArray]; omega)) ⟨g1, e2, ?_⟩
  have ea : its.toArray ++ its2.toArray = (its ++ its2).toArray := by simp
  rw [ea]
  exact ⟨.ref _, _, I.lnew (t' := s.toks) (r1.append r2) (by rw [List.length_append]; omega), rfl, q _ I.fresh⟩
theorem ints_app {K : PySem.W.Frag} {G : Hp} {ns : List Int} {vs : List V} {ds : List D} (r : Reps K G vs ds) : Reps K G (ns.map V.int ++ vs) (ns.map D.int ++ ds) := ints_reps.append r
/-- script + [..] -/
theorem we_sadd (h : WE X B ex a (fun x M1 => WE X B ex b (fun y M2 => ∃ ns ds, Scr X.K x ns ∧ y = .dat (.lst ds) ∧ ns.length + ds.length ≤ sizeLine ∧ Q (.dat (.lst (ns.map D.int ++ ds))) M2) ss M1) ss M) : WE X B ex (.BinOp a .Add b pos) Q ss M := by
  refine we_op2 (f := fun M2 x y Q => ∃ ns ds, Scr X.K x ns ∧ y = .dat (.lst ds) ∧ ns.length + ds.length ≤ sizeLine ∧ Q (.dat (.lst (ns.map D.int ++ ds))) M2) op_catQ (fun G A H M x y u v Q Kq w sx sy hh k => ?_) h
  obtain ⟨ns, ds, hs, rfl, hl, q⟩ := hh
  obtain ⟨l, rfl, sq⟩ := hs.sq sx w.gh
  obtain ⟨c, vs, rfl, hr, r⟩ := Rep.s w.gh (show Rep X.K G v (.lst ds) from sy)
  refine ⟨_, _, _, vs, rfl, rfl, sq, hr, by rw [List.length_map, r.length]; exact hl, k.new .refl w q fun p hp => ?_⟩
  exact .lst (.inl upd_same) ((ints_app r).mono (same_upd (w.none hp).2.2))
/-- script[i] -/
theorem we_six (h : WE X B ex a (fun x M1 => WE X B ex b (fun y M2 => ∃ ns i n, Scr X.K x ns ∧ y = .dat (.int i) ∧ atI ns i = some n ∧ Q (.dat (.int n)) M2) ss M1) ss M) (hs : PlainIx b := by intro _ _; rfl) : WE X B ex (.Subscript a b pos) Q ss M := by
  refine .mk fun ck G A H σ w sl Kq k => ?_
  refine te_of (pe_ix ix_seq pe_self pe_self hs) ?_
  refine h ck G A H σ w sl _ fun u x G1 A1 M1 H1 e1 w1 s1 h1 => ?_
  refine h1 ck G1 A1 H1 σ w1 (sl.mono e1) _ fun v y G2 A2 M2 H2 e2 w2 s2 h2 => ?_
  obtain ⟨ns, i, n, hs, rfl, hn, q⟩ := h2
  obtain ⟨l, rfl, sq⟩ := hs.sq (s1.mono e2) w2.gh
  cases s2
  refine .inl ⟨_, _, i, .int n, rfl, rfl, sq, ?_, k _ (.dat _) G2 A2 M2 H2 (e1.trans e2) w2 (Rep.int n) q⟩
  unfold atI at hn ⊢
  rw [List.length_map]
  cases e : ixN ns.length i with
  | none => simp [e] at hn
  | some j =>
    simp only [e, Option.bind_some] at hn ⊢
    rw [List.getElem?_map, hn]
    rfl
/-- len(script) -/
theorem we_slen (hm : X.mg "len" = none) (hg : Gl X "len") (h : WA X B ex (e :: es) (fun xs M1 => ∃ x ns, xs = [x] ∧ Scr X.K x ns ∧ Q (.dat (.int (ns.length : Int))) M1) ss M)
    (he : starEach (e :: es) X.env = (false, eval e X.env) :: starEach es X.env := by rfl) (hpl : (backTo pos (starEach es X.env)).any (·.1) = false := by rfl) : WE X B ex (.Call (.Name "len" p) (e :: es) [] pos) Q ss M := by
  refine we_cb (f := fun M1 xs Q => ∃ x ns, xs = [x] ∧ Scr X.K x ns ∧ Q (.dat (.int (ns.length : Int))) M1) call_len_seq (fun G A H M xs vs Q Kq w r h k => ?_) hm (by decide +kernel) hg h (he := he) (hpl := hpl)
  obtain ⟨x, ns, rfl, hs, q⟩ := h
  cases r with
  | cons s r =>
    cases r
    obtain ⟨l, rfl, sq⟩ := hs.sq s w.gh
    refine ⟨_, _, rfl, .inl sq, ?_⟩
    rw [List.length_map]
    exact k.flat .refl w (.int _) q
/-- script[i:j] -/
theorem we_ssl {lo hi : Option Expr} (h : WE X B ex e (fun x M1 => WO X B ex lo (fun l M2 => WO X B ex hi (fun u M3 => ∃ ns, Scr X.K x ns ∧ Q (.dat (.lst (cutD (ns.map D.int) l u))) M3) ss M2) ss M1) ss M) : WE X B ex (.Subscript e (.Slice lo hi none p2) pos) Q ss M := by
  refine .mk fun ck G A H σ w sl Kq k => ?_
  refine te_of (pe_slice sl_list pe_self po_self po_self) ?_
  refine h ck G A H σ w sl _ fun v x G1 A1 M1 H1 e1 w1 s1 h1 => ?_
  refine WO.goes ck h1 w1 (sl.mono e1) fun l G2 A2 M2 H2 e2 w2 h2 => ?_
  refine WO.goes ck h2 w2 (sl.mono (e1.trans e2)) fun u G3 A3 M3 H3 e3 w3 h3 => ?_
  obtain ⟨ns, hs, q⟩ := h3
  obtain ⟨c, rfl, sq⟩ := hs.sq (s1.mono (e2.trans e3)) w3.gh
  refine ⟨_, _, rfl, sq, fun p hp => ?_⟩
  have k' : VPost X.K B G3 A3 Q Kq := fun v x G' A' M' H' e => k v x G' A' M' H' ((e1.trans (e2.trans e3)).trans e)
  refine k'.new .refl w3 q (fun p hp => ?_) p hp
  exact .lst (.inl upd_same) ((cutV_reps ints_reps l u).mono (same_upd (w3.none hp).2.2))
end
/-! ### the law's own promise -/
def sp_law (K : PySem.W.Frag) : SpD := fun xs M R _ => ∃ x ns, xs = [x] ∧ Scr K x ns ∧ ns.length ≤ 63 ∧ M = [] ∧ R (.dat (.bl true)) []
theorem law_sp {K : PySem.W.Frag} {H : Hp} {a : Addr} {ns : List Int} (hl : ns.length ≤ 63) (h : SqL K H a (ns.map V.int)) : spOf K 0 (sp_law K) [.ref a] H (fun v _ => v = .bl true) fun _ _ _ => False := by
  have w : Wd K ⟨H, [], H⟩ H [] [] H := ⟨fun _ _ e => e, fun _ _ e => e, fun _ _ e _ => e, fun _ _ e => .inl e, List.nodup_nil, ⟨[], rfl⟩, fun _ m => (by cases m), fun _ m => (by cases m), .nil⟩
  have fin : ∀ v x G' A' M' H', Wd K ⟨H, [], H⟩ G' A' M' H' → SvOk K G' A' v x → M'.all (Cell.lt 0) = true → (x = .dat (.bl true)) → v = .bl true := fun v x G' A' M' H' _ s _ q => by
    subst q
    cases s
    rfl
  rcases h with h | h
  · refine ⟨[.dat (.lst (ns.map D.int))], [], H, [], rfl, w, .cons (Rep.lst h ints_reps) .nil, fun x _ => x = .dat (.bl true), fun _ _ _ => False, ⟨_, ns, rfl, .inl rfl, hl, rfl, rfl⟩, fin, fun _ _ _ _ _ _ _ _ _ _ q => q⟩
  · refine ⟨[.raw (.ref a)], [], H, [], rfl, w, .cons rfl .nil, fun x _ => x = .dat (.bl true), fun _ _ _ => False, ⟨_, ns, rfl, .inr ⟨a, rfl, fun _ => .inr h⟩, hl, rfl, rfl⟩, fin, fun _ _ _ _ _ _ _ _ _ _ q => q⟩
end Mb

/-! Mb, part 17: == by own __eq__, either answer. -/
namespace Mb
open PySem PySem.SeqAt
open AutoSeq1 (wpAny_loadPart')
open MeetsSeq MeetsSeq2 MeetsSeq3 SeqRoads2
section
variable {prog : Program} {w : World} {A : Around} {R : Result → Shared → Prop}
/-- two tuples, item by item; the first pair that differs ends it -/
theorem tuple_eqB (l b : Addr) (items items2 : Array Value) (n n2 : Nat) (dd dd2 : Option Addr) (sl sl2 : Array (Option Value)) (I : Nat → Shared → Prop)
    (turn : ∀ i (h1 : i < items.size) (h2 : i < items2.size) s, I i s → wpAny (model prog w) A.in1 (eqBool items[i] items2[i]) (fun r s' => (r = true ∧ I (i + 1) s') ∨ (r = false ∧ R (.ok (.ret (.bool false))) s')) (fun e s' => R (.error e) s') s)
    (fin : ∀ s, I (min items.size items2.size) s → R (.ok (.ret (.bool (items.size == items2.size)))) s) {s : Shared} (hl1 : s.heap.get? l = some { cls := .type "tuple", dict := dd, data := .seq items n, slots := sl }) (hb1 : s.heap.get? b = some { cls := .type "tuple", dict := dd2, data := .seq items2 n2, slots := sl2 }) (h : I 0 s) :
    wpAny (model prog w) A.in1 (Builtin.«tuple.__eq__» ⟨[.ref l, .ref b], []⟩) (GQ.FinOf prog w A R) (fun e s' => R (.error e) s') s := by
  have f2 := AutoSeq1.sub_tuple_tuple
  have hZ : (items.toList.zip items2.toList).length = min items.size items2.size := by simp
  have h0 := h
  obtain ⟨hp, g, d, tk, os⟩ := s
  wp_walk using wpAny_loadPart' hl1, wpAny_loadPart' hb1, wpAny_forIn_list _ (fun rest b s' => b.1 = none ∧ ∃ i, rest = (items.toList.zip items2.toList).drop i ∧ i ≤ min items.size items2.size ∧ I i s') _
  case turn =>
    rintro ⟨y, x⟩ rest b s' ⟨hb', i, hz, hi, hI⟩
    have hlt : i < (items.toList.zip items2.toList).length := by
      rcases Nat.lt_or_ge i (items.toList.zip items2.toList).length with h' | h'
      · exact h'
      · rw [List.drop_of_length_le h'] at hz; cases hz
    have h1 : i < items.size := by omega
    have h2 : i < items2.size := by omega
    rw [List.drop_eq_getElem_cons hlt] at hz
    injection hz with hyx hrest
    have hy : y = items[i] := by have := congrArg Prod.fst hyx; simpa using this
    have hx : x = items2[i] := by have := congrArg Prod.snd hyx; simpa using this
    subst hy hx
    refine wpAny_bind (wpAny_mono (turn i h1 h2 s' hI) (fun r s2 q2 => ?_) fun _ _ x => x)
    rcases q2 with ⟨hr, q2⟩ | ⟨hr, q2⟩
    · subst hr
      wp_walk
      exact ⟨rfl, i + 1, hrest, by omega, q2⟩
    · subst hr
      wp_walk
      exact q2
  case fin =>
    rintro ⟨b1, b2⟩ s' ⟨hb', i, hz, hi, hI⟩
    simp only at hb'
    subst hb'
    have hge : min items.size items2.size ≤ i := by
      rcases Nat.lt_or_ge i (items.toList.zip items2.toList).length with h' | h'
      · rw [List.drop_eq_getElem_cons h'] at hz; cases hz
      · exact hZ ▸ h'
    have hi' : i = min items.size items2.size := by omega
    have hR := fin s' (hi' ▸ hI)
    wp_walk
    simpa [Builtin.Tuple.tupleCompareSizes] using hR
  case h =>
    exact ⟨rfl, 0, rfl, Nat.zero_le _, h0⟩
/-- .. by != -/
theorem tuple_neB (l b : Addr) (items items2 : Array Value) (n n2 : Nat) (dd dd2 : Option Addr) (sl sl2 : Array (Option Value)) (I : Nat → Shared → Prop)
    (turn : ∀ i (h1 : i < items.size) (h2 : i < items2.size) s, I i s → wpAny (model prog w) A.in1 (eqBool items[i] items2[i]) (fun r s' => (r = true ∧ I (i + 1) s') ∨ (r = false ∧ R (.ok (.ret (.bool true))) s')) (fun e s' => R (.error e) s') s)
    (fin : ∀ s, I (min items.size items2.size) s → R (.ok (.ret (.bool (items.size != items2.size)))) s) {s : Shared} (hl1 : s.heap.get? l = some { cls := .type "tuple", dict := dd, data := .seq items n, slots := sl }) (hb1 : s.heap.get? b = some { cls := .type "tuple", dict := dd2, data := .seq items2 n2, slots := sl2 }) (h : I 0 s) :
    wpAny (model prog w) A.in1 (Builtin.«tuple.__ne__» ⟨[.ref l, .ref b], []⟩) (GQ.FinOf prog w A R) (fun e s' => R (.error e) s') s := by
  have f2 := AutoSeq1.sub_tuple_tuple
  have hZ : (items.toList.zip items2.toList).length = min items.size items2.size := by simp
  have h0 := h
  obtain ⟨hp, g, d, tk, os⟩ := s
  wp_walk using wpAny_loadPart' hl1, wpAny_loadPart' hb1, wpAny_forIn_list _ (fun rest b s' => b.1 = none ∧ ∃ i, rest = (items.toList.zip items2.toList).drop i ∧ i ≤ min items.size items2.size ∧ I i s') _
  case turn =>
    rintro ⟨y, x⟩ rest b s' ⟨hb', i, hz, hi, hI⟩
    have hlt : i < (items.toList.zip items2.toList).length := by
      rcases Nat.lt_or_ge i (items.toList.zip items2.toList).length with h' | h'
      · exact h'
      · rw [List.drop_of_length_le h'] at hz; cases hz
    have h1 : i < items.size := by omega
    have h2 : i < items2.size := by omega
    rw [List.drop_eq_getElem_cons hlt] at hz
    injection hz with hyx hrest
    have hy : y = items[i] := by have := congrArg Prod.fst hyx; simpa using this
    have hx : x = items2[i] := by have := congrArg Prod.snd hyx; simpa using this
    subst hy hx
    refine wpAny_bind (wpAny_mono (turn i h1 h2 s' hI) (fun r s2 q2 => ?_) fun _ _ x => x)
    rcases q2 with ⟨hr, q2⟩ | ⟨hr, q2⟩
    · subst hr
      wp_walk
      exact ⟨rfl, i + 1, hrest, by omega, q2⟩
    · subst hr
      wp_walk
      exact q2
  case fin =>
    rintro ⟨b1, b2⟩ s' ⟨hb', i, hz, hi, hI⟩
    simp only at hb'
    subst hb'
    have hge : min items.size items2.size ≤ i := by
      rcases Nat.lt_or_ge i (items.toList.zip items2.toList).length with h' | h'
      · rw [List.drop_eq_getElem_cons h'] at hz; cases hz
      · exact hZ ▸ h'
    have hi' : i = min items.size items2.size := by omega
    have hR := fin s' (hi' ▸ hI)
    wp_walk
    simpa [Builtin.Tuple.tupleCompareSizes] using hR
  case h =>
    exact ⟨rfl, 0, rfl, Nat.zero_le _, h0⟩
/-- at each turn the two lists are read anew -/
def ListB (prog : Program) (w : World) (A : Around) (E : Value → Shared → Prop) (F : Shared → Prop) (l b : Addr) (N : Nat) (I : Nat → Shared → Prop) : Prop :=
  ∀ i s, I i s → ∃ (items items2 : Array Value) (n n2 : Nat), s.heap.get? l = some { cls := .type "list", data := .seq items n } ∧ s.heap.get? b = some { cls := .type "list", data := .seq items2 n2 } ∧ items.size = N ∧ items2.size = N ∧
    ∀ (h1 : i < items.size) (h2 : i < items2.size), wpAny (model prog w) A.in1 (eqBool items[i] items2[i]) (fun r s' => (r = true ∧ I (i + 1) s') ∨ (r = false ∧ F s' ∧ ∃ (items items2 : Array Value) (n n2 : Nat), s'.heap.get? l = some { cls := .type "list", data := .seq items n } ∧ s'.heap.get? b = some { cls := .type "list", data := .seq items2 n2 } ∧ items.size = N ∧ items2.size = N)) E s
theorem eq_loopB (l b : Addr) (N : Nat) (I : Nat → Shared → Prop) (hl : ListB prog w A (fun e s' => R (.error e) s') (fun s' => R (.ok (.ret (.bool false))) s') l b N I)
    (fin : ∀ s, I N s → R (.ok (.ret (.bool true))) s) (k : Nat) :
    ∀ i : Nat, N - i = k → i ≤ N → ∀ s, I i s →
      wpAny (model prog w) A.in1 (Builtin.«list.__eq__.loop» ⟨[.ref l, .ref b, rawInt i, rawInt 2], []⟩) (GQ.FinOf prog w A R) (fun e s' => R (.error e) s') s := by
  induction k with
  | zero =>
    intro i hk hi s h
    obtain ⟨items, items2, n, n2, hl1, hb1, hs1, hs2, _⟩ := hl _ _ h
    have hi' : i = N := by omega
    have hR : R (.ok (.ret (.bool true))) s := fin s (hi' ▸ h)
    obtain ⟨hp, g, d, tk, os⟩ := s
    wp_walk using wpAny_loadPart' hl1, wpAny_loadPart' hb1
    have hi1 : items[((i : Nat) : Int).toNat]? = none := by simp; omega
    have hi2 : items2[((i : Nat) : Int).toNat]? = none := by simp; omega
    rw [hi1, hi2]
    wp_walk using wpAny_loadPart' hl1, wpAny_loadPart' hb1
    show R (.ok (.ret (.bool (items.size == items2.size)))) _
    rw [hs1, hs2]
    simpa using hR
  | succ k ih =>
    intro i hk hi s h
    obtain ⟨items, items2, n, n2, hl1, hb1, hs1, hs2, turn⟩ := hl _ _ h
    have hlt : i < items.size := by omega
    have hlt2 : i < items2.size := by omega
    have ht := turn hlt hlt2
    obtain ⟨hp, g, d, tk, os⟩ := s
    wp_walk using wpAny_loadPart' hl1, wpAny_loadPart' hb1
    have hi1 : items[((i : Nat) : Int).toNat]? = some items[i] := by simp [hlt]
    have hi2 : items2[((i : Nat) : Int).toNat]? = some items2[i] := by simp [hlt2]
    have hc : ((i : Int) + 1) = ((i + 1 : Nat) : Int) := by omega
    rw [hi1, hi2]
    refine wpAny_bind (wpAny_mono ht (fun r s2 h2 => ?_) fun _ _ x => x)
    rcases h2 with ⟨hr, h2⟩ | ⟨hr, h2, items', items2', n', n2', g1, g2, z1, z2⟩
    · subst hr
      have hrec := ih (i + 1) (by omega) (by omega) s2 h2
      obtain ⟨hp2, g2, d2, tk2, os2⟩ := s2
      wp_walk
      rw [hc]
      exact ⟨plainId_quiet plain_eq_loop _, codeAny_builtin entry_eq_loop (by
        rw [Around.under_plainId plain_eq_loop _]
        exact hrec)⟩
    · subst hr
      obtain ⟨hp2, g2', d2, tk2, os2⟩ := s2
      have hi1 : items'[((i : Nat) : Int).toNat]? = some (items'[i]'(by omega)) := by simp [show i < items'.size by omega]
      have hi2 : items2'[((i : Nat) : Int).toNat]? = some (items2'[i]'(by omega)) := by simp [show i < items2'.size by omega]
      wp_walk using wpAny_loadPart' g1, wpAny_loadPart' g2
      rw [hi1, hi2]
      wp_walk
      exact h2
theorem list_eqB (l b : Addr) (N : Nat) (I : Nat → Shared → Prop) (hl : ListB prog w A (fun e s' => R (.error e) s') (fun s' => R (.ok (.ret (.bool false))) s') l b N I)
    (fin : ∀ s, I N s → R (.ok (.ret (.bool true))) s) {s : Shared} (h : I 0 s) :
    wpAny (model prog w) A.in1 (Builtin.«list.__eq__» ⟨[.ref l, .ref b], []⟩) (GQ.FinOf prog w A R) (fun e s' => R (.error e) s') s := by
  obtain ⟨items, items2, n, n2, hl1, hb1, hs1, hs2, _⟩ := hl _ _ h
  have hrec := eq_loopB (A := A) (R := R) l b N I hl fin _ 0 rfl (Nat.zero_le _) s h
  obtain ⟨hp, g, d, tk, os⟩ := s
  have f3 := AutoSeq1.sub_list_list
  have hne : ¬ (items.size != items2.size) = true := by simp [hs1, hs2]
  wp_walk using wpAny_loadPart' hl1, wpAny_loadPart' hb1
  exact ⟨plainId_quiet plain_eq_loop _, codeAny_builtin entry_eq_loop (by
    rw [Around.under_plainId plain_eq_loop _]
    exact hrec)⟩
/-- lists of unlike lengths -/
theorem list_eqN (l b : Addr) (items items2 : Array Value) (n n2 : Nat) (hz : items.size ≠ items2.size) {s : Shared} (hl1 : s.heap.get? l = some { cls := .type "list", data := .seq items n }) (hb1 : s.heap.get? b = some { cls := .type "list", data := .seq items2 n2 })
    (h : R (.ok (.ret (.bool false))) s) :
    wpAny (model prog w) A.in1 (Builtin.«list.__eq__» ⟨[.ref l, .ref b], []⟩) (GQ.FinOf prog w A R) (fun e s' => R (.error e) s') s := by
  obtain ⟨hp, g, d, tk, os⟩ := s
  have f3 := AutoSeq1.sub_list_list
  have hne : (items.size != items2.size) = true := by simpa using hz
  wp_walk using wpAny_loadPart' hl1, wpAny_loadPart' hb1
  exact h
theorem ne_loopB (l b : Addr) (N : Nat) (I : Nat → Shared → Prop) (hl : ListB prog w A (fun e s' => R (.error e) s') (fun s' => R (.ok (.ret (.bool true))) s') l b N I)
    (fin : ∀ s, I N s → R (.ok (.ret (.bool false))) s) (k : Nat) :
    ∀ i : Nat, N - i = k → i ≤ N → ∀ s, I i s →
      wpAny (model prog w) A.in1 (Builtin.«list.__eq__.loop» ⟨[.ref l, .ref b, rawInt i, rawInt 3], []⟩) (GQ.FinOf prog w A R) (fun e s' => R (.error e) s') s := by
  induction k with
  | zero =>
    intro i hk hi s h
    obtain ⟨items, items2, n, n2, hl1, hb1, hs1, hs2, _⟩ := hl _ _ h
    have hi' : i = N := by omega
    have hR : R (.ok (.ret (.bool false))) s := fin s (hi' ▸ h)
    obtain ⟨hp, g, d, tk, os⟩ := s
    wp_walk using wpAny_loadPart' hl1, wpAny_loadPart' hb1
    have hi1 : items[((i : Nat) : Int).toNat]? = none := by simp; omega
    have hi2 : items2[((i : Nat) : Int).toNat]? = none := by simp; omega
    rw [hi1, hi2]
    wp_walk using wpAny_loadPart' hl1, wpAny_loadPart' hb1
    show R (.ok (.ret (.bool (items.size != items2.size)))) _
    rw [hs1, hs2]
    simpa using hR
  | succ k ih =>
    intro i hk hi s h
    obtain ⟨items, items2, n, n2, hl1, hb1, hs1, hs2, turn⟩ := hl _ _ h
    have hlt : i < items.size := by omega
    have hlt2 : i < items2.size := by omega
    have ht := turn hlt hlt2
    obtain ⟨hp, g, d, tk, os⟩ := s
    wp_walk using wpAny_loadPart' hl1, wpAny_loadPart' hb1
    have hi1 : items[((i : Nat) : Int).toNat]? = some items[i] := by simp [hlt]
    have hi2 : items2[((i : Nat) : Int).toNat]? = some items2[i] := by simp [hlt2]
    have hc : ((i : Int) + 1) = ((i + 1 : Nat) : Int) := by omega
    rw [hi1, hi2]
    refine wpAny_bind (wpAny_mono ht (fun r s2 h2 => ?_) fun _ _ x => x)
    rcases h2 with ⟨hr, h2⟩ | ⟨hr, h2, items', items2', n', n2', g1, g2, z1, z2⟩
    · subst hr
      have hrec := ih (i + 1) (by omega) (by omega) s2 h2
      obtain ⟨hp2, g2, d2, tk2, os2⟩ := s2
      wp_walk
      rw [hc]
      exact ⟨plainId_quiet plain_eq_loop _, codeAny_builtin entry_eq_loop (by
        rw [Around.under_plainId plain_eq_loop _]
        exact hrec)⟩
    · subst hr
      obtain ⟨hp2, g2', d2, tk2, os2⟩ := s2
      have hi1 : items'[((i : Nat) : Int).toNat]? = some (items'[i]'(by omega)) := by simp [show i < items'.size by omega]
      have hi2 : items2'[((i : Nat) : Int).toNat]? = some (items2'[i]'(by omega)) := by simp [show i < items2'.size by omega]
      wp_walk using wpAny_loadPart' g1, wpAny_loadPart' g2
      rw [hi1, hi2]
      wp_walk
      exact h2
theorem list_neB (l b : Addr) (N : Nat) (I : Nat → Shared → Prop) (hl : ListB prog w A (fun e s' => R (.error e) s') (fun s' => R (.ok (.ret (.bool true))) s') l b N I)
    (fin : ∀ s, I N s → R (.ok (.ret (.bool false))) s) {s : Shared} (h : I 0 s) :
    wpAny (model prog w) A.in1 (Builtin.«list.__ne__» ⟨[.ref l, .ref b], []⟩) (GQ.FinOf prog w A R) (fun e s' => R (.error e) s') s := by
  obtain ⟨items, items2, n, n2, hl1, hb1, hs1, hs2, _⟩ := hl _ _ h
  have hrec := ne_loopB (A := A) (R := R) l b N I hl fin _ 0 rfl (Nat.zero_le _) s h
  obtain ⟨hp, g, d, tk, os⟩ := s
  have f3 := AutoSeq1.sub_list_list
  have hne : ¬ (items.size != items2.size) = true := by simp [hs1, hs2]
  wp_walk using wpAny_loadPart' hl1, wpAny_loadPart' hb1
  exact ⟨plainId_quiet plain_eq_loop _, codeAny_builtin entry_eq_loop (by
    rw [Around.under_plainId plain_eq_loop _]
    exact hrec)⟩
theorem list_neN (l b : Addr) (items items2 : Array Value) (n n2 : Nat) (hz : items.size ≠ items2.size) {s : Shared} (hl1 : s.heap.get? l = some { cls := .type "list", data := .seq items n }) (hb1 : s.heap.get? b = some { cls := .type "list", data := .seq items2 n2 })
    (h : R (.ok (.ret (.bool true))) s) :
    wpAny (model prog w) A.in1 (Builtin.«list.__ne__» ⟨[.ref l, .ref b], []⟩) (GQ.FinOf prog w A R) (fun e s' => R (.error e) s') s := by
  obtain ⟨hp, g, d, tk, os⟩ := s
  have f3 := AutoSeq1.sub_list_list
  have hne : (items.size != items2.size) = true := by simpa using hz
  wp_walk using wpAny_loadPart' hl1, wpAny_loadPart' hb1
  exact h
end
end Mb

/-! Mb, part 18: == over data. -/
namespace Mb
open PySem L2 PyProof.Rows
/-! ### over data -/
theorem rd_det {H : Hp} {a : Addr} {u v : HO} (h1 : Rd H a u) (h2 : Rd H a v) (hu : ∀ o w, u ≠ .frz o w) (hv : ∀ o w, v ≠ .frz o w) : u = v := by
  rcases h1 with h1 | ⟨o1, h1⟩ <;> rcases h2 with h2 | ⟨o2, h2⟩ <;> rw [h1] at h2 <;> injection h2 with h2
  · exact absurd h2 (hu _ _)
  · exact absurd h2.symm (hv _ _)
  · injection h2
section
variable {X : Cx} {pins : List (Addr × Obj)} {σ : L2.St} {G : Hp} {s : Shared}
theorem lt_no (I : Inv X pins σ G s) {a : Addr} {xs ys : List V} (h : Rd G a (.lst xs)) (h' : SqT X.K G a ys) : False := by
  obtain ⟨_, _, ⟨o, n, e, c, _, _⟩, _⟩ := I.list (.inl h)
  obtain ⟨_, _, ⟨o', e', c', _⟩, _⟩ := I.tuple h'
  rw [e] at e'
  cases e'
  rw [c] at c'
  exact absurd c' (by decide)
theorem it_no (I : Inv X pins σ G s) {a C dx : Addr} {fv : List (Str × V)} {ys : List V} (h : G a = some (.ins C dx fv)) (h' : SqT X.K G a ys) : False := by
  obtain ⟨mA, J, _⟩ := ins_get I.hok h
  obtain ⟨od, J, _⟩ := J.look
  obtain ⟨_, _, ⟨o', e', c', _⟩, _⟩ := I.tuple h'
  obtain ⟨g0, c, _⟩ := J
  rw [g0] at e'
  cases e'
  rw [c] at c'
  cases c'
theorem dt_no (I : Inv X pins σ G s) {a : Addr} {kv : List (Key × V)} {ys : List V} (h : G a = some (.dK kv)) (h' : SqT X.K G a ys) : False := by
  obtain ⟨_, _, _, _, da⟩ := (show ObjOk X.prog X.w G s.heap a (.dK kv) from I.hok a _ h)
  obtain ⟨_, _, ⟨o', e', c', n, d'⟩, _⟩ := I.tuple h'
  obtain ⟨oa, es, ep, hoa, _, hda, _⟩ := da
  rw [hoa] at e'
  cases e'
  rw [hda] at d'
  cases d'
end
mutual
theorem Rep.det {X : Cx} {pins : List (Addr × Obj)} {σ : L2.St} {G : Hp} {s : Shared} (I : Inv X pins σ G s) : ∀ {v : V} {d e : D}, Rep X.K G v d → Rep X.K G v e → d = e
  | _, _, _, .non, h => by cases h; rfl
  | _, _, _, .bl b, h => by cases h; rfl
  | _, _, _, .int i, h => by cases h; rfl
  | _, _, _, .str x _, h => by cases h; rfl
  | _, _, _, .lst h r, .lst h' r' => by
    have := rd_det h h' (fun _ _ z => (by cases z)) fun _ _ z => (by cases z)
    injection this with this
    subst this
    rw [Reps.det I r r']
  | _, _, _, .lst h r, .tup h' r' => (lt_no I h h').elim
  | _, _, _, .lst h r, .ins h' r' _ => by
    rcases h with h | ⟨o, h⟩ <;> rw [h] at h' <;> cases h'
  | _, _, _, .lst h r, .dic h' r' => by
    rcases h with h | ⟨o, h⟩ <;> rw [h] at h' <;> cases h'
  | _, _, _, .tup h r, .tup h' r' => by
    have := I.tuple_inj h h'
    subst this
    rw [Reps.det I r r']
  | _, _, _, .tup h r, .lst h' r' => (lt_no I h' h).elim
  | _, _, _, .tup h r, .ins h' r' _ => (it_no I h' h).elim
  | _, _, _, .tup h r, .dic h' r' => (dt_no I h' h).elim
  | _, _, _, .ins h r _, .ins h' r' _ => by
    rw [h] at h'
    cases h'
    rw [RepF.det I r r']
  | _, _, _, .ins h r _, .lst h' r' => by
    rcases h' with h' | ⟨o, h'⟩ <;> rw [h] at h' <;> cases h'
  | _, _, _, .ins h r _, .tup h' r' => (it_no I h h').elim
  | _, _, _, .ins h r _, .dic h' r' => by rw [h] at h'; cases h'
  | _, _, _, .dic h r, .dic h' r' => by
    rw [h] at h'
    cases h'
    rw [RepK.det I r r']
  | _, _, _, .dic h r, .lst h' r' => by
    rcases h' with h' | ⟨o, h'⟩ <;> rw [h] at h' <;> cases h'
  | _, _, _, .dic h r, .tup h' r' => (dt_no I h h').elim
  | _, _, _, .dic h r, .ins h' r' _ => by rw [h] at h'; cases h'
theorem Reps.det {X : Cx} {pins : List (Addr × Obj)} {σ : L2.St} {G : Hp} {s : Shared} (I : Inv X pins σ G s) : ∀ {v : List V} {d e : List D}, Reps X.K G v d → Reps X.K G v e → d = e
  | _, _, _, .nil, .nil => rfl
  | _, _, _, .cons h r, .cons h' r' => by rw [Rep.det I h h', Reps.det I r r']
theorem RepF.det {X : Cx} {pins : List (Addr × Obj)} {σ : L2.St} {G : Hp} {s : Shared} (I : Inv X pins σ G s) : ∀ {v : List (Str × V)} {d e : List (Str × D)}, RepF X.K G v d → RepF X.K G v e → d = e
  | _, _, _, .nil, .nil => rfl
  | _, _, _, .cons h r, .cons h' r' => by rw [Rep.det I h h', RepF.det I r r']
theorem RepK.det {X : Cx} {pins : List (Addr × Obj)} {σ : L2.St} {G : Hp} {s : Shared} (I : Inv X pins σ G s) : ∀ {v : List (Key × V)} {d e : List (Key × D)}, RepK X.K G v d → RepK X.K G v e → d = e
  | _, _, _, .nil, .nil => rfl
  | _, _, _, .cons h r, .cons h' r' => by rw [Rep.det I h h', RepK.det I r r']
end
section
variable {X : Cx} {n m : Nat} {d e : D} {b : Bool}
/-- what a comparison leaves: the heap, grown -/
def LoopS (X : Cx) (pins : List (Addr × Obj)) (σ : L2.St) (H : Hp) (s' : Shared) : Prop := ∃ H', Inv X pins σ H' s' ∧ Same H H'
/-- == within a list, a tuple: it tells b of d and e -/
def EqA (X : Cx) (n : Nat) (d e : D) (b : Bool) : Prop :=
  ∀ (A : Around) (pins : List (Addr × Obj)) (s : Shared) (σ : L2.St) (H : Hp) (x y : V) (u v : Value), Sub X n A → Inv X pins σ H s → RelV x u → RelV y v → Rep X.K H x d → Rep X.K H y e →
    wpAny (model X.prog X.w) A (eqBool u v) (fun r s' => r = b ∧ LoopS X pins σ H s') X.xe s
/-- == as an operator -/
def RcA (X : Cx) (n : Nat) (op : CmpOp) (d e : D) (b : Bool) : Prop :=
  ∀ (A : Around) (pins : List (Addr × Obj)) (s : Shared) (σ : L2.St) (H : Hp) (x y : V) (u v : Value), Sub X n A → Inv X pins σ H s → RelV x u → RelV y v → Rep X.K H x d → Rep X.K H y e →
    wpAny (model X.prog X.w) A (richCompare op u v) (fun r s' => r = .bool b ∧ LoopS X pins σ H s') X.xe s
theorem EqA.mono (h : EqA X n d e b) (hn : n ≤ m) : EqA X m d e b := fun A pins s σ H x y u v sb => h A pins s σ H x y u v (sb.mono hn)
theorem RcA.mono {op : CmpOp} (h : RcA X n op d e b) (hn : n ≤ m) : RcA X m op d e b := fun A pins s σ H x y u v sb => h A pins s σ H x y u v (sb.mono hn)
theorem eqA_plain (hd : D.pl 60 d = true) (he : D.pl 60 e = true) : EqA X n d e (deq d e) := by
  intro A pins s σ H x y u v sb I rx ry r1 r2
  obtain ⟨as, q1⟩ := Dp.reads I (py d) x u (r1.dp hd) rx
  obtain ⟨bs, q2⟩ := Dp.reads I (py e) y v (r2.dp he) ry
  obtain ⟨l1, z1⟩ := r1.lay hd
  obtain ⟨l2, z2⟩ := r2.lay he
  have hu := sb.room.units
  exact SeqAt.eqAt_reads (py d) (py e) A s u v as bs q1 q2 l1 l2 (by omega) X.prog X.w X.xe _ ⟨rfl, H, I, Same.refl _⟩
/-- rows of data, pair by pair -/
inductive EqsA (X : Cx) (n : Nat) : List D → List D → Bool → Prop
  | nil : EqsA X n [] [] true
  | left {d : D} {ds : List D} : EqsA X n (d :: ds) [] false
  | right {e : D} {es : List D} : EqsA X n [] (e :: es) false
  | more {d e : D} {ds es : List D} {b : Bool} : EqA X n d e true → EqsA X n ds es b → EqsA X n (d :: ds) (e :: es) b
  | ends {d e : D} {ds es : List D} : EqA X n d e false → EqsA X n (d :: ds) (e :: es) false
theorem EqsA.at_end : ∀ {ds es : List D} {b : Bool}, EqsA X n ds es b → (ds = [] ∨ es = []) → b = (ds.length == es.length)
  | _, _, _, .nil, _ => rfl
  | _, _, _, .left, _ => rfl
  | _, _, _, .right, _ => rfl
  | _, _, _, .more _ _, h => by rcases h with h | h <;> cases h
  | _, _, _, .ends _, h => by rcases h with h | h <;> cases h
theorem EqsA.lens : ∀ {ds es : List D} {b : Bool}, EqsA X n ds es b → b = true → ds.length = es.length
  | _, _, _, .nil, _ => rfl
  | _, _, _, .left, h => by cases h
  | _, _, _, .right, h => by cases h
  | _, _, _, .more _ r, h => congrArg (· + 1) (r.lens h)
  | _, _, _, .ends _, h => by cases h
theorem EqsA.step {ds es : List D} {b : Bool} (h : EqsA X n ds es b) {d e : D} (h1 : ds[0]? = some d) (h2 : es[0]? = some e) : (EqA X n d e true ∧ EqsA X n (ds.drop 1) (es.drop 1) b) ∨ (EqA X n d e false ∧ b = false) := by
  cases h with
  | nil => cases h1
  | left => cases h2
  | right => cases h1
  | more q r => simp at h1 h2; subst h1; subst h2; exact .inl ⟨q, r⟩
  | ends q => simp at h1 h2; subst h1; subst h2; exact .inr ⟨q, rfl⟩
theorem turnB {A : Around} (sb : Sub X (n + 1) A) {pins : List (Addr × Obj)} {σ : L2.St} {H : Hp} {xs ys : List V} {ds es : List D} {its its2 : List Value} (r1 : Reps X.K H xs ds) (r2 : Reps X.K H ys es) (v1 : Vals xs its) (v2 : Vals ys its2) {P : Bool → Shared → Prop}
    (i : Nat) (h1 : i < its.toArray.size) (h2 : i < its2.toArray.size) (s' : Shared) (l : LoopS X pins σ H s') (q : EqsA X n (ds.drop i) (es.drop i) b)
    (k1 : ∀ s', LoopS X pins σ H s' → EqsA X n (ds.drop (i + 1)) (es.drop (i + 1)) b → P true s') (k2 : ∀ s', LoopS X pins σ H s' → b = false → P false s') :
    wpAny (model X.prog X.w) A.in1 (eqBool its.toArray[i] its2.toArray[i]) P X.xe s' := by
  obtain ⟨H1, I1, e1⟩ := l
  have g1 : its[i]? = some its.toArray[i] := by
    have h1' : i < its.length := by simpa using h1
    rw [List.getElem?_eq_getElem h1'] <;> simp
  have g2 : its2[i]? = some its2.toArray[i] := by
    have h2' : i < its2.length := by simpa using h2
    rw [List.getElem?_eq_getElem h2'] <;> simp
  have c1 : i < xs.length := by rw [v1.length]; simpa using h1
  have c2 : i < ys.length := by rw [v2.length]; simpa using h2
  obtain ⟨u, hu, ru⟩ := v1.get (List.getElem?_eq_getElem c1)
  obtain ⟨v, hv, rv⟩ := v2.get (List.getElem?_eq_getElem c2)
  rw [g1] at hu
  rw [g2] at hv
  rw [Option.some.inj hu, Option.some.inj hv]
  obtain ⟨d, hd, rd⟩ := r1.at (List.getElem?_eq_getElem c1)
  obtain ⟨e, he, re⟩ := r2.at (List.getElem?_eq_getElem c2)
  rcases q.step (d := d) (e := e) (by rw [List.getElem?_drop]; exact hd) (by rw [List.getElem?_drop]; exact he) with ⟨qe, qs⟩ | ⟨qe, hb⟩
  · refine wpAny_mono (qe A.in1 pins s' σ H1 _ _ u v sb.in1 I1 ru rv (rd.mono e1) (re.mono e1)) (fun r s2 z => ?_) fun _ _ x => x
    obtain ⟨rfl, H2, I2, e2⟩ := z
    exact k1 s2 ⟨H2, I2, e1.trans e2⟩ (by rw [List.drop_drop, List.drop_drop] at qs; exact qs)
  · refine wpAny_mono (qe A.in1 pins s' σ H1 _ _ u v sb.in1 I1 ru rv (rd.mono e1) (re.mono e1)) (fun r s2 z => ?_) fun _ _ x => x
    obtain ⟨rfl, H2, I2, e2⟩ := z
    exact k2 s2 ⟨H2, I2, e1.trans e2⟩ hb
theorem rcA_tup {ds es : List D} (q : EqsA X n ds es b) : RcA X (n + 1) .Eq (.tup ds) (.tup es) b := by
  intro A pins s σ H x y u v sb I rx ry r1 r2
  cases r1 with
  | tup ha ra =>
    cases r2 with
    | tup hb rb =>
      cases rx
      cases ry
      obtain ⟨its, v1, e1, z1⟩ := I.tuple ha
      obtain ⟨its2, v2, e2, z2⟩ := I.tuple hb
      obtain ⟨⟨cls, dd, data, sl⟩, ho, hc, k, hd⟩ := id e1
      obtain ⟨⟨cls2, dd2, data2, sl2⟩, ho2, hc2, k2, hd2⟩ := id e2
      simp only at hc hd hc2 hd2
      subst hc hd hc2 hd2
      have L1 : its.toArray.size = ds.length := by rw [List.size_toArray, ← v1.length, ra.length]
      have L2 : its2.toArray.size = es.length := by rw [List.size_toArray, ← v2.length, rb.length]
      refine wpAny_richCompare_same_room (op := .Eq) ⟨_, ho, rfl⟩ ⟨_, ho2, rfl⟩ F.slot_tuple_eq (GQ.call_here F.slot_tuple_eq ⟨_, ho, rfl⟩ F.entry_tuple_eq (F.args_tuple_eq_2 _ _) ?_) sb.room.units0
      refine tuple_eqB (R := wants (fun v s' => v ≠ .notImplemented ∧ v = .bool b ∧ LoopS X pins σ H s') X.xe) _ _ its.toArray its2.toArray k k2 dd dd2 sl sl2 (fun i s' => LoopS X pins σ H s' ∧ EqsA X n (ds.drop i) (es.drop i) b) (fun i h1 h2 s' hi => ?_) (fun s' hi => ?_) ho ho2 ⟨⟨H, I, Same.refl _⟩, q⟩
      · exact turnB sb ra rb v1 v2 i h1 h2 s' hi.1 hi.2 (fun s2 l2 q2 => .inl ⟨rfl, l2, q2⟩) fun s2 l2 hb => .inr ⟨rfl, (fun x => nomatch x), by rw [hb], l2⟩
      · have hz : b = (its.toArray.size == its2.toArray.size) := by
          rw [L1, L2] at hi ⊢
          have := hi.2.at_end (by
            rcases Nat.le_total ds.length es.length with c | c
            · exact .inl (List.drop_of_length_le (by omega))
            · exact .inr (List.drop_of_length_le (by omega)))
          rw [this]
          rw [List.length_drop, List.length_drop]
          rw [Bool.eq_iff_iff]
          simp only [beq_iff_eq]
          omega
        exact ⟨(fun x => nomatch x), by rw [hz], hi.1⟩
theorem rcA_tupN {ds es : List D} (q : EqsA X n ds es b) : RcA X (n + 1) .NotEq (.tup ds) (.tup es) (!b) := by
  intro A pins s σ H x y u v sb I rx ry r1 r2
  cases r1 with
  | tup ha ra =>
    cases r2 with
    | tup hb rb =>
      cases rx
      cases ry
      obtain ⟨its, v1, e1, z1⟩ := I.tuple ha
      obtain ⟨its2, v2, e2, z2⟩ := I.tuple hb
      obtain ⟨⟨cls, dd, data, sl⟩, ho, hc, k, hd⟩ := id e1
      obtain ⟨⟨cls2, dd2, data2, sl2⟩, ho2, hc2, k2, hd2⟩ := id e2
      simp only at hc hd hc2 hd2
      subst hc hd hc2 hd2
      have L1 : its.toArray.size = ds.length := by rw [List.size_toArray, ← v1.length, ra.length]
      have L2 : its2.toArray.size = es.length := by rw [List.size_toArray, ← v2.length, rb.length]
      refine wpAny_richCompare_same_room (op := .NotEq) ⟨_, ho, rfl⟩ ⟨_, ho2, rfl⟩ F.slot_tuple_ne (GQ.call_here F.slot_tuple_ne ⟨_, ho, rfl⟩ F.entry_tuple_ne (F.args_tuple_ne_2 _ _) ?_) sb.room.units0
      refine tuple_neB (R := wants (fun v s' => v ≠ .notImplemented ∧ v = .bool (!b) ∧ LoopS X pins σ H s') X.xe) _ _ its.toArray its2.toArray k k2 dd dd2 sl sl2 (fun i s' => LoopS X pins σ H s' ∧ EqsA X n (ds.drop i) (es.drop i) b) (fun i h1 h2 s' hi => ?_) (fun s' hi => ?_) ho ho2 ⟨⟨H, I, Same.refl _⟩, q⟩
      · exact turnB sb ra rb v1 v2 i h1 h2 s' hi.1 hi.2 (fun s2 l2 q2 => .inl ⟨rfl, l2, q2⟩) fun s2 l2 hb => .inr ⟨rfl, (fun x => nomatch x), by rw [hb]; rfl, l2⟩
      · have hz : b = (its.toArray.size == its2.toArray.size) := by
          rw [L1, L2] at hi ⊢
          have := hi.2.at_end (by
            rcases Nat.le_total ds.length es.length with c | c
            · exact .inl (List.drop_of_length_le (by omega))
            · exact .inr (List.drop_of_length_le (by omega)))
          rw [this]
          rw [List.length_drop, List.length_drop]
          rw [Bool.eq_iff_iff]
          simp only [beq_iff_eq]
          omega
        exact ⟨(fun x => nomatch x), by rw [hz]; rfl, hi.1⟩
theorem rcA_lst {ds es : List D} (q : EqsA X n ds es b) : RcA X (n + 1) .Eq (.lst ds) (.lst es) b := by
  intro A pins s σ H x y u v sb I rx ry r1 r2
  cases r1 with
  | lst ha ra =>
    cases r2 with
    | lst hb rb =>
      cases rx
      cases ry
      rename_i l1 vs1 l2 vs2
      have at1 : ∀ s', LoopS X pins σ H s' → ∃ (i1 i2 : List Value) (k k2 : Nat), s'.heap.get? l1 = some { cls := .type "list", data := .seq i1.toArray k } ∧ s'.heap.get? l2 = some { cls := .type "list", data := .seq i2.toArray k2 } ∧ Vals vs1 i1 ∧ Vals vs2 i2 := fun s' q => by
        obtain ⟨H1, I1, e1⟩ := q
        obtain ⟨z, its, k, r, e⟩ := (rdM e1 ha).ok I1.hok
        obtain ⟨z2, its2, k2, r2, e2⟩ := (rdM e1 hb).ok I1.hok
        exact ⟨its, its2, k, k2, e, e2, r, r2⟩
      obtain ⟨i1, i2, k, k2, g1, g2, v1, v2⟩ := at1 s ⟨H, I, Same.refl _⟩
      refine wpAny_richCompare_same_room (op := .Eq) ⟨_, g1, rfl⟩ ⟨_, g2, rfl⟩ F.slot_list_eq (GQ.call_here F.slot_list_eq ⟨_, g1, rfl⟩ F.entry_list_eq (F.args_list_eq_2 _ _) ?_) sb.room.units0
      by_cases hl : ds.length = es.length
      · refine list_eqB (R := wants (fun v s' => v ≠ .notImplemented ∧ v = .bool b ∧ LoopS X pins σ H s') X.xe) _ _ ds.length (fun i s' => LoopS X pins σ H s' ∧ EqsA X n (ds.drop i) (es.drop i) b) (fun i s' hi => ?_) (fun s' hi => ?_) ⟨⟨H, I, Same.refl _⟩, q⟩
        · obtain ⟨j1, j2, m, m2, a1, a2, w1, w2⟩ := at1 s' hi.1
          refine ⟨j1.toArray, j2.toArray, m, m2, a1, a2, by rw [List.size_toArray, ← w1.length, ra.length], by rw [List.size_toArray, ← w2.length, rb.length, hl], fun h1 h2 => ?_⟩
          refine turnB sb ra rb w1 w2 i h1 h2 s' hi.1 hi.2 (fun s2 l2 q2 => .inl ⟨rfl, l2, q2⟩) fun s2 l2 hb => .inr ⟨rfl, ⟨(fun x => nomatch x), by rw [hb], l2⟩, ?_⟩
          obtain ⟨j1, j2, m, m2, a1, a2, w1, w2⟩ := at1 s2 l2
          exact ⟨j1.toArray, j2.toArray, m, m2, a1, a2, by rw [List.size_toArray, ← w1.length, ra.length], by rw [List.size_toArray, ← w2.length, rb.length, hl]⟩
        · have := hi.2.at_end (.inl (List.drop_of_length_le (Nat.le_refl _)))
          rw [List.length_drop, List.length_drop, hl, Nat.sub_self, beq_self_eq_true] at this
          exact ⟨(fun x => nomatch x), by rw [this], hi.1⟩
      · refine list_eqN (R := wants (fun v s' => v ≠ .notImplemented ∧ v = .bool b ∧ LoopS X pins σ H s') X.xe) _ _ i1.toArray i2.toArray k k2 (by rw [List.size_toArray, List.size_toArray, ← v1.length, ← v2.length, ra.length, rb.length]; exact hl) g1 g2 ⟨(fun x => nomatch x), ?_, H, I, Same.refl _⟩
        cases b with
        | false => rfl
        | true => exact absurd (q.lens rfl) hl
theorem rcA_lstN {ds es : List D} (q : EqsA X n ds es b) : RcA X (n + 1) .NotEq (.lst ds) (.lst es) (!b) := by
  intro A pins s σ H x y u v sb I rx ry r1 r2
  cases r1 with
  | lst ha ra =>
    cases r2 with
    | lst hb rb =>
      cases rx
      cases ry
      rename_i l1 vs1 l2 vs2
      have at1 : ∀ s', LoopS X pins σ H s' → ∃ (i1 i2 : List Value) (k k2 : Nat), s'.heap.get? l1 = some { cls := .type "list", data := .seq i1.toArray k } ∧ s'.heap.get? l2 = some { cls := .type "list", data := .seq i2.toArray k2 } ∧ Vals vs1 i1 ∧ Vals vs2 i2 := fun s' q => by
        obtain ⟨H1, I1, e1⟩ := q
        obtain ⟨z, its, k, r, e⟩ := (rdM e1 ha).ok I1.hok
        obtain ⟨z2, its2, k2, r2, e2⟩ := (rdM e1 hb).ok I1.hok
        exact ⟨its, its2, k, k2, e, e2, r, r2⟩
      obtain ⟨i1, i2, k, k2, g1, g2, v1, v2⟩ := at1 s ⟨H, I, Same.refl _⟩
      refine wpAny_richCompare_same_room (op := .NotEq) ⟨_, g1, rfl⟩ ⟨_, g2, rfl⟩ F.slot_list_ne (GQ.call_here F.slot_list_ne ⟨_, g1, rfl⟩ F.entry_list_ne (F.args_list_ne_2 _ _) ?_) sb.room.units0
      by_cases hl : ds.length = es.length
      · refine list_neB (R := wants (fun v s' => v ≠ .notImplemented ∧ v = .bool (!b) ∧ LoopS X pins σ H s') X.xe) _ _ ds.length (fun i s' => LoopS X pins σ H s' ∧ EqsA X n (ds.drop i) (es.drop i) b) (fun i s' hi => ?_) (fun s' hi => ?_) ⟨⟨H, I, Same.refl _⟩, q⟩
        · obtain ⟨j1, j2, m, m2, a1, a2, w1, w2⟩ := at1 s' hi.1
          refine ⟨j1.toArray, j2.toArray, m, m2, a1, a2, by rw [List.size_toArray, ← w1.length, ra.length], by rw [List.size_toArray, ← w2.length, rb.length, hl], fun h1 h2 => ?_⟩
          refine turnB sb ra rb w1 w2 i h1 h2 s' hi.1 hi.2 (fun s2 l2 q2 => .inl ⟨rfl, l2, q2⟩) fun s2 l2 hb => .inr ⟨rfl, ⟨(fun x => nomatch x), by rw [hb]; rfl, l2⟩, ?_⟩
          obtain ⟨j1, j2, m, m2, a1, a2, w1, w2⟩ := at1 s2 l2
          exact ⟨j1.toArray, j2.toArray, m, m2, a1, a2, by rw [List.size_toArray, ← w1.length, ra.length], by rw [List.size_toArray, ← w2.length, rb.length, hl]⟩
        · have := hi.2.at_end (.inl (List.drop_of_length_le (Nat.le_refl _)))
          rw [List.length_drop, List.length_drop, hl, Nat.sub_self, beq_self_eq_true] at this
          exact ⟨(fun x => nomatch x), by rw [this]; rfl, hi.1⟩
      · refine list_neN (R := wants (fun v s' => v ≠ .notImplemented ∧ v = .bool (!b) ∧ LoopS X pins σ H s') X.xe) _ _ i1.toArray i2.toArray k k2 (by rw [List.size_toArray, List.size_toArray, ← v1.length, ← v2.length, ra.length, rb.length]; exact hl) g1 g2 ⟨(fun x => nomatch x), ?_, H, I, Same.refl _⟩
        cases b with
        | false => rfl
        | true => exact absurd (q.lens rfl) hl
/-- the same object is equal to itself -/
theorem RcA.eqA (h : RcA X n .Eq d e b) (hr : d = e → b = true) (hd : (∃ ds, d = .lst ds) ∨ (∃ ds, d = .tup ds) ∨ ∃ C fs, d = .ins C fs) (he : (∃ ds, e = .lst ds) ∨ (∃ ds, e = .tup ds) ∨ ∃ C fs, e = .ins C fs) : EqA X n d e b := by
  intro A pins s σ H x y u v sb I rx ry r1 r2
  have ref : ∀ {x : V} {d : D}, Rep X.K H x d → ((∃ ds, d = .lst ds) ∨ (∃ ds, d = .tup ds) ∨ ∃ C fs, d = .ins C fs) → ∃ a, x = .ref a := fun r hd => by
    rcases hd with ⟨_, rfl⟩ | ⟨_, rfl⟩ | ⟨_, _, rfl⟩ <;> cases r <;> exact ⟨_, rfl⟩
  obtain ⟨a, rfl⟩ := ref r1 hd
  obtain ⟨a2, rfl⟩ := ref r2 he
  cases rx
  cases ry
  by_cases hab : a = a2
  · subst hab
    have hb := hr (r1.det I r2)
    subst hb
    exact SeqAt.EqAt.same (A := A) (s := s) (.ref a) X.prog X.w X.xe _ ⟨rfl, H, I, Same.refl _⟩
  · refine GQ.eqBool_refG hab (wpAny_mono (h A pins s σ H (.ref a) (.ref a2) _ _ sb I rfl rfl r1 r2) (fun r s' q => ?_) fun _ _ x => x)
    obtain ⟨hr', q⟩ := q
    exact ⟨b, hr', rfl, q⟩
/-! ### own __eq__ -/
/-- its promise: of d and e it tells b -/
def sp_eq (P : D → D → Bool → Prop) : SpD := fun xs M R _ => ∃ d e b, xs = [.dat d, .dat e] ∧ M = [] ∧ P d e b ∧ R (.dat (.bl b)) []
theorem rcA_ins {C f : Addr} {fs : List (Str × D)} {fd : FuncData} {ps : List Str} {P : D → D → Bool → Prop} {tb : Value} (F : FnOk X.prog X.w X.K X.mg X.base (L2.CX X.prog X.w) n f fd ps (spOf X.K 0 (sp_eq P)))
    (hs : PySem.W.findIn X.K (.ref C) "__eq__" = some (some (.ref f))) (hf : PySem.W.isFn X.K (.ref f) = true) (hb : Binds X.K fd ps [])
    (hn : PySem.W.notFirst X.K C tb = true) (ht : ∀ (H : Hp) (s : Shared) (σ : L2.St) pins (y : V) (v : Value), Inv X pins σ H s → RelV y v → Rep X.K H y e → PySem.W.Looks (model X.prog X.w) s.heap (typeOf v) tb)
    (hP : P (.ins C fs) e b) : RcA X n .Eq (.ins C fs) e b := by
  intro A pins s σ H x y u v sb I rx ry r1 r2
  cases r1 with
  | ins ha ra nxx =>
  cases rx
  rename_i a dx fv
  obtain ⟨mA, J, _⟩ := ins_get I.hok ha
  obtain ⟨od, J, _⟩ := J.look
  obtain ⟨m, hF⟩ := I.fr
  refine PySem.W.cmp_K (op := .Eq) (tb := tb) sb.room.units0 hF I.ok.mod.kin J (ht H s σ pins y v I ry r2) hn hs hf ?_
  have hsp : spOf X.K 0 (sp_eq P) [.ref a, y] H (fun v H' => v = .bl b ∧ Same H H') (fun _ _ _ => False) := by
    refine ⟨[.dat (.ins C fs), .dat e], [], H, [], rfl, ⟨fun _ _ e => e, fun _ _ e => e, fun _ _ e _ => e, fun _ _ e => .inl e, List.nodup_nil, ⟨[], rfl⟩, fun _ m => (by cases m), fun _ m => (by cases m), .nil⟩, .cons (Rep.ins ha ra nxx) (.cons r2 .nil), fun x _ => x = .dat (.bl b), fun _ _ _ => False, ⟨_, _, b, rfl, rfl, hP, rfl⟩, fun v x G' A' M' H' w' s' _ q => ?_, fun _ _ _ _ _ _ _ _ _ _ q => q⟩
    subst q
    cases s'
    exact ⟨rfl, fun b o e => w'.fr b o e (by intro m; cases m)⟩
  have e0 : Env0 X.prog X.w X.K X.mg X.base A X.stack s H := by
    have e := I.env0
    exact ⟨by rw [sb.fr]; exact e.frames, e.mod, e.bs, e.bsz, e.funs, e.frf, e.hok, e.bare⟩
  have hl := F.len _ _ _ _ hsp
  have rv2 : Vals [V.ref a, y] [Value.ref a, v] := .cons rfl (.cons ry .nil)
  refine wpAny_call (codeAny_mono (F.run A X.stack s H ⟨[.ref a, v], []⟩ [.ref a, v] [.ref a, y] _ _ sb.room e0 (by
    have := hb s [.ref a, v] I.kIn (by simpa using hl)
    simpa using this) rv2 hsp) fun r s' hq => ?_)
  cases r with
  | error e =>
    obtain ⟨_, _, _, _, _, _, _, _, _, _, _, _, z⟩ := hq
    exact z.elim
  | ok fl =>
    cases fl with
    | ret w =>
      obtain ⟨z, H', I', rz, ez, ex⟩ := I.after hq
      subst ez
      cases rz
      exact ⟨rfl, H', I', ex⟩
    | next => exact False.elim hq
    | brk => exact False.elim hq
    | cont => exact False.elim hq
/-! ### the operators -/
def rRcA (X : Cx) (n : Nat) (op : CmpOp) : R2 := fun x y H Q => ∃ d e b, Rep X.K H x d ∧ Rep X.K H y e ∧ RcA X n op d e b ∧ ∀ H', Same H H' → Q (.bl b) H'
theorem op_eqA (hr : Room n X.A) : OpR X (compareOp .Eq) (rRcA X n .Eq) := by
  intro pins s σ H x y v u Q I rx ry hq
  obtain ⟨d, e, b, r1, r2, h, q⟩ := hq
  show wpAny (model X.prog X.w) X.A (richCompare .Eq v u) (EP X pins σ Q) X.xe s
  refine wpAny_mono (h X.A pins s σ H x y v u ⟨hr, rfl⟩ I rx ry r1 r2) (fun r s' z => ?_) fun _ _ x => x
  obtain ⟨hr', H', I', e⟩ := z
  subst hr'
  exact ⟨.bl b, H', I', rfl, q H' e⟩
theorem op_neA (hr : Room n X.A) : OpR X (compareOp .NotEq) (rRcA X n .NotEq) := by
  intro pins s σ H x y v u Q I rx ry hq
  obtain ⟨d, e, b, r1, r2, h, q⟩ := hq
  show wpAny (model X.prog X.w) X.A (richCompare .NotEq v u) (EP X pins σ Q) X.xe s
  refine wpAny_mono (h X.A pins s σ H x y v u ⟨hr, rfl⟩ I rx ry r1 r2) (fun r s' z => ?_) fun _ _ x => x
  obtain ⟨hr', H', I', e⟩ := z
  subst hr'
  exact ⟨.bl b, H', I', rfl, q H' e⟩
end
end Mb

/-! Mb, part 19: == as rules; isinstance of data. -/
namespace Mb
open PySem L2 PyProof.Rows
theorem Wd.same {K : PySem.W.Frag} {B : Base} {G : Hp} {A : List Addr} {M : List Cell} {H H' : Hp} (w : Wd K B G A M H) (s : Same H H') : Wd K B G A M H' := by
  refine ⟨w.gg, w.gh.trans s, fun b u e n => s _ _ (w.fr b u e n), w.fresh, w.nd, w.pre, fun b m => ?_, w.an, w.cl.imp fun a c m h => h.keep .refl (fun g => g) fun u e => s _ _ e⟩
  obtain ⟨u, e⟩ := w.there b m
  exact ⟨u, s _ _ e⟩
section
variable {X : Cx} {B : Base} {ex : XD} {ss : Sst} {M : Mem} {a b c e tg o : Expr} {es : List Expr} {pos p p' apos p2 : Pos} {Q : SV → Mem → Prop} {QB : Bool → Mem → Prop} {n : Nat}
/-- == of two data by own methods -/
structure eqA2 (X : Cx) (n : Nat) (op : CmpOp) (M : Mem) (x y : SV) (Q : SV → Mem → Prop) : Prop where
  run : ∃ d e b, x.get M = some d ∧ y.get M = some e ∧ RcA X n op d e b ∧ Q (.dat (.bl b)) M
theorem eqA2_run {op : CmpOp} {G : Hp} {A : List Addr} {H : Hp} {M : Mem} {x y : SV} {u v : V} {Q : SV → Mem → Prop} {Kq : VK} (w : Wd X.K B G A M H) (sx : SvOk X.K G A u x) (sy : SvOk X.K G A v y) (h : eqA2 X n op M x y Q) (k : VPost X.K B G A Q Kq) : rRcA X n op u v H Kq := by
  obtain ⟨d, e, b, g1, g2, r, q⟩ := h.run
  exact ⟨d, e, b, (sx.s w g1).rep w.gh, (sy.s w g2).rep w.gh, r, fun H' s => k.flat .refl (w.same s) (.bl b) q⟩
theorem we_eqA (hr : Room n X.A) (h : WE X B ex a (fun x M1 => WE X B ex b (fun y M2 => eqA2 X n .Eq M2 x y Q) ss M1) ss M) : WE X B ex (.Compare a [.Eq] [b] pos) Q ss M :=
  we_cmp2 (f := eqA2 X n .Eq) (op_eqA hr) (nomark _) (fun G A H M x y u v Q Kq w sx sy h k => eqA2_run w sx sy h k) h
theorem we_neA (hr : Room n X.A) (h : WE X B ex a (fun x M1 => WE X B ex b (fun y M2 => eqA2 X n .NotEq M2 x y Q) ss M1) ss M) : WE X B ex (.Compare a [.NotEq] [b] pos) Q ss M :=
  we_cmp2 (f := eqA2 X n .NotEq) (op_neA hr) (nomark _) (fun G A H M x y u v Q Kq w sx sy h k => eqA2_run w sx sy h k) h
theorem wt_eqA (hr : Room n X.A) (h : WE X B ex a (fun x M1 => WE X B ex b (fun y M2 => eqA2 X n .Eq M2 x y fun z M3 => ∃ k, z = .dat (.bl k) ∧ QB k M3) ss M1) ss M) : WT X B ex (.Compare a [.Eq] [b] pos) QB ss M :=
  wt_cmp2 (f := eqA2 X n .Eq) (op_eqA hr) (nomark _) (fun G A H M x y u v Q Kq w sx sy h k => eqA2_run w sx sy h k) h
theorem wt_neA (hr : Room n X.A) (h : WE X B ex a (fun x M1 => WE X B ex b (fun y M2 => eqA2 X n .NotEq M2 x y fun z M3 => ∃ k, z = .dat (.bl k) ∧ QB k M3) ss M1) ss M) : WT X B ex (.Compare a [.NotEq] [b] pos) QB ss M :=
  wt_cmp2 (f := eqA2 X n .NotEq) (op_neA hr) (nomark _) (fun G A H M x y u v Q Kq w sx sy h k => eqA2_run w sx sy h k) h
/-! ### isinstance -/
structure IsC (K : PySem.W.Frag) (C : Addr) : Prop where
  cl : Cls K C
  ha : PySem.W.findIn K (.ref C) "__class__" = some (some (.builtin "object.__class__"))
  hn : PySem.W.specialIn K (.builtin "object.__class__") "__get__" = some (some (.builtin "getset_descriptor.__get__"))
  htk : PySem.W.takesIn K (.builtin "object.__class__") = some true
  hm : PySem.W.mroIn K C (.type "object") = some true
def TyD (K : PySem.W.Frag) : D → Value → Prop
  | .non, t => t = .type "NoneType"
  | .bl _, t => t = .type "bool"
  | .int _, t => t = .type "int"
  | .str _, t => t = .type "str"
  | .lst _, t => t = .type "list"
  | .tup _, t => t = .type "tuple"
  | .dic _, t => t = .type "dict"
  | .ins C _, t => t = .ref C ∧ IsC K C
def TyS (K : PySem.W.Frag) (M : Mem) (x : SV) (t : Value) : Prop := match x with
  | .dat d => TyD K d t
  | .cel i => match M[i]? with
    | some (.lst _) => t = .type "list"
    | some (.mix _) => t = .type "list"
    | some (.dic _) => t = .type "dict"
    | some (.ins C _) => t = .ref C ∧ IsC K C
    | _ => False
  | _ => False
theorem TyS.x {K : PySem.W.Frag} {G : Hp} {A : List Addr} {H : Hp} {M : Mem} {x : SV} {v : V} {t : Value} (w : Wd K B G A M H) (s : SvOk K G A v x) (h : TyS K M x t) : TyX K H v t := by
  cases x with
  | raw u => exact h.elim
  | exc u v w => exact h.elim
  | tup xs => exact h.elim
  | xt xs => exact h.elim
  | dat d =>
    have s : Rep K G v d := s
    have s := s.s w.gh
    cases d with
    | non => cases s; cases (show t = _ from h); exact .base .non
    | bl b => cases s; cases (show t = _ from h); exact .base (.bl b)
    | int b => cases s; cases (show t = _ from h); exact .base (.int b)
    | str b => obtain ⟨rfl, _⟩ := s; cases (show t = _ from h); exact .base (.str b)
    | lst ds =>
      obtain ⟨l, vs, rfl, hl, r⟩ := s
      cases (show t = _ from h)
      rcases hl with hl | ⟨ob, hl⟩
      · exact .base (.lst hl)
      · exact .base (.frz hl)
    | tup ds =>
      obtain ⟨l, vs, rfl, hl, r⟩ := s
      cases (show t = _ from h)
      rcases hl with (hl | ⟨ob, hl⟩) | ⟨ob, its, n, hk, hc, _⟩
      · exact .base (.tup hl)
      · exact .fTuple hl
      · exact .kTuple hk hc
    | dic ds =>
      obtain ⟨l, vs, rfl, hl, r⟩ := s
      cases (show t = _ from h)
      exact .base (.dK hl)
    | ins C fs =>
      obtain ⟨l, dx, vs, rfl, hl, r⟩ := s
      obtain ⟨rfl, c⟩ := (show t = _ ∧ _ from h)
      exact .base (.ins hl c.cl c.ha c.hn c.htk c.hm)
  | cel i =>
    obtain ⟨l, rfl, hl⟩ := s
    simp only [TyS] at h
    cases hM : M[i]? with
    | none => simp [hM] at h
    | some cc =>
      have q := w.cl.get hl hM
      cases cc with
      | dead => simp [hM] at h
      | dct P w ds => simp [hM] at h
      | lst ds =>
        simp only [hM] at h; subst h
        obtain ⟨_, vs, h1, _⟩ := q
        exact .base (.lst h1)
      | mix ds =>
        simp only [hM] at h; subst h
        obtain ⟨_, vs, h1, _⟩ := q
        exact .base (.lst h1)
      | dic ds =>
        simp only [hM] at h; subst h
        obtain ⟨_, vs, h1, _⟩ := q
        exact .base (.dK h1)
      | ins C fs =>
        simp only [hM] at h
        obtain ⟨rfl, c⟩ := h
        obtain ⟨_, dx, fv, h1, _⟩ := q
        exact .base (.ins h1 c.cl c.ha c.hn c.htk c.hm)
theorem we_isI (hm : X.mg "isinstance" = none) (hg : Gl X "isinstance") (h : WA X B ex [a, b] (fun xs M1 => ∃ x c cv t k, xs = [x, .raw c] ∧ ClsV c cv ∧ TyS X.K M1 x t ∧ PySem.W.kitOne X.K t cv = some k ∧ Q (.dat (.bl k)) M1) ss M)
    (he : starEach [a, b] X.env = (false, eval a X.env) :: starEach [b] X.env := by rfl) (hpl : (backTo pos (starEach [b] X.env)).any (·.1) = false := by rfl) : WE X B ex (.Call (.Name "isinstance" p) [a, b] [] pos) Q ss M := by
  refine we_cb (f := fun M1 xs Q => ∃ x c cv t k, xs = [x, .raw c] ∧ ClsV c cv ∧ TyS X.K M1 x t ∧ PySem.W.kitOne X.K t cv = some k ∧ Q (.dat (.bl k)) M1) call_isi (fun G A H M xs vs Q Kq w r h k => ?_) hm (by decide +kernel) hg h (he := he) (hpl := hpl)
  obtain ⟨x, c, cv, t, kb, rfl, hc, ht, hk, q⟩ := h
  cases r with
  | cons s r =>
    cases r with
    | cons s' r =>
      cases r
      cases s'
      exact ⟨_, _, t, cv, kb, rfl, hc, ht.x w s, hk, k.flat .refl w (.bl kb) q⟩
theorem svs_raws {K : PySem.W.Frag} {G : Hp} {A : List Addr} : ∀ {vs cs : List V}, Svs K G A vs (cs.map .raw) → vs = cs
  | [], [], _ => rfl
  | _, c :: cs, h => by
    cases h with
    | cons s r =>
      cases s
      rw [svs_raws r]
  | _ :: _, [], h => by cases h
/-- isinstance(x, (C, D, ..)) -/
theorem we_isT {j : Nat} (hm : X.mg "isinstance" = none) (hg : Gl X "isinstance") (h : WE X B ex a (fun x M1 => WA X B ex es (fun ys M2 => ∃ cs us t k, ys = cs.map .raw ∧ cs.length ≤ sizeLine ∧ Paired ClsV cs us ∧ TyS X.K M2 x t ∧ PySem.W.kitAny X.K t us = some k ∧ Q (.dat (.bl k)) M2) ss M1) ss M)
    (he : starEach [a, .Tuple es j p2] X.env = (false, eval a X.env) :: starEach [.Tuple es j p2] X.env := by rfl) (he2 : starEach [.Tuple es j p2] X.env = (false, eval (.Tuple es j p2) X.env) :: starEach [] X.env := by rfl) (hpl : (backTo pos (starEach [.Tuple es j p2] X.env)).any (·.1) = false := by rfl) : WE X B ex (.Call (.Name "isinstance" p) [a, .Tuple es j p2] [] pos) Q ss M := .mk fun ck G A H σ w sl Kq k => by
  refine te_of (pe_callB call_isiT hg hm (by decide +kernel) (pa_cons pe_self (pa_cons (pe_tup pa_self) pa_nil he2) he) (by decide) (by decide) he hpl) ?_
  refine h ck G A H σ w sl _ fun v x G1 A1 M1 H1 e1 w1 s1 h1 => ?_
  refine h1 ck G1 A1 H1 σ w1 (sl.mono e1) _ fun vs ys G2 A2 M2 H2 e2 w2 s2 h2 => ?_
  obtain ⟨cs, us, t, kb, rfl, hz, hp, ht, hk, q⟩ := h2
  obtain rfl := svs_raws s2
  refine ⟨hz, fun q0 hq => ?_⟩
  have wg := w2.grow (o := .tup vs) hq
  exact ⟨v, q0, vs, t, us, kb, rfl, upd_same, hp, ht.x wg (s1.mono e2), hk, k _ (.dat (.bl kb)) G2 A2 M2 _ (e1.trans e2) wg (Rep.bl kb) q⟩
/-- the type of what data is, as == looks at it -/
theorem looks_ins {H : Hp} {s : Shared} {σ : L2.St} {pins : List (Addr × Obj)} {y : V} {v : Value} {C : Addr} {fs : List (Str × D)} (I : Inv X pins σ H s) (ry : RelV y v) (r : Rep X.K H y (.ins C fs)) : PySem.W.Looks (model X.prog X.w) s.heap (typeOf v) (.ref C) := by
  cases r with
  | ins ha ra =>
    cases ry
    obtain ⟨mA, J, _⟩ := ins_get I.hok ha
    obtain ⟨od, J, _⟩ := J.look
    exact J.type
end
end Mb

/-! Mb, part 20: C() without an own __init__. -/
namespace Mb
open PySem L2 PyProof.Rows
structure Mk00 (K : PySem.W.Frag) (C : Addr) : Prop where
  makes : PySem.W.makesIn K C = true
  init : PySem.W.findIn K (.ref C) "__init__" = some (some (.builtin "object.__init__"))
  kp : PySem.W.keepIn K (.ref C) = true
section
variable {X : Cx} {B : Base} {ex : XD} {ss : Sst} {M : Mem} {a b c e tg o : Expr} {es : List Expr} {pos p p' apos p2 : Pos} {Q : SV → Mem → Prop} {QB : Bool → Mem → Prop} {n : Nat}
theorem we_mk00 {C : Addr} {x : Str} (Mk0 : Mk00 X.K C) (hm : X.mg x = some (.ref C)) (hg : Gl X x) (q : Q (.dat (.ins C [])) M) (hdb : (x == ("__debug__" : Str)) = false := by decide) : WE X B ex (.Call (.Name x p) [] [] pos) Q ss M := .mk fun ck G A H σ w sl Kq k pins s I => by
  refine wpAny_Call_Name_kw (ld_glob I hg hm ?_ hdb)
  refine PySem.W.callWith_K0 I.kIn Mk0.kp (wpAny_call (make_map0 I.kIn Mk0.makes Mk0.init (fun self => PySem.W.Looks.of_pure (PySem.W.oi_bind self)) ?_))
  have I2 := Inv.made (C := C) I
  have hx : H (s.heap.objs.size + 1) = none := I.hok.fresh (Nat.le_succ _)
  have hdx : H s.heap.objs.size = none := I.hok.fresh (Nat.le_refl _)
  have Y := PySem.W.makes_of (M := model X.prog X.w) I.kIn Mk0.makes
  obtain ⟨mA, J, _⟩ := ins_get I2.hok (a := s.heap.objs.size + 1) upd_same
  obtain ⟨od, J, _⟩ := J.look
  have t2 : PySem.W.Looks (model X.prog X.w) ((s.heap.push PySem.W.emptyDict).push (PySem.W.instObj C s.heap.objs.size)) (isInstance (.ref (s.heap.objs.size + 1)) (.type "object")) true := J.type.andThen (Y.top.keeps fun b o e => Heap.get?_push_of_some _ (Heap.get?_push_of_some _ e))
  refine codeAny_call_builtin PySem.W.oi_plain PySem.W.entry_oi (@PySem.W.check_slot (model X.prog X.w) _ _ _ "object.__init__" "object" "__init__" (.ref (s.heap.objs.size + 1)) [] [] _ PySem.W.oi_kind PySem.W.oi_split t2 (PySem.W.oi_args (.ref (s.heap.objs.size + 1))) ?_)
  rw [PySem.W.oi_run]
  refine wpAny_pure (And.intro rfl ⟨.ref (s.heap.objs.size + 1), _, I2, rfl, ?_⟩)
  have wg := w.grow (o := .own (s.heap.objs.size + 1)) hdx
  have hx2 : (upd H s.heap.objs.size (.own (s.heap.objs.size + 1))) (s.heap.objs.size + 1) = none := by rw [upd_ne (Nat.succ_ne_self _)]; exact hx
  obtain ⟨w2, e2⟩ := wg.newD (o := .ins C s.heap.objs.size []) hx2
  exact k _ (.dat (.ins C [])) _ A M _ e2 w2 (Rep.ins upd_same .nil (fun _ _ _ l => by cases l)) q
end
end Mb

/-! Mb, part 21: comprehensions over what a list of anything is made into. -/
namespace Mb
open PySem L2 PyProof.Rows
structure int2S (g : Int → Int → Int) (M : Mem) (xs : List SV) (Q : SV → Mem → Prop) : Prop where
  run : int2 g M xs Q
theorem i2 {g : Int → Int → Int} {M : Mem} {Q : SV → Mem → Prop} {i j : Int} (h : Q (.dat (.int (g i j))) M) : int2S g M [.dat (.int i), .dat (.int j)] Q := ⟨h⟩
section
variable {X : Cx} {B : Base} {ex : XD} {ss : Sst} {M : Mem} {a b : Expr} {pos p : Pos} {Q : SV → Mem → Prop}
theorem we_max2S (hc : X.calm = true) (hm : X.mg "max" = none) (hg : Gl X "max") (h : WA X B ex [a, b] (fun xs M1 => int2S (fun i j => if j > i then j else i) M1 xs Q) ss M)
    (he : starEach [a, b] X.env = (false, eval a X.env) :: starEach [b] X.env := by rfl) (hpl : (backTo pos (starEach [b] X.env)).any (·.1) = false := by rfl) : WE X B ex (.Call (.Name "max" p) [a, b] [] pos) Q ss M :=
  we_max2 hc hm hg (.mk fun ck G A H σ w sl Kq k => h ck G A H σ w sl Kq fun vs xs G' A' M' H' e w' s q => k vs xs G' A' M' H' e w' s q.run) he hpl
theorem we_min2S (hc : X.calm = true) (hm : X.mg "min" = none) (hg : Gl X "min") (h : WA X B ex [a, b] (fun xs M1 => int2S (fun i j => if j < i then j else i) M1 xs Q) ss M)
    (he : starEach [a, b] X.env = (false, eval a X.env) :: starEach [b] X.env := by rfl) (hpl : (backTo pos (starEach [b] X.env)).any (·.1) = false := by rfl) : WE X B ex (.Call (.Name "min" p) [a, b] [] pos) Q ss M :=
  we_min2 hc hm hg (.mk fun ck G A H σ w sl Kq k => h ck G A H σ w sl Kq fun vs xs G' A' M' H' e w' s q => k vs xs G' A' M' H' e w' s q.run) he hpl
end
theorem map_get {α : Type} {g : α → D} {l : List α} {i : Nat} {d : D} (h : (l.map g)[i]? = some d) : ∃ x, l[i]? = some x ∧ d = g x := by
  rw [List.getElem?_map] at h
  cases e : l[i]? with
  | none => rw [e] at h; cases h
  | some z => rw [e] at h; exact ⟨z, rfl, (Option.some.inj h).symm⟩
section
variable {X : Cx} {B : Base} {ex : XD} {ss : Sst} {M : Mem} {a b e elt : Expr} {es : List Expr} {pos : Pos} {Q : SV → Mem → Prop} {QB : Bool → Mem → Prop} {scope : Scope} {α : Type}
theorem lcq_mapA {j : Nat} {l : List α} {g : α → D} (f : α → D) (hl : l.length ≤ sizeLine)
    (ht : ∀ (i : Nat) (x : α), l[i]? = some x → ∀ (s : Shared) (H : Hp) (C : Addr) (cl : List (Str × Addr)) (fp : List Addr) (B : Base), B.A.length = M.length → WE (Blk X scope s H C cl fp) B exF elt (fun y M4 => y = .dat (f x) ∧ M4 = M) ((wipeD ss [j]).set j (some (.dat (g x)))) M)
    (q : Q (.dat (.lst (l.map f))) M) : ∃ I, I 0 [] M ∧ LcQ X scope elt [] (tg1 j) [j] (l.map g) I Q ss := by
  refine ⟨fun i acc M' => i ≤ l.length ∧ acc = (l.take i).map f ∧ M' = M, ⟨Nat.zero_le _, rfl, rfl⟩, ?_, ?_⟩
  · rintro i d acc M' hd ⟨hi, rfl, rfl⟩
    obtain ⟨x, hx, rfl⟩ := map_get hd
    intro s H C cl fp B hB
    have hlt := (List.getElem?_eq_some_iff.mp hx).1
    refine (ht i x hx s H C cl fp B hB).mono ?_
    rintro y M4 ⟨rfl, rfl⟩
    refine ⟨_, rfl, ?_, hlt, map_take_succ f hx, rfl⟩
    rw [List.length_map, List.length_take]
    omega
  · rintro acc M' ⟨_, rfl, rfl⟩
    rw [List.length_map, List.take_length]
    exact q
/-- a comprehension whose turns draw: the cells go on, each item has a property -/
theorem lcq_draw {j : Nat} {ds : List D} (P : D → Prop) (I : Mem → Prop) (hl : ds.length ≤ sizeLine) (h0 : I M)
    (ht : ∀ (i : Nat) (d : D) (M : Mem), ds[i]? = some d → I M → ∀ (s : Shared) (H : Hp) (C : Addr) (cl : List (Str × Addr)) (fp : List Addr) (B : Base), B.A.length = M.length → WE (Blk X scope s H C cl fp) B exF elt (fun y M4 => ∃ d, y = .dat d ∧ P d ∧ I M4) ((wipeD ss [j]).set j (some (.dat d))) M)
    (q : ∀ acc M, acc.length = ds.length → (∀ d ∈ acc, P d) → I M → Q (.dat (.lst acc)) M) : ∃ I, I 0 [] M ∧ LcQ X scope elt [] (tg1 j) [j] ds I Q ss := by
  refine ⟨fun i acc M' => acc.length = i ∧ (∀ d ∈ acc, P d) ∧ I M', ⟨rfl, (fun _ m => (by cases m)), h0⟩, ?_, ?_⟩
  · rintro i d acc M' hd ⟨hi, ha, hI⟩
    intro s H C cl fp B hB
    have hlt := (List.getElem?_eq_some_iff.mp hd).1
    refine (ht i d M' hd hI s H C cl fp B hB).mono ?_
    rintro y M4 ⟨z, rfl, hp, hI2⟩
    refine ⟨z, rfl, by omega, ?_, ?_, hI2⟩
    · rw [List.length_append]; simp; omega
    · intro d m
      rcases List.mem_append.mp m with m | m
      · exact ha d m
      · rw [List.mem_singleton] at m; subst m; exact hp
  · rintro acc M' ⟨h1, h2, h3⟩
    exact q acc M' h1 h2 h3
end
end Mb

/-! Mb, part 22: in of a list of ours; counting. -/
namespace Mb
open PySem L2 PyProof.Rows
section
variable {M : Mem} {QB : Bool → Mem → Prop}
theorem inLc {d : D} {i : Nat} {ds : List D} (e : M[i]? = some (.lst ds)) (h1 : D.pl 60 d = true) (h2 : ds.all (D.pl 60) = true) (h : QB (ds.any fun z => deq z d) M) : in2t false M (.dat d) (.cel i) QB := by
  refine ⟨w1d (w1c e ⟨?_⟩)⟩
  unfold inD0
  cases d <;> first | exact ⟨⟨h1, h2⟩, h⟩ | cases h1
theorem niLc {d : D} {i : Nat} {ds : List D} (e : M[i]? = some (.lst ds)) (h1 : D.pl 60 d = true) (h2 : ds.all (D.pl 60) = true) (h : QB (!(ds.any fun z => deq z d)) M) : in2t true M (.dat d) (.cel i) QB := by
  refine ⟨w1d (w1c e ⟨?_⟩)⟩
  unfold inD0
  cases d <;> first | exact ⟨⟨h1, h2⟩, h⟩ | cases h1
theorem niLs {d : D} {ds : List D} (h1 : D.pl 60 d = true) (h2 : ds.all (D.pl 60) = true) (h : QB (!(ds.any fun z => deq z d)) M) : in2t true M (.dat d) (.dat (.lst ds)) QB := by
  refine ⟨w1d (w1d ⟨?_⟩)⟩
  unfold inD0
  cases d <;> first | exact ⟨⟨h1, h2⟩, h⟩ | cases h1
end
theorem strs_pl (zs : List Str) : (zs.map D.str).all (D.pl 60) = true := by
  induction zs with
  | nil => rfl
  | cons z zs ih => rw [List.map_cons, List.all_cons, ih]; rfl
theorem strs_any (zs : List Str) (z : Str) : ((zs.map D.str).any fun y => deq y (.str z)) = decide (z ∈ zs) := by
  induction zs with
  | nil => rfl
  | cons y zs ih =>
    rw [List.map_cons, List.any_cons, ih, deq_str]
    by_cases c : y = z
    · subst c; simp
    · have : decide (y = z) = false := decide_eq_false c
      rw [this, Bool.false_or]
      by_cases c2 : z ∈ zs
      · simp [c2]
      · simp [c2, Ne.symm c]
theorem nodup_le {α : Type} [DecidableEq α] : ∀ {l zs : List α}, l.Nodup → (∀ x ∈ l, x ∈ zs) → l.length ≤ zs.length
  | [], _, _, _ => Nat.zero_le _
  | x :: l, zs, nd, h => by
    rw [List.nodup_cons] at nd
    have hx := h x (List.mem_cons_self ..)
    have := nodup_le (l := l) (zs := zs.erase x) nd.2 fun y hy => by
      refine (List.mem_erase_of_ne ?_).mpr (h y (List.mem_cons_of_mem _ hy))
      intro e; subst e; exact nd.1 hy
    rw [List.length_erase_of_mem hx] at this
    have hp : 0 < zs.length := List.length_pos_of_mem hx
    rw [List.length_cons]
    omega
theorem atI_take {α : Type} {l : List α} {n : Int} {c : α} {k : Nat} (h : atI l n = some c) (h0 : 0 ≤ n) (h1 : n < k) : c ∈ l.take k := by
  obtain ⟨m, rfl⟩ := Int.eq_ofNat_of_zero_le h0
  unfold atI ixN at h
  rw [if_pos h0] at h
  split at h
  · rw [Option.bind_some, Int.toNat_natCast] at h
    refine List.mem_of_getElem? (i := m) ?_
    rw [List.getElem?_take, if_pos (by omega)]
    exact h
  · cases h
structure IsC0 (K : PySem.W.Frag) (C : Addr) : Prop where
  ha : PySem.W.findIn K (.ref C) "__class__" = some (some (.builtin "object.__class__"))
  hn : PySem.W.specialIn K (.builtin "object.__class__") "__get__" = some (some (.builtin "getset_descriptor.__get__"))
  htk : PySem.W.takesIn K (.builtin "object.__class__") = some true
  hm : PySem.W.mroIn K C (.type "object") = some true
theorem IsC0.is {K : PySem.W.Frag} {C : Addr} (h : IsC0 K C) (cl : Cls K C) : IsC K C := ⟨cl, h.ha, h.hn, h.htk, h.hm⟩
theorem wb_cut {X : Cx} {B : Base} {ex : XD} {ss : Sst} {M : Mem} {N : Nd} {st : Stmt} {sts : List Stmt} (J : Sst → Mem → Prop) (h : WS X B ex st { N with nx := J } ss M) (h2 : ∀ ss' M', J ss' M' → WB X B ex sts N ss' M') : WB X B ex (st :: sts) N ss M := .mk fun ck G A H σ w sl E k => by
  refine tb_of (pss_cons ps_self pb_self) ?_
  refine h ck G A H σ w sl _ ⟨fun σ' ss' G' A' M' H' s' w' sl' q => ?_, k.rt, k.bk, k.ct⟩
  exact h2 ss' M' q ck G' A' H' σ' w' sl' E (k.mono s')
end Mb

/-! Mb, part 23: cells handed on by choice: a def, a making that gets some of our lists. -/
namespace Mb
open PySem L2 PyProof.Rows
theorem Cells.of_get {K : PySem.W.Frag} {G : Hp} {A : List Addr} {H : Hp} : ∀ {as : List Addr} {cs : List Cell}, as.length = cs.length → (∀ (j : Nat) a c, as[j]? = some a → cs[j]? = some c → CellOk K G A H a c) → Cells K G A H as cs
  | [], [], _, _ => .nil
  | [], _ :: _, h, _ => by cases h
  | _ :: _, [], h, _ => by cases h
  | a :: as, c :: cs, h, q => .cons (q 0 a c rfl rfl) (Cells.of_get (by simpa using h) fun j a c h1 h2 => q (j + 1) a c (by simpa using h1) (by simpa using h2))
/-- the cells at sel become cs -/
def putAll (M : Mem) : List Nat → List Cell → Mem
  | i :: sel, c :: cs => putAll (M.set i c) sel cs
  | _, _ => M
theorem putAll_len : ∀ {sel : List Nat} {cs : List Cell} {M : Mem}, (putAll M sel cs).length = M.length
  | [], [], M => rfl
  | [], _ :: _, M => rfl
  | _ :: _, [], M => rfl
  | i :: sel, c :: cs, M => by
    show (putAll (M.set i c) sel cs).length = _
    rw [putAll_len, List.length_set]
theorem putAll_out {j : Nat} : ∀ {sel : List Nat} {cs : List Cell} {M : Mem}, j ∉ sel → (putAll M sel cs)[j]? = M[j]?
  | [], [], M, _ => rfl
  | [], _ :: _, M, _ => rfl
  | _ :: _, [], M, _ => rfl
  | i :: sel, c :: cs, M, h => by
    rw [List.mem_cons, not_or] at h
    show (putAll (M.set i c) sel cs)[j]? = _
    rw [putAll_out h.2, List.getElem?_set_ne (Ne.symm h.1)]
theorem putAll_in {j k : Nat} {c : Cell} : ∀ {sel : List Nat} {cs : List Cell} {M : Mem}, sel.Nodup → sel.length = cs.length → sel[k]? = some j → cs[k]? = some c → j < M.length → (putAll M sel cs)[j]? = some c := by
  intro sel
  induction sel generalizing k with
  | nil => intro cs M _ _ h; simp at h
  | cons i sel ih =>
    intro cs M nd hl h1 h2 hj
    cases cs with
    | nil => cases hl
    | cons d cs =>
      rw [List.nodup_cons] at nd
      show (putAll (M.set i d) sel cs)[j]? = _
      cases k with
      | zero =>
        simp at h1 h2
        subst h1; subst h2
        rw [putAll_out nd.1]
        exact List.getElem?_set_self hj
      | succ k => exact ih nd.2 (by simpa using hl) (by simpa using h1) (by simpa using h2) (by rw [List.length_set]; exact hj)
/-- a callee that was handed the cells at sel (and x, new, ahead) comes back -/
theorem Wd.backSel {K : PySem.W.Frag} {B : Base} {G : Hp} {A : List Addr} {M : List Cell} {H : Hp} (w : Wd K B G A M H) {sel : List Nat} {S : List Addr} (hS : ∀ (k : Nat) i, sel[k]? = some i → ∃ a, A[i]? = some a ∧ S[k]? = some a) (hl : S.length = sel.length) (nds : sel.Nodup)
    {pre : List Addr} {H2 : Hp} (hp : ∀ b ∈ pre, H b = Option.none) (s2 : Same H H2) {G' : Hp} {A' : List Addr} {M' : List Cell} {H' : Hp} (w' : Wd K ⟨G, pre ++ S, H2⟩ G' A' M' H') (hM : M'.all (Cell.lt 0) = true) :
    Wd K B G' A (putAll M sel ((M'.drop pre.length).take sel.length)) H' ∧ Ext G A G' A := by
  obtain ⟨more, e⟩ := w'.pre
  have e : A' = pre ++ S ++ more := e
  subst e
  have hA := w.len
  have hlen := w'.len
  rw [List.length_append, List.length_append] at hlen
  have memS : ∀ b, b ∈ S → ∃ i, i ∈ sel ∧ A[i]? = some b := fun b m => by
    obtain ⟨k, hk⟩ := List.getElem?_of_mem m
    have hk2 : k < sel.length := by rw [← hl]; exact (List.getElem?_eq_some_iff.mp hk).1
    obtain ⟨a, h1, h2⟩ := hS k sel[k] (List.getElem?_eq_getElem hk2)
    rw [hk] at h2
    cases h2
    exact ⟨sel[k], List.getElem_mem hk2, h1⟩
  have keep : ∀ b o, H b = some o → b ∉ S → H' b = some o := fun b o e n => w'.fr b o (s2 _ _ e) (by
    show b ∉ pre ++ S
    rw [List.mem_append, not_or]
    refine ⟨fun m => ?_, n⟩
    rw [hp b m] at e; cases e)
  have sg : Ext G A G' A := ⟨w'.gg, [], by simp⟩
  refine ⟨⟨w.gg.trans w'.gg, w'.gh, fun b o e nb => ?_, fun b o e => ?_, w.nd, w.pre, fun b m => ?_, w.an, ?_⟩, sg⟩
  · refine keep b o (w.fr b o e nb) fun m => ?_
    obtain ⟨i, _, hi⟩ := memS b m
    rcases w.an b (List.mem_of_getElem? hi) with q | q
    · exact nb q
    · rw [q] at e; cases e
  · rcases w'.fresh b o e with q | q
    · exact w.fresh b o q
    · have q : H2 b = Option.none := q
      exact .inr (w.none (s2.free q)).1
  · by_cases c : b ∈ S
    · exact w'.there b (List.mem_append_left _ (List.mem_append_right _ c))
    · obtain ⟨o, e⟩ := w.there b m
      exact ⟨o, keep b o e c⟩
  · refine Cells.of_get (by rw [putAll_len]; exact hA) fun j a c h1 h2 => ?_
    have hj : j < M.length := by rw [← hA]; exact (List.getElem?_eq_some_iff.mp h1).1
    have hcs : sel.length = ((M'.drop pre.length).take sel.length).length := by
      rw [List.length_take, List.length_drop]
      omega
    by_cases hm : j ∈ sel
    · obtain ⟨k, hk⟩ := List.getElem?_of_mem hm
      have hk2 : k < sel.length := (List.getElem?_eq_some_iff.mp hk).1
      have hk3 : k < ((M'.drop pre.length).take sel.length).length := by omega
      have q := putAll_in (M := M) nds hcs hk (List.getElem?_eq_getElem hk3) hj
      rw [h2] at q
      cases q
      obtain ⟨a', e1, e2⟩ := hS k j hk
      rw [h1] at e1
      cases e1
      have g1 : (pre ++ S ++ more)[pre.length + k]? = some a := by
        rw [List.append_assoc, List.getElem?_append_right (by omega), Nat.add_sub_cancel_left, List.getElem?_append_left (by omega)]
        exact e2
      have g2 : M'[pre.length + k]? = some (((M'.drop pre.length).take sel.length)[k]) := by
        rw [List.getElem_take, List.getElem_drop, List.getElem?_eq_getElem]
      have q2 := (w'.cl.get g1 g2).cut (k := 0) (List.all_eq_true.mp hM _ (List.mem_of_getElem? g2))
      exact q2.keep ⟨fun _ _ e => e, A, by simp⟩ (fun g => g) fun _ e => e
    · rw [putAll_out hm] at h2
      have naS : a ∉ S := fun m => by
        obtain ⟨i, hi, ei⟩ := memS a m
        exact hm (by rw [nd_ix w.nd h1 ei]; exact hi)
      refine (w.cl.get h1 h2).keep sg (fun g => ?_) fun o e => keep a o e naS
      cases e : G' a with
      | none => rfl
      | some o =>
        rcases w'.fresh a o e with q | q
        · have q : G a = some o := q
          rw [g] at q; cases q
        · obtain ⟨o', e'⟩ := w.there a (List.mem_of_getElem? h1)
          have q : H2 a = Option.none := q
          rw [s2 _ _ e'] at q; cases q
end Mb

/-! Mb, part 24: the rules for calls that hand some cells on. -/
namespace Mb
open PySem L2 PyProof.Rows
def selOk (sel : List Nat) (xs : List SV) (M : Mem) : Bool := (xs.all fun x => match x with | .cel i => sel.contains i | .tup _ => false | _ => true) && (sel.all fun i => match M[i]? with | some c => c.lt 0 | none => false) && decide sel.Nodup
def renS (sel : List Nat) (off : Nat) : SV → SV
  | .cel i => .cel (off + sel.idxOf i)
  | x => x
def selM (sel : List Nat) (M : Mem) : Mem := sel.map fun i => M.getD i .dead
def selA (sel : List Nat) (A : List Addr) : List Addr := sel.map fun i => A.getD i 0
structure SelW (sel : List Nat) (A : List Addr) (M : Mem) : Prop where
  at_ : ∀ (k : Nat) i, sel[k]? = some i → ∃ a c, A[i]? = some a ∧ (selA sel A)[k]? = some a ∧ M[i]? = some c ∧ (selM sel M)[k]? = some c ∧ c.lt 0 = true
  nd : sel.Nodup
  xs : ∀ {K : PySem.W.Frag} {G : Hp} {pre : List Addr} {vs : List V} {xs : List SV}, (xs.all fun x => match x with | .cel i => sel.contains i | .tup _ => false | _ => true) = true → Svs K G A vs xs → Svs K G (pre ++ selA sel A) vs (xs.map (renS sel pre.length))
theorem selW {K : PySem.W.Frag} {B : Base} {G : Hp} {A : List Addr} {M : Mem} {H : Hp} {sel : List Nat} {ys : List SV} (w : Wd K B G A M H) (h : selOk sel ys M = true) : SelW sel A M := by
  unfold selOk at h
  rw [Bool.and_eq_true, Bool.and_eq_true] at h
  obtain ⟨⟨_, h2⟩, h3⟩ := h
  have hA := w.len
  have at1 : ∀ (k : Nat) i, sel[k]? = some i → ∃ a c, A[i]? = some a ∧ (selA sel A)[k]? = some a ∧ M[i]? = some c ∧ (selM sel M)[k]? = some c ∧ c.lt 0 = true := fun k i hk => by
    have q := List.all_eq_true.mp h2 i (List.mem_of_getElem? hk)
    cases e : M[i]? with
    | none => rw [e] at q; cases q
    | some c =>
      rw [e] at q
      have hi : i < A.length := by rw [hA]; exact (List.getElem?_eq_some_iff.mp e).1
      refine ⟨A[i], c, List.getElem?_eq_getElem hi, ?_, rfl, ?_, q⟩
      · unfold selA
        rw [List.getElem?_map, hk]
        show some (A.getD i 0) = _
        rw [List.getD_eq_getElem?_getD, List.getElem?_eq_getElem hi]
        rfl
      · unfold selM
        rw [List.getElem?_map, hk]
        show some (M.getD i .dead) = _
        rw [List.getD_eq_getElem?_getD, e]
        rfl
  refine ⟨at1, of_decide_eq_true h3, fun {K G pre vs xs} hx r => ?_⟩
  induction r with
  | nil => exact .nil
  | @cons v vs x xs s r ih =>
    rw [List.all_cons, Bool.and_eq_true] at hx
    refine .cons ?_ (ih hx.2)
    cases x with
    | dat d => exact s
    | raw u => exact s
    | xt ds => exact s
    | exc u v w => exact s
    | tup zs =>
      obtain ⟨a, us, q1, q2, q3⟩ := s
      exact absurd hx.1 Bool.false_ne_true
    | cel i =>
      obtain ⟨a, rfl, ha⟩ := s
      have hm : i ∈ sel := by simpa using hx.1
      have hlt := List.idxOf_lt_length_of_mem hm
      have hk : sel[sel.idxOf i]? = some i := by rw [List.getElem?_eq_getElem hlt, List.getElem_idxOf hlt]
      obtain ⟨a', c, e1, e2, _⟩ := at1 _ _ hk
      rw [ha] at e1
      cases e1
      refine ⟨a, rfl, ?_⟩
      rw [List.getElem?_append_right (by omega), Nat.add_sub_cancel_left]
      exact e2
theorem selA_len {sel : List Nat} {A : List Addr} : (selA sel A).length = sel.length := by unfold selA; rw [List.length_map]
theorem selM_len {sel : List Nat} {M : Mem} : (selM sel M).length = sel.length := by unfold selM; rw [List.length_map]
theorem SelW.hS {sel : List Nat} {A : List Addr} {M : Mem} (s : SelW sel A M) : ∀ (k : Nat) i, sel[k]? = some i → ∃ a, A[i]? = some a ∧ (selA sel A)[k]? = some a := fun k i h => by
  obtain ⟨a, c, e1, e2, _⟩ := s.at_ k i h
  exact ⟨a, e1, e2⟩
theorem SelW.mem {sel : List Nat} {A : List Addr} {M : Mem} (s : SelW sel A M) {b : Addr} (m : b ∈ selA sel A) : b ∈ A := by
  obtain ⟨k, hk⟩ := List.getElem?_of_mem m
  have hk2 : k < sel.length := by rw [← selA_len (sel := sel) (A := A)]; exact (List.getElem?_eq_some_iff.mp hk).1
  obtain ⟨a, e1, e2⟩ := s.hS k sel[k] (List.getElem?_eq_getElem hk2)
  rw [hk] at e2
  cases e2
  exact List.mem_of_getElem? e1
theorem SelW.nodup {K : PySem.W.Frag} {B : Base} {G : Hp} {H : Hp} {sel : List Nat} {A : List Addr} {M : Mem} (w : Wd K B G A M H) (s : SelW sel A M) : (selA sel A).Nodup := by
  refine List.pairwise_iff_getElem.mpr fun i j hi hj hij e => ?_
  rw [selA_len] at hi hj
  obtain ⟨a, e1, e2⟩ := s.hS i sel[i] (List.getElem?_eq_getElem hi)
  obtain ⟨b, e3, e4⟩ := s.hS j sel[j] (List.getElem?_eq_getElem hj)
  rw [List.getElem?_eq_getElem (by rw [selA_len]; exact hi)] at e2
  rw [List.getElem?_eq_getElem (by rw [selA_len]; exact hj)] at e4
  rw [Option.some.inj e2, Option.some.inj e4] at e
  subst e
  have q := nd_ix w.nd e1 e3
  have q2 := (List.getElem_inj s.nd).mp q
  omega
theorem SelW.cells {K : PySem.W.Frag} {B : Base} {G : Hp} {H H2 : Hp} {sel : List Nat} {A A2 : List Addr} {M : Mem} (w : Wd K B G A M H) (s : SelW sel A M) (s2 : Same H H2) : Cells K G A2 H2 (selA sel A) (selM sel M) := by
  refine Cells.of_get (by rw [selA_len, selM_len]) fun k a c h1 h2 => ?_
  have hk : k < sel.length := by rw [← selA_len (sel := sel) (A := A)]; exact (List.getElem?_eq_some_iff.mp h1).1
  obtain ⟨a', c', e1, e2, e3, e4, e5⟩ := s.at_ k sel[k] (List.getElem?_eq_getElem hk)
  rw [h1] at e2
  rw [h2] at e4
  cases e2
  cases e4
  have q := (w.cl.get e1 e3).cut (k := 0) e5
  exact q.keep ⟨fun _ _ e => e, A2, by simp⟩ (fun g => g) fun o e => s2 _ _ e
section
variable {X : Cx} {B : Base} {ex : XD} {ss : Sst} {M : Mem} {a b c e tg o : Expr} {es : List Expr} {pos p p' apos : Pos} {Q : SV → Mem → Prop}
structure MakeS (sel : List Nat) (S : SpD) (C : Addr) (xs : List SV) (M : Mem) (Q : SV → Mem → Prop) (ex : XD) (ss : Sst) : Prop where
  ok : selOk sel xs M = true
  run : S (.cel 0 :: xs.map (renS sel 1)) (.ins C [] :: selM sel M) (fun y M' => y = .dat .non ∧ M'.all (Cell.lt 0) = true ∧ ∃ fs ds, M'[0]? = some (.ins C fs) ∧ fdats fs = some ds ∧ Q (.dat (.ins C ds)) (putAll M sel ((M'.drop 1).take sel.length))) (fun D fs M' => M'.all (Cell.lt 0) = true ∧ ex D fs ss (putAll M sel ((M'.drop 1).take sel.length)))
theorem make_spS {sel : List Nat} {S : SpD} {C : Addr} {xs : List SV} {G : Hp} {A : List Addr} {H : Hp} {vs : List V} {σ : L2.St} {Kq : VK} (w : Wd X.K B G A M H) (sl : Sl X.K G A σ ss) (r : Svs X.K G A vs xs) (h : MakeS sel S C xs M Q ex ss) (k : VPost X.K B G A Q Kq) :
    ∀ x dx, H x = none → H dx = none → dx ≠ x → spOf X.K (1 + sel.length) S (.ref x :: vs) (upd (upd H dx (.own x)) x (.ins C dx [])) (fun v H2 => v = .non ∧ Kq (.ref x) H2) (fun cls d H' => XW X.K B ex cls d σ H') := fun x dx hx hdx ne => by
  have hc := h.ok
  have sw := selW w hc
  have hxs := hc
  unfold selOk at hxs
  rw [Bool.and_eq_true, Bool.and_eq_true] at hxs
  have hx2 : (upd H dx (.own x)) x = none := by rw [upd_ne (Ne.symm ne)]; exact hx
  have s2 : Same H (upd (upd H dx (.own x)) x (.ins C dx [])) := (same_upd hdx).trans (same_upd hx2)
  obtain ⟨hb, hA, hg⟩ := w.none hx
  have r2 := sw.xs (pre := [x]) hxs.1.1 r
  refine ⟨.cel 0 :: xs.map (renS sel 1), .ins C [] :: selM sel M, G, [x] ++ selA sel A, by rw [List.length_append, selA_len]; rfl, Wd.start (w.gh.trans s2) ?_ (fun b m => ?_) (.cons ⟨hg, dx, [], upd_same, .nil⟩ (sw.cells w s2)), .cons ⟨x, rfl, rfl⟩ r2, _, _, h.run, ?_, ?_⟩
  · refine List.nodup_cons.mpr ⟨fun m => hA (sw.mem m), sw.nodup w⟩
  · rcases List.mem_append.mp m with m | m
    · rw [List.mem_singleton] at m; subst m; exact ⟨_, upd_same⟩
    · obtain ⟨o, e⟩ := w.there b (sw.mem m)
      exact ⟨o, s2 _ _ e⟩
  · intro v y G' A' M' H' w' s' hl q
    obtain ⟨rfl, hM0, fs, ds, hM, hf, q⟩ := q
    cases s'
    refine ⟨rfl, ?_⟩
    obtain ⟨w2, e2⟩ := w.backSel sw.hS selA_len sw.nd (pre := [x]) (fun b m => by rw [List.mem_singleton] at m; subst m; exact hx) s2 w' hM0
    obtain ⟨more, eA⟩ := w'.pre
    have gx : A'[0]? = some x := by rw [eA]; rfl
    obtain ⟨gn, dx', fv, hv, rf⟩ := w'.cl.get gx hM
    obtain ⟨w3, e3⟩ := w2.adopt hv hA gn hb
    exact k _ (.dat _) _ A _ H' (e2.trans e3) w3 (Rep.ins upd_same ((rf.repF hf).mono e3.1) ((rf.nx hf).mono e3.1)) q
  · intro D fs d G' A' M' H' w' xd hl q
    obtain ⟨hM0, q⟩ := q
    obtain ⟨w2, e2⟩ := w.backSel sw.hS selA_len sw.nd (pre := [x]) (fun b m => by rw [List.mem_singleton] at m; subst m; exact hx) s2 w' hM0
    exact ⟨D, fs, ss, G', A, _, rfl, xd, w2, sl.mono e2, q⟩
/-- C(..) that is handed some of our cells, too -/
theorem we_makeS {x : Str} {C f : Addr} {fd : FuncData} {ps : List Str} {k : Nat} {S : SpD} (sel : List Nat) (Mk0 : Mk X.K C f) (F : FnOk X.prog X.w X.K X.mg X.base (L2.CX X.prog X.w) k f fd ps (spOf X.K (1 + sel.length) S)) (hr : Room (k + 1) X.A) (hm : X.mg x = some (.ref C))
    (hb : Binds X.K fd ps []) (hg : Gl X x)
    (h : WA X B ex (e :: es) (fun xs M1 => MakeS sel S C xs M1 Q ex ss) ss M) (hdb : (x == ("__debug__" : Str)) = false := by decide) (he : starEach (e :: es) X.env = (false, eval e X.env) :: starEach es X.env := by rfl) (hpl : (backTo pos (starEach es X.env)).any (·.1) = false := by rfl) :
    WE X B ex (.Call (.Name x p) (e :: es) [] pos) Q ss M := .mk fun ck G A H σ w sl Kq kk pins s I => by
  refine wpAny_Call_Name_kw (ld_glob I hg hm ?_ hdb)
  have hO : taW X (e :: es) σ H (fun vs H1 => ∀ x dx, H1 x = none → H1 dx = none → dx ≠ x → spOf X.K (1 + sel.length) S (.ref x :: (vs ++ [])) (upd (upd H1 dx (.own x)) x (.ins C dx [])) (fun v H2 => v = .non ∧ Kq (.ref x) H2) (fun cls d H' => XW X.K B ex cls d σ H')) := by
    refine h ck G A H σ w sl _ fun vs xs G1 A1 M1 H1 e1 w1 s1 h1 => ?_
    rw [List.append_nil]
    exact make_spS w1 (sl.mono e1) s1 h1 fun v x G' A' M' H' e' => kk v x G' A' M' H' (e1.trans e')
  refine PySem.W.callWith_K (h₀ := X.base) I.ok.mod.kin Mk0.kp (thn (hO pos pins s I) fun us s1 ⟨vs, H1, I1, r, q⟩ => ⟨I1.kIn, ?_⟩) he hpl
  exact run_makeS Mk0 F hr hb .nil (ck.at σ) I1 r q
structure CallS (sel : List Nat) (S : SpD) (xs : List SV) (M : Mem) (Q : SV → Mem → Prop) (ex : XD) (ss : Sst) : Prop where
  ok : selOk sel xs M = true
  run : S (xs.map (renS sel 0)) (selM sel M) (fun x M' => (M'.all (Cell.lt 0) && x.lt 0) = true ∧ Q x (putAll M sel (M'.take sel.length))) (fun C fs M' => M'.all (Cell.lt 0) = true ∧ ex C fs ss (putAll M sel (M'.take sel.length)))
theorem call_spS {sel : List Nat} {S : SpD} {xs : List SV} {G : Hp} {A : List Addr} {H : Hp} {vs : List V} {σ : L2.St} {Kq : VK} (w : Wd X.K B G A M H) (sl : Sl X.K G A σ ss) (r : Svs X.K G A vs xs) (h : CallS sel S xs M Q ex ss) (k : VPost X.K B G A Q Kq) :
    spOf X.K sel.length S vs H Kq (fun cls d H' => XW X.K B ex cls d σ H') := by
  have hc := h.ok
  have sw := selW w hc
  have hxs := hc
  unfold selOk at hxs
  rw [Bool.and_eq_true, Bool.and_eq_true] at hxs
  have r2 := sw.xs (pre := []) hxs.1.1 r
  refine ⟨xs.map (renS sel 0), selM sel M, G, selA sel A, selA_len, Wd.start w.gh (sw.nodup w) (fun b m => w.there b (sw.mem m)) (sw.cells w (Same.refl _)), r2, _, _, h.run, ?_, ?_⟩
  · intro v y G' A' M' H' w' s' hl q
    obtain ⟨hM0, q⟩ := q
    rw [Bool.and_eq_true] at hM0
    obtain ⟨w2, e2⟩ := w.backSel (pre := []) (H2 := H) sw.hS selA_len sw.nd (fun b m => by cases m) (Same.refl _) w' hM0.1
    have s0 := s'.cut (k := 0) hM0.2
    rw [List.take_zero] at s0
    exact k v y G' A _ H' e2 w2 (s0.mono ⟨fun _ _ e => e, A, by simp⟩) q
  · intro D fs d G' A' M' H' w' xd hl q
    obtain ⟨hM0, q⟩ := q
    obtain ⟨w2, e2⟩ := w.backSel (pre := []) (H2 := H) sw.hS selA_len sw.nd (fun b m => by cases m) (Same.refl _) w' hM0
    exact ⟨D, fs, ss, G', A, _, rfl, xd, w2, sl.mono e2, q⟩
/-- f(..) that is handed some of our cells -/
theorem we_ownS {x : Str} {k : Nat} {S : SpD} (sel : List Nat) (F : Cal X.prog X.w X.K X.mg X.base x k sel.length S) (hr : Room k X.A) (hg : Gl X x) (h : WA X B ex (e :: es) (fun xs M1 => CallS sel S xs M1 Q ex ss) ss M)
    (hdb : (x == ("__debug__" : Str)) = false := by decide) (he : starEach (e :: es) X.env = (false, eval e X.env) :: starEach es X.env := by rfl) (hpl : (backTo pos (starEach es X.env)).any (·.1) = false := by rfl) : WE X B ex (.Call (.Name x p) (e :: es) [] pos) Q ss M := .mk fun ck G A H σ w sl Kq kk => by
  obtain ⟨f, fd, ps, F, hm, hk, hb⟩ := F
  refine te_of (pe_callSD (E := fun σ cls d H' => XW X.K B ex cls d σ H') (dvs := []) F hr hg hm hk hb .nil ck.at pa_self hdb he hpl) ?_
  refine h ck G A H σ w sl _ fun vs xs G1 A1 M1 H1 e1 w1 s1 h1 => ?_
  rw [List.append_nil]
  exact call_spS w1 (sl.mono e1) s1 h1 fun v x G' A' M' H' e' => kk v x G' A' M' H' (e1.trans e')
/-- a slice that will be changed -/
theorem we_sliceC {lo hi : Option Expr} {p2 : Pos} (h : WE X B ex e (fun x M1 => WO X B ex lo (fun l M2 => WO X B ex hi (fun u M3 => with1 M3 x fun d => ∃ ds, d = .lst ds ∧ Q (.cel M3.length) (M3 ++ [.lst (cutD ds l u)])) ss M2) ss M1) ss M) : WE X B ex (.Subscript e (.Slice lo hi none p2) pos) Q ss M := .mk fun ck G A H σ w sl Kq k => by
  refine te_of (pe_slice sl_list pe_self po_self po_self) ?_
  refine h ck G A H σ w sl _ fun v x G1 A1 M1 H1 e1 w1 s1 h1 => ?_
  refine WO.goes ck h1 w1 (sl.mono e1) fun l G2 A2 M2 H2 e2 w2 h2 => ?_
  refine WO.goes ck h2 w2 (sl.mono (e1.trans e2)) fun u G3 A3 M3 H3 e3 w3 h3 => ?_
  have s3 := s1.mono (e2.trans e3)
  obtain ⟨d, g, ds, rfl, h3⟩ := with1_get h3
  obtain ⟨t, vs, rfl, ht, r⟩ := s3.s w3 g
  refine ⟨t, vs, rfl, .inl ht, fun p hp => ?_⟩
  exact VPost.newC (M := M3) k ((e1.trans e2).trans e3) w3 (cutV_reps r _ _) h3 p hp
end
end Mb

/-! Mb, part 25: dict displays, d.get(k, x), comprehensions with a test. -/
namespace Mb
open PySem L2 PyProof.Rows
section
variable {X : Cx} {B : Base} {ex : XD} {ss : Sst} {M : Mem} {a b c e f tg o : Expr} {es : List Expr} {pos p p' apos : Pos} {Q : SV → Mem → Prop}
/-- keys and values, data, pair by pair -/
def WPs (X : Cx) (B : Base) (ex : XD) : List Expr → List Expr → (List (Key × D) → Mem → Prop) → Sst → Mem → Prop
  | k :: ks, v :: vs, Q, ss, M => WE X B ex k (fun x M1 => ∃ dk key, x = .dat dk ∧ keyD dk = some key ∧ WE X B ex v (fun y M2 => ∃ dv, y = .dat dv ∧ WPs X B ex ks vs (fun ps M3 => Q ((key, dv) :: ps) M3) ss M2) ss M1) ss M
  | [], [], Q, _, M => Q [] M
  | _, _, _, _, _ => False
def trsOf (X : Cx) : List Expr → List Expr → List (TE × TE)
  | k :: ks, v :: vs => (teW X k, teW X v) :: trsOf X ks vs
  | _, _ => []
theorem pps_self : ∀ {ks vs : List Expr}, ks.length = vs.length → PPs X pos (ks.map some) vs (trsOf X ks vs)
  | [], [], _ => pps_nil
  | [], _ :: _, h => by cases h
  | _ :: _, [], h => by cases h
  | k :: ks, v :: vs, h => pps_cons pe_self pe_self (pps_self (by simpa using h))
theorem WPs.goes {σ : L2.St} (ck : Cok X B ex) : ∀ {ks vs : List Expr} {QP : List (Key × D) → Mem → Prop} {G A M H} {Kq : List (V × V) → Hp → Prop}, WPs X B ex ks vs QP ss M → Wd X.K B G A M H → Sl X.K G A σ ss →
    (∀ kv kvs G' A' M' H', Ext G A G' A' → Wd X.K B G' A' M' H' → RepK X.K G' kv kvs → QP kvs M' → Kq (kv.map fun x => (kV x.1, x.2)) H') → tPairs (trsOf X ks vs) σ H Kq
  | [], [], QP, G, A, M, H, Kq, h, w, sl, k => k [] [] G A M H .refl w .nil h
  | [], _ :: _, _, _, _, _, _, _, h, _, _, _ => h.elim
  | _ :: _, [], _, _, _, _, _, _, h, _, _, _ => h.elim
  | e :: ks, f :: vs, QP, G, A, M, H, Kq, h, w, sl, k => by
    have h : WE X B ex e (fun x M1 => ∃ dk key, x = .dat dk ∧ keyD dk = some key ∧ WE X B ex f (fun y M2 => ∃ dv, y = .dat dv ∧ WPs X B ex ks vs (fun ps M3 => QP ((key, dv) :: ps) M3) ss M2) ss M1) ss M := h
    refine h ck G A H σ w sl _ fun u x G1 A1 M1 H1 e1 w1 s1 h1 => ?_
    obtain ⟨dk, key, rfl, hk, h1⟩ := h1
    refine h1 ck G1 A1 H1 σ w1 (sl.mono e1) _ fun v y G2 A2 M2 H2 e2 w2 s2 h2 => ?_
    obtain ⟨dv, rfl, h2⟩ := h2
    obtain rfl := keyD_kV (Rep.s w1.gh (show Rep X.K G1 u dk from s1)) hk
    refine WPs.goes ck h2 w2 (sl.mono (e1.trans e2)) fun kv kvs G3 A3 M3 H3 e3 w3 r q => ?_
    exact k ((key, v) :: kv) ((key, dv) :: kvs) G3 A3 M3 H3 ((e1.trans e2).trans e3) w3 (.cons (Rep.mono e3.1 s2) r) q
def mergeD (kvs more : List (Key × D)) : List (Key × D) := more.foldl (fun acc kv => putD acc kv.1 kv.2) kvs
theorem RepK.merge {K : PySem.W.Frag} {G : Hp} : ∀ {kv2 : List (Key × V)} {kvs2 : List (Key × D)}, RepK K G kv2 kvs2 → ∀ {kv : List (Key × V)} {kvs : List (Key × D)}, RepK K G kv kvs → RepK K G (mergeK kv kv2) (mergeD kvs kvs2)
  | _, _, .nil, _, _, r => r
  | (g, u) :: kv2, (_, y) :: kvs2, .cons h r2, kv, kvs, r => by
    show RepK K G (mergeK (putK kv g u) kv2) (mergeD (putD kvs g y) kvs2)
    exact RepK.merge r2 (r.put h)
/-- {k: v, ..}: a dict of ours -/
theorem we_disp {ks vs : List Expr} (h : WPs X B ex ks vs (fun kvs M1 => ∃ M2, M1 = M2 ++ [.dic []] ∧ M2.length = M.length ∧ kvs.length ≤ 15 ∧ Q (.cel M.length) (M2 ++ [.dic (mergeD [] kvs)])) ss (M ++ [.dic []])) (hl : ks.length = vs.length := by rfl) (h0 : ks ≠ [] := by intro z; cases z) (h15 : ks.length ≤ 15 := by decide) :
    WE X B ex (.Dict (ks.map some) vs pos) Q ss M := .mk fun ck G A H σ w sl Kq k => by
  have hall : (ks.map some).all (·.isSome) = true := by rw [List.all_map, List.all_eq_true]; intro x _; rfl
  refine te_of (pe_disp (pps_self hl) hall (by rw [List.length_map]; exact hl) (fun z => h0 (List.map_eq_nil_iff.mp z)) (by rw [List.length_map]; exact h15)) fun q hq => ?_
  obtain ⟨w1, e1⟩ := w.newC (c := .dic []) (o := .dK []) hq ⟨(w.none hq).2.2, [], upd_same, .nil⟩
  refine WPs.goes ck h w1 (sl.mono e1) fun kv kvs G2 A2 M1 H2 e2 w2 r hQ => ?_
  obtain ⟨M2, rfl, hM, hk, hQ⟩ := hQ
  have gA : A2[M.length]? = some q := by
    refine pre_get e2.2 ?_
    rw [← w.len, List.getElem?_append_right (Nat.le_refl _), Nat.sub_self]
    rfl
  have gM : (M2 ++ [Cell.dic []])[M.length]? = some (.dic []) := by
    rw [← hM, List.getElem?_append_right (Nat.le_refl _), Nat.sub_self]
    rfl
  obtain ⟨gn, kv0, hv, r0⟩ := w2.cl.get gA gM
  cases r0
  refine ⟨hv, kv, rfl, by rw [r.length]; exact hk, ?_⟩
  have w3 := w2.setC (c' := .dic (mergeD [] kvs)) (o := .dK (mergeK [] kv)) gA gn ⟨gn, _, upd_same, RepK.merge r .nil⟩
  have em : (M2 ++ [Cell.dic []]).set M.length (.dic (mergeD [] kvs)) = M2 ++ [.dic (mergeD [] kvs)] := by
    rw [← hM, List.set_append_right _ _ (Nat.le_refl _), Nat.sub_self]
    rfl
  rw [em] at w3
  exact k _ (.cel M.length) G2 A2 _ _ (e1.trans e2) w3 ⟨q, rfl, gA⟩ hQ
/-- d.get(k, x) -/
theorem we_dget2 {k : Nat} (hr : Room k X.A) (h : WE X B ex o (fun x M1 => (∃ kvs, x.get M1 = some (.dic kvs)) ∧ WE X B ex e (fun y M2 => WE X B ex f (fun z M3 => ∃ kvs dy key, x.get M3 = some (.dic kvs) ∧ y = .dat dy ∧ keyD dy = some key ∧ Q (match valD kvs key with | some d => .dat d | none => z) M3) ss M2) ss M1) ss M)
    (m : M2 X o "get" apos e f pos := by exact ⟨rfl, rfl, rfl, rfl⟩) : WE X B ex (.Call (.Attribute o "get" apos) [e, f] [] pos) Q ss M := .mk fun ck G A H σ w sl Kq kk => by
  refine te_of (pe_dget2 (hu_of hr) pe_self pe_self pe_self m) ?_
  refine h ck G A H σ w sl _ fun u x G1 A1 M1 H1 e1 w1 s1 h1 => ?_
  obtain ⟨⟨kvs0, g0⟩, h1⟩ := h1
  obtain ⟨l, kv0, rfl, hl, r0⟩ := s1.s w1 g0
  refine ⟨l, rfl, .inl ⟨kv0, .inl hl⟩, ?_⟩
  refine h1 ck G1 A1 H1 σ w1 (sl.mono e1) _ fun v y G2 A2 M2 H2 e2 w2 s2 h2 => ?_
  refine h2 ck G2 A2 H2 σ w2 (sl.mono (e1.trans e2)) _ fun z zz G3 A3 M3 H3 e3 w3 s3 h3 => ?_
  obtain ⟨kvs, dy, key, g, rfl, hk, q⟩ := h3
  obtain ⟨l', kv, el, hl', r⟩ := (s1.mono (e2.trans e3)).s w3 g
  cases el
  obtain rfl := keyD_kV (Rep.s w2.gh (show Rep X.K G2 v dy from s2)) hk
  refine ⟨_, DGet.k hl', ?_⟩
  cases ev : valD kvs key with
  | none =>
    rw [ev] at q
    rw [r.valN ev]
    exact kk z zz G3 A3 M3 H3 ((e1.trans e2).trans e3) w3 s3 q
  | some d =>
    rw [ev] at q
    obtain ⟨vz, hz, rz⟩ := r.valS d ev
    rw [hz]
    exact kk vz (.dat d) G3 A3 M3 H3 ((e1.trans e2).trans e3) w3 rz q
end
section
variable {X : Cx} {B : Base} {ex : XD} {ss : Sst} {M : Mem} {a b e elt c : Expr} {es : List Expr} {pos : Pos} {Q : SV → Mem → Prop} {scope : Scope} {α : Type}
theorem filter_take_succ {f : α → D} {pr : α → Bool} {l : List α} {i : Nat} {x : α} (h : l[i]? = some x) : ((l.take (i + 1)).filter pr).map f = ((l.take i).filter pr).map f ++ (if pr x = true then [f x] else []) := by
  have e : l.take (i + 1) = l.take i ++ [x] := by
    have := map_take_succ id h
    simpa using this.symm
  rw [e, List.filter_append, List.map_append]
  congr 1
  cases hp : pr x <;> simp [hp]
/-- [f x for x in l if pr x] -/
theorem lcq_filter {j : Nat} {l : List α} {g : α → D} (f : α → D) (pr : α → Bool) (hl : l.length ≤ sizeLine)
    (ht : ∀ (i : Nat) (x : α), l[i]? = some x → ∀ (s : Shared) (H : Hp) (C : Addr) (cl : List (Str × Addr)) (fp : List Addr) (B : Base), B.A.length = M.length → WT (Blk X scope s H C cl fp) B exF c (fun b M4 => b = pr x ∧ M4 = M) ((wipeD ss [j]).set j (some (.dat (g x)))) M)
    (he : ∀ (i : Nat) (x : α), l[i]? = some x → pr x = true → ∀ (s : Shared) (H : Hp) (C : Addr) (cl : List (Str × Addr)) (fp : List Addr) (B : Base), B.A.length = M.length → WE (Blk X scope s H C cl fp) B exF elt (fun y M4 => y = .dat (f x) ∧ M4 = M) ((wipeD ss [j]).set j (some (.dat (g x)))) M)
    (q : Q (.dat (.lst ((l.filter pr).map f))) M) : ∃ I, I 0 [] M ∧ LcQ X scope elt [c] (tg1 j) [j] (l.map g) I Q ss := by
  refine ⟨fun i acc M' => i ≤ l.length ∧ acc = ((l.take i).filter pr).map f ∧ M' = M, ⟨Nat.zero_le _, rfl, rfl⟩, ?_, ?_⟩
  · rintro i d acc M' hd ⟨hi, rfl, rfl⟩
    obtain ⟨x, hx, rfl⟩ := map_get hd
    have hlt := (List.getElem?_eq_some_iff.mp hx).1
    have hst := filter_take_succ (f := f) (pr := pr) hx
    intro s H C cl fp B hB
    refine .mk fun ck G A H' σ w sl Kq k => ht i x hx s H C cl fp B hB ck G A H' σ w sl Kq fun b G' A' M4 H4 e' w' hb => k b G' A' M4 H4 e' w' ?_
    obtain ⟨rfl, rfl⟩ := hb
    cases hp : pr x with
    | true =>
      rw [if_pos rfl]
      intro s H C cl fp B hB
      refine (he i x hx hp s H C cl fp B hB).mono ?_
      rintro y M5 ⟨rfl, rfl⟩
      refine ⟨_, rfl, ?_, hlt, ?_, rfl⟩
      · have h1 := List.length_filter_le pr (l.take i)
        rw [List.length_map]
        rw [List.length_take] at h1
        omega
      · rw [hst, if_pos hp]
    | false =>
      rw [if_neg Bool.false_ne_true]
      exact ⟨hlt, by rw [hst, if_neg (by rw [hp]; exact Bool.false_ne_true), List.append_nil], rfl⟩
  · rintro acc M' ⟨_, rfl, rfl⟩
    rw [List.length_map, List.take_length]
    exact q
end
end Mb

/-! Mb, part 26: comprehensions with a test over pairs. -/
namespace Mb
open PySem L2 PyProof.Rows
section
variable {X : Cx} {B : Base} {ex : XD} {ss : Sst} {M : Mem} {a b e elt c : Expr} {es : List Expr} {pos : Pos} {Q : SV → Mem → Prop} {scope : Scope} {α : Type}
/-- [f x for a, b in l if pr x] -/
theorem lcq_filter2 {j j2 : Nat} {l : List α} {ga gb : α → D} (f : α → D) (pr : α → Bool) (hl : l.length ≤ sizeLine)
    (ht : ∀ (i : Nat) (x : α), l[i]? = some x → ∀ (s : Shared) (H : Hp) (C : Addr) (cl : List (Str × Addr)) (fp : List Addr) (B : Base), B.A.length = M.length → WT (Blk X scope s H C cl fp) B exF c (fun b M4 => b = pr x ∧ M4 = M) (((wipeD ss [j, j2]).set j (some (.dat (ga x)))).set j2 (some (.dat (gb x)))) M)
    (he : ∀ (i : Nat) (x : α), l[i]? = some x → pr x = true → ∀ (s : Shared) (H : Hp) (C : Addr) (cl : List (Str × Addr)) (fp : List Addr) (B : Base), B.A.length = M.length → WE (Blk X scope s H C cl fp) B exF elt (fun y M4 => y = .dat (f x) ∧ M4 = M) (((wipeD ss [j, j2]).set j (some (.dat (ga x)))).set j2 (some (.dat (gb x)))) M)
    (q : Q (.dat (.lst ((l.filter pr).map f))) M) : ∃ I, I 0 [] M ∧ LcQ X scope elt [c] (tg2 j j2) [j, j2] (l.map fun x => .tup [ga x, gb x]) I Q ss := by
  refine ⟨fun i acc M' => i ≤ l.length ∧ acc = ((l.take i).filter pr).map f ∧ M' = M, ⟨Nat.zero_le _, rfl, rfl⟩, ?_, ?_⟩
  · rintro i d acc M' hd ⟨hi, rfl, rfl⟩
    obtain ⟨x, hx, rfl⟩ := map_get hd
    have hlt := (List.getElem?_eq_some_iff.mp hx).1
    have hst := filter_take_succ (f := f) (pr := pr) hx
    refine ⟨_, _, rfl, ?_⟩
    intro s H C cl fp B hB
    refine .mk fun ck G A H' σ w sl Kq k => ht i x hx s H C cl fp B hB ck G A H' σ w sl Kq fun b G' A' M4 H4 e' w' hb => k b G' A' M4 H4 e' w' ?_
    obtain ⟨rfl, rfl⟩ := hb
    cases hp : pr x with
    | true =>
      rw [if_pos rfl]
      intro s H C cl fp B hB
      refine (he i x hx hp s H C cl fp B hB).mono ?_
      rintro y M5 ⟨rfl, rfl⟩
      refine ⟨_, rfl, ?_, hlt, ?_, rfl⟩
      · have h1 := List.length_filter_le pr (l.take i)
        rw [List.length_map]
        rw [List.length_take] at h1
        omega
      · rw [hst, if_pos hp]
    | false =>
      rw [if_neg Bool.false_ne_true]
      exact ⟨hlt, by rw [hst, if_neg (by rw [hp]; exact Bool.false_ne_true), List.append_nil], rfl⟩
  · rintro acc M' ⟨_, rfl, rfl⟩
    rw [List.length_map, List.take_length]
    exact q
end
section
variable {X : Cx} {B : Base} {ex : XD} {ss : Sst} {M : Mem} {a b c e f tg o : Expr} {es : List Expr} {pos p p' apos : Pos} {Q : SV → Mem → Prop}
theorem we_dispK {keys : List (Option Expr)} {vs : List Expr} (h : WPs X B ex (keys.filterMap id) vs (fun kvs M1 => ∃ M2, M1 = M2 ++ [.dic []] ∧ M2.length = M.length ∧ kvs.length ≤ 15 ∧ Q (.cel M.length) (M2 ++ [.dic (mergeD [] kvs)])) ss (M ++ [.dic []])) (hk : keys = (keys.filterMap id).map some := by rfl) (hl : (keys.filterMap id).length = vs.length := by rfl) (h0 : keys.filterMap id ≠ [] := by intro z; cases z) (h15 : (keys.filterMap id).length ≤ 15 := by decide) :
    WE X B ex (.Dict keys vs pos) Q ss M := by
  rw [hk]
  exact we_disp h hl h0 h15
theorem we_dgetV {k : Nat} (hr : Room k X.A) (h : WE X B ex o (fun x M1 => (∃ kvs, x.get M1 = some (.dic kvs)) ∧ WE X B ex e (fun y M2 => WE X B ex f (fun z M3 => ∃ kvs dy key v, x.get M3 = some (.dic kvs) ∧ y = .dat dy ∧ keyD dy = some key ∧ (match valD kvs key with | some d => SV.dat d | none => z) = v ∧ Q v M3) ss M2) ss M1) ss M)
    (m : M2 X o "get" apos e f pos := by exact ⟨rfl, rfl, rfl, rfl⟩) : WE X B ex (.Call (.Attribute o "get" apos) [e, f] [] pos) Q ss M :=
  we_dget2 hr (h.mono fun x M1 h1 => ⟨h1.1, h1.2.mono fun y M2 h2 => h2.mono fun z M3 ⟨kvs, dy, key, v, a1, a2, a3, a4, q⟩ => ⟨kvs, dy, key, a1, a2, a3, by subst a4; cases ev : valD kvs key <;> simp only [ev] at q ⊢ <;> exact q⟩⟩) m
end
end Mb

/-! Mb, part 27: != of instances with an own __eq__. -/
namespace Mb
open PySem PySem.W
section
variable {prog : Program} {w : World} {A : Around} {E : Value → Shared → Prop} {s : Shared} {K : Frag} {x C f : Addr} {ox : Obj} {od : Option Obj} {b tb : Value}
/-- x != b, x an own instance whose class has object's __ne__ and an own __eq__ at f -/
theorem cmp_KN {Q : Value → Shared → Prop} (hu : A.units < cLine) (hu1 : A.in1.units < cLine) (X : K.In s.heap) (I : InstAt s.heap x ox C od) (hb : Looks (model prog w) s.heap (typeOf b) tb) (hn : notFirst K C tb = true)
    (hs : findIn K (.ref C) "__ne__" = some (some (.builtin "object.__ne__"))) (he : findIn K (.ref C) "__eq__" = some (some (.ref f))) (hf : isFn K (.ref f) = true) (ho : Looks (model prog w) s.heap (isInstance (.ref x) (.type "object")) true)
    (h : wpAny (model prog w) A.in1 (call (.ref f) [.ref x, b]) (fun v s' => ∃ k, v = .bool k ∧ Q (.bool (!k)) s') E s) : wpAny (model prog w) A (richCompare .NotEq (.ref x) b) Q E s := by
  have body : wpAny (model prog w) A (call (.builtin "object.__ne__") [.ref x, b]) (fun v s' => ∃ k, v = .bool k ∧ Q v s') E s := by
    refine wpAny_call (codeAny_call_builtin PySem.F.cmp_object.ne.plain PySem.F.cmpEntry_ne (check_slot PySem.F.cmpKind_ne PySem.F.cmpSplit_ne ho (PySem.F.cmpArgs_ne _ _) ?_))
    have e : Builtin.«object.__ne__» ⟨[.ref x, b], []⟩ = (do
        cRoomFor "comparison" [.ref x, b]
        match ← callSpecialIfBound? (.ref x) "__eq__" [b] with
        | some .notImplemented | none => ret .notImplemented
        | some r => ret (.bool (!(← truthy r)))) := by rfl
    rw [e]
    refine wpAny_bind (wpAny_cRoomFor hu1 ?_)
    refine wpAny_bind (ifBound_K X I he hf (wpAny_mono h (fun v s' q => ?_) fun _ _ e => e))
    obtain ⟨k, rfl, q⟩ := q
    refine wpAny_bind (wpAny_truthy_bool ?_)
    wp_walk
    exact ⟨_, rfl, q⟩
  have cs : wpAny (model prog w) A (callSpecialIfBound? (.ref x) "__ne__" [b]) (fun r s' => ∃ k, r = some (.bool k) ∧ Q (.bool k) s') E s := by
    simp only [callSpecialIfBound?, bindSpecialIfBound?]
    refine wpAny_holding (wpAny_bind (wpAny_bind (wpAny_bind (I.type.here ((looks_findIn X hs).here ?_)))))
    simp only [PySem.F.cmp_object.ne.bind]
    refine wpAny_bind (wpAny_askSetting (wpAny_ite ?_))
    have fin : wpAny (model prog w) A (call (.builtin "object.__ne__") ([.ref x] ++ [b]) >>= fun v => pure (some v)) (fun r s' => ∃ k, r = some (.bool k) ∧ Q (.bool k) s') E s := wpAny_bind (wpAny_mono body (fun v s' h' => by obtain ⟨k, rfl, q⟩ := h'; exact wpAny_pure ⟨k, rfl, q⟩) fun _ _ h' => h')
    split
    · exact wpAny_bind (wpAny_pure (wpAny_pure fin))
    · exact wpAny_tryCatch (wpAny_bind (wpAny_pure (wpAny_pure fin)))
  have one : wpAny (model prog w) A (tryCompare (.ref x) "__ne__" b) (fun r s' => ∃ v, r = some v ∧ Q v s') E s := by
    unfold tryCompare
    refine wpAny_bind (wpAny_mono cs (fun r s' z => ?_) fun _ _ e => e)
    obtain ⟨k, rfl, q⟩ := z
    exact wpAny_pure ⟨_, rfl, q⟩
  unfold richCompare
  simp only [oneThing_ref]
  refine wpAny_holding (wpAny_bind (wpAny_cRoomFor (by omega) ?_))
  refine wpAny_bind (I.type.here (wpAny_bind (hb.here ?_)))
  split
  · rename_i q
    have e : subIn K tb (.ref C) = some false := by
      rcases Bool.or_eq_true_iff.mp hn with e | e
      · rw [beq_iff_eq.mp e] at q; simp at q
      · exact beq_iff_eq.mp e
    refine wpAny_bind ((looks_subIn X e).here ?_)
    simp only [Bool.false_eq_true, if_false]
    refine wpAny_bind (wpAny_mono one (fun r s' z => ?_) fun _ _ e => e)
    obtain ⟨v, rfl, hq⟩ := z
    exact wpAny_pure hq
  · refine wpAny_bind (wpAny_pure ?_)
    simp only [Bool.false_eq_true, if_false]
    refine wpAny_bind (wpAny_mono one (fun r s' z => ?_) fun _ _ e => e)
    obtain ⟨v, rfl, hq⟩ := z
    exact wpAny_pure hq
end
end Mb
namespace Mb
open PySem L2 PyProof.Rows
theorem rcA_insN {X : Cx} {n : Nat} {e : D} {b : Bool} {C f : Addr} {fs : List (Str × D)} {fd : FuncData} {ps : List Str} {P : D → D → Bool → Prop} {tb : Value} (F : FnOk X.prog X.w X.K X.mg X.base (L2.CX X.prog X.w) n f fd ps (spOf X.K 0 (sp_eq P)))
    (hs : PySem.W.findIn X.K (.ref C) "__eq__" = some (some (.ref f))) (hf : PySem.W.isFn X.K (.ref f) = true) (hb : Binds X.K fd ps []) (hne : PySem.W.findIn X.K (.ref C) "__ne__" = some (some (.builtin "object.__ne__"))) (hmk : PySem.W.makesIn X.K C = true)
    (hn : PySem.W.notFirst X.K C tb = true) (ht : ∀ (H : Hp) (s : Shared) (σ : L2.St) pins (y : V) (v : Value), Inv X pins σ H s → RelV y v → Rep X.K H y e → PySem.W.Looks (model X.prog X.w) s.heap (typeOf v) tb)
    (hP : P (.ins C fs) e b) : RcA X (n + 1) .NotEq (.ins C fs) e (!b) := by
  intro A pins s σ H x y u v sb I rx ry r1 r2
  cases r1 with
  | ins ha ra nxx =>
  cases rx
  rename_i a dx fv
  obtain ⟨mA, J, _⟩ := ins_get I.hok ha
  obtain ⟨od, J, _⟩ := J.look
  have sb1 := sb.in1
  have Y := PySem.W.makes_of (M := model X.prog X.w) I.kIn hmk
  refine cmp_KN (tb := tb) sb.room.units0 sb1.room.units0 I.kIn J (ht H s σ pins y v I ry r2) hn hne hs hf (J.type.andThen Y.top) ?_
  have hsp : spOf X.K 0 (sp_eq P) [.ref a, y] H (fun v H' => v = .bl b ∧ Same H H') (fun _ _ _ => False) := by
    refine ⟨[.dat (.ins C fs), .dat e], [], H, [], rfl, ⟨fun _ _ e => e, fun _ _ e => e, fun _ _ e _ => e, fun _ _ e => .inl e, List.nodup_nil, ⟨[], rfl⟩, fun _ m => (by cases m), fun _ m => (by cases m), .nil⟩, .cons (Rep.ins ha ra nxx) (.cons r2 .nil), fun x _ => x = .dat (.bl b), fun _ _ _ => False, ⟨_, _, b, rfl, rfl, hP, rfl⟩, fun v x G' A' M' H' w' s' _ q => ?_, fun _ _ _ _ _ _ _ _ _ _ q => q⟩
    subst q
    cases s'
    exact ⟨rfl, fun b o e => w'.fr b o e (by intro m; cases m)⟩
  have e0 : Env0 X.prog X.w X.K X.mg X.base A.in1 X.stack s H := by
    have e := I.env0
    exact ⟨by rw [sb1.fr]; exact e.frames, e.mod, e.bs, e.bsz, e.funs, e.frf, e.hok, e.bare⟩
  have hl := F.len _ _ _ _ hsp
  have rv2 : Vals [V.ref a, y] [Value.ref a, v] := .cons rfl (.cons ry .nil)
  refine wpAny_call (codeAny_mono (F.run A.in1 X.stack s H ⟨[.ref a, v], []⟩ [.ref a, v] [.ref a, y] _ _ sb1.room e0 (by
    have := hb s [.ref a, v] I.kIn (by simpa using hl)
    simpa using this) rv2 hsp) fun r s' hq => ?_)
  cases r with
  | error e =>
    obtain ⟨_, _, _, _, _, _, _, _, _, _, _, _, z⟩ := hq
    exact z.elim
  | ok fl =>
    cases fl with
    | ret w =>
      obtain ⟨z, H', I', rz, ez, ex⟩ := I.after hq
      subst ez
      cases rz
      exact ⟨b, rfl, rfl, H', I', ex⟩
    | next => exact False.elim hq
    | brk => exact False.elim hq
    | cont => exact False.elim hq
end Mb

/-! Mb, part 28: dict(pairs). -/
namespace Mb
open PySem L2 PyProof.Rows
def kD : Key → D
  | .inl i => .int i
  | .inr z => .str z
theorem rep_kD {K : PySem.W.Frag} {G : Hp} {v : V} {k : Key} (h : Rep K G v (kD k)) : v = kV k := by
  cases k with
  | inl i => cases h; rfl
  | inr z => cases h; rfl
theorem pairs_rep {K : PySem.W.Frag} {G H : Hp} (e : Same G H) : ∀ {vs : List V} {kvs : List (Key × D)}, Reps K G vs (kvs.map fun kv => .tup [kD kv.1, kv.2]) → ∃ (ps : List Addr) (kv : List (Key × V)), vs = ps.map V.ref ∧ Paired (fun p kv => SqT K H p [kV kv.1, kv.2]) ps kv ∧ RepK K G kv kvs
  | _, [], h => by
    cases h
    exact ⟨[], [], rfl, .nil, .nil⟩
  | _, (k, d) :: kvs, h => by
    rw [List.map_cons] at h
    cases h with
    | cons h r =>
      obtain ⟨ps, kv, rfl, hp, hk⟩ := pairs_rep e r
      cases h with
      | tup ht rt =>
        cases rt with
        | cons r1 rt =>
          cases rt with
          | cons r2 rt =>
            cases rt
            obtain rfl := rep_kD r1
            exact ⟨_ :: ps, (k, _) :: kv, rfl, .cons (sqtM e ht) hp, .cons r2 hk⟩
section
variable {X : Cx} {B : Base} {ex : XD} {ss : Sst} {M : Mem} {e : Expr} {pos p : Pos} {Q : SV → Mem → Prop}
theorem we_dictP (hc : X.calm = true) (hm : X.mg "dict" = none) (hg : Gl X "dict") (h : WA X B ex [e] (fun xs M1 => ∃ x kvs, xs = [x] ∧ x.get M1 = some (.lst (kvs.map fun kv => .tup [kD kv.1, kv.2])) ∧ Q (.dat (.dic (mergeD [] kvs))) M1) ss M)
    (he : starEach [e] X.env = (false, eval e X.env) :: starEach [] X.env := by rfl) (hpl : (backTo pos (starEach [] X.env)).any (·.1) = false := by rfl) : WE X B ex (.Call (.Name "dict" p) [e] [] pos) Q ss M := by
  refine we_ct (f := fun M1 xs Q => ∃ x kvs, xs = [x] ∧ x.get M1 = some (.lst (kvs.map fun kv => .tup [kD kv.1, kv.2])) ∧ Q (.dat (.dic (mergeD [] kvs))) M1) (call_dictP hc) (fun G A H M xs vs Q Kq w r h k => ?_) hm (by decide +kernel) hg h (he := he) (hpl := hpl)
  obtain ⟨x, kvs, rfl, g, q⟩ := h
  cases r with
  | cons s r =>
    cases r
    obtain ⟨l, us, rfl, hl, ru⟩ := s.s w g
    obtain ⟨ps, kv, rfl, hp, hk⟩ := pairs_rep w.gh ru
    refine ⟨l, ps, kv, rfl, .inl hl, hp, k.new .refl w q fun p hp => ?_⟩
    exact .dic upd_same ((RepK.merge hk .nil).mono (same_upd (w.none hp).2.2))
end
end Mb

/-! Mb, part 29: several except clauses, each with a name. -/
namespace Mb
open PySem PySem.Spec L2 PyProof.Rows
/-- what named clauses wish of an exception of the body, one after the other -/
def wAll (K : PySem.W.Frag) (Wout : WX) (D : Ends) (i : Nat) : List (Value × (Addr → Value → Option Addr → TS)) → WX
  | [] => Wout
  | (c, ts) :: r => wAs K c i ts (wAll K Wout D i r) D
inductive HdsAs (X : Cx) (n : Str) : List ExceptHandler → List (Value × (Addr → Value → Option Addr → TS)) → Prop
  | nil : HdsAs X n [] []
  | cons {x : Str} {c : Value} {ts : Addr → Value → Option Addr → TS} {s0 : Stmt} {suite : List Stmt} {np p2 : Pos} {hds : List ExceptHandler} {l : List (Value × (Addr → Value → Option Addr → TS))} (hc : Names X x c)
      (hsu : ∀ (a : Addr) (oe : Obj) (cls : Value) (d : Option Addr) (pn : List (Addr × Obj)), Zc cls d oe → (∃ vs, oe.data = .fields vs) → PSs (X.suite a ((a, oe) :: pn)) (s0 :: suite) (ts a cls d)) (r : HdsAs X n hds l) :
      HdsAs X n (.ExceptHandler (some (.Name x np)) (some n) (s0 :: suite) p2 :: hds) ((c, ts) :: l)
theorem ps_tryAll {X : Cx} {body : List Stmt} {h0 : ExceptHandler} {hds : List ExceptHandler} {l : List (Value × (Addr → Value → Option Addr → TS))} {pos : Pos} {tb : WX → TS} {Wout : WX} {n : Str} {i : Nat} (hs : X.stack = X.env :: X.outer) (hf : X.env.frame = some X.env.locals) (hN : X.N.Nodup) (hi : X.N[i]? = some n) (hln : X.env.kindOf n = some .local) (tk : Takes X Wout)
    (hb : ∀ (W : WX) (pn : List (Addr × Obj)) (xe : Value → Shared → Prop), Takes (X.tr pn xe) W → PassesOwn (model X.prog X.w) X.A X.env xe → PSs (X.tr pn xe) body (tb W))
    (hh : HdsAs X n (h0 :: hds) l) : PS X (.Try body (h0 :: hds) [] [] pos) (fun D σ H => tb (wAll X.K Wout D i l) D σ H) := by
  refine ⟨fun pins s σ H D I h => ?_⟩
  have ok := I.ok
  have hfr : X.A.frames = some (X.env :: X.outer) := by rw [ok.frames, hs]
  refine wpAny_Try_except ?_
  refine wpAny_mono ((hb (wAll X.K Wout D i l) (X.pn ++ pins) (fun e t1 => wpAny (model X.prog X.w) X.A (noteFrame e X.env) (fun _ t2 => wpAny (model X.prog X.w) X.A (setFlight e none) (fun _ t3 =>
    wpAny (model X.prog X.w) X.A (handleBy e X.env (h0 :: hds)) (SP X pins D) X.xe t3) X.xe t2) X.xe t1) (fun u t xx => ?_) PassesOwn.looking).run [] s σ H D (I.toTry _) h) (fun fl t1 hsp => ?_) (fun e t1 he => he)
  · obtain ⟨a, B, sI, pins', σ', H', cls, d, rfl, J', nb, up, sky, na, os, ag, w⟩ := xx
    have J : Inv X pins σ' H' sI := J'.ofTry ok
    have sky' : Sky B (X.env :: X.outer) a (Zc cls d) X.env.locals t.heap := by rw [← hs]; exact sky
    show wpAny (model X.prog X.w) X.A (noteFrame (.ref a) X.env) _ _ _
    refine Sky.land Zc.steady hfr hf sky' fun h3 fl3 up3 => ?_
    have J3 : Inv X pins σ' H' { t with heap := h3 } := J.landed nb fl3.1 (up.trans up3) os ag
    obtain ⟨oe3, vs3, he3, hz3, hd3⟩ := fl3.there
    have nfr : a ∉ frs (X.env :: X.outer) := fun hm => by
      obtain ⟨_, o', e', hnf⟩ := fl3.2.2.1.mem hm
      rw [he3] at e'; cases e'
      exact hnf _ hd3
    have nL : a ≠ X.env.locals := fun z => nfr (List.mem_filterMap.mpr ⟨X.env, List.mem_cons_self, by rw [hf, z]⟩)
    have nF : a ∉ X.fs := fun hm => by
      obtain ⟨e, he, q⟩ := List.mem_filterMap.mp hm
      exact nfr (List.mem_filterMap.mpr ⟨e, List.mem_cons_of_mem _ he, q⟩)
    have S3 := J3.suite he3 hd3 na nL nF
    have go : ∀ {hs2 : List ExceptHandler} {l2 : List (Value × (Addr → Value → Option Addr → TS))}, HdsAs X n hs2 l2 → wAll X.K Wout D i l2 cls d σ' H' → wpAny (model X.prog X.w) X.A (handleBy (.ref a) X.env hs2) (SP X pins D) X.xe { t with heap := h3 } := by
      intro hs2 l2 q
      induction q with
      | nil =>
        intro w
        refine wpAny_handleBy_nil ?_
        obtain ⟨k1, k2, k3, oe, vs, T, oT, ts', he, hz, hd, h1, hr⟩ := id fl3
        unfold PySem.passOn
        refine wpAny_bind (wpAny_field he hd h1 ?_)
        rw [if_neg (show ¬ ((Value.ref T == Value.none) = true) from by simp)]
        have fin : wpAny (model X.prog X.w) X.A (setFlight (.ref a) X.env.frame) (fun _ s4 => wpAny (model X.prog X.w) X.A (throw (.ref a) : Sem Flow) (SP X pins D) X.xe s4) X.xe { t with heap := h3 } := by
          rw [hf]
          refine HandSPX.setFlight_upZ fl3 fun h4 hh4 up4 => wpAny_throw (tk _ _ ?_)
          exact ⟨a, B, sI, pins, σ', H', cls, d, rfl, J, nb, (up.trans up3).trans up4, .inr (.inr (by rw [hs]; exact hh4)), na, os, ag, w⟩
        first
          | exact wpAny_bind (wpAny_pure (wpAny_bind fin))
          | exact wpAny_bind fin
      | @cons x c ts s0 suite np p2 hds2 l2 hc hsu r ih =>
        intro w
        obtain ⟨b, hb1, hyes, hno⟩ := w
        refine wpAny_handleBy_cons (codeAny_handlers_test ?_) (by intro q; cases q)
        have LT : PySem.W.Looks (model X.prog X.w) h3 (typeOf (.ref a)) cls := fun A Q E s k q => wpAny_typeOf_ref (k _ _ he3) (by rw [hz3.1]; exact q)
        have LM := PySem.W.exm_one (M := model X.prog X.w) (J3.kIn) LT hb1
        have test : ∀ {Q : Value → Shared → Prop} {E : Value → Shared → Prop}, Q c { t with heap := h3 } → wpAny (model X.prog X.w) (X.A.mark (some (.ref a))) (eval (.Name x np) X.env) Q E { t with heap := h3 } := fun {Q E} q => by
          obtain ⟨hg, hdbg, hm | ⟨hm, hv, hnn⟩⟩ := hc
          · exact ld_glob (X := X.suite a ((a, oe3) :: (X.pn ++ pins))) S3 hg hm q hdbg
          · exact ld_blt (X := X.suite a ((a, oe3) :: (X.pn ++ pins))) S3 hg hm hv q hnn hdbg
        refine test (LM.here ?_)
        cases b with
        | true =>
          refine codeAny_handlers_suite_as ?_
          refine HandSPX.lands_againZ fl3 fun h4 fl4 up4 => ?_
          have J4 : Inv X pins σ' H' { t with heap := h4 } := J.landed nb fl4.1 ((up.trans up3).trans up4) os ag
          obtain ⟨oe4, vs4, he4, hz4, hd4⟩ := fl4.there
          have S4 := J4.suite he4 hd4 na nL nF
          refine store_ok (X := X.suite a ((a, oe4) :: (X.pn ++ pins))) (v := .ref a) S4 hN hi (.inl hln) rfl (fun s5 S5 => ?_) (.inr hln)
          refine wpAny_mono ((hsu a oe4 cls d (X.pn ++ pins) hz4 ⟨_, hd4⟩).run [] s5 _ H' _ S5 (hyes rfl a na)) (fun f s6 hsp => ?_) (fun _ _ z => False.elim z)
          have end_ : ∀ {σ6 : L2.St} {H6 : Hp} {Q : Shared → Prop}, Inv (X.suite a ((a, oe4) :: (X.pn ++ pins))) [] σ6 H6 s6 → (∀ s7, Inv X pins (σ6.set i none) H6 s7 → Q s7) →
              wpAny (model X.prog X.w) X.A (do bindName X.env n .none; unbindBehindTheSuite X.env n p2) (fun _ s7 => Q s7) X.xe s6 := fun {σ6 H6 Q} S6 hq => gone_ok (S6.unsuite ok) hN hi hln hq
          cases f with
          | next =>
            obtain ⟨σ6, H6, S6, q6⟩ := hsp
            exact end_ S6 fun s7 J7 => ⟨_, _, J7, q6⟩
          | brk =>
            obtain ⟨σ6, H6, S6, q6⟩ := hsp
            exact end_ S6 fun s7 J7 => ⟨_, _, J7, q6⟩
          | cont =>
            obtain ⟨σ6, H6, S6, q6⟩ := hsp
            exact end_ S6 fun s7 J7 => ⟨_, _, J7, q6⟩
          | ret u =>
            obtain ⟨v6, σ6, H6, S6, r6, q6⟩ := hsp
            exact end_ S6 fun s7 J7 => ⟨_, _, _, J7, r6, q6⟩
        | false =>
          show wpAny _ X.A (handleBy (.ref a) X.env hds2) _ _ _
          exact ih (hno rfl)
    exact go hh w
  · cases fl with
    | next =>
      obtain ⟨σ', H', J', q⟩ := hsp
      exact wpAny_execs_nil ⟨σ', H', J'.ofTry ok, q⟩
    | brk =>
      obtain ⟨σ', H', J', q⟩ := hsp
      exact ⟨σ', H', J'.ofTry ok, q⟩
    | cont =>
      obtain ⟨σ', H', J', q⟩ := hsp
      exact ⟨σ', H', J'.ofTry ok, q⟩
    | ret u =>
      obtain ⟨v, σ', H', J', r, q⟩ := hsp
      exact ⟨v, σ', H', J'.ofTry ok, r, q⟩
end Mb

/-! Mb, part 30: try with two named clauses. -/
namespace Mb
open PySem L2 PyProof.Rows
section
variable {X : Cx} {B : Base} {ex : XD} {ss : Sst} {M : Mem} {pos : Pos} {N : Nd} {x y : Str}
abbrev tsOf (X : Cx) (suite : List Stmt) : Addr → Value → Option Addr → TS := fun a cls d D σ H => ∀ oe pn, Zc cls d oe → (∃ vs, oe.data = .fields vs) → tbW (X.suite a ((a, oe) :: pn)) suite D σ H
theorem clause_w {G : Hp} {A : List Addr} {H : Hp} {E : Ends} {ex2 : XD} {C0 : Value} {i : Nat} {suite : List Stmt} {W : WX} (w : Wd X.K B G A M H) (k : NdOk X.K B G N E) {cls : Value} {d : Option Addr} {σ' : L2.St} {H' : Hp}
    (hW : XW X.K ⟨G, A, H⟩ ex2 cls d σ' H' → W cls d σ' H') (hx : XW X.K ⟨G, A, H⟩ (ClauseQ X B ex2 C0 (some i) suite N) cls d σ' H') : wAs X.K C0 i (tsOf X suite) W E cls d σ' H' := by
  obtain ⟨C, fs, ss', G', A', M', rfl, xd, w', sl', b, hexm, q⟩ := hx
  obtain ⟨w2, e2⟩ := w.rebase w'
  refine ⟨b, hexm, fun hbt a ha oe pn2 hz hv => ?_, fun hbf => ?_⟩
  · rw [if_pos hbt] at q
    have q := q a oe d pn2 hz hv (fun hd => by rcases xd with ⟨_, h⟩ | ⟨_, _, h, _⟩; exact h; rw [hd] at h; cases h)
    refine WB.run q ck_suite G' A' H' _ w2 (sl'.set (excSV_ok xd) i) _ ⟨fun σ2 ss2 G2 A2 M2 H2 s2 w3 sl2 q2 => ?_, fun v y G2 A2 M2 H2 s2 w3 sv q2 => ?_, fun σ2 ss2 G2 A2 M2 H2 s2 w3 sl2 q2 => ?_, fun σ2 ss2 G2 A2 M2 H2 s2 w3 sl2 q2 => ?_⟩
    · exact k.nx _ _ G2 A2 M2 H2 (e2.1.trans s2) w3 (sl2.setN i) q2
    · exact k.rt v y G2 A2 M2 H2 (e2.1.trans s2) w3 sv q2
    · exact k.bk _ _ G2 A2 M2 H2 (e2.1.trans s2) w3 (sl2.setN i) q2
    · exact k.ct _ _ G2 A2 M2 H2 (e2.1.trans s2) w3 (sl2.setN i) q2
  · rw [hbf, if_neg Bool.false_ne_true] at q
    exact hW ⟨C, fs, ss', G', A', M', rfl, xd, w', sl', q⟩
theorem ws_tryAs2 {n : Str} {C0 C1 : Value} {i : Nat} {body s1 s2 : List Stmt} {b0 b1 : Stmt} {np np2 p1 p2 : Pos} (hN : X.N.Nodup) (hi : X.N[i]? = some n) (hln : X.env.kindOf n = some .local) (hc : Names X x C0) (hc2 : Names X y C1)
    (hb : ∀ pn xe (B' : Base), B'.A.length = M.length → WB (X.tr pn xe) B' (ClauseQ X B (ClauseQ X B ex C1 (some i) (b1 :: s2) N) C0 (some i) (b0 :: s1) N) body N ss M)
    (hs : X.stack = X.env :: X.outer := by rfl) (hf : X.env.frame = some X.env.locals := by rfl) :
    WS X B ex (.Try body [.ExceptHandler (some (.Name x np)) (some n) (b0 :: s1) p1, .ExceptHandler (some (.Name y np2)) (some n) (b1 :: s2) p2] [] [] pos) N ss M := .mk fun ck G A H σ w sl E k => by
  refine ts_of (ps_tryAll (Wout := XW X.K B ex) (l := [(C0, tsOf X (b0 :: s1)), (C1, tsOf X (b1 :: s2))]) (tb := fun W D σ H => ∀ pn xe, Takes (X.tr pn xe) W → PassesOwn (model X.prog X.w) X.A X.env xe → tbW (X.tr pn xe) body D σ H)
    hs hf hN hi hln ck.tk (fun W pn xe tk ps => ⟨fun pins s σ H D I h => h pn xe tk ps pins s I⟩)
    (.cons hc (fun a oe cls d pn hz hv => ⟨fun pins s σ H D I h => h oe pn hz hv pins s I⟩) (.cons hc2 (fun a oe cls d pn hz hv => ⟨fun pins s σ H D I h => h oe pn hz hv pins s I⟩) .nil))) ?_
  intro pn xe tk ps
  refine hb pn xe ⟨G, A, H⟩ w.len (ck_tr tk ps fun cls d σ' H' hx => ?_) G A H σ w.self sl E (nd_rebase w k)
  refine clause_w w k (fun hx2 => ?_) hx
  refine clause_w w k (fun hx3 => ?_) hx2
  obtain ⟨C, fs, ss', G', A', M', rfl, xd, w', sl', q⟩ := hx3
  exact ⟨C, fs, ss', G', A', M', rfl, xd, (w.rebase w').1, sl', q⟩
end
end Mb

/-! Mb, part 31: == of dicts whose values are plain. -/
namespace Mb
open PySem L2 PyProof.Rows
/-- the pairs of the one, looked up in the other -/
inductive HitsD (ls : List (Key × D)) : List (Key × D) → Bool → Prop
  | nil : HitsD ls [] true
  | miss {k : Key} {d : D} {r : List (Key × D)} : valD ls k = none → HitsD ls ((k, d) :: r) false
  | hit {k : Key} {d e : D} {r : List (Key × D)} {b : Bool} : valD ls k = some e → D.pl 60 d = true → D.pl 60 e = true → HitsD ls r b → HitsD ls ((k, d) :: r) (deq d e && b)
section
variable {X : Cx} {n : Nat} {d e : D}
theorem eqP_plain {A : Around} {pins : List (Addr × Obj)} {s : Shared} {σ : L2.St} {H : Hp} {x y : V} {u v : Value} (hd : D.pl 60 d = true) (he : D.pl 60 e = true) (sb : Sub X n A) (I : Inv X pins σ H s) (rx : RelV x u) (ry : RelV y v) (r1 : Rep X.K H x d) (r2 : Rep X.K H y e) : SeqAt.EqP X.prog X.w A s u v (deq d e) := by
  intro E Q hq
  obtain ⟨as, q1⟩ := Dp.reads I (py d) x u (r1.dp hd) rx
  obtain ⟨bs, q2⟩ := Dp.reads I (py e) y v (r2.dp he) ry
  obtain ⟨l1, z1⟩ := r1.lay hd
  obtain ⟨l2, z2⟩ := r2.lay he
  have hu := sb.room.units
  exact SeqAt.eqAt_reads (py d) (py e) A s u v as bs q1 q2 l1 l2 (by omega) X.prog X.w E _ hq
theorem hitsP {A : Around} {pins : List (Addr × Obj)} {s : Shared} {σ : L2.St} {H : Hp} (sb : Sub X n A) (I : Inv X pins σ H s) {ls : List (Key × D)} {lv : List (Key × V)} {vb : List (Key × Value)} (rl : RepK X.K H lv ls) (rb : KV lv vb) {ks : List (Key × D)} {b : Bool} (h : HitsD ls ks b) :
    ∀ {kv : List (Key × V)} {va : List (Key × Value)}, RepK X.K H kv ks → KV kv va → PySem.W.KeqHitsP X.prog X.w A s vb va b := by
  induction h with
  | nil =>
    intro kv va r q
    cases r
    unfold KV at q
    cases q
    exact .nil
  | @miss k d r hm =>
    intro kv va r q
    cases r with
    | cons r1 r2 =>
    unfold KV at q
    cases q with
    | @cons p q ps qs h t =>
    obtain ⟨k', v'⟩ := q
    obtain ⟨h1, h2⟩ := h
    cases h1
    have rr := rb.val k
    rw [rl.valN hm] at rr
    refine .miss ?_
    cases hv : valueAt vb k with
    | none => rfl
    | some z => rw [hv] at rr; cases rr
  | @hit k d e r b hv hd he hr ih =>
    intro kv va r q
    cases r with
    | cons r1 r2 =>
    unfold KV at q
    cases q with
    | @cons p q ps qs h t =>
    obtain ⟨k', v'⟩ := q
    obtain ⟨h1, h2⟩ := h
    cases h1
    obtain ⟨w, hw, rw'⟩ := rl.valS _ hv
    have rr := rb.val k
    rw [hw] at rr
    obtain ⟨y, hy, ry⟩ := rr.some_of
    exact .hit hy (eqP_plain hd he sb I h2 ry r1 rw') (ih r2 t)
theorem rcA_dic {ks ls : List (Key × D)} {r : Bool} (h : ks.length = ls.length → HitsD ls ks r) : RcA X (n + 1) .Eq (.dic ks) (.dic ls) (ks.length == ls.length && r) := by
  intro A pins s σ H x y u v sb I rx ry r1 r2
  cases r1 with
  | dic h1 q1 =>
  cases r2 with
  | dic h2 q2 =>
  cases rx
  cases ry
  rename_i a kv b lv
  obtain ⟨_, ya, va, ra, da⟩ := (show ObjOk X.prog X.w H s.heap a (.dK kv) from I.hok a _ h1)
  obtain ⟨_, yb, vb, rb, db⟩ := (show ObjOk X.prog X.w H s.heap b (.dK lv) from I.hok b _ h2)
  have e1 : va.length = ks.length := by rw [← ra.length, q1.length]
  have e2 : vb.length = ls.length := by rw [← rb.length, q2.length]
  refine PySem.W.rcP_dicts (r := r) ya yb da db sb.room.units0 (fun e => hitsP sb.in1 I q2 rb (h (by rw [← e1, ← e2]; exact e)) q1 ra) X.xe _ ?_
  exact ⟨by rw [e1, e2], H, I, Same.refl _⟩
theorem hits_refl {ls : List (Key × D)} : ∀ {ks : List (Key × D)}, (∀ p ∈ ks, valD ls p.1 = some p.2 ∧ D.pl 60 p.2 = true) → HitsD ls ks true
  | [], _ => .nil
  | (k, d) :: ks, h => by
    obtain ⟨h1, h2⟩ := h (k, d) List.mem_cons_self
    have := HitsD.hit h1 h2 h2 (hits_refl fun p m => h p (List.mem_cons_of_mem _ m))
    rw [deq_refl h2] at this
    exact this
theorem rcA_dic_refl {ks : List (Key × D)} (h : ∀ p ∈ ks, valD ks p.1 = some p.2 ∧ D.pl 60 p.2 = true) : RcA X (n + 1) .Eq (.dic ks) (.dic ks) true := by
  have := rcA_dic (X := X) (n := n) (ks := ks) (ls := ks) (r := true) (fun _ => hits_refl h)
  simpa using this
end
end Mb

/-! Mb, part 32: a, b, c, d = a tuple. -/
namespace Mb
open PySem L2 PyProof.Rows
section
variable {X : Cx} {B : Base} {ex : XD} {ss : Sst} {M : Mem} {pos : Pos}
theorem wg_tup4 {t1 t2 t3 t4 : Expr} {j : Nat} {d1 d2 d3 d4 : D} {Q : Sst → Mem → Prop} (hc : X.calm = true) (h : WG X B ex t1 (.dat d1) (fun ss2 M2 => WG X B ex t2 (.dat d2) (fun ss3 M3 => WG X B ex t3 (.dat d3) (fun ss4 M4 => WG X B ex t4 (.dat d4) Q ss4 M4) ss3 M3) ss2 M2) ss M)
    (hn : (assignEach [t1, t2, t3, t4] X.env).length = 4 := by rfl) (hst : (assignEach [t1, t2, t3, t4] X.env).findIdx? (·.1) = none := by rfl) (h1 : (assignEach [t1, t2, t3, t4] X.env).map (·.2) = assign t1 X.env :: (assignEach [t2, t3, t4] X.env).map (·.2) := by rfl)
    (h2 : (assignEach [t2, t3, t4] X.env).map (·.2) = assign t2 X.env :: (assignEach [t3, t4] X.env).map (·.2) := by rfl) (h3 : (assignEach [t3, t4] X.env).map (·.2) = assign t3 X.env :: (assignEach [t4] X.env).map (·.2) := by rfl) (h4 : (assignEach [t4] X.env).map (·.2) = assign t4 X.env :: (assignEach [] X.env).map (·.2) := by rfl) :
    WG X B ex (.Tuple [t1, t2, t3, t4] j pos) (.dat (.tup [d1, d2, d3, d4])) Q ss M := .mk fun ck G A H σ v w sl s Kq k => by
  refine tg_of (pg_tup hc (pgs_cons pg_self (pgs_cons pg_self (pgs_cons pg_self (pgs_cons pg_self pgs_nil h4) h3) h2) h1) hn hst) ?_
  have s : Rep X.K G v (.tup [d1, d2, d3, d4]) := s
  cases s with
  | tup hl r =>
    cases r with
    | cons r1 r =>
      cases r with
      | cons r2 r =>
        cases r with
        | cons r3 r =>
          cases r with
          | cons r4 r =>
            cases r
            refine ⟨_, _, rfl, sqtM w.gh hl, rfl, _, _, rfl, ?_⟩
            refine h ck G A H σ _ w sl r1 _ fun σ' ss' G' A' M' H' s' w' sl' q => ⟨_, _, rfl, ?_⟩
            refine q ck G' A' H' σ' _ w' sl' (Rep.mono s' r2) _ fun σ2 ss2 G2 A2 M2 H2 s2 w2 sl2 q2 => ⟨_, _, rfl, ?_⟩
            refine q2 ck G2 A2 H2 σ2 _ w2 sl2 (Rep.mono (s'.trans s2) r3) _ fun σ3 ss3 G3 A3 M3 H3 s3 w3 sl3 q3 => ⟨_, _, rfl, ?_⟩
            exact q3 ck G3 A3 H3 σ3 _ w3 sl3 (Rep.mono ((s'.trans s2).trans s3) r4) _ fun σ4 ss4 G4 A4 M4 H4 s4 w4 sl4 q4 => ⟨rfl, k σ4 ss4 G4 A4 M4 H4 (((s'.trans s2).trans s3).trans s4) w4 sl4 q4⟩
/-- - e -/
theorem we_neg {e : Expr} {Q : SV → Mem → Prop} (h : WE X B ex e (fun x M1 => ∃ i, x = .dat (.int i) ∧ Q (.dat (.int (-i))) M1) ss M) : WE X B ex (.UnaryOp .USub e pos) Q ss M := .mk fun ck G A H σ w sl Kq k => by
  refine te_of (pe_un un_neg pe_self) ?_
  refine h ck G A H σ w sl _ fun v x G1 A1 M1 H1 e1 w1 s1 h1 => ?_
  obtain ⟨i, rfl, q⟩ := h1
  cases s1
  exact ⟨i, rfl, k _ (.dat (.int (-i))) G1 A1 M1 H1 e1 w1 (Rep.int (-i)) q⟩
end
end Mb

/-! Mb, part 33: enumerate of a tuple; a comprehension's list as a cell; a module's tuple. -/
namespace Mb
open PySem PySem.Spec L2 PyProof.Rows
open AutoSeq1 (wpAny_loadPart')
/-! ### enumerate(t), t a tuple -/
theorem meets_enumT (tp : Addr) (vals : Array Value) (m : Nat) (dd : Option Addr) (sl : Array (Option Value)) :
    Meets (Builtin.«enumerate.__new__» ⟨[.type "enumerate", .ref tp], []⟩) (fun _ R s1 => s1.heap.get? tp = some { cls := .type "tuple", dict := dd, data := .seq vals m, slots := sl } ∧
      R (.ok (.ret (.ref (s1.heap.push { cls := .type "tuple_iterator", data := .fields #[.ref tp, .int 0 0] }).objs.size)))
        { s1 with heap := (s1.heap.push { cls := .type "tuple_iterator", data := .fields #[.ref tp, .int 0 0] }).push { cls := .type "enumerate", data := .fields #[.none, .bool false, .ref s1.heap.objs.size, rawInt 0, .none, .none] } }) :=
  .of_wp fun prog w A R s1 hh => by
    obtain ⟨hp, gg, dz, tk, os⟩ := s1
    obtain ⟨ht, hR⟩ := hh
    have hs := sub_enumerate
    have hT : Heap.IsTuple (Shared.heap ⟨hp, gg, dz, tk, os⟩) tp vals := ⟨_, ht, rfl, m, rfl⟩
    wp_walk using wpAny_loadPart' ht
    refine wpAny_stack_any fun stk => wpAny_pure ?_
    split
    · rename_i cc _ _ _ _ _
      cases (cc == Value.type "enumerate")
      · wp_walk using wpAny_loadPart' ht, wpAny_pyIter_tuple hT
        exact ⟨_, rfl, hR⟩
      · wp_walk using wpAny_loadPart' ht, wpAny_pyIter_tuple hT
        exact ⟨_, rfl, hR⟩
    · wp_walk using wpAny_loadPart' ht, wpAny_pyIter_tuple hT
      exact ⟨_, rfl, hR⟩
theorem call_enumT {prog : Program} {w : World} {A : Around} {E : Value → Shared → Prop} {s : Shared} {tp : Addr} {vals : Array Value} {Q : Value → Shared → Prop} (hT : s.heap.IsTuple tp vals)
    (hQ : ∀ h1, IsEnum h1 (s.heap.objs.size + 1) s.heap.objs.size 0 .none → h1.IsTupleIter s.heap.objs.size tp 0 → h1.objs.size = s.heap.objs.size + 2 →
      (∀ b o, s.heap.get? b = some o → h1.get? b = some o) → Q (.ref (s.heap.objs.size + 1)) { s with heap := h1 }) : wpAny (model prog w) A (call (.type "enumerate") [.ref tp]) Q E s := by
  obtain ⟨⟨cc, dd, dt, sl⟩, ht, hc, m, hd⟩ := hT
  obtain rfl : cc = .type "tuple" := hc
  obtain rfl : dt = .seq vals m := hd
  refine callType_new F.called_enumerate (by decide) (F.typeCall_enumerate_1 _) (F.newCall_enumerate_1 _) (fun ob => F.args_object_init_2 ob _) F.entry_enumerate_new (meets_enumT tp vals m dd sl) ⟨ht, ?_⟩
  have z1 : (s.heap.push { cls := .type "tuple_iterator", data := .fields #[.ref tp, .int 0 0] }).objs.size = s.heap.objs.size + 1 := Heap.size_push ..
  show _ ∧ _
  rw [z1]
  have hE : IsEnum ((s.heap.push { cls := .type "tuple_iterator", data := .fields #[.ref tp, .int 0 0] }).push { cls := .type "enumerate", data := .fields #[.none, .bool false, .ref s.heap.objs.size, rawInt 0, .none, .none] }) (s.heap.objs.size + 1) s.heap.objs.size 0 .none := by
    have q := Heap.get?_push_size (s.heap.push { cls := .type "tuple_iterator", data := .fields #[.ref tp, .int 0 0] }) (o := { cls := .type "enumerate", data := .fields #[.none, .bool false, .ref s.heap.objs.size, rawInt 0, .none, .none] }) rfl
    rw [z1] at q
    exact q
  exact ⟨⟨_, hE, rfl⟩, hQ _ hE ⟨_, Heap.get?_push_of_some _ (Heap.get?_push_size _ rfl), rfl, rfl⟩ (by rw [Heap.size_push, z1]) fun b o y => Heap.get?_push_of_some _ (Heap.get?_push_of_some _ y)⟩
/-- the tuple at a, its items in new pairs -/
def IteT (K : PySem.W.Frag) (a : Addr) : It :=
  ⟨fun i H => ∃ (ys : List V) (y : V), SqT K H a ys ∧ ys[i]? = some y, fun i H v H' => ∃ T y, v = .ref T ∧ H T = none ∧ H' = upd H T (.tup [.int (i : Nat), y]) ∧ ∀ ys, SqT K H a ys → ys[i]? = some y, fun i H => ∃ ys : List V, SqT K H a ys ∧ ys.length ≤ i⟩
theorem turn_enumT {P : Program} {w : World} {K : PySem.W.Frag} {elts : List Expr} {kk : Nat} {tpos : Pos} (a e it : Addr) (vals : Array Value) (hai : a ≠ it) (hae : a ≠ e) :
    Turn P w K (.Tuple elts kk tpos) (IteT K a) [e, it] e (fun i h => (∃ old, IsEnum h e it ((i : Nat) : Int) old) ∧ (h.IsTupleIter it a i ∧ e ≠ it)) where
  mem := by simp
  obj := fun i h st b hb => by
    obtain ⟨⟨old, he⟩, ⟨o, ho, hc, hd⟩, _⟩ := st
    rcases (show b = e ∨ b = it by simpa using hb) with z | z
    · subst z; exact ⟨_, he, fun v q => nomatch q⟩
    · subst z; exact ⟨o, ho, fun v q => by rw [hd] at q; cases q⟩
  keep := fun i h h1 st k => let ⟨⟨old, he⟩, hi, hne⟩ := st; ⟨⟨old, k e (by simp) _ he⟩, hi.at fun o q => k it (by simp) o q, hne⟩
  item := by
    intro X hP hw hK hc i pins s σ H E I hf st hg
    subst hP hw hK
    obtain ⟨⟨old, he⟩, hit, hne⟩ := st
    obtain ⟨ys, y, hq, hx⟩ := hg
    obtain ⟨its, rv, p, hz⟩ := I.tuple hq
    obtain ⟨u, hu, ru⟩ := rv.get hx
    have l1 : e < s.heap.objs.size := Heap.lt_size he
    have l2 : it < s.heap.objs.size := by obtain ⟨_, q, _⟩ := hit; exact Heap.lt_size q
    have lt : i < its.toArray.size := by
      have := (List.getElem?_eq_some_iff.mp hu).1
      simpa using this
    refine wpAny_pyNext_enum_itemD (Draws.tuple (prog := X.prog) (w := X.w) (A := X.A.in1) (show X.A.in1.handled = none from I.ok.hd hc) it a hai its.toArray) he ⟨hit, p⟩ lt hne (by simp [hne, Ne.symm hae]) fun z h1 tk hz1 ho hst hT hsz hk => ?_
    obtain rfl : z = u := by
      have a1 : its[i]? = some z := by simpa using hz1
      rw [hu] at a1
      exact (Option.some.inj a1).symm
    refine ⟨_, rfl, wpAny_letOwnedTupleGo_enum (s := { s with heap := h1, toks := tk + 1 }) ho fun h2 he2 sb => ?_⟩
    have hT2 : h2.get? s.heap.objs.size = some { cls := .type "tuple", data := .seq #[.int i tk, z] } := (sb.2 _ (Nat.ne_of_gt l1)).trans hT
    have nw : ObjOk X.prog X.w (upd H s.heap.objs.size (.tup [.int (i : Nat), y])) h2 s.heap.objs.size (.tup [.int (i : Nat), y]) := ⟨by show 2 ≤ sizeLine; decide, [.int i tk, z], .cons ⟨_, rfl⟩ (.cons ru .nil), ⟨_, hT2, rfl, _, rfl⟩⟩
    have I1 : Inv X pins σ (upd H s.heap.objs.size (.tup [.int (i : Nat), y])) { s with heap := h2, toks := tk + 1 } :=
      I.turnedNew (ch := [e, it]) (fun b ob hb q => (sb.2 b (fun z => hb (by simp [z]))).trans (hk b ob (fun z => hb (by simp [z])) (fun z => hb (by simp [z])) q)) hf (Nat.le_refl _) nw
    refine ⟨.ref s.heap.objs.size, _, I1, rfl, ⟨_, y, rfl, I.hok.fresh (Nat.le_refl _), rfl, fun zs hy => by rw [I.tuple_inj hy hq]; exact hx⟩, ⟨⟨z, ?_⟩, hst.1.at fun o q => (sb.2 it (Ne.symm hne)).trans q, hne⟩, fun b hb => ?_⟩
    · rw [show ((i + 1 : Nat) : Int) = (i : Int) + 1 by omega]
      exact he2
    · have lb : b < s.heap.objs.size := by
        rcases (show b = e ∨ b = it by simpa using hb) with z | z
        · subst z; exact l1
        · subst z; exact l2
      rw [upd_ne (Nat.ne_of_lt lb)]
      exact (hf b hb).1
  done := by
    intro X hP hw hK hc i pins s σ H E I hf st hg
    subst hP hw hK
    obtain ⟨⟨old, he⟩, hit, hne⟩ := st
    obtain ⟨ys, hq, hx⟩ := hg
    obtain ⟨its, rv, p, hz⟩ := I.tuple hq
    obtain ⟨g0, g1, g2, g3, g4, g5⟩ := hf it (by simp)
    have hl := rv.length
    have hend : its.toArray[i]? = none := by simp; omega
    have hT : s.TypeIs (.ref e) "enumerate" := ⟨_, he, rfl⟩
    unfold pyNext
    refine wpAny_bind (wpAny_attempt (wpAny_callSpecial?_slot (name := Str.ofString "__next__") hT F.slot_enumerate_next (wpAny_call_entry F.slot_enumerate_next hT F.entry_enumerate_next ?_ (F.args_enumerate_next_1 _))))
    show wpAny _ _ (field (.ref e) 2 >>= _) _ _ _
    refine wpAny_bind (wpAny_field he rfl (x := .ref it) rfl ?_)
    refine wpAny_bind (wpAny_nextOf_tuple_end (I.ok.hd hc) hit p hend fun h1 x eb hx1 => ?_)
    obtain ⟨o, ho, hcl⟩ := hx1
    refine wpAny_bind (wpAny_isInstance (T := "StopIteration") (b := true) ⟨o, ho, hcl⟩ isSubtype_stop ?_)
    exact wpAny_pure ⟨rfl, I.turned (t' := s.toks) (fun b o hb q => eb b o hb q) g0 g1 g3 g4 g5⟩
  self := fun A i s Q E st h => let ⟨⟨_, he⟩, _⟩ := st; wpAny_pyIter_enum he h
def iEnumT (K : PySem.W.Frag) (ta : L2.TA) : TI := fun σ H R => ta σ H fun vs H1 => ∃ a ys, vs = [.ref a] ∧ SqT K H1 a ys ∧ R (IteT K a) H1
theorem pi_enumT {X : Cx} {e : Expr} {ta : L2.TA} {p pos tpos : Pos} {elts : List Expr} {kk : Nat} (hg : Gl X "enumerate") (hm : X.mg "enumerate" = none) (ha : PA X [e] ta) (hs : starEach [e] X.env = [(false, eval e X.env)] := by rfl) :
    PI X (.Tuple elts kk tpos) (.Call (.Name "enumerate" p) [e] [] pos) (iEnumT X.K ta) := by
  refine ⟨fun pins s σ H R I h => ?_⟩
  refine Call_ (ld_blt I hg hm boot_enumerate (PyProof.Rows.callWith_type1 (thn (ha.run pos pins s σ H _ I h) fun us s1 ⟨vs, H1, I1, r1, q1⟩ => ?_) hs rfl))
  obtain ⟨a, ys, rfl, hq, q⟩ := q1
  cases r1 with
  | cons r rr =>
    cases rr
    cases r
    obtain ⟨its, rv, p1, hz⟩ := I1.tuple hq
    have la : a < s1.heap.objs.size := by obtain ⟨_, q, _⟩ := p1; exact Heap.lt_size q
    refine call_enumT (show s1.heap.IsTuple a its.toArray from p1) fun h1 he hit hsz hk => wpAny_pyIter_enum he ?_
    have I2 : Inv X pins σ H1 { s1 with heap := h1 } := I1.kept (t' := s1.toks) hk
    refine ⟨s1.heap.objs.size + 1, [s1.heap.objs.size + 1, s1.heap.objs.size], _, _, H1, rfl, I2, turn_enumT a (s1.heap.objs.size + 1) s1.heap.objs.size its.toArray (Nat.ne_of_lt la) (Nat.ne_of_lt (Nat.lt_succ_of_lt la)), ⟨⟨.none, he⟩, hit, Nat.succ_ne_self _⟩, fun b hb => ?_, q⟩
    have lb : s1.heap.objs.size ≤ b := by
      rcases (show b = s1.heap.objs.size + 1 ∨ b = s1.heap.objs.size by simpa using hb) with z | z
      · subst z; exact Nat.le_add_right _ _
      · subst z; exact Nat.le_refl _
    exact I1.fpOk lb (I1.hok.fresh lb)
theorem walk_enumT {K : PySem.W.Frag} {a : Addr} {ys : List V} : Walk (IteT K a) ys.length (fun H => SqT K H a ys) (YPair (fun i => some (.int (i : Nat))) (fun i => ys[i]?)) := by
  refine ⟨fun i _ hi q => ⟨ys, ys[i], q, by simp [hi]⟩, fun _ q => ⟨ys, q, Nat.le_refl _⟩, fun i H v H1 _ q y => ?_⟩
  obtain ⟨T, x, h1, h2, h3, h4⟩ := y
  exact ⟨T, .int (i : Nat), x, h1, h2, h3, rfl, h4 ys q⟩
section
variable {X : Cx} {B : Base} {ex : XD} {ss : Sst} {M : Mem} {a b e elt iter : Expr} {es ifs : List Expr} {pos p p2 : Pos} {Q : SV → Mem → Prop} {QL : List D → Mem → Prop} {scope : Scope}
theorem wi_enumT {elts : List Expr} {kk : Nat} {tpos : Pos} (hm : X.mg "enumerate" = none) (hg : Gl X "enumerate") (h : WA X B ex [e] (fun xs M1 => ∃ ds : List D, xs = [.dat (.tup ds)] ∧ QL (List.zipWith (fun a b => D.tup [a, b]) (rangeD 0 ds.length) ds) M1) ss M)
    (hs1 : starEach [e] X.env = [(false, eval e X.env)] := by rfl) : WI X B ex (.Tuple elts kk tpos) (.Call (.Name "enumerate" p) [e] [] p2) QL ss M := .mk fun ck G A H σ w sl R k => by
  refine ti_of (pi_enumT hg hm pa_self hs1) ?_
  refine h ck G A H σ w sl _ fun vs xs G1 A1 M1 H1 e1 w1 s1 h1 => ?_
  obtain ⟨ds, rfl, q⟩ := h1
  cases s1 with
  | cons s r =>
    cases r
    have s : Rep X.K G1 _ (.tup ds) := s
    cases s with
    | tup hl r =>
      rename_i l vs
      refine ⟨l, vs, rfl, sqtM w1.gh hl, k _ _ G1 A1 M1 H1 e1 w1 (src_pair (n := vs.length) (walk_enumT (K := X.K) (a := l) (ys := vs)) (fun H s => sqtM s hl) (by unfold rangeD; rw [List.length_map, List.length_range, r.length]) r.length.symm (fun i x hi hx => ?_) fun i x hi hx => r.at hx) q⟩
      cases hx
      refine ⟨.int (0 + (i : Int)), ?_, by rw [Int.zero_add]; exact .int _⟩
      unfold rangeD
      rw [List.getElem?_map, List.getElem?_range (by rw [← r.length]; exact hi)]
      rfl
/-! ### guards -/
theorem gGi {v : SV} {QS : Sst → Mem → Prop} (h : WG X B ex (.Subscript a b pos) v QS ss M) : WG X B ex (.Subscript a b pos) v QS ss M := h
/-- a module's own tuple, list .. that is read -/
theorem we_globD {x : Str} {l : Addr} {d : D} (hg : Gl X x) (hm : X.mg x = some (.ref l)) (r : ∀ G, Rep X.K G (.ref l) d) (q : Q (.dat d) M) (hd : (x == ("__debug__" : Str)) = false := by decide) : WE X B ex (.Name x pos) Q ss M := we_c (pe_glob (v := .ref l) hg hm rfl hd) r q
/-! ### a comprehension's list as a cell -/
theorem Wd.adoptC {K : PySem.W.Frag} {G : Hp} {A : List Addr} {H : Hp} (w : Wd K B G A M H) {l : Addr} {us : List V} {acc : List D} (hl : H l = some (.lst us)) (nA : l ∉ A) (gl : G l = Option.none) (hb : B.H l = Option.none) (r : Reps K G us acc) : Wd K B G (A ++ [l]) (M ++ [.lst acc]) H ∧ Ext G A G (A ++ [l]) := by
  have ex : Ext G A G (A ++ [l]) := ⟨fun _ _ e => e, [l], rfl⟩
  refine ⟨⟨w.gg, w.gh, w.fr, w.fresh, ?_, ?_, ?_, ?_, ?_⟩, ex⟩
  · refine List.nodup_append.mpr ⟨w.nd, by simp, ?_⟩
    intro x hx y hy z
    rw [List.mem_singleton] at hy
    subst hy
    exact nA (z ▸ hx)
  · obtain ⟨more, e⟩ := w.pre
    exact ⟨more ++ [l], by rw [e]; simp⟩
  · intro y m
    rcases List.mem_append.mp m with m | m
    · exact w.there y m
    · rw [List.mem_singleton] at m; subst m; exact ⟨_, hl⟩
  · intro y m
    rcases List.mem_append.mp m with m | m
    · exact w.an y m
    · rw [List.mem_singleton] at m; subst m; exact .inr hb
  · exact (w.cl.imp fun a c m h => h.keep ex (fun g => g) fun u e => e).append (.cons ⟨gl, us, hl, r⟩ .nil)
def asCell (Q : SV → Mem → Prop) : SV → Mem → Prop := fun x M => ∃ acc, x = .dat (.lst acc) ∧ Q (.cel M.length) (M ++ [.lst acc])
theorem lc_allC {tg : Expr} {g : TG} {T : D → Sst → (Sst → Prop) → Prop} {vs : List Nat} {σ : L2.St} {G A H Kq} (ck : Cok X B ex) (hT : TgOk X.K g T vs) (w : Wd X.K B G A M H) (sl : Sl X.K G A σ ss) (k : VPost X.K B G A Q Kq)
    (h : WI X B ex tg iter (fun ds M1 => ∃ I, I 0 [] M1 ∧ LcQ X scope elt ifs T vs ds I (asCell Q) ss) ss M) : tLc (tiW X tg iter) g (tsB X scope ifs) (teB X scope elt) vs σ H Kq := by
  refine h ck G A H σ w sl _ fun J ds G1 A1 M1 H1 e1 w1 src h1 q hq => ?_
  obtain ⟨I, h0, hL⟩ := h1
  obtain ⟨Gp, Y, wk, hG, hY⟩ := src
  obtain ⟨hbq, nAq, ngq⟩ := w1.none hq
  refine lc_it wk (LcInv X.K B G1 A1 σ ss q I) ⟨[], [], G1, A1, M1, .refl, w1.grow hq, sl.mono e1, upd_same, .nil, nAq, ngq, h0⟩ (fun i H _ ⟨_, _, G', _, _, s', w', _⟩ => hG H (s'.1.trans w'.gh)) (fun i y H H' hi hj hy => ?_) fun H hj => ?_
  · obtain ⟨acc, us, G2, A2, M2, s2, w2, sl2, hq2, r2, nA2, gq2, hi2⟩ := hj
    obtain ⟨G3, d, s3, w3, hd, rd, sH, fG⟩ := hY i H y H' G2 A2 M2 hi s2.1 w2 hy
    have hq3 : H' q = some (.lst us) := sH _ _ hq2
    have gq3 : G3 q = none := by
      cases e : G3 q with
      | none => rfl
      | some u =>
        rcases fG q u e with z | z
        · rw [gq2] at z; cases z
        · rw [hq2] at z; cases z
    have e3 : Ext G2 A2 G3 A2 := ⟨s3, [], by simp⟩
    refine hT.run w3 (sl2.mono e3) rd (hL.1 i d acc M2 hd hi2) fun σ2 ss2 hw sl3 ht => ⟨hw, ?_⟩
    exact lc_turn rfl hbq (s2.trans e3) w3 (sl2.mono e3) sl3 hq3 (r2.mono s3) nA2 gq3 ht
  · obtain ⟨acc, us, G2, A2, M2, s2, w2, sl2, hq2, r2, nA2, gq2, hi2⟩ := hj
    obtain ⟨w3, e3⟩ := w2.adoptC hq2 nA2 gq2 hbq r2
    obtain ⟨acc2, e4, qq⟩ := hL.2 acc M2 hi2
    cases e4
    exact k (.ref q) (.cel M2.length) G2 (A2 ++ [q]) (M2 ++ [.lst acc]) H (e1.trans (s2.trans e3)) w3 ⟨q, rfl, by rw [← w2.len]; simp⟩ qq
theorem we_lc1C {x : Str} {j : Nat} {tp : Pos} (hc : X.calm = true) (hN : X.N.Nodup) (ok : BlkOk X.N X.env.scope scope [(x, j)]) (hj : X.N[j]? = some x) (hL : ∀ s H C cl fp, Loc (Blk X scope s H C cl fp).env.scope x) (hi : ifs.length ≤ 1)
    (h : WI X B ex (.Name x tp) iter (fun ds M1 => ∃ I, I 0 [] M1 ∧ LcQ X scope elt ifs (tg1 j) [j] ds I (asCell Q) ss) ss M)
    (hf : ∀ s H C cl fp, (Blk X scope s H C cl fp).fn x = true ∨ (Blk X scope s H C cl fp).env.scope.names.lookup x = some .local := by intro _ _ _ _ _; first | exact .inl rfl | exact .inr rfl)
    (hs : ∀ x, foldedSetIterable iter X.env x = pure x := by intro _; rfl) : WE X B ex (.ListComp elt [⟨.Name x tp, iter, ifs, 0⟩] scope pos) Q ss M := .mk fun ck G A H σ w sl Kq k => by
  refine te_of (pe_lc (own := [(x, j)]) (g := gName j) hc hN pi_self ok (fun s H C cl fp => pg_name (i := j) hN hj (hL s H C cl fp) (hf s H C cl fp)) (fun s H C cl fp => ps_blk hi) (fun s H C cl fp => pe_blk) hs) ?_
  exact lc_allC ck tgOk1 w sl k h
end
end Mb

/-! Mb, part 34: a tuple of texts that the top holds. -/
namespace Mb
open PySem L2 PyProof.Rows
theorem strsOf_vals {K : PySem.W.Frag} {G : Hp} : ∀ {us : List Value} {xs : List Str}, strsOf us = some xs → (∀ x ∈ xs, SOk x) → Vals (xs.map V.str) us ∧ Reps K G (xs.map V.str) (xs.map D.str)
  | [], xs, h, _ => by
    cases h
    exact ⟨.nil, .nil⟩
  | .str x t :: r, xs, h, hs => by
    simp only [strsOf] at h
    cases e : strsOf r with
    | none => rw [e] at h; cases h
    | some ys =>
      rw [e] at h
      cases h
      obtain ⟨h1, h2⟩ := strsOf_vals (K := K) (G := G) e fun x m => hs x (List.mem_cons_of_mem _ m)
      exact ⟨.cons ⟨t, rfl⟩ h1, .cons (.str x (hs x (List.mem_cons_self ..))) h2⟩
theorem tupO_rep {K : PySem.W.Frag} {l : Addr} {o : Obj} {xs : List Str} (hk : List.lookup l K = some o) (h : tupO o = some xs) (hs : ∀ x ∈ xs, SOk x) (G : Hp) : Rep K G (.ref l) (.tup (xs.map D.str)) := by
  obtain ⟨cls, dd, data, sl⟩ := o
  unfold tupO at h
  cases cls with
  | type n =>
    cases data with
    | seq its m =>
      simp only at h
      split at h
      · rename_i hc
        obtain ⟨rfl, hz⟩ := hc
        obtain ⟨h1, h2⟩ := strsOf_vals (K := K) (G := G) h hs
        exact .tup (.inr ⟨_, its, m, hk, rfl, rfl, Nat.le_trans hz (by decide), h1⟩) h2
      · cases h
    | _ => cases h
  | _ => cases h
theorem we_globT {X : Cx} {B : Base} {ex : XD} {ss : Sst} {M : Mem} {pos : Pos} {Q : SV → Mem → Prop} {x : Str} {d : D} (hm : ∃ l, X.mg x = some (.ref l) ∧ ∀ G, Rep X.K G (.ref l) d) (hg : Gl X x) (q : Q (.dat d) M) (hd : (x == ("__debug__" : Str)) = false := by decide) : WE X B ex (.Name x pos) Q ss M := by
  obtain ⟨l, h1, h2⟩ := hm
  exact we_globD hg h1 h2 q hd
end Mb

/-! Mb, part 35: list + list as a cell. -/
namespace Mb
open PySem L2 PyProof.Rows
section
variable {X : Cx} {B : Base} {ex : XD} {ss : Sst} {M : Mem} {a b : Expr} {pos : Pos} {Q : SV → Mem → Prop}
theorem we_addC (h : WE X B ex a (fun x M1 => WE X B ex b (fun y M2 => ∃ d1 d2, x.get M2 = some (.lst d1) ∧ y.get M2 = some (.lst d2) ∧ d1.length + d2.length ≤ sizeLine ∧ Q (.cel M2.length) (M2 ++ [.lst (d1 ++ d2)])) ss M1) ss M) : WE X B ex (.BinOp a .Add b pos) Q ss M := by
  refine we_op2 (f := fun M2 x y Q => ∃ d1 d2, x.get M2 = some (.lst d1) ∧ y.get M2 = some (.lst d2) ∧ d1.length + d2.length ≤ sizeLine ∧ Q (.cel M2.length) (M2 ++ [.lst (d1 ++ d2)])) op_catL (fun G A H M x y u v Q Kq w sx sy hh k => ?_) h
  obtain ⟨d1, d2, g1, g2, hl, q⟩ := hh
  obtain ⟨a1, v1, rfl, h1, r1⟩ := sx.s w g1
  obtain ⟨a2, v2, rfl, h2, r2⟩ := sy.s w g2
  exact ⟨_, _, v1, v2, rfl, rfl, h1, h2, by rw [r1.length, r2.length]; exact hl, k.newC .refl w (r1.append r2) q⟩
theorem get_last {pre : Mem} {ds : List D} : SV.get (pre ++ [.lst ds]) (.cel pre.length) = some (.lst ds) := by
  simp [SV.get]
theorem set_last {pre : Mem} {c d : Cell} : (pre ++ [c]).set pre.length d = pre ++ [d] := by
  induction pre with
  | nil => rfl
  | cons x pre ih => show x :: (pre ++ [c]).set pre.length d = _; rw [ih]; rfl
theorem at_last {pre : Mem} {c : Cell} : (pre ++ [c])[pre.length]? = some c := by simp
end
end Mb

/-! Mb, part 36: five targets; in of a tuple as a value. -/
namespace Mb
open PySem L2 PyProof.Rows
section
variable {X : Cx} {B : Base} {ex : XD} {ss : Sst} {M : Mem} {pos : Pos} {Q : SV → Mem → Prop}
theorem wg_tup5 {t1 t2 t3 t4 t5 : Expr} {j : Nat} {d1 d2 d3 d4 d5 : D} {Q : Sst → Mem → Prop} (hc : X.calm = true) (h : WG X B ex t1 (.dat d1) (fun ss2 M2 => WG X B ex t2 (.dat d2) (fun ss3 M3 => WG X B ex t3 (.dat d3) (fun ss4 M4 => WG X B ex t4 (.dat d4) (fun ss5 M5 => WG X B ex t5 (.dat d5) Q ss5 M5) ss4 M4) ss3 M3) ss2 M2) ss M)
    (hn : (assignEach [t1, t2, t3, t4, t5] X.env).length = 5 := by rfl) (hst : (assignEach [t1, t2, t3, t4, t5] X.env).findIdx? (·.1) = none := by rfl) (h1 : (assignEach [t1, t2, t3, t4, t5] X.env).map (·.2) = assign t1 X.env :: (assignEach [t2, t3, t4, t5] X.env).map (·.2) := by rfl)
    (h2 : (assignEach [t2, t3, t4, t5] X.env).map (·.2) = assign t2 X.env :: (assignEach [t3, t4, t5] X.env).map (·.2) := by rfl) (h3 : (assignEach [t3, t4, t5] X.env).map (·.2) = assign t3 X.env :: (assignEach [t4, t5] X.env).map (·.2) := by rfl) (h4 : (assignEach [t4, t5] X.env).map (·.2) = assign t4 X.env :: (assignEach [t5] X.env).map (·.2) := by rfl) (h5 : (assignEach [t5] X.env).map (·.2) = assign t5 X.env :: (assignEach [] X.env).map (·.2) := by rfl) :
    WG X B ex (.Tuple [t1, t2, t3, t4, t5] j pos) (.dat (.tup [d1, d2, d3, d4, d5])) Q ss M := .mk fun ck G A H σ v w sl s Kq k => by
  refine tg_of (pg_tup hc (pgs_cons pg_self (pgs_cons pg_self (pgs_cons pg_self (pgs_cons pg_self (pgs_cons pg_self pgs_nil h5) h4) h3) h2) h1) hn hst) ?_
  have s : Rep X.K G v (.tup [d1, d2, d3, d4, d5]) := s
  cases s with
  | tup hl r =>
    cases r with
    | cons r1 r =>
      cases r with
      | cons r2 r =>
        cases r with
        | cons r3 r =>
          cases r with
          | cons r4 r =>
            cases r with
            | cons r5 r =>
              cases r
              refine ⟨_, _, rfl, sqtM w.gh hl, rfl, _, _, rfl, ?_⟩
              refine h ck G A H σ _ w sl r1 _ fun σ' ss' G' A' M' H' s' w' sl' q => ⟨_, _, rfl, ?_⟩
              refine q ck G' A' H' σ' _ w' sl' (Rep.mono s' r2) _ fun σ2 ss2 G2 A2 M2 H2 s2 w2 sl2 q2 => ⟨_, _, rfl, ?_⟩
              refine q2 ck G2 A2 H2 σ2 _ w2 sl2 (Rep.mono (s'.trans s2) r3) _ fun σ3 ss3 G3 A3 M3 H3 s3 w3 sl3 q3 => ⟨_, _, rfl, ?_⟩
              refine q3 ck G3 A3 H3 σ3 _ w3 sl3 (Rep.mono ((s'.trans s2).trans s3) r4) _ fun σ4 ss4 G4 A4 M4 H4 s4 w4 sl4 q4 => ⟨_, _, rfl, ?_⟩
              exact q4 ck G4 A4 H4 σ4 _ w4 sl4 (Rep.mono (((s'.trans s2).trans s3).trans s4) r5) _ fun σ5 ss5 G5 A5 M5 H5 s5 w5 sl5 q5 => ⟨rfl, k σ5 ss5 G5 A5 M5 H5 ((((s'.trans s2).trans s3).trans s4).trans s5) w5 sl5 q5⟩
theorem inTv {d : D} {ds : List D} (h1 : D.pl 0 d = true) (h2 : ds.all (D.pl 0) = true) (h : Q (.dat (.bl (ds.any fun z => deq z d))) M) : in2 false M (.dat d) (.dat (.tup ds)) Q := by
  refine ⟨w1d (w1d ⟨?_⟩)⟩
  unfold inD0
  cases d <;> first | exact ⟨⟨h1, h2⟩, h⟩ | cases h1
end
end Mb

/-! Mb, part 37: a dict display whose values make cells; == where an exception is held. -/
namespace Mb
open PySem L2 PyProof.Rows
section
variable {X : Cx} {B : Base} {ex : XD} {ss : Sst} {M : Mem} {a b : Expr} {pos : Pos} {Q : SV → Mem → Prop}
theorem we_dispI {keys : List (Option Expr)} {vs : List Expr} (h : WPs X B ex (keys.filterMap id) vs (fun kvs M1 => M1[M.length]? = some (.dic []) ∧ kvs.length ≤ 15 ∧ Q (.cel M.length) (M1.set M.length (.dic (mergeD [] kvs)))) ss (M ++ [.dic []])) (hk : keys = (keys.filterMap id).map some := by rfl) (hl : (keys.filterMap id).length = vs.length := by rfl) (h0 : keys.filterMap id ≠ [] := by intro z; cases z) (h15 : (keys.filterMap id).length ≤ 15 := by decide) :
    WE X B ex (.Dict keys vs pos) Q ss M := by
  rw [hk]
  generalize keys.filterMap id = ks at h hl h0 h15
  refine .mk fun ck G A H σ w sl Kq k => ?_
  have hall : (ks.map some).all (·.isSome) = true := by rw [List.all_map, List.all_eq_true]; intro x _; rfl
  refine te_of (pe_disp (pps_self hl) hall (by rw [List.length_map]; exact hl) (fun z => h0 (List.map_eq_nil_iff.mp z)) (by rw [List.length_map]; exact h15)) fun q hq => ?_
  obtain ⟨w1, e1⟩ := w.newC (c := .dic []) (o := .dK []) hq ⟨(w.none hq).2.2, [], upd_same, .nil⟩
  refine WPs.goes ck h w1 (sl.mono e1) fun kv kvs G2 A2 M1 H2 e2 w2 r hQ => ?_
  obtain ⟨gM, hk, hQ⟩ := hQ
  have gA : A2[M.length]? = some q := by
    refine pre_get e2.2 ?_
    rw [← w.len, List.getElem?_append_right (Nat.le_refl _), Nat.sub_self]
    rfl
  obtain ⟨gn, kv0, hv, r0⟩ := w2.cl.get gA gM
  cases r0
  refine ⟨hv, kv, rfl, by rw [r.length]; exact hk, ?_⟩
  have w3 := w2.setC (c' := .dic (mergeD [] kvs)) (o := .dK (mergeK [] kv)) gA gn ⟨gn, _, upd_same, RepK.merge r .nil⟩
  exact k _ (.cel M.length) G2 A2 _ _ (e1.trans e2) w3 ⟨q, rfl, gA⟩ hQ
theorem we_eqU (hu : X.A.units + 64 < cLine) (h : WE X B ex a (fun x M1 => WE X B ex b (fun y M2 => eq2 false M2 x y Q) ss M1) ss M) : WE X B ex (.Compare a [.Eq] [b] pos) Q ss M :=
  we_cmp2 (f := eq2 false) (op_eqD hu) (nomark _) (fun G A H M x y u v Q Kq w sx sy h k => eq2_run w sx sy h k) h
end
end Mb

/-! Mb, part 38: what the top holds, looked at by one run. -/
namespace Mb
open PySem L2 PyProof.Rows
section
variable {fa : List (List Fact)} {fn : List He.FnD} {K : PySem.W.Frag}
theorem Held.at (c : Held fa fn K) (i j : Nat) {l : List Fact} {f : Fact} (h1 : fa[i]? = some l) (h2 : l[j]? = some f) : f K = true := by
  have q : (fa.all fun l => l.all fun f => f K) = true := congrArg (fun z : He.Al => z.1) c.run
  exact List.all_eq_true.mp (List.all_eq_true.mp q l (List.mem_of_getElem? h1)) f (List.mem_of_getElem? h2)
theorem Held.def_ (c : Held fa fn K) (i : Nat) {d : He.FnD} (h : fn[i]? = some d) : He.fnObs K d.at_ = d.val := by
  have q : (fn.map fun d => He.fnObs K d.at_) = fn.map He.FnD.val := congrArg (fun z : He.Al => z.2) c.run
  have q2 : (fn.map fun d => He.fnObs K d.at_)[i]? = (fn.map He.FnD.val)[i]? := congrArg (fun z => z[i]?) q
  rw [List.getElem?_map, List.getElem?_map, h] at q2
  exact Option.some.inj q2
theorem fnX {at_ : Str × Option Str} {x q : Str} {st : Stmt} (e : He.fnObs K at_ = (dOf at_ x q st).val) (c : codeF at_ q K = true) : FnRaw K x q st (He.fAd K at_) := by
  obtain ⟨oc, od, osl, kV, doc, pm, an, cdv, ct, lk, hc⟩ := He.fn_ok (d := dOf at_ x q st) e c
  refine fnraw lk hc ?_
  unfold PySem.W.keepIn
  simp only [lk]
end
section
variable {K : PySem.W.Frag} {h : Heap} {mg : Str → Option Value} {C f : PySem.W.Frag → Addr}
theorem mkF_ok (c : mkF C f K = true) : Mk K (C K) (f K) := by
  obtain ⟨c1, c⟩ := He.ba c
  obtain ⟨c2, c⟩ := He.ba c
  obtain ⟨c3, c4⟩ := He.ba c
  exact ⟨c1, He.eqO_ok c2, c3, c4⟩
theorem mk0F_ok (c : mk0F C K = true) : Mk00 K (C K) := by
  obtain ⟨c1, c⟩ := He.ba c
  obtain ⟨c2, c3⟩ := He.ba c
  exact ⟨c1, He.eqO_ok c2, c3⟩
theorem meF_ok {m : Str} (c : meF C m f K = true) : Meth K (C K) m (f K) := by
  obtain ⟨c1, c⟩ := He.ba c
  obtain ⟨c2, c3⟩ := He.ba c
  exact ⟨He.eqO_ok c1, c2, c3⟩
theorem clF_ok (c : clF C K = true) : Cls K (C K) := by
  obtain ⟨c1, c⟩ := He.ba c
  obtain ⟨c2, c⟩ := He.ba c
  obtain ⟨c3, c4⟩ := He.ba c
  exact ⟨c1, c2, c3, He.eqO_ok c4⟩
theorem fiF_ok {x : Str} {v : PySem.W.Frag → Option Value} (c : fiF C x v K = true) : PySem.W.findIn K (.ref (C K)) x = some (v K) := He.eqO_ok c
theorem isF_ok (c : isF C K = true) : IsC0 K (C K) := by
  obtain ⟨c1, c⟩ := He.ba c
  obtain ⟨c2, c⟩ := He.ba c
  obtain ⟨c3, c4⟩ := He.ba c
  exact ⟨He.eqO_ok c1, He.eqO_ok c2, of_decide_eq_true c3, of_decide_eq_true c4⟩
theorem exF2_ok (c : exF2 C K = true) : XfC K (C K) ∧ ExcC K (C K) := by
  obtain ⟨c1, c2⟩ := He.ba c
  have a := xfB_ok c1
  have b := isF_ok c2
  exact ⟨a, ⟨a.ga, a.gg, a.exC, a.hdC, b.ha, b.hn, b.htk, b.hm⟩⟩
theorem kiF_ok {v : PySem.W.Frag → Value} {b : Bool} (c : kiF C v b K = true) : PySem.W.kitOne K (.ref (C K)) (v K) = some b := of_decide_eq_true c
theorem xmF_ok {v : PySem.W.Frag → Value} {b : Bool} (c : xmF C v b K = true) : PySem.W.exmOne K (.ref (C K)) (v K) = some b := of_decide_eq_true c
theorem tyF_ok {t : Value} (c : tyF C t K = true) : PySem.W.typeIn K (.ref (C K)) = some t := of_decide_eq_true c
theorem oxF_ok (c : oxF C K = true) : OexC K (C K) := by
  obtain ⟨c1, c⟩ := He.ba c
  obtain ⟨c2, c⟩ := He.ba c
  obtain ⟨c3, c⟩ := He.ba c
  obtain ⟨c4, c5⟩ := He.ba c
  refine ⟨?_, He.eqO_ok c2, of_decide_eq_true c3, of_decide_eq_true c4, c5⟩
  clear c2 c3 c4 c5
  cases lk : K.lookup (C K) with
  | none => rw [lk] at c1; cases c1
  | some o =>
    rw [lk] at c1
    replace c1 : oxB (C K) o = true := c1
    unfold oxB at c1
    split at c1
    · rename_i t dd cd sl
      split at c1
      · rename_i C' bm k0 k1 k2 k3 n k5 hm hs
        obtain ⟨d1, c1⟩ := He.ba c1
        obtain ⟨d2, c1⟩ := He.ba c1
        obtain ⟨d3, c1⟩ := He.ba c1
        obtain ⟨d4, c1⟩ := He.ba c1
        obtain ⟨d5, d6⟩ := He.ba c1
        obtain ⟨nm, bs, mro, ns, qn, hd, sn, sub, ab, col, del⟩ := cd
        dsimp only at hm d4 d5
        have e1 := of_decide_eq_true d1
        have e2 := of_decide_eq_true d2
        have e3 := of_decide_eq_true d3
        have e4 : del = false := by
          cases del
          · rfl
          · cases d4
        have e5 : sl = #[k0, k1, k2, k3, some (.builtin n), k5] := by
          obtain ⟨l⟩ := sl
          exact congrArg Array.mk hs
        subst e1 e3 e4 d5 hm e5
        rw [← e2]
        exact ⟨nm, qn, ns, bs, bm, sn, sub, ab, col, dd, k0, k1, k2, k3, k5, by rw [e2], d6⟩
      · cases c1
    · cases c1
theorem crF_ok (c : crF C K = true) : ClX.CRead K (C K) (.type "type") := by
  obtain ⟨c1, c2⟩ := He.ba c
  exact ⟨c1, He.eqO_ok c2⟩
theorem cvF_ok {m : Str} (c : cvF C m f K = true) : ClX.CVal K (C K) (.type "type") m (.ref (f K)) (.ref (f K)) := by
  refine ⟨?_, rfl⟩
  unfold cvF at c
  cases e : PySem.W.findCls K (.ref (C K)) (.type "type") m with
  | none => rw [e] at c; cases c
  | some r =>
    rw [e] at c
    cases r with
    | val u => rw [show u = .ref (f K) from of_decide_eq_true c]
    | _ => cases c
theorem tuF_ok (X : K.In h) (G : h.Ns mainGlobals mg) {x : Str} {xs : List Str} (c : tuF x xs K = true) (hs : ∀ z ∈ xs, SOk z) : ∃ l, mg x = some (.ref l) ∧ ∀ G, Rep K G (.ref l) (.tup (xs.map D.str)) := by
  unfold tuF at c
  split at c
  · rename_i l e
    split at c
    · rename_i o lk
      exact ⟨l, PySem.W.mg_of X G e, tupO_rep lk (of_decide_eq_true c) hs⟩
    · cases c
  · cases c
end
/-- a law, over a head that tells its facts -/
theorem walkX {l : PySem.W.OpenLaw} {k : Nat} {q : Program} {loose : List Str} {ns : List Str × List Str} {XP : (Str → Option Value) → Heap → Prop} {d : DefRec} {fa : List (List Fact)} {fn : List He.FnD} (hn : l.most = some 63) (hdf : d.params.defaults = []) (hdn : d.name = "law") (hr : Room k callerA)
    (F : ∀ (w : World) (mg : Str → Option Value) (h : Heap) (K : PySem.W.Frag), K.In h → h.Ns mainGlobals mg → Held fa fn K →
      ∃ (f : Addr) (fd : FuncData), mg "law" = some (.ref f) ∧ (∀ (s : Shared) (u : Value), BindsTo s fd ⟨[u], []⟩ [("_law_script", u)]) ∧ ∀ base : Heap, FnOk l.prog w K mg base (L2.CX l.prog w) k f fd ["_law_script"] (spOf K 0 (sp_law K))) :
    PySem.W.WalkO q loose XP (hookX ns fa fn).says l.row.toRowW d [] (fun f vs => PySem.call f vs) := by
  refine Att.attach_call hn hdf fun w s0 s1 mg mb fa o pm cd doc a vs is G Y ho hd hcd hmg hobj hints hlen hg => ?_
  obtain ⟨K, KX, c⟩ := Y
  obtain ⟨f, fd, hf, hb, hF⟩ := F w mg _ K KX G.T.g c
  rw [hdn] at hmg
  obtain rfl : fa = f := by
    have e := hmg.symm.trans hf
    cases e
    rfl
  refine law_call (k := k) KX G.T.g G.T.b G.T.builtins G.T.nolimit hg hobj hints (Nat.le_trans hlen (by decide)) hr (fun base _ _ => hF base) hb (fun H hO hS => law_sp hlen hS) ?_
  intro H e s' z
  obtain ⟨_, _, _, _, _, _, _, _, _, _, _, _, z⟩ := z
  exact z
section
variable {X : Cx} {B : Base} {ex : XD} {ss : Sst} {M : Mem} {N : Nd} {e : Expr} {es : List Expr} {p p' pos : Pos}
theorem gSn (x : Str) (h : WS X B ex (.Assign [.Name x p] e pos) N ss M) : WS X B ex (.Assign [.Name x p] e pos) N ss M := h
theorem gRa (x : Str) {kw : List Keyword} (h : WS X B ex (.Raise (some (.Call (.Name x p) es kw p')) none pos) N ss M) : WS X B ex (.Raise (some (.Call (.Name x p) es kw p')) none pos) N ss M := h
end
end Mb

/-! Mb, part 39: lists and tuples that hold cells. -/
namespace Mb
open PySem L2 PyProof.Rows
def FV.sv : FV → SV
  | .dat d => .dat d
  | .cel i => .cel i
def fvOf : SV → Option FV
  | .dat d => some (.dat d)
  | .cel i => some (.cel i)
  | _ => none
def fvsOf : List SV → Option (List FV)
  | [] => some []
  | x :: r => match fvOf x, fvsOf r with
    | some f, some fs => some (f :: fs)
    | _, _ => none
section
variable {K : PySem.W.Frag} {B : Base} {G : Hp} {A : List Addr} {M : List Cell} {H : Hp}
theorem FvOk.sv {v : V} {x : FV} (h : FvOk K G A v x) : SvOk K G A v x.sv := by
  cases x <;> exact h
theorem SvOk.fv {v : V} {x : SV} {f : FV} (h : SvOk K G A v x) (e : fvOf x = some f) : FvOk K G A v f := by
  cases x with
  | dat d => cases e; exact h
  | cel i => cases e; exact h
  | raw u => cases e
  | exc a b c => cases e
  | tup xs => cases e
  | xt ds => cases e
theorem Svs.fvs : ∀ {vs : List V} {xs : List SV} {fs : List FV}, Svs K G A vs xs → fvsOf xs = some fs → Fvs K G A vs fs
  | _, _, _, .nil, e => by
    simp only [fvsOf, Option.some.injEq] at e
    subst e
    exact .nil
  | _, x :: r, _, .cons h q, e => by
    simp only [fvsOf] at e
    cases e1 : fvOf x with
    | none => simp [e1] at e
    | some d =>
      cases e2 : fvsOf r with
      | none => simp [e1, e2] at e
      | some ds =>
        simp only [e1, e2, Option.some.injEq] at e
        subst e
        exact .cons (h.fv e1) (q.fvs e2)
theorem Fvs.length : ∀ {vs : List V} {xs : List FV}, Fvs K G A vs xs → vs.length = xs.length
  | _, _, .nil => rfl
  | _, _, .cons _ r => congrArg (· + 1) r.length
theorem Svs.getS : ∀ {vs : List V} {xs : List SV} {i : Nat} {x : SV}, Svs K G A vs xs → xs[i]? = some x → ∃ v, vs[i]? = some v ∧ SvOk K G A v x
  | _, _, _, _, .nil, e => by simp at e
  | _, _, 0, _, .cons h _, e => by
    simp at e
    subst e
    exact ⟨_, rfl, h⟩
  | _, _, i + 1, x, .cons _ r, e => by
    obtain ⟨v, h1, h2⟩ := r.getS (i := i) (x := x) (by simpa using e)
    exact ⟨v, by simpa using h1, h2⟩
theorem Fvs.getF : ∀ {vs : List V} {xs : List FV} {i : Nat} {x : FV}, Fvs K G A vs xs → xs[i]? = some x → ∃ v, vs[i]? = some v ∧ FvOk K G A v x
  | _, _, _, _, .nil, e => by simp at e
  | _, _, 0, _, .cons h _, e => by
    simp at e
    subst e
    exact ⟨_, rfl, h⟩
  | _, _, i + 1, x, .cons _ r, e => by
    obtain ⟨v, h1, h2⟩ := r.getF (i := i) (x := x) (by simpa using e)
    exact ⟨v, by simpa using h1, h2⟩
theorem atI_svs {vs : List V} {xs : List SV} {n : Int} {x : SV} (r : Svs K G A vs xs) (h : atI xs n = some x) : ∃ v, atI vs n = some v ∧ SvOk K G A v x := by
  unfold atI at h ⊢
  rw [r.length]
  cases e : ixN xs.length n with
  | none => simp [e] at h
  | some j =>
    simp only [e, Option.bind_some] at h ⊢
    exact r.getS h
theorem atI_fvs {vs : List V} {xs : List FV} {n : Int} {x : FV} (r : Fvs K G A vs xs) (h : atI xs n = some x) : ∃ v, atI vs n = some v ∧ FvOk K G A v x := by
  unfold atI at h ⊢
  rw [r.length]
  cases e : ixN xs.length n with
  | none => simp [e] at h
  | some j =>
    simp only [e, Option.bind_some] at h ⊢
    exact r.getF h
end
/-- an item of a list or a tuple that is not data -/
def itS (M : Mem) (x : SV) (n : Int) : Option SV := match x with
  | .tup fs => (atI fs n).map FV.sv
  | .cel i => match M[i]? with
    | some (.mix xs) => atI xs n
    | _ => none
  | _ => none
section
variable {X : Cx} {B : Base} {ex : XD} {ss : Sst} {M : Mem} {a b c e tg o : Expr} {es : List Expr} {pos p p' apos : Pos} {Q : SV → Mem → Prop}
theorem we_tupS {j : Nat} (h : WA X B ex es (fun xs M1 => ∃ fs, fvsOf xs = some fs ∧ fs.length ≤ sizeLine ∧ Q (.tup fs) M1) ss M) : WE X B ex (.Tuple es j pos) Q ss M := .mk fun ck G A H σ w sl Kq k => by
  refine te_of (pe_tup pa_self) ?_
  refine h ck G A H σ w sl _ fun vs xs G1 A1 M1 H1 e1 w1 s1 h1 => ?_
  obtain ⟨fs, hf, hz, q⟩ := h1
  have r := s1.fvs hf
  refine ⟨by rw [r.length]; exact hz, fun p hp => ?_⟩
  obtain ⟨w2, e2⟩ := w1.newD (o := .tup vs) hp
  exact k _ (.tup fs) _ _ _ _ (e1.trans e2) w2 ⟨p, vs, rfl, .of upd_same, r.mono e2⟩ q
theorem we_lstM (h : WA X B ex es (fun xs M1 => xs.length ≤ sizeLine ∧ Q (.cel M1.length) (M1 ++ [.mix xs])) ss M) : WE X B ex (.List es pos) Q ss M := .mk fun ck G A H σ w sl Kq k => by
  refine te_of (pe_lst pa_self) ?_
  refine h ck G A H σ w sl _ fun vs xs G1 A1 M1 H1 e1 w1 s1 h1 => ?_
  obtain ⟨hz, q⟩ := h1
  refine ⟨by rw [s1.length]; exact hz, fun p hp => ?_⟩
  obtain ⟨w2, e2⟩ := w1.newC (c := .mix xs) (o := .lst vs) hp ⟨(w1.none hp).2.2, vs, upd_same, s1.mono ⟨fun _ _ e => e, [p], rfl⟩⟩
  refine k _ (.cel M1.length) _ _ _ _ (e1.trans e2) w2 ⟨p, rfl, ?_⟩ q
  rw [← w1.len, List.getElem?_append_right (Nat.le_refl _), Nat.sub_self]
  rfl
theorem we_ixS (h : WE X B ex a (fun x M1 => WE X B ex b (fun y M2 => ∃ n v, y = .dat (.int n) ∧ itS M2 x n = some v ∧ Q v M2) ss M1) ss M) (hs : PlainIx b := by intro _ _; rfl) : WE X B ex (.Subscript a b pos) Q ss M := by
  refine .mk fun ck G A H σ w sl Kq k => ?_
  refine te_of (pe_ix ix_seq pe_self pe_self hs) ?_
  refine h ck G A H σ w sl _ fun u x G1 A1 M1 H1 e1 w1 s1 h1 => ?_
  refine h1 ck G1 A1 H1 σ w1 (sl.mono e1) _ fun v y G2 A2 M2 H2 e2 w2 s2 h2 => ?_
  obtain ⟨n, z, rfl, hx, q⟩ := h2
  have s1 := s1.mono e2
  cases s2
  cases x with
  | dat d => cases hx
  | raw d => cases hx
  | xt ds => cases hx
  | exc _ _ _ => cases hx
  | tup fs =>
    obtain ⟨l, vs, rfl, hl, r⟩ := s1
    simp only [itS, Option.map_eq_some_iff] at hx
    obtain ⟨f, hf, rfl⟩ := hx
    obtain ⟨y, hy, ry⟩ := atI_fvs r hf
    exact .inr (.inl ⟨_, vs, _, y, rfl, rfl, sqtM w2.gh hl, hy, k _ _ G2 A2 M2 H2 (e1.trans e2) w2 ry.sv q⟩)
  | cel i =>
    obtain ⟨l, rfl, hl⟩ := s1
    simp only [itS] at hx
    cases hM : M2[i]? with
    | none => simp [hM] at hx
    | some c =>
      cases c with
      | mix xs =>
        simp only [hM] at hx
        obtain ⟨_, vs, hv, r⟩ := w2.cl.get hl hM
        obtain ⟨y, hy, ry⟩ := atI_svs r hx
        exact .inl ⟨_, vs, _, y, rfl, rfl, .inl (.inl hv), hy, k _ _ G2 A2 M2 H2 (e1.trans e2) w2 ry q⟩
      | _ => simp [hM] at hx
end
theorem wb_forgetE {X : Cx} {B : Base} {ex : XD} {sts : List Stmt} {N : Nd} {ss ss1 ss' : Sst} {M M' : Mem} {k : Nat} (es : ss = ss1) (hf : Fgt ss1 ss') (hk : B.A.length ≤ k) (hM : (M.take k).all (Cell.lt k) = true) (hs : (ss'.all fun o => match o with | some x => x.lt k | none => true) = true) (e : M.take k = M') (h : WB X B ex sts N ss' M') : WB X B ex sts N ss M := wb_forget (es ▸ hf) hk hM hs (by rw [e]; exact h)
end Mb

/-! Mb, part 40: str(x) by its own __str__. -/
namespace Mb
open PySem L2 PyProof.Rows
section
variable {X : Cx} {B : Base} {ex : XD} {ss : Sst} {M : Mem} {e : Expr} {es : List Expr} {pos p : Pos} {Q : SV → Mem → Prop} {n : Nat}
/-- the promise of a __str__: of d it tells z -/
def sp_str (P : D → Str → Prop) : SpD := fun xs M R _ => ∃ d z, xs = [.dat d] ∧ M = [] ∧ P d z ∧ (SOk z → R (.dat (.str z)) [])
def rStrO (X : Cx) (C : Addr) (P : D → Str → Prop) : List V → Hp → VK → Prop := fun xs H Q => ∃ v fs z, xs = [v] ∧ Rep X.K H v (.ins C fs) ∧ P (.ins C fs) z ∧ ∀ H', Same H H' → SOk z → Q (.str z) H'
theorem call_strO {C f : Addr} {fd : FuncData} {ps : List Str} {P : D → Str → Prop} (F : FnOk X.prog X.w X.K X.mg X.base (L2.CX X.prog X.w) n f fd ps (spOf X.K 0 (sp_str P))) (hr : Room (n + 2) X.A)
    (hs : PySem.W.findIn X.K (.ref C) "__str__" = some (some (.ref f))) (hf : PySem.W.isFn X.K (.ref f) = true) (hb : Binds X.K fd ps []) : CallR X (.type "str") (rStrO X C P) := by
  intro pins s σ H vs us Q I rv h
  obtain ⟨v, fs, z, rfl, r1, hP, q⟩ := h
  obtain ⟨u, rfl, ru⟩ := rv.one
  cases r1 with
  | ins ha ra nxx =>
  cases ru
  rename_i a dx fv
  obtain ⟨mA, J, _⟩ := ins_get I.hok ha
  obtain ⟨od, J, _⟩ := J.look
  have hr1 : Room n X.A.in1.in1 := (hr.in1).in1
  refine PySem.W.kso_call (K := X.K) hr1.units0 I.kIn J hs hf ?_
  have hsp : spOf X.K 0 (sp_str P) [.ref a] H (fun v H' => v = .str z ∧ SOk z ∧ Same H H') (fun _ _ _ => False) := by
    refine ⟨[.dat (.ins C fs)], [], H, [], rfl, ⟨fun _ _ e => e, fun _ _ e => e, fun _ _ e _ => e, fun _ _ e => .inl e, List.nodup_nil, ⟨[], rfl⟩, fun _ m => (by cases m), fun _ m => (by cases m), .nil⟩, .cons (Rep.ins ha ra nxx) .nil, fun x _ => x = .dat (.str z) ∧ SOk z, fun _ _ _ => False, ⟨_, z, rfl, rfl, hP, fun hz => ⟨rfl, hz⟩⟩, fun v x G' A' M' H' w' s' _ q => ?_, fun _ _ _ _ _ _ _ _ _ _ q => q⟩
    obtain ⟨rfl, hz⟩ := q
    cases s'
    exact ⟨rfl, hz, fun b o e => w'.fr b o e (by intro m; cases m)⟩
  have e0 : Env0 X.prog X.w X.K X.mg X.base X.A.in1.in1 X.stack s H := I.env0.in1.in1
  have hl := F.len _ _ _ _ hsp
  have rv2 : Vals [V.ref a] [Value.ref a] := .cons rfl .nil
  refine wpAny_call (codeAny_mono (F.run X.A.in1.in1 X.stack s H ⟨[.ref a], []⟩ [.ref a] [.ref a] _ _ hr1 e0 (by
    have := hb s [.ref a] I.kIn (by simpa using hl)
    simpa using this) rv2 hsp) fun r s' hq => ?_)
  cases r with
  | error e =>
    obtain ⟨_, _, _, _, _, _, _, _, _, _, _, _, z⟩ := hq
    exact z.elim
  | ok fl =>
    cases fl with
    | ret w =>
      obtain ⟨y, H', I', ry, ⟨ey, hz, ex⟩⟩ := I.after hq
      subst ey
      obtain ⟨t, rfl⟩ := ry
      exact ⟨.str z, H', I', ⟨t, rfl⟩, q H' ex hz⟩
    | next => exact False.elim hq
    | brk => exact False.elim hq
    | cont => exact False.elim hq
theorem we_strO {C f : Addr} {fd : FuncData} {ps : List Str} {P : D → Str → Prop} (F : FnOk X.prog X.w X.K X.mg X.base (L2.CX X.prog X.w) n f fd ps (spOf X.K 0 (sp_str P))) (hr : Room (n + 2) X.A)
    (hs : PySem.W.findIn X.K (.ref C) "__str__" = some (some (.ref f))) (hf : PySem.W.isFn X.K (.ref f) = true) (hb : Binds X.K fd ps []) (hm : X.mg "str" = none) (hg : Gl X "str")
    (h : WA X B ex (e :: es) (fun xs M1 => ∃ fs z, xs = [.dat (.ins C fs)] ∧ P (.ins C fs) z ∧ (SOk z → Q (.dat (.str z)) M1)) ss M)
    (he : starEach (e :: es) X.env = (false, eval e X.env) :: starEach es X.env := by rfl) (hpl : (backTo pos (starEach es X.env)).any (·.1) = false := by rfl) : WE X B ex (.Call (.Name "str" p) (e :: es) [] pos) Q ss M := by
  refine we_ct (f := fun M1 xs Q => ∃ fs z, xs = [.dat (.ins C fs)] ∧ P (.ins C fs) z ∧ (SOk z → Q (.dat (.str z)) M1)) (call_strO F hr hs hf hb) (fun G A H M xs vs Q Kq w r h k => ?_) hm (by decide +kernel) hg h (he := he) (hpl := hpl)
  obtain ⟨fs, z, rfl, hP, q⟩ := h
  cases r with
  | cons s r =>
    cases r
    have s : Rep X.K G _ (.ins C fs) := s
    exact ⟨_, fs, z, rfl, s.mono w.gh, hP, fun H' sm hz => k.flat .refl (w.same sm) (.str z hz) (q hz)⟩
end
end Mb

/-! Mb, part 41: what is lent to be read; lists that hold cells, changed; defs that give such lists. -/
namespace Mb
open PySem L2 PyProof.Rows
/-! ### seen as data -/
def celD (M : Mem) (i : Nat) : Option D := match M[i]? with
  | some (.lst ds) => some (.lst ds)
  | some (.dic ds) => some (.dic ds)
  | _ => none
def FV.see (M : Mem) : FV → Option D
  | .dat d => some d
  | .cel i => celD M i
def fsees (M : Mem) : List FV → Option (List D)
  | [] => some []
  | f :: r => match f.see M, fsees M r with
    | some d, some ds => some (d :: ds)
    | _, _ => none
def SV.see1 (M : Mem) : SV → Option D
  | .dat d => some d
  | .cel i => celD M i
  | .tup fs => (fsees M fs).map .tup
  | _ => none
def sees1 (M : Mem) : List SV → Option (List D)
  | [] => some []
  | f :: r => match f.see1 M, sees1 M r with
    | some d, some ds => some (d :: ds)
    | _, _ => none
def SV.see (M : Mem) (x : SV) : Option D := match x with
  | .cel i => match M[i]? with
    | some (.mix xs) => (sees1 M xs).map .lst
    | _ => x.see1 M
  | _ => x.see1 M
section
variable {K : PySem.W.Frag} {B : Base} {G : Hp} {A : List Addr} {M : Mem} {H : Hp}
theorem celD_rep (w : Wd K B G A M H) {i : Nat} {a : Addr} {d : D} (ha : A[i]? = some a) (e : celD M i = some d) : Rep K H (.ref a) d := by
  unfold celD at e
  cases hM : M[i]? with
  | none => simp [hM] at e
  | some c =>
    have q := w.cl.get ha hM
    cases c with
    | lst ds =>
      simp only [hM, Option.some.injEq] at e; subst e
      obtain ⟨_, vs, h1, r⟩ := q
      exact .lst (.inl h1) (r.mono w.gh)
    | dic ds =>
      simp only [hM, Option.some.injEq] at e; subst e
      obtain ⟨_, vs, h1, r⟩ := q
      exact .dic h1 (r.mono w.gh)
    | dead => simp [hM] at e
    | ins C fs => simp [hM] at e
    | mix xs => simp [hM] at e
    | dct P w ds => simp [hM] at e
theorem FvOk.see (w : Wd K B G A M H) {v : V} {x : FV} {d : D} (h : FvOk K G A v x) (e : x.see M = some d) : Rep K H v d := by
  cases x with
  | dat d' => simp only [FV.see, Option.some.injEq] at e; subst e; exact Rep.mono w.gh h
  | cel i =>
    obtain ⟨a, rfl, ha⟩ := h
    exact celD_rep w ha e
theorem Fvs.sees (w : Wd K B G A M H) : ∀ {vs : List V} {xs : List FV} {ds : List D}, Fvs K G A vs xs → fsees M xs = some ds → Reps K H vs ds
  | _, _, _, .nil, e => by
    simp only [fsees, Option.some.injEq] at e
    subst e
    exact .nil
  | _, x :: r, _, .cons h q, e => by
    simp only [fsees] at e
    cases e1 : x.see M with
    | none => simp [e1] at e
    | some d =>
      cases e2 : fsees M r with
      | none => simp [e1, e2] at e
      | some ds =>
        simp only [e1, e2, Option.some.injEq] at e
        subst e
        exact .cons (h.see w e1) (q.sees w e2)
theorem SvOk.see1 (w : Wd K B G A M H) {v : V} {x : SV} {d : D} (h : SvOk K G A v x) (e : x.see1 M = some d) : Rep K H v d := by
  cases x with
  | dat d' => simp only [SV.see1, Option.some.injEq] at e; subst e; exact Rep.mono w.gh h
  | cel i =>
    obtain ⟨a, rfl, ha⟩ := h
    exact celD_rep w ha e
  | tup fs =>
    simp only [SV.see1, Option.map_eq_some_iff] at e
    obtain ⟨ds, e, rfl⟩ := e
    obtain ⟨a, vs, rfl, h2, h3⟩ := h
    exact .tup (sqtM w.gh h2) (h3.sees w e)
  | raw u => simp [SV.see1] at e
  | xt ds => simp [SV.see1] at e
  | exc a b c => simp [SV.see1] at e
theorem Svs.sees1 (w : Wd K B G A M H) : ∀ {vs : List V} {xs : List SV} {ds : List D}, Svs K G A vs xs → Mb.sees1 M xs = some ds → Reps K H vs ds
  | _, _, _, .nil, e => by
    simp only [Mb.sees1, Option.some.injEq] at e
    subst e
    exact .nil
  | _, x :: r, _, .cons h q, e => by
    simp only [Mb.sees1] at e
    cases e1 : x.see1 M with
    | none => simp [e1] at e
    | some d =>
      cases e2 : Mb.sees1 M r with
      | none => simp [e1, e2] at e
      | some ds =>
        simp only [e1, e2, Option.some.injEq] at e
        subst e
        exact .cons (h.see1 w e1) (q.sees1 w e2)
theorem SvOk.see (w : Wd K B G A M H) {v : V} {x : SV} {d : D} (h : SvOk K G A v x) (e : x.see M = some d) : Rep K H v d := by
  cases x with
  | cel i =>
    cases hM : M[i]? with
    | none => simp only [SV.see, hM] at e; exact h.see1 w e
    | some c =>
      cases c with
      | mix xs =>
        simp only [SV.see, hM, Option.map_eq_some_iff] at e
        obtain ⟨ds, e, rfl⟩ := e
        obtain ⟨a, rfl, ha⟩ := h
        obtain ⟨_, vs, h1, r⟩ := w.cl.get ha hM
        exact .lst (.inl h1) (r.sees1 w e)
      | _ => simp only [SV.see, hM] at e; exact h.see1 w e
  | dat d' => exact h.see1 w e
  | tup fs => exact h.see1 w e
  | xt ds => exact h.see1 w e
  | raw u => exact h.see1 w e
  | exc a b c => exact h.see1 w e
/-- slots, lent -/
inductive Lend (M : Mem) : Sst → Sst → Prop
  | nil : Lend M [] []
  | drop {o : Option SV} {ss ss' : Sst} : Lend M ss ss' → Lend M (o :: ss) (none :: ss')
  | raw {u : V} {ss ss' : Sst} : Lend M ss ss' → Lend M (some (.raw u) :: ss) (some (.raw u) :: ss')
  | dat {d : D} {ss ss' : Sst} : Lend M ss ss' → Lend M (some (.dat d) :: ss) (some (.dat d) :: ss')
  | see {x : SV} {d : D} {ss ss' : Sst} : x.see M = some d → Lend M ss ss' → Lend M (some x :: ss) (some (.dat d) :: ss')
theorem Sl.lend (w : Wd K B G A M H) : ∀ {σ : L2.St} {ss ss' : Sst}, Sl K G A σ ss → Lend M ss ss' → Sl K H [] σ ss'
  | _, _, _, .nil, .nil => .nil
  | _, _, _, .skip r, .drop f => .skip (r.lend w f)
  | _, _, _, .cons _ r, .drop f => .skip (r.lend w f)
  | _, _, _, .cons h r, .raw f => .cons h (r.lend w f)
  | _, _, _, .cons h r, .dat f => .cons (Rep.mono w.gh h) (r.lend w f)
  | _, _, _, .cons h r, .see e f => .cons (show Rep K H _ _ from h.see w e) (r.lend w f)
end
section
variable {X : Cx} {B : Base} {ex : XD} {ss ss' : Sst} {M : Mem} {a b c e tg o : Expr} {es : List Expr} {pos p p' apos : Pos} {Q : SV → Mem → Prop} {QB : Bool → Mem → Prop}
theorem Cok.lent (ck : Cok X B ex) (H : Hp) : Cok X ⟨H, [], H⟩ (fun _ _ _ _ => False) :=
  ⟨ck.tk.imp fun c d σ H' h => by
    obtain ⟨_, _, _, _, _, _, _, _, _, _, z⟩ := h
    exact z.elim, ck.ps⟩
theorem wt_lend (hl : Lend M ss ss') (h : ∀ B' : Base, B'.A.length = 0 → WT X B' (fun _ _ _ _ => False) c (fun b _ => QB b M) ss' []) : WT X B ex c QB ss M := .mk fun ck G A H σ w sl Kq k => by
  refine (h ⟨H, [], H⟩ rfl) (ck.lent H) H [] H σ (Wd.start (fun _ _ e => e) List.nodup_nil (fun _ m => by cases m) .nil) (sl.lend w hl) Kq fun b G' A' M' H' e' w' q => ?_
  exact k b G A M H' .refl (w.same fun b o e => w'.fr b o e (by intro m; cases m)) q
/-- flat data -/
def D.flat : D → Bool
  | .non => true
  | .bl _ => true
  | .int _ => true
  | .str _ => true
  | _ => false
theorem Rep.flat {K : PySem.W.Frag} {G G' : Hp} {v : V} {d : D} (h : Rep K G v d) (hf : d.flat = true) : Rep K G' v d := by
  cases h with
  | non => exact .non
  | bl b => exact .bl b
  | int i => exact .int i
  | str x h => exact .str x h
  | lst _ _ => cases hf
  | tup _ _ => cases hf
  | ins _ _ _ => cases hf
  | dic _ _ => cases hf
theorem we_lend (hl : Lend M ss ss') (h : ∀ B' : Base, B'.A.length = 0 → WE X B' (fun _ _ _ _ => False) e (fun x _ => ∃ d, x = .dat d ∧ d.flat = true ∧ Q (.dat d) M) ss' []) : WE X B ex e Q ss M := .mk fun ck G A H σ w sl Kq k => by
  refine (h ⟨H, [], H⟩ rfl) (ck.lent H) H [] H σ (Wd.start (fun _ _ e => e) List.nodup_nil (fun _ m => by cases m) .nil) (sl.lend w hl) Kq fun v x G' A' M' H' e' w' s' q => ?_
  obtain ⟨d, rfl, hf, q⟩ := q
  have s' : Rep X.K G' v d := s'
  exact k v (.dat d) G A M H' .refl (w.same fun b o e => w'.fr b o e (by intro m; cases m)) (s'.flat hf) q
/-! ### lists that hold cells -/
def mixL0 (M : Mem) (x : SV) (k : Nat → List SV → Prop) : Prop := match x with
  | .cel i => match M[i]? with
    | some (.mix ds) => k i ds
    | _ => False
  | _ => False
structure mixL (M : Mem) (x : SV) (k : Nat → List SV → Prop) : Prop where
  run : mixL0 M x k
theorem mixL_get {M : Mem} {x : SV} {k : Nat → List SV → Prop} (h : mixL M x k) : ∃ i ds, x = .cel i ∧ M[i]? = some (.mix ds) ∧ k i ds := by
  have h := h.run
  unfold mixL0 at h
  cases x with
  | dat d => exact h.elim
  | raw u => exact h.elim
  | exc u v w => exact h.elim
  | tup xs => exact h.elim
  | xt xs => exact h.elim
  | cel i =>
    simp only at h
    cases e : M[i]? with
    | none => simp [e] at h
    | some c =>
      cases c <;> simp [e] at h
      exact ⟨i, _, rfl, e, h⟩
theorem ml1 {i : Nat} {ds : List SV} {k : Nat → List SV → Prop} (e : M[i]? = some (.mix ds)) (h : k i ds) : mixL M (.cel i) k := by
  refine ⟨?_⟩
  unfold mixL0
  simp only [e]
  exact h
theorem Svs.append {K : PySem.W.Frag} {G : Hp} {A : List Addr} : ∀ {vs ws : List V} {ds es : List SV}, Svs K G A vs ds → Svs K G A ws es → Svs K G A (vs ++ ws) (ds ++ es)
  | _, _, _, _, .nil, r => r
  | _, _, _, _, .cons h r, q => .cons h (r.append q)
theorem we_appendM (h : WE X B ex o (fun x M1 => mixL M1 x fun _ _ => WA X B ex [e] (fun ys M2 => ∃ y, ys = [y] ∧ mixL M2 x fun i ds => ds.length < sizeLine ∧ Q (.dat .non) (M2.set i (.mix (ds ++ [y])))) ss M1) ss M)
    (hbase : attributeBase o "append" X.env (eval o X.env) = eval o X.env := by rfl)
    (hfew : ((backTo pos (starEach [e] X.env)).all (fun x => !x.1) && (backToKw pos (keywordEach [] X.env)).all (fun x => x.1.isSome) && decide ([e].length + ([] : List Keyword).length + (if ([] : List Keyword).isEmpty then 0 else 1) < 30)) = true := by rfl)
    (hline : (apos.endLine == pos.line) = true := by rfl) (hs : starEach [e] X.env = (false, eval e X.env) :: starEach [] X.env := by rfl) (hpl : (backTo pos (starEach [] X.env)).any (·.1) = false := by rfl) :
    WE X B ex (.Call (.Attribute o "append" apos) [e] [] pos) Q ss M := .mk fun ck G A H σ w sl Kq k => by
  refine te_of (pe_bm PySem.F.plainAttrs_list PySem.F.slot_list_append PySem.F.type_list_append mt_append pe_self pa_self hbase hfew hline hs hpl) ?_
  refine h ck G A H σ w sl _ fun v x G1 A1 M1 H1 e1 w1 s1 h1 => ?_
  obtain ⟨i, ds, rfl, hM, h1⟩ := mixL_get h1
  obtain ⟨l, rfl, hl⟩ := s1
  obtain ⟨gn, vs, hv, r⟩ := w1.cl.get hl hM
  refine ⟨.inl ⟨rfl, vs, .inl (.inl hv)⟩, ?_⟩
  refine h1 ck G1 A1 H1 σ w1 (sl.mono e1) _ fun us ys G2 A2 M2 H2 e2 w2 s2 h2 => ?_
  obtain ⟨y, rfl, h2⟩ := h2
  cases s2 with
  | cons ru rr =>
    cases rr
    obtain ⟨j, ds2, ej, hM2, hz, h4⟩ := mixL_get h2
    cases ej
    have hl2 := pre_get e2.2 hl
    obtain ⟨gn2, vs2, hv2, r2⟩ := w2.cl.get hl2 hM2
    refine ⟨l, vs2, _, rfl, rfl, hv2, by rw [r2.length]; exact hz, ?_⟩
    exact k .non (.dat .non) G2 A2 _ _ (e1.trans e2) (w2.setC (c' := .mix (ds2 ++ [y])) hl2 gn2 ⟨gn2, _, upd_same, r2.append (.cons ru .nil)⟩) .non h4
/-- xs.clear() -/
theorem we_clear (h : WE X B ex o (fun x M1 => ∃ i c, x = .cel i ∧ M1[i]? = some c ∧ ((∃ ds, c = .lst ds) ∨ ∃ ds, c = .mix ds) ∧ Q (.dat .non) (M1.set i (.lst []))) ss M)
    (hbase : attributeBase o "clear" X.env (eval o X.env) = eval o X.env := by rfl)
    (hline : (apos.endLine == pos.line) = true := by rfl) :
    WE X B ex (.Call (.Attribute o "clear" apos) [] [] pos) Q ss M := .mk fun ck G A H σ w sl Kq k => by
  refine te_of (pe_bm0 PySem.F.plainAttrs_list PySem.F.slot_list_clear PySem.F.type_list_clear mt_clear pe_self hbase hline) ?_
  refine h ck G A H σ w sl _ fun v x G1 A1 M1 H1 e1 w1 s1 h1 => ?_
  obtain ⟨i, c, rfl, hM, hc, q⟩ := h1
  obtain ⟨l, rfl, hl⟩ := s1
  have cl := w1.cl.get hl hM
  obtain ⟨gn, vs, hv⟩ : G1 l = none ∧ ∃ vs, H1 l = some (.lst vs) := by
    rcases hc with ⟨ds, rfl⟩ | ⟨ds, rfl⟩
    · obtain ⟨g, vs, hv, _⟩ := cl
      exact ⟨g, vs, hv⟩
    · obtain ⟨g, vs, hv, _⟩ := cl
      exact ⟨g, vs, hv⟩
  refine ⟨.inl ⟨rfl, vs, .inl (.inl hv)⟩, l, vs, rfl, rfl, hv, ?_⟩
  exact k .non (.dat .non) G1 A1 _ _ e1 (w1.setC (c' := .lst []) hl gn ⟨gn, _, upd_same, .nil⟩) .non q
end
/-! ### a def that gives lists with cells within -/
def Cell.sh (n m : Nat) : Cell → Cell
  | .ins C fs => .ins C (fs.map fun p => (p.1, p.2.sh n m))
  | .mix xs => .mix (xs.map (SV.sh n m))
  | c => c
theorem Svs.sh {K : PySem.W.Frag} {G : Hp} {A more : List Addr} {n : Nat} (hn : n ≤ A.length) : ∀ {vs : List V} {xs : List SV}, Svs K G (A.take n ++ more) vs xs → Svs K G (A ++ more) vs (xs.map (SV.sh n A.length))
  | _, _, .nil => .nil
  | _, _, .cons h r => .cons (h.sh hn) (r.sh hn)
theorem FldsOk.sh {K : PySem.W.Frag} {G : Hp} {A more : List Addr} {n : Nat} (hn : n ≤ A.length) : ∀ {vs : List (Str × V)} {xs : List (Str × SV)}, FldsOk K G (A.take n ++ more) vs xs → FldsOk K G (A ++ more) vs (xs.map fun p => (p.1, p.2.sh n A.length))
  | _, _, .nil => .nil
  | _, _, .cons h r => .cons (h.sh hn) (r.sh hn)
theorem CellOk.sh {K : PySem.W.Frag} {G : Hp} {A more : List Addr} {H : Hp} {n : Nat} (hn : n ≤ A.length) {a : Addr} {c : Cell} (h : CellOk K G (A.take n ++ more) H a c) : CellOk K G (A ++ more) H a (c.sh n A.length) := by
  cases c with
  | dead => trivial
  | lst ds => exact h
  | dic ds => exact h
  | dct P w ds => exact h
  | ins C fs =>
    obtain ⟨g, dx, fv, h1, r⟩ := h
    exact ⟨g, dx, fv, h1, r.sh hn⟩
  | mix xs =>
    obtain ⟨g, vs, h1, r⟩ := h
    exact ⟨g, vs, h1, r.sh hn⟩
theorem Cells.shc {K : PySem.W.Frag} {G : Hp} {A more : List Addr} {H : Hp} {n : Nat} (hn : n ≤ A.length) : ∀ {as : List Addr} {cs : List Cell}, Cells K G (A.take n ++ more) H as cs → Cells K G (A ++ more) H as (cs.map (Cell.sh n A.length))
  | _, _, .nil => .nil
  | _, _, .cons h r => .cons (h.sh hn) (r.shc hn)
/-- what the call's end leaves the caller -/
theorem Wd.backM {K : PySem.W.Frag} {B : Base} {G : Hp} {A : List Addr} {M : List Cell} {H : Hp} (w : Wd K B G A M H) {n : Nat} (hn : n ≤ M.length) {G' : Hp} {A' : List Addr} {M' : List Cell} {H' : Hp} (w' : Wd K ⟨G, A.take n, H⟩ G' A' M' H') (hl : (M'.take n).all (Cell.lt n) = true) :
    ∃ more, A' = A.take n ++ more ∧ Wd K B G' (A ++ more) (M'.take n ++ M.drop n ++ (M'.drop n).map (Cell.sh n A.length)) H' ∧ Ext G A G' (A ++ more) := by
  have w1 : Wd K ⟨G, A.take n, H⟩ G' (A'.take n) (M'.take n) H' := w'.drop n (by
    show (A.take n).length ≤ n
    rw [List.length_take]; omega) hl
  have hA := w.len
  obtain ⟨more, e⟩ := w'.pre
  have e : A' = A.take n ++ more := e
  subst e
  have hlen : (A.take n).length = n := by rw [List.length_take]; omega
  have ex : Ext G A G' (A ++ more) := ⟨w'.gg, more, rfl⟩
  have hnew : ∀ b ∈ more, H b = Option.none := fun b m => by
    rcases w'.an b (List.mem_append_right _ m) with q | q
    · exfalso
      exact (List.nodup_append.mp w'.nd).2.2 b q b m rfl
    · exact q
  obtain ⟨more0, e0, wb, _⟩ := w.back hn w1 (by rw [List.all_eq_true] at hl ⊢; intro c hc; exact hl c hc)
  have hm0 : more0 = [] := by
    have : (A.take n ++ more).take n = A.take n := by rw [List.take_append_of_le_length (by omega), List.take_take, Nat.min_self]
    rw [this] at e0
    exact (List.append_right_eq_self.mp e0.symm)
  subst hm0
  rw [List.append_nil] at wb
  have ed : (M'.take n).drop n = [] := by rw [List.drop_take, Nat.sub_self, List.take_zero]
  rw [ed, List.append_nil, List.take_take, Nat.min_self] at wb
  refine ⟨more, rfl, ⟨wb.gg, wb.gh, wb.fr, wb.fresh, ?_, ?_, fun b m => ?_, fun b m => ?_, ?_⟩, ex⟩
  · refine List.nodup_append.mpr ⟨w.nd, (List.nodup_append.mp w'.nd).2.1, fun x hx y hy z => ?_⟩
    subst z
    obtain ⟨o, e⟩ := w.there x hx
    rw [hnew x hy] at e; cases e
  · obtain ⟨m0, e⟩ := w.pre
    exact ⟨m0 ++ more, by rw [e]; simp⟩
  · rcases List.mem_append.mp m with m | m
    · exact wb.there b m
    · exact w'.there b (List.mem_append_right _ m)
  · rcases List.mem_append.mp m with m | m
    · exact w.an b m
    · exact .inr (w.none (hnew b m)).1
  · refine Cells.append (wb.cl.imp fun a c m h => h.keep ⟨fun _ _ e => e, more, rfl⟩ (fun g => g) fun _ e => e) ?_
    have q := w'.cl.drop n
    rw [List.drop_append_of_le_length (by omega), List.drop_take, Nat.sub_self, List.take_zero, List.nil_append] at q
    exact q.shc (by omega)
def spOfM (K : PySem.W.Frag) (n : Nat) (S : SpD) : Sp := fun vs H Q E => ∃ xs M G A, A.length = n ∧ Wd K ⟨G, A, H⟩ G A M H ∧ Svs K G A vs xs ∧ ∃ R Rx, S xs M R Rx ∧
  (∀ v x G' A' M' H', Wd K ⟨G, A, H⟩ G' A' M' H' → SvOk K G' A' v x → (M'.take n).all (Cell.lt n) = true → R x M' → Q v H') ∧
  (∀ C fs d G' A' M' H', Wd K ⟨G, A, H⟩ G' A' M' H' → XdOk K G' d fs → M'.all (Cell.lt n) = true → Rx C fs M' → E (.ref C) d H')
def RetM (n : Nat) (R : SV → Mem → Prop) (x : SV) (M : Mem) : Prop := (M.take n).all (Cell.lt n) = true ∧ R x M
section
variable {P : Program} {w : World} {K : PySem.W.Frag} {mg : Str → Option Value} {base : Heap}
theorem fn_okM {x qual : Str} {st : Stmt} {f : Addr} {fd : FuncData} {N ps : List Str} {k n : Nat} {S : SpD} (F : Fun K x qual st f fd) (Sc : FnScope N ps (defScope st)) (len : ∀ xs M R Rx, S xs M R Rx → xs.length = ps.length)
    (hb : ∀ (cdv : Value) (A : Around) (outer : List Env) (s : Shared) (H : Hp) (E : XK) (B : Base) (xs : List SV) (M : Mem) (R : SV → Mem → Prop) (Rx : Addr → List (Str × D) → Mem → Prop), Room k (A.deeper (envOfC qual (defScope st) s.heap.objs.size f cdv)) → B.A.length = n → S xs M R Rx →
      WB (cxOf (L2.CX P w) P w K mg base N qual (defScope st) f cdv A outer s H E) B (fun C fs _ M => RetX n Rx C fs M) (defBody st) { nx := fun _ M => RetM n R (.dat .non) M, rt := RetM n R } (startD N xs) M) :
    FnOk P w K mg base (L2.CX P w) (k + 1) f fd ps (spOfM K n S) := by
  refine F.okX Sc (fun vs H Q E h => ?_) (fun cdv A outer s H vs Q E hr h => ?_)
  · obtain ⟨xs, M, G, A, hn, hw, hv, R, Rx, hS, _⟩ := h
    rw [hv.length]; exact len _ _ _ _ hS
  · obtain ⟨xs, M, G, A0, hn, hw, hv, R, Rx, hS, hR, hX⟩ := h
    refine ⟨tbW _ _, pb_self, ?_⟩
    have ck : Cok (cxOf (L2.CX P w) P w K mg base N qual (defScope st) f cdv A outer s H E) ⟨G, A0, H⟩ (fun C fs _ M => RetX n Rx C fs M) :=
      ⟨(takes_of (E := E) rfl rfl rfl rfl).imp fun cls d σ H' ⟨C, fs, ss, G', A', M', ec, xd, w', sl', q1, q2⟩ => by
        subst ec; exact hX C fs d G' (A'.take n) (M'.take n) H' (w'.drop n (by exact Nat.le_of_eq hn) q1) xd q1 q2, passes_of rfl⟩
    refine hb cdv A outer s H E ⟨G, A0, H⟩ xs M R Rx hr hn hS ck G A0 H _ hw (sl_start hv N) _ ⟨fun σ ss G' A' M' H' _ w' sl' q => ?_, fun v y G' A' M' H' _ w' s' q => ?_, fun _ _ _ _ _ _ _ _ _ q => q.elim, fun _ _ _ _ _ _ _ _ _ q => q.elim⟩
    · exact hR .non (.dat .non) G' A' M' H' w' .non q.1 q.2
    · exact hR v y G' A' M' H' w' s' q.1 q.2
end
section
variable {X : Cx} {B : Base} {ex : XD} {ss ss' : Sst} {M : Mem} {e : Expr} {es : List Expr} {pos p : Pos} {Q : SV → Mem → Prop}
structure CallQM (n : Nat) (S : SpD) (xs : List SV) (M : Mem) (Q : SV → Mem → Prop) (ex : XD) (ss : Sst) : Prop where
  ok : (xs.all (SV.lt n) && (M.take n).all (Cell.lt n) && decide (n ≤ M.length)) = true
  run : S xs (M.take n) (fun x M' => Q (x.sh n M.length) (M'.take n ++ M.drop n ++ (M'.drop n).map (Cell.sh n M.length))) (fun C fs M' => ex C fs ss (M'.take n ++ M.drop n ++ M'.drop n))
theorem call_spM {n : Nat} {S : SpD} {xs : List SV} {G : Hp} {A : List Addr} {H : Hp} {vs : List V} {σ : L2.St} {Kq : VK} (w : Wd X.K B G A M H) (sl : Sl X.K G A σ ss) (r : Svs X.K G A vs xs) (h : CallQM n S xs M Q ex ss) (k : VPost X.K B G A Q Kq) :
    spOfM X.K n S vs H Kq (fun cls d H' => XW X.K B ex cls d σ H') := by
  have hc := h.ok
  have hS := h.run
  rw [Bool.and_eq_true, Bool.and_eq_true] at hc
  obtain ⟨⟨hx, hM⟩, hn⟩ := hc
  have hn : n ≤ M.length := of_decide_eq_true hn
  have hA := w.len
  refine ⟨xs, M.take n, G, A.take n, by rw [List.length_take]; omega, Wd.start w.gh (w.nd.sublist (List.take_sublist n A)) (fun b m => w.there b (List.mem_of_mem_take m)) ((w.cl.take n).cut hM), r.cut hx, _, _, hS, ?_, ?_⟩
  · intro v x G' A' M' H' w' s' hl q
    obtain ⟨more, rfl, w2, e2⟩ := w.backM hn w' hl
    rw [← hA] at q
    exact k v _ G' _ _ H' e2 w2 (s'.sh (by omega)) q
  · intro C fs d G' A' M' H' w' xd hl q
    obtain ⟨more, rfl, w2, e2⟩ := w.back hn w' hl
    exact ⟨C, fs, ss, G', _, _, rfl, xd, w2, sl.mono e2, q⟩
end
section
variable (P : Program) (w : World) (K : PySem.W.Frag) (mg : Str → Option Value) (base : Heap)
def CalM (x : Str) (k n : Nat) (S : SpD) : Prop := ∃ f fd ps, FnOk P w K mg base (L2.CX P w) k f fd ps (spOfM K n S) ∧ mg x = some (.ref f) ∧ PySem.W.keepIn K (.ref f) = true ∧ Binds K fd ps []
end
section
variable {X : Cx} {B : Base} {ex : XD} {ss ss' : Sst} {M : Mem} {e : Expr} {es : List Expr} {pos p : Pos} {Q : SV → Mem → Prop}
theorem we_ownM {x : Str} {k n : Nat} {S : SpD} (F : CalM X.prog X.w X.K X.mg X.base x k n S) (hr : Room k X.A) (hg : Gl X x) (h : WA X B ex (e :: es) (fun xs M1 => CallQM n S xs M1 Q ex ss) ss M)
    (hdb : (x == ("__debug__" : Str)) = false := by decide) (he : starEach (e :: es) X.env = (false, eval e X.env) :: starEach es X.env := by rfl) (hpl : (backTo pos (starEach es X.env)).any (·.1) = false := by rfl) : WE X B ex (.Call (.Name x p) (e :: es) [] pos) Q ss M := by
  obtain ⟨f, fd, ps, F, hm, hk, hb⟩ := F
  refine .mk fun ck G A H σ w sl Kq kk => ?_
  refine te_of (pe_callSD (E := fun σ cls d H' => XW X.K B ex cls d σ H') (dvs := []) F hr hg hm hk hb .nil ck.at pa_self hdb he hpl) ?_
  refine h ck G A H σ w sl _ fun vs xs G1 A1 M1 H1 e1 w1 s1 h1 => ?_
  rw [List.append_nil]
  exact call_spM w1 (sl.mono e1) s1 h1 fun v x G' A' M' H' e' => kk v x G' A' M' H' (e1.trans e')
end
end Mb

/-! Mb, part 42: small things. -/
namespace Mb
open PySem L2 PyProof.Rows
section
variable {X : Cx} {B : Base} {ex : XD} {ss : Sst} {M : Mem} {e : Expr} {Q : SV → Mem → Prop}
/-- a text that stands is one that the machine bears -/
theorem we_sok (h : WE X B ex e (fun x M1 => (∀ z, x = .dat (.str z) → SOk z) → Q x M1) ss M) : WE X B ex e Q ss M := .mk fun ck G A H σ w sl Kq k => by
  refine h ck G A H σ w sl Kq fun v x G' A' M' H' e' w' s' q => ?_
  refine k v x G' A' M' H' e' w' s' (q fun z hz => ?_)
  subst hz
  have s' : Rep X.K G' v (.str z) := s'
  cases s' with
  | str _ h => exact h
end
end Mb

/-! Mb, part 43: tuples whose methods are called; tuple * int; comprehensions over triples; list.pop(i). -/
namespace Mb
open PySem L2 PyProof.Rows PySem.Spec
/-! ### tuple * int -/
theorem tuple_mul1 (l : Addr) (items : Array Value) (n : Nat) (dd : Option Addr) (sl : Array (Option Value)) (u : Tok) :
    Meets (Builtin.«tuple.__mul__» ⟨[.ref l, .int 1 u], []⟩) (fun _ R s => s.heap.get? l = some { cls := .type "tuple", dict := dd, data := .seq items n, slots := sl } ∧ R (.ok (.ret (.ref l))) s) :=
  .of_wp fun prog w A R s h => by
    obtain ⟨hp, g, d, tk, os⟩ := s
    obtain ⟨hl, h⟩ := h
    have f1 := AutoSeq1.idx_int
    have c0 : (decide ((1 : Int) < -(2 ^ 63)) || decide ((1 : Int) ≥ 2 ^ 63)) = false := by decide
    have c1 : (items.isEmpty || (1 : Int) == 1) = true := by simp
    wp_walk using wpAny_loadPart' hl
    repeat (first
      | (refine wpAny_ite_false (decide_eq_false (by rw [c0]; exact Bool.false_ne_true)) ?_; wp_walk using wpAny_loadPart' hl)
      | (refine wpAny_ite_true (decide_eq_true c1) ?_; wp_walk using wpAny_loadPart' hl))
    exact ⟨_, rfl, h⟩
theorem tuple_mul0 (l : Addr) (items : Array Value) (n : Nat) (dd : Option Addr) (sl : Array (Option Value)) (x : Int) (u : Tok) (c0 : (decide (x < -(2 ^ 63)) || decide (x ≥ 2 ^ 63)) = false) (c1 : (items.isEmpty || x == 1) = false) (c2 : (decide (x ≤ 0) || items.isEmpty) = true) :
    Meets (Builtin.«tuple.__mul__» ⟨[.ref l, .int x u], []⟩) (fun _ R s => s.heap.get? l = some { cls := .type "tuple", dict := dd, data := .seq items n, slots := sl } ∧
      R (.ok (.ret (Value.ref s.heap.objs.size))) { s with heap := s.heap.push { cls := Value.type "tuple", data := Data.seq #[] }, toks := s.toks }) :=
  .of_wp fun prog w A R s h => by
    obtain ⟨hp, g, d, tk, os⟩ := s
    obtain ⟨hl, h⟩ := h
    have f1 := AutoSeq1.idx_int
    wp_walk using wpAny_loadPart' hl
    repeat (first
      | (refine wpAny_ite_false (decide_eq_false (by rw [c0]; exact Bool.false_ne_true)) ?_; wp_walk using wpAny_loadPart' hl)
      | (refine wpAny_ite_false (decide_eq_false (by rw [c1]; exact Bool.false_ne_true)) ?_; wp_walk using wpAny_loadPart' hl)
      | (refine wpAny_ite_true (decide_eq_true c2) ?_; wp_walk using wpAny_loadPart' hl))
    exact ⟨_, rfl, h⟩
def rRepU (K : PySem.W.Frag) : R2 := fun x y H Q => ∃ l k xs, x = .ref l ∧ y = .int k ∧ SqT K H l xs ∧ xs ≠ [] ∧ 0 ≤ k ∧ k ≤ 1000 ∧ xs.length ≤ 1000 ∧ (k = 1 → Q (.ref l) H) ∧ (k ≠ 1 → ∀ p, H p = none → Q (.ref p) (upd H p (.tup (List.replicate k.toNat xs).flatten)))
section
variable {X : Cx}
theorem op_repU : OpR X (binaryOp .Mult) (rRepU X.K) := by
  intro pins s σ H x y v u Q I rx ry h
  obtain ⟨l, k, xs, rfl, rfl, hT, hne, h1, h2, hz, q1, q⟩ := h
  by_cases k2 : 2 ≤ k
  · exact L2.op_repT pins s σ H (.ref l) (.int k) v u Q I rx ry ⟨l, k, xs, rfl, rfl, hT, hne, k2, h2, hz, q (by omega)⟩
  cases rx
  obtain ⟨t, rfl⟩ := ry
  obtain ⟨its, r, ⟨⟨cls, dd, data, sl⟩, ho, hc, n, hd⟩, hs⟩ := I.tuple hT
  simp only at hc hd
  subst hc hd
  have hle : its.length = xs.length := r.length.symm
  have hn : its ≠ [] := fun e => hne (by
    rw [e] at hle
    exact List.eq_nil_of_length_eq_zero hle.symm)
  have hi : its.toArray.isEmpty = false := by
    cases its with
    | nil => exact absurd rfl hn
    | cons a b => rfl
  by_cases k1 : k = 1
  · subst k1
    refine wpAny_binaryOp_repeat_ref (T := "tuple") (U := "int") (by decide) ⟨_, ho, rfl⟩ (fun s' => typeIs_int s' 1 t) noFill_tuple_mul F.fills_int_mul F.slot_int_rmul repeat_tuple F.slot_int_index.lookup
      (call_meets F.slot_int_rmul (typeIs_int s 1 t) F.entry_int_rmul (F.args_int_rmul_2 _ _) (int_rmul_tuple 1 t l its.toArray n dd sl)
        ⟨ho, rfl, ⟨_, ho, rfl⟩, call_meets F.slot_tuple_mul ⟨_, ho, rfl⟩ F.entry_tuple_mul (F.args_tuple_mul_2 _ _) (tuple_mul1 l its.toArray n dd sl t) ⟨ho, ?_⟩⟩)
    exact ⟨.ref l, H, I, rfl, q1 rfl⟩
  · obtain rfl : k = 0 := by omega
    have c1 : (its.toArray.isEmpty || (0 : Int) == 1) = false := by rw [hi]; rfl
    refine wpAny_binaryOp_repeat_ref (T := "tuple") (U := "int") (by decide) ⟨_, ho, rfl⟩ (fun s' => typeIs_int s' 0 t) noFill_tuple_mul F.fills_int_mul F.slot_int_rmul repeat_tuple F.slot_int_index.lookup
      (call_meets F.slot_int_rmul (typeIs_int s 0 t) F.entry_int_rmul (F.args_int_rmul_2 _ _) (int_rmul_tuple 0 t l its.toArray n dd sl)
        ⟨ho, rfl, ⟨_, ho, rfl⟩, call_meets F.slot_tuple_mul ⟨_, ho, rfl⟩ F.entry_tuple_mul (F.args_tuple_mul_2 _ _) (tuple_mul0 l its.toArray n dd sl 0 t (by decide) c1 rfl) ⟨ho, ?_⟩⟩)
    refine ⟨.ref s.heap.objs.size, _, I.laid (t' := s.toks) (o := .tup []) (fun b ob q => Heap.get?_push_of_some _ q) (Nat.le_refl _) ?_, rfl, q (by omega) _ (I.hok.fresh (Nat.le_refl _))⟩
    exact ⟨Nat.zero_le _, [], .nil, IsTup.new _ _⟩
end
section
variable {X : Cx} {B : Base} {ex : XD} {ss : Sst} {M : Mem} {a b c e tg o iter elt : Expr} {es ifs : List Expr} {pos p p' apos p2 : Pos} {Q : SV → Mem → Prop} {scope : Scope}
theorem we_mulT (h : WE X B ex a (fun x M1 => WE X B ex b (fun y M2 => ∃ ds n, x = .dat (.tup ds) ∧ y = .dat (.int n) ∧ ds ≠ [] ∧ (0 ≤ n ∧ n ≤ 1000) ∧ ds.length ≤ 1000 ∧ Q (.dat (.tup (List.replicate n.toNat ds).flatten)) M2) ss M1) ss M) : WE X B ex (.BinOp a .Mult b pos) Q ss M := by
  refine we_op2 (f := fun M2 x y Q => ∃ ds n, x = .dat (.tup ds) ∧ y = .dat (.int n) ∧ ds ≠ [] ∧ (0 ≤ n ∧ n ≤ 1000) ∧ ds.length ≤ 1000 ∧ Q (.dat (.tup (List.replicate n.toNat ds).flatten)) M2) op_repU (fun G A H M x y u v Q Kq w sx sy hh k => ?_) h
  obtain ⟨ds, n, rfl, rfl, hne, ⟨n0, n1⟩, hl, q⟩ := hh
  cases sy
  have sx0 : Rep X.K G u (.tup ds) := sx
  cases sx with
  | @tup l vs _ ht r =>
    refine ⟨l, n, vs, rfl, rfl, sqtM w.gh ht, ?_, n0, n1, by rw [r.length]; exact hl, fun e => ?_, fun _ => k.new .refl w q fun p hp => .tup (.of upd_same) ((r.flat _).mono (same_upd (w.none hp).2.2))⟩
    · intro e
      subst e
      cases r
      exact hne rfl
    · subst e
      have e1 : (List.replicate (1 : Int).toNat ds).flatten = ds := by
        show (List.replicate 1 ds).flatten = ds
        simp
      rw [e1] at q
      exact k.flat .refl w sx0 q
/-! ### a tuple without an instance's dict -/
theorem we_xtw (h : WE X B ex e (fun x M1 => ∃ ds, x = .xt ds ∧ Q (.dat (.tup ds)) M1) ss M) : WE X B ex e Q ss M := .mk fun ck G A H σ w sl Kq k => by
  refine h ck G A H σ w sl Kq fun v x G' A' M' H' e' w' s' q => ?_
  obtain ⟨ds, rfl, q⟩ := q
  obtain ⟨_, _, _, r⟩ := s'
  exact k v (.dat (.tup ds)) G' A' M' H' e' w' r q
theorem call_tuple_x : CallR X (.type "tuple") (fun xs H Q => ∃ p ys, xs = [.ref p] ∧ SqL X.K H p ys ∧ ∀ l ob, H l = none → ob.dict = none → Q (.ref l) (upd H l (.frz ob (.tup ys)))) := by
  intro pins s σ H xs us Q I r h
  obtain ⟨p, ys, rfl, hq, q⟩ := h
  obtain ⟨u, rfl, rx⟩ := vals1 r
  cases rx
  obtain ⟨its, r', pl, hz⟩ := I.list hq
  have hlen := r'.length
  refine call_tuple_list pl.isList (fun h' kp => ?_) (by simp only [List.size_toArray] <;> omega)
  have I1 : Inv X pins σ H { s with heap := h' } := I.kept (t' := s.toks) kp
  have I2 : Inv X pins σ (upd H h'.objs.size (.frz { cls := .type "tuple", data := .seq its.toArray } (.tup ys))) { s with heap := h'.push { cls := .type "tuple", data := .seq its.toArray } } :=
    I1.laid (t' := s.toks) (fun b o e => Heap.get?_push_of_some _ e) (Nat.le_refl _) (show ObjOk X.prog X.w _ _ _ (.frz _ (.tup ys)) from ⟨Heap.get?_push_size _ rfl, ⟨hz, its, r', IsTup.new _ _⟩⟩)
  exact ⟨.ref h'.objs.size, _, I2, rfl, q _ _ (I1.hok.fresh (Nat.le_refl _)) rfl⟩
def tupleX (M : Mem) (d : D) (Q : SV → Mem → Prop) : Prop := match d with
  | .lst ds => Q (.xt ds) M
  | _ => False
theorem we_tupleX (hm : X.mg "tuple" = none) (hg : Gl X "tuple") (h : WA X B ex (e :: es) (fun xs M1 => arg1 tupleX M1 xs Q) ss M)
    (he : starEach (e :: es) X.env = (false, eval e X.env) :: starEach es X.env := by rfl) (hpl : (backTo pos (starEach es X.env)).any (·.1) = false := by rfl) : WE X B ex (.Call (.Name "tuple" p) (e :: es) [] pos) Q ss M := by
  refine we_ct (f := arg1 tupleX) call_tuple_x (fun G A H M xs vs Q Kq w r h k => ?_) hm (by decide +kernel) hg h (he := he) (hpl := hpl)
  obtain ⟨v, d, rfl, q, h⟩ := arg1_get w r h
  cases d <;> try exact h.elim
  obtain ⟨l, vs, rfl, hl, r⟩ := q
  refine ⟨l, vs, rfl, .inl hl, fun p ob hp hd => ?_⟩
  obtain ⟨w2, e2⟩ := w.newD (o := .frz ob (.tup vs)) hp
  exact k _ (.xt _) _ _ _ _ e2 w2 ⟨p, rfl, ⟨ob, _, upd_same, hd⟩, .tup (.inl (.inr ⟨ob, upd_same⟩)) (r.mono e2.1)⟩ h
/-- o.f of data, f one of the fields that hold such a tuple -/
theorem we_fldX {f : Str} (h : WE X B ex e (fun x M1 => ∃ C fs ds, x = .dat (.ins C fs) ∧ fs.lookup f = some (.tup ds) ∧ (Cls X.K C ∧ NoAttr X.K C f) ∧ Q (.xt ds) M1) ss M) (hx : exName f = true := by decide) (hb : attributeBase e f X.env (eval e X.env) = eval e X.env := by rfl) : WE X B ex (.Attribute e f pos) Q ss M := .mk fun ck G A H σ w sl Kq k => by
  refine te_of (pe_fld pe_self hb) ?_
  refine h ck G A H σ w sl _ fun v x G1 A1 M1 H1 e1 w1 s1 h1 => ?_
  obtain ⟨C, fs, ds, rfl, hd, hc, q⟩ := h1
  have s1 : Rep X.K G1 v (.ins _ _) := s1
  cases s1 with
  | ins ha r nx =>
    obtain ⟨y, hy, ry⟩ := r.look hd
    obtain ⟨a, rfl, xt⟩ := nx f y hx hy
    exact ⟨_, _, _, _, _, rfl, w1.gh _ _ ha, hc.1, hc.2, hy, k _ (.xt ds) G1 A1 M1 H1 e1 w1 ⟨a, rfl, xt, ry⟩ q⟩
end
section
variable {X : Cx} {o e : Expr} {es : List Expr} {to : TE} {t : TA} {name : Str} {apos cpos : Pos} {id : String} {r : V → List V → Hp → VK → Prop}
/-- a method of such a tuple -/
theorem pe_bmX (pa : PlainAttrs "tuple") (slot : Slot "tuple" name id) (hty : typeOf (.builtin id) = pure (.type "method_descriptor")) (hm : MtR X id r) (ho : PE X o to) (ha : PA X (e :: es) t)
    (hbase : attributeBase o name X.env (eval o X.env) = eval o X.env := by rfl)
    (hfew : ((backTo cpos (starEach (e :: es) X.env)).all (fun x => !x.1) && (backToKw cpos (keywordEach [] X.env)).all (fun x => x.1.isSome)
      && decide ((e :: es).length + ([] : List Keyword).length + (if ([] : List Keyword).isEmpty then 0 else 1) < 30)) = true := by rfl)
    (hline : (apos.endLine == cpos.line) = true := by rfl) (hs : starEach (e :: es) X.env = (false, eval e X.env) :: starEach es X.env := by rfl) (hplain : (backTo cpos (starEach es X.env)).any (·.1) = false := by rfl) :
    PE X (.Call (.Attribute o name apos) (e :: es) [] cpos) (fun σ H Q => to σ H fun x H1 => (∃ a vs, x = .ref a ∧ SqT X.K H1 a vs ∧ Xt H1 a) ∧ t σ H1 fun xs H2 => r x xs H2 Q) := by
  refine ⟨fun pins s σ H Q I h => ?_⟩
  refine wpAny_Call_method_late hbase hfew hline rfl (thn (ho.run pins s σ H _ I h) fun v s1 ⟨x, H1, I1, r1, ⟨a, vs, ex, hT, ⟨ob, u, hob, hdn⟩⟩, q1⟩ => ?_)
  subst ex
  have q1' := q1
  cases r1
  obtain ⟨its, rr, ⟨o1, ho1, hc1, n1, hd1⟩, _⟩ := I1.tuple hT
  have h2 : s1.heap.get? a = some ob := (show ObjOk X.prog X.w H1 s1.heap a (.frz ob u) from I1.hok a _ hob).1
  refine ⟨"tuple", id, pa, slot, hty, ⟨o1, ho1, hc1⟩, fun b e => by cases e; exact ⟨ob, h2, hdn⟩, ?_⟩
  have hA := ha.run cpos pins s1 σ H1 _ I1 q1'
  rw [hs] at hA ⊢
  refine Calls.callWith_builtin (by show (false || (backTo cpos (starEach es X.env)).any (·.1)) = false; rw [hplain] <;> rfl) (Calls.evalArgs_plain ?_)
  exact thn hA fun us s2 ⟨vs, H2, I2, r2, q2⟩ => hm pins s2 σ H2 (.ref a) vs (.ref a) us Q I2 rfl r2 q2
end
section
variable {X : Cx} {B : Base} {ex : XD} {ss : Sst} {M : Mem} {a b c e tg o iter elt : Expr} {es ifs : List Expr} {pos p p' apos p2 : Pos} {Q : SV → Mem → Prop} {scope : Scope}
/-- t.index(x) of texts -/
theorem we_tindex (h : WE X B ex o (fun x M1 => ∃ zs : List Str, x = .xt (zs.map D.str) ∧ WA X B ex [e] (fun ys M2 => ∃ z j, ys = [.dat (.str z)] ∧ zs[j]? = some z ∧ (∀ m, m < j → zs[m]? ≠ some z) ∧ Q (.dat (.int (j : Nat))) M2) ss M1) ss M)
    (hbase : attributeBase o "index" X.env (eval o X.env) = eval o X.env := by rfl)
    (hfew : ((backTo pos (starEach [e] X.env)).all (fun x => !x.1) && (backToKw pos (keywordEach [] X.env)).all (fun x => x.1.isSome) && decide ([e].length + ([] : List Keyword).length + (if ([] : List Keyword).isEmpty then 0 else 1) < 30)) = true := by rfl)
    (hline : (apos.endLine == pos.line) = true := by rfl) (hs : starEach [e] X.env = (false, eval e X.env) :: starEach [] X.env := by rfl) (hpl : (backTo pos (starEach [] X.env)).any (·.1) = false := by rfl) :
    WE X B ex (.Call (.Attribute o "index" apos) [e] [] pos) Q ss M := .mk fun ck G A H σ w sl Kq k => by
  refine te_of (pe_bmX PySem.F.plainAttrs_tuple PySem.F.slot_tuple_index PySem.F.type_tuple_index mt_tup_index pe_self pa_self hbase hfew hline hs hpl) ?_
  refine h ck G A H σ w sl _ fun v x G1 A1 M1 H1 e1 w1 s1 h1 => ?_
  obtain ⟨zs, rfl, h1⟩ := h1
  obtain ⟨l, rfl, ⟨ob, u, hx, hd⟩, rt⟩ := s1
  cases rt with
  | tup ht rr =>
    obtain ⟨rfl, _⟩ := reps_strs rr
    refine ⟨⟨l, _, rfl, sqtM w1.gh ht, ob, u, w1.gh _ _ hx, hd⟩, ?_⟩
    refine h1 ck G1 A1 H1 σ w1 (sl.mono e1) _ fun us ys G2 A2 M2 H2 e2 w2 s2 h2 => ?_
    obtain ⟨z, j, rfl, hz, hno, q⟩ := h2
    cases s2 with
    | cons ru rr =>
      cases rr
      cases ru
      exact ⟨l, zs, z, j, rfl, rfl, sqtM w2.gh (sqtM e2.1 ht), hz, hno, k _ (.dat (.int _)) G2 A2 M2 H2 (e1.trans e2) w2 (.int _) q⟩
/-! ### comprehensions over triples -/
def tg3 (i j l : Nat) (d : D) (ss : Sst) (R : Sst → Prop) : Prop := ∃ a b c, d = .tup [a, b, c] ∧ R (((ss.set i (some (.dat a))).set j (some (.dat b))).set l (some (.dat c)))
theorem set_back3 (σ : L2.St) (i j l : Nat) (hij : i ≠ j) (hil : i ≠ l) (hjl : j ≠ l) (u v w : V) : L2.wipe ((((L2.wipe σ [i, j, l]).set i (some u)).set j (some v)).set l (some w)) [i, j, l] = L2.wipe σ [i, j, l] := by
  show List.set (List.set (List.set (List.set (List.set (List.set (List.set (List.set (List.set σ l none) j none) i none) i (some u)) j (some v)) l (some w)) l none) j none) i none = List.set (List.set (List.set σ l none) j none) i none
  apply List.ext_getElem?
  intro n
  simp only [List.getElem?_set, List.length_set]
  by_cases h1 : i = n
  · subst h1; by_cases h3 : i < σ.length <;> simp [h3]
  · by_cases h2 : j = n
    · subst h2; simp [h1]
    · by_cases h4 : l = n
      · subst h4; simp [h1, h2]
      · simp [h1, h2, h4]
theorem tgOk3 {K : PySem.W.Frag} {i j l : Nat} (hij : i ≠ j) (hil : i ≠ l) (hjl : j ≠ l) : TgOk K (gTup K 3 (gCons (gName i) (gCons (gName j) (gCons (gName l) gNil)))) (tg3 i j l) [i, j, l] := by
  refine ⟨fun {B G A M H v d σ ss R Q'} w sl r h k => ?_⟩
  obtain ⟨a, b, c, rfl, h⟩ := h
  cases r with
  | tup hl r =>
    cases r with
    | cons r1 r =>
      cases r with
      | cons r2 r =>
        cases r with
        | cons r3 r =>
        cases r
        refine ⟨_, _, rfl, sqtM w.gh hl, rfl, _, _, rfl, _, _, rfl, _, _, rfl, rfl, ?_⟩
        exact k _ _ (set_back3 σ i j l hij hil hjl _ _ _) ((((sl.wipe [i, j, l]).set (x := .dat a) r1 i).set (x := .dat b) r2 j).set (x := .dat c) r3 l) h
theorem we_lc3 {x y z : Str} {i j l kt : Nat} {tp tp1 tp2 tp3 : Pos} (hc : X.calm = true) (hN : X.N.Nodup) (ok : BlkOk X.N X.env.scope scope [(x, i), (y, j), (z, l)]) (hi : X.N[i]? = some x) (hj : X.N[j]? = some y) (hl : X.N[l]? = some z) (hij : i ≠ j) (hil : i ≠ l) (hjl : j ≠ l)
    (hL : ∀ s H C cl fp, Loc (Blk X scope s H C cl fp).env.scope x) (hL2 : ∀ s H C cl fp, Loc (Blk X scope s H C cl fp).env.scope y) (hL3 : ∀ s H C cl fp, Loc (Blk X scope s H C cl fp).env.scope z) (hl1 : ifs.length ≤ 1)
    (h : WI X B ex (.Tuple [.Name x tp1, .Name y tp2, .Name z tp3] kt tp) iter (fun ds M1 => ∃ I, I 0 [] M1 ∧ LcQ X scope elt ifs (tg3 i j l) [i, j, l] ds I Q ss) ss M)
    (hf : ∀ s H C cl fp, (Blk X scope s H C cl fp).fn x = true ∨ (Blk X scope s H C cl fp).env.scope.names.lookup x = some .local := by intro _ _ _ _ _; first | exact .inl rfl | exact .inr rfl)
    (hf2 : ∀ s H C cl fp, (Blk X scope s H C cl fp).fn y = true ∨ (Blk X scope s H C cl fp).env.scope.names.lookup y = some .local := by intro _ _ _ _ _; first | exact .inl rfl | exact .inr rfl)
    (hf3 : ∀ s H C cl fp, (Blk X scope s H C cl fp).fn z = true ∨ (Blk X scope s H C cl fp).env.scope.names.lookup z = some .local := by intro _ _ _ _ _; first | exact .inl rfl | exact .inr rfl)
    (hs : ∀ x, foldedSetIterable iter X.env x = pure x := by intro _; rfl) : WE X B ex (.ListComp elt [⟨.Tuple [.Name x tp1, .Name y tp2, .Name z tp3] kt tp, iter, ifs, 0⟩] scope pos) Q ss M := .mk fun ck G A H σ w sl Kq k => by
  refine te_of (pe_lc (own := [(x, i), (y, j), (z, l)]) (g := gTup X.K 3 (gCons (gName i) (gCons (gName j) (gCons (gName l) gNil)))) hc hN pi_self ok (fun s H C cl fp => pg_tup hc (pgs_cons (pg_name (i := i) hN hi (hL s H C cl fp) (hf s H C cl fp)) (pgs_cons (pg_name (i := j) hN hj (hL2 s H C cl fp) (hf2 s H C cl fp)) (pgs_cons (pg_name (i := l) hN hl (hL3 s H C cl fp) (hf3 s H C cl fp)) pgs_nil)))) (fun s H C cl fp => ps_blk hl1) (fun s H C cl fp => pe_blk) hs) ?_
  exact lc_all ck (tgOk3 hij hil hjl) w sl k h
theorem lcq_map3 {j j' l : Nat} {ds : List D} (f : D → D) (hl : ds.length ≤ sizeLine)
    (ht : ∀ (i : Nat) (d : D), ds[i]? = some d → ∃ a b c, d = .tup [a, b, c] ∧ ∀ (s : Shared) (H : Hp) (C : Addr) (cl : List (Str × Addr)) (fp : List Addr) (B : Base), B.A.length = M.length → WE (Blk X scope s H C cl fp) B exF elt (fun y M4 => y = .dat (f d) ∧ M4 = M) ((((wipeD ss [j, j', l]).set j (some (.dat a))).set j' (some (.dat b))).set l (some (.dat c))) M)
    (q : Q (.dat (.lst (ds.map f))) M) : ∃ I, I 0 [] M ∧ LcQ X scope elt [] (tg3 j j' l) [j, j', l] ds I Q ss := by
  refine ⟨fun i acc M' => i ≤ ds.length ∧ acc = (ds.take i).map f ∧ M' = M, ⟨Nat.zero_le _, rfl, rfl⟩, ?_, ?_⟩
  · rintro i d acc M' hd ⟨hi, rfl, rfl⟩
    have hlt := (List.getElem?_eq_some_iff.mp hd).1
    obtain ⟨a, b, c, e, ht⟩ := ht i d hd
    refine ⟨a, b, c, e, ?_⟩
    intro s H C cl fp B hB
    refine (ht s H C cl fp B hB).mono ?_
    rintro y M4 ⟨rfl, rfl⟩
    refine ⟨_, rfl, ?_, hlt, map_take_succ f hd, rfl⟩
    rw [List.length_map, List.length_take]
    omega
  · rintro acc M' ⟨_, rfl, rfl⟩
    rw [List.take_length]
    exact q
/-! ### xs.pop(i) -/
theorem we_popAt (h : WE X B ex o (fun x M1 => cellL M1 x fun _ _ => WA X B ex [e] (fun ys M2 => ∃ (n : Int) (i : Nat) (ds : List D) (j : Nat) (d : D), ys = [.dat (.int n)] ∧ x = .cel i ∧ M2[i]? = some (.lst ds) ∧ n = (j : Int) ∧ j < 1000000 ∧ ds[j]? = some d ∧ Q (.dat d) (M2.set i (.lst (ds.eraseIdx j)))) ss M1) ss M)
    (hbase : attributeBase o "pop" X.env (eval o X.env) = eval o X.env := by rfl)
    (hfew : ((backTo pos (starEach [e] X.env)).all (fun x => !x.1) && (backToKw pos (keywordEach [] X.env)).all (fun x => x.1.isSome) && decide ([e].length + ([] : List Keyword).length + (if ([] : List Keyword).isEmpty then 0 else 1) < 30)) = true := by rfl)
    (hline : (apos.endLine == pos.line) = true := by rfl) (hs : starEach [e] X.env = (false, eval e X.env) :: starEach [] X.env := by rfl) (hpl : (backTo pos (starEach [] X.env)).any (·.1) = false := by rfl) :
    WE X B ex (.Call (.Attribute o "pop" apos) [e] [] pos) Q ss M := .mk fun ck G A H σ w sl Kq k => by
  refine te_of (pe_bm PySem.F.plainAttrs_list PySem.F.slot_list_pop PySem.F.type_list_pop mt_popAt pe_self pa_self hbase hfew hline hs hpl) ?_
  refine h ck G A H σ w sl _ fun v x G1 A1 M1 H1 e1 w1 s1 h1 => ?_
  obtain ⟨i, ds, rfl, hM, h1⟩ := cellL_get h1
  obtain ⟨l, rfl, hl⟩ := s1
  obtain ⟨gn, vs, hv, r⟩ := w1.cl.get hl hM
  refine ⟨.inl ⟨rfl, vs, .inl (.inl hv)⟩, ?_⟩
  refine h1 ck G1 A1 H1 σ w1 (sl.mono e1) _ fun us ys G2 A2 M2 H2 e2 w2 s2 h2 => ?_
  obtain ⟨n, i2, ds2, j, d, rfl, ei, hM2, rfl, hj, hd, q⟩ := h2
  cases ei
  have hl2 := pre_get e2.2 hl
  obtain ⟨gn2, vs2, hv2, r2⟩ := w2.cl.get hl2 hM2
  obtain ⟨y, hy, ry⟩ := r2.get hd
  have hlt := (List.getElem?_eq_some_iff.mp hy).1
  cases s2 with
  | cons ru rr =>
    cases rr
    cases ru
    refine ⟨l, vs2, (j : Int), j, y, rfl, rfl, hv2, by omega, by omega, ?_, hy, ?_⟩
    · unfold seqIndex?
      rw [if_neg (show ¬ ((j : Int) < 0) by omega)]
      rw [if_pos (by simp; omega)]
      rfl
    · have re : Reps X.K G2 (vs2.eraseIdx j) (ds2.eraseIdx j) := by
        have h1 := (r2.take j).append (r2.drop (j + 1))
        rw [← List.eraseIdx_eq_take_drop_succ, ← List.eraseIdx_eq_take_drop_succ] at h1
        exact h1
      exact k _ (.dat d) G2 A2 _ _ (e1.trans e2) (w2.setC (c' := .lst (ds2.eraseIdx j)) hl2 gn2 ⟨gn2, _, upd_same, re⟩) ry q
end
end Mb

/-! Mb, part 44: a comprehension over triples, its list a cell; items of enumerate. -/
namespace Mb
open PySem L2 PyProof.Rows
section
variable {X : Cx} {B : Base} {ex : XD} {ss : Sst} {M : Mem} {a b c e tg o iter elt : Expr} {es ifs : List Expr} {pos p p' apos p2 : Pos} {Q : SV → Mem → Prop} {scope : Scope}
theorem ws_lc3C {x y z v : Str} {i j l n kt : Nat} {tp tp1 tp2 tp3 py spos : Pos} {N : Nd} (hc : X.calm = true) (hN : X.N.Nodup) (hz : X.N[n]? = some v) (hzl : X.env.scope.names.lookup v = some .local) (hsw : swapsWith (.ListComp elt [⟨.Tuple [.Name x tp1, .Name y tp2, .Name z tp3] kt tp, iter, ifs, 0⟩] scope pos) (some (.Name v py)) spos.line X.env = pure true)
    (ok : BlkOk X.N X.env.scope scope [(x, i), (y, j), (z, l)]) (hi : X.N[i]? = some x) (hj : X.N[j]? = some y) (hl : X.N[l]? = some z) (hij : i ≠ j) (hil : i ≠ l) (hjl : j ≠ l)
    (hL : ∀ s H C cl fp, Loc (Blk X scope s H C cl fp).env.scope x) (hL2 : ∀ s H C cl fp, Loc (Blk X scope s H C cl fp).env.scope y) (hL3 : ∀ s H C cl fp, Loc (Blk X scope s H C cl fp).env.scope z) (hl1 : ifs.length ≤ 1)
    (h : WI X B ex (.Tuple [.Name x tp1, .Name y tp2, .Name z tp3] kt tp) iter (fun ds M1 => ∃ I, I 0 [] M1 ∧ LcQ X scope elt ifs (tg3 i j l) [i, j, l] ds I (asCell fun v M' => N.nx (ss.set n (some v)) M') ss) ss M)
    (hf : ∀ s H C cl fp, (Blk X scope s H C cl fp).fn x = true ∨ (Blk X scope s H C cl fp).env.scope.names.lookup x = some .local := by intro _ _ _ _ _; first | exact .inl rfl | exact .inr rfl)
    (hf2 : ∀ s H C cl fp, (Blk X scope s H C cl fp).fn y = true ∨ (Blk X scope s H C cl fp).env.scope.names.lookup y = some .local := by intro _ _ _ _ _; first | exact .inl rfl | exact .inr rfl)
    (hf3 : ∀ s H C cl fp, (Blk X scope s H C cl fp).fn z = true ∨ (Blk X scope s H C cl fp).env.scope.names.lookup z = some .local := by intro _ _ _ _ _; first | exact .inl rfl | exact .inr rfl)
    (hs : ∀ x, foldedSetIterable iter X.env x = pure x := by intro _; rfl) : WS X B ex (.Assign [.Name v py] (.ListComp elt [⟨.Tuple [.Name x tp1, .Name y tp2, .Name z tp3] kt tp, iter, ifs, 0⟩] scope pos) spos) N ss M := .mk fun ck G A H σ w sl E k => by
  refine ts_of (ps_setLc (own := [(x, i), (y, j), (z, l)]) (g := gTup X.K 3 (gCons (gName i) (gCons (gName j) (gCons (gName l) gNil)))) hc hN hz hzl hsw pi_self ok (fun s H C cl fp => pg_tup hc (pgs_cons (pg_name (i := i) hN hi (hL s H C cl fp) (hf s H C cl fp)) (pgs_cons (pg_name (i := j) hN hj (hL2 s H C cl fp) (hf2 s H C cl fp)) (pgs_cons (pg_name (i := l) hN hl (hL3 s H C cl fp) (hf3 s H C cl fp)) pgs_nil)))) (fun s H C cl fp => ps_blk hl1) (fun s H C cl fp => pe_blk) hs) ?_
  exact lc_allC ck (tgOk3 hij hil hjl) w sl (fun v z G' A' M' H' e' w' s' q => k.nx _ _ G' A' M' H' e'.1 w' ((sl.mono e').set s' n) q) h
end
section
variable {X : Cx} {B : Base} {ex : XD} {ss : Sst} {M : Mem} {a : Expr} {pos p : Pos} {QB : Bool → Mem → Prop}
theorem wt_isN {j : Nat} (h : WE X B ex a (fun x M1 => x.told = true ∧ QB (isN x) M1) ss M) : WT X B ex (.Compare a [.Is] [.Constant .none j p] pos) QB ss M := .mk fun ck G A H σ w sl Kq k => by
  refine tt_of (pt_cmpR op_isN pe_self pe_non (nomark _)) ?_
  refine h ck G A H σ w sl _ fun u x G1 A1 M1 H1 e1 w1 s1 h1 => ⟨rfl, ?_⟩
  rw [isN_dec s1 h1.1]
  exact ⟨_, rfl, k _ G1 A1 M1 H1 e1 w1 h1.2⟩
theorem wt_notN {j : Nat} (h : WE X B ex a (fun x M1 => x.told = true ∧ QB (!isN x) M1) ss M) : WT X B ex (.Compare a [.IsNot] [.Constant .none j p] pos) QB ss M := .mk fun ck G A H σ w sl Kq k => by
  refine tt_of (pt_cmpR op_notN pe_self pe_non (nomark _)) ?_
  refine h ck G A H σ w sl _ fun u x G1 A1 M1 H1 e1 w1 s1 h1 => ⟨rfl, ?_⟩
  rw [isN_dec s1 h1.1]
  exact ⟨_, rfl, k _ G1 A1 M1 H1 e1 w1 h1.2⟩
end
end Mb

/-! Mb, part 45: list(range(a, b)). -/
namespace Mb
open PySem L2 PyProof.Rows
section
variable {X : Cx} {B : Base} {ex : XD} {ss : Sst} {M : Mem} {a b : Expr} {pos p p1 p2 : Pos} {Q : SV → Mem → Prop}
theorem reps_range {K : PySem.W.Frag} {G : Hp} {i n : Int} : Reps K G (rgV i n) (rangeD i (n - i).toNat) := by
  unfold rgV rangeD
  induction List.range (n - i).toNat with
  | nil => exact .nil
  | cons k r ih => exact .cons (.int _) ih
theorem we_listRg (hc : X.calm = true) (hm : X.mg "list" = none) (hg : Gl X "list") (hm2 : X.mg "range" = none) (hg2 : Gl X "range") (h : WE X B ex a (fun x M1 => WE X B ex b (fun y M2 => ∃ i n : Int, x = .dat (.int i) ∧ y = .dat (.int n) ∧ (0 ≤ i ∧ i ≤ 16777216 ∧ 0 ≤ n ∧ n ≤ 16777216) ∧ Q (.cel M2.length) (M2 ++ [.lst (rangeD i (n - i).toNat)])) ss M1) ss M)
    (na : starEach [.Call (.Name "range" p1) [a, b] [] p2] X.env = (false, eval (.Call (.Name "range" p1) [a, b] [] p2) X.env) :: starEach [] X.env := by rfl) (nb : starEach [a, b] X.env = (false, eval a X.env) :: starEach [b] X.env := by rfl)
    (nb2 : starEach [b] X.env = (false, eval b X.env) :: starEach [] X.env := by rfl) (hp : (backTo p2 (starEach [b] X.env)).any (·.1) = false := by rfl) :
    WE X B ex (.Call (.Name "list" p) [.Call (.Name "range" p1) [a, b] [] p2] [] pos) Q ss M := .mk fun ck G A H σ w sl Kq k => by
  refine te_of (pe_listRg hc hg hm (prg_2 hg2 hm2 pe_self pe_self nb nb2 hp) na) ?_
  refine h ck G A H σ w sl _ fun v x G1 A1 M1 H1 e1 w1 s1 h1 => ?_
  refine h1 ck G1 A1 H1 σ w1 (sl.mono e1) _ fun u y G2 A2 M2 H2 e2 w2 s2 h2 => ?_
  obtain ⟨i, n, rfl, rfl, ⟨i0, i1, n0, n1⟩, q⟩ := h2
  cases s1
  cases s2
  exact ⟨i, n, rfl, rfl, RgOk.of_le i0 n1 i1 n0, k.newC (e1.trans e2) w2 reps_range q⟩
end
end Mb

/-! Mb, part 46: list * int as a cell. -/
namespace Mb
open PySem L2 PyProof.Rows
section
variable {X : Cx} {B : Base} {ex : XD} {ss : Sst} {M : Mem} {a b : Expr} {pos : Pos} {Q : SV → Mem → Prop}
theorem we_mulC (h : WE X B ex a (fun x M1 => WE X B ex b (fun y M2 => ∃ ds n, x.get M2 = some (.lst ds) ∧ y = .dat (.int n) ∧ (-(2 ^ 63) ≤ n ∧ n < 2 ^ 63 ∧ ds.length * n.toNat ≤ sizeLine) ∧ Q (.cel M2.length) (M2 ++ [.lst (List.replicate n.toNat ds).flatten])) ss M1) ss M) : WE X B ex (.BinOp a .Mult b pos) Q ss M := by
  refine we_op2 (f := fun M2 x y Q => ∃ ds n, x.get M2 = some (.lst ds) ∧ y = .dat (.int n) ∧ (-(2 ^ 63) ≤ n ∧ n < 2 ^ 63 ∧ ds.length * n.toNat ≤ sizeLine) ∧ Q (.cel M2.length) (M2 ++ [.lst (List.replicate n.toNat ds).flatten])) Mb.op_repT (fun G A H M x y u v Q Kq w sx sy hh k => ?_) h
  obtain ⟨ds, n, g1, rfl, ⟨n0, n1, hz⟩, q⟩ := hh
  obtain ⟨a1, v1, rfl, h1, r1⟩ := sx.s w g1
  cases sy
  exact ⟨a1, n, v1, rfl, rfl, h1, n0, n1, by rw [r1.length]; exact hz, k.newC .refl w (r1.flat _) q⟩
end
end Mb

/-! Mb, part 47: calls with keywords. -/
namespace Mb
open PySem L2 PyProof.Rows
/-! ### the values at places -/
def pick {α : Type} (is : List Nat) (xs : List α) : List α := is.filterMap fun i => xs[i]?
theorem pick_vals {vs : List V} {us : List Value} (r : Vals vs us) : ∀ is : List Nat, Vals (pick is vs) (pick is us)
  | [] => .nil
  | i :: is => by
    unfold pick
    rw [List.filterMap_cons, List.filterMap_cons]
    cases e : vs[i]? with
    | none => rw [r.none_of e]; exact pick_vals r is
    | some v =>
      obtain ⟨u, e2, rv⟩ := r.get e
      rw [e2]
      exact .cons rv (pick_vals r is)
theorem Svs.at_ {K : PySem.W.Frag} {G : Hp} {A : List Addr} : ∀ {vs : List V} {xs : List SV} (i : Nat), Svs K G A vs xs → (vs[i]? = none ∧ xs[i]? = none) ∨ ∃ v x, vs[i]? = some v ∧ xs[i]? = some x ∧ SvOk K G A v x
  | _, _, _, .nil => .inl ⟨rfl, rfl⟩
  | _, _, 0, .cons h _ => .inr ⟨_, _, rfl, rfl, h⟩
  | _, _, i + 1, .cons _ r => by
    rw [List.getElem?_cons_succ, List.getElem?_cons_succ]
    exact Svs.at_ i r
theorem pick_svs {K : PySem.W.Frag} {G : Hp} {A : List Addr} {vs : List V} {xs : List SV} (r : Svs K G A vs xs) : ∀ is : List Nat, Svs K G A (pick is vs) (pick is xs)
  | [] => .nil
  | i :: is => by
    unfold pick
    rw [List.filterMap_cons, List.filterMap_cons]
    rcases r.at_ i with ⟨e1, e2⟩ | ⟨v, x, e1, e2, h⟩
    · rw [e1, e2]; exact pick_svs r is
    · rw [e1, e2]; exact .cons h (pick_svs r is)
theorem svs_app {K : PySem.W.Frag} {G : Hp} {A : List Addr} {us : List V} {ys : List SV} (q : Svs K G A us ys) : ∀ {vs : List V} {xs : List SV}, Svs K G A vs xs → Svs K G A (vs ++ us) (xs ++ ys)
  | _, _, .nil => q
  | _, _, .cons h r => .cons h (svs_app q r)
theorem vals_app {us : List V} {ys : List Value} (q : Vals us ys) : ∀ {vs : List V} {xs : List Value}, Vals vs xs → Vals (vs ++ us) (xs ++ ys)
  | _, _, .nil => q
  | _, _, .cons h r => .cons h (vals_app q r)
/-- np positional values, the keywords ks, the defaults ds: the parameters get the values at the places is -/
structure KB (K : PySem.W.Frag) (fd : FuncData) (ps : List Str) (np : Nat) (ks : List Str) (is : List Nat) (ds : List Value) : Prop where
  to : ∀ (s : Shared) (us ws : List Value), K.In s.heap → us.length = np → ws.length = ks.length → BindsTo s fd ⟨us, ks.zip ws⟩ (ps.zip (pick is (us ++ (ws ++ ds))))
theorem fun_kb {K : PySem.W.Frag} {x qual : Str} {st : Stmt} {f : Addr} {fd : FuncData} (ps : List Str) (np : Nat) (ks : List Str) (is : List Nat) (F : Fun K x qual st f fd)
    (h : ∀ (kV doc pm : Value) (an : Option Addr) (cdv ct : Value) (us ws : List Value), us.length = np → ws.length = ks.length → bindArgs (PySem.W.fnOf x qual (defArgs st) (defBody st) (defScope st) .none kV doc pm an cdv ct) ⟨us, ks.zip ws⟩ = pure (ps.zip (pick is (us ++ (ws ++ []))))) : KB K fd ps np ks is [] := by
  obtain ⟨oc, od, kV, doc, pm, an, cdv, ct, osl, rfl, lk, hcd⟩ := F.ex
  exact ⟨fun s us ws X h1 h2 => .of_eq (h kV doc pm an cdv ct us ws h1 h2)⟩
/-! ### the keywords' values -/
def tkW (X : Cx) (kws : List Keyword) : TA := fun σ H Q => ∀ pos pins s, Inv X pins σ H s → wpAny (model X.prog X.w) X.A (evalAll ((backToKw pos (keywordEach kws X.env)).map (·.2))) (AP X pins σ Q) X.xe s
section
variable {X : Cx} {B : Base} {ex : XD} {ss : Sst} {M : Mem} {e o : Expr} {es : List Expr} {kws : List Keyword} {pos p apos kpos : Pos} {Q : SV → Mem → Prop} {σ : L2.St} {H : Hp} {nm : Option Str} {x m : Str} {C : Addr} {k n np : Nat} {S : SpD} {ks : List Str} {is : List Nat} {dxs : List SV}
theorem pk_self : PK X kws (tkW X kws) := ⟨fun p pins s _ _ _ I h => h p pins s I⟩
theorem tk_of {t : TA} {Q : List V → Hp → Prop} (h : PK X kws t) (q : t σ H Q) : tkW X kws σ H Q := fun p pins s I => h.run p pins s σ H Q I q
def WK0 (X : Cx) (B : Base) (ex : XD) (kws : List Keyword) (Q : List SV → Mem → Prop) (ss : Sst) (M : Mem) : Prop :=
  Cok X B ex → ∀ G A H σ, Wd X.K B G A M H → Sl X.K G A σ ss → ∀ Kq, APost X.K B G A Q Kq → tkW X kws σ H Kq
structure WK (X : Cx) (B : Base) (ex : XD) (kws : List Keyword) (Q : List SV → Mem → Prop) (ss : Sst) (M : Mem) : Prop where
  run : WK0 X B ex kws Q ss M
theorem wk_nil {Q : List SV → Mem → Prop} (q : Q [] M) : WK X B ex [] Q ss M := .mk fun ck G A H σ w sl Kq k => tk_of pk_nil (k [] [] G A M H .refl w .nil q)
theorem wk_cons {Q : List SV → Mem → Prop} (h : WE X B ex e (fun x M1 => WK X B ex kws (fun xs M2 => Q (x :: xs) M2) ss M1) ss M) : WK X B ex (⟨nm, e, kpos⟩ :: kws) Q ss M := .mk fun ck G A H σ w sl Kq k => by
  refine tk_of (pk_cons pe_self pk_self) ?_
  refine h ck G A H σ w sl _ fun v x G1 A1 M1 H1 e1 w1 s1 h1 => ?_
  refine h1.run ck G1 A1 H1 σ w1 (sl.mono e1) _ fun vs xs G2 A2 M2 H2 e2 w2 s2 h2 => ?_
  exact k (v :: vs) (x :: xs) G2 A2 M2 H2 (e1.trans e2) w2 (.cons (s1.mono e2) s2) h2
/-! ### calls -/
theorem run_fnKS {CX : CXT} {f : Addr} {fd : FuncData} {ps : List Str} {sp : Sp} {E : XK} {pins : List (Addr × Obj)} {s : Shared} {Q : VK} {us ws ds : List Value} {vs zs dvs : List V} (F : FnOk X.prog X.w X.K X.mg X.base CX k f fd ps sp) (hr : Room k X.A) (hb : KB X.K fd ps np ks is ds) (hd : Vals dvs ds) (hx : PassesAt CX X σ E)
    (I : Inv X pins σ H s) (r : Vals vs us) (rz : Vals zs ws) (l1 : us.length = np) (l2 : ws.length = ks.length) (h : sp (pick is (vs ++ (zs ++ dvs))) H Q E) : wpAny (model X.prog X.w) X.A (call (.ref f) us (ks.zip ws)) (EP X pins σ Q) X.xe s := by
  refine wpAny_call (codeAny_mono (F.run X.A X.stack s H ⟨us, ks.zip ws⟩ (pick is (us ++ (ws ++ ds))) (pick is (vs ++ (zs ++ dvs))) Q E hr I.env0 (hb.to s us ws I.kIn l1 l2) (pick_vals (vals_app (vals_app hd rz) r) is) h) fun r s' hq => ?_)
  cases r with
  | error e => exact hx pins H s e s' I hq
  | ok fl =>
    cases fl with
    | ret u => exact I.after hq
    | next => exact False.elim hq
    | brk => exact False.elim hq
    | cont => exact False.elim hq
theorem run_makeKS {CX : CXT} {f : Addr} {fd : FuncData} {ps : List Str} {sp : Sp} {E : XK} {pins : List (Addr × Obj)} {s : Shared} {Q : VK} {us ws ds : List Value} {vs zs dvs : List V} (Mk0 : Mk X.K C f) (F : FnOk X.prog X.w X.K X.mg X.base CX k f fd ps sp) (hr : Room (k + 1) X.A) (hb : KB X.K fd ps (np + 1) ks is ds) (hd : Vals dvs ds) (hx : PassesAt CX X σ E)
    (I : Inv X pins σ H s) (r : Vals vs us) (rz : Vals zs ws) (l1 : us.length = np) (l2 : ws.length = ks.length)
    (h : ∀ x dx, H x = none → H dx = none → dx ≠ x → sp (pick is (.ref x :: (vs ++ (zs ++ dvs)))) (upd (upd H dx (.own x)) x (.ins C dx [])) (fun v H2 => v = .non ∧ Q (.ref x) H2) E) :
    wpAny (model X.prog X.w) X.A (call (.ref C) us (ks.zip ws)) (EP X pins σ Q) X.xe s := by
  have q0 := h (s.heap.objs.size + 1) s.heap.objs.size (I.hok.fresh (Nat.le_succ _)) (I.hok.fresh (Nat.le_refl _)) (Nat.ne_of_lt (Nat.lt_succ_self _))
  have I2 := Inv.made (C := C) I
  have r1 : Vals (V.ref (s.heap.objs.size + 1) :: (vs ++ (zs ++ dvs))) (Value.ref (s.heap.objs.size + 1) :: (us ++ (ws ++ ds))) := .cons rfl (vals_app (vals_app hd rz) r)
  have r2 := pick_vals r1 is
  refine wpAny_call (make_map (f := f) I.kIn Mk0.makes Mk0.init (beq_iff_eq.mp Mk0.fn) ?_)
  refine codeAny_mono (F.run _ X.stack _ _ ⟨.ref (s.heap.objs.size + 1) :: us, ks.zip ws⟩ (pick is (Value.ref (s.heap.objs.size + 1) :: (us ++ (ws ++ ds)))) _ _ E (hr.make C us (ks.zip ws)) (I2.env0.make C us (ks.zip ws)) (hb.to _ (.ref (s.heap.objs.size + 1) :: us) ws I2.kIn (by rw [List.length_cons, l1]) l2) r2 q0) fun r s' q1 => ?_
  cases r with
  | error e => exact hx pins _ _ e s' I2 q1
  | ok fl =>
    cases fl with
    | ret u =>
      obtain ⟨v, H', I3, rv, ev, q3⟩ := I2.after q1
      subst ev
      exact ⟨rv, ⟨.ref (s.heap.objs.size + 1), H', I3, rfl, q3⟩⟩
    | next => exact q1.elim
    | brk => exact q1.elim
    | cont => exact q1.elim
end
section
variable (P : Program) (w : World) (K : PySem.W.Frag) (mg : Str → Option Value) (base : Heap)
/-- the module's def x, called by np values and the keywords ks -/
def CalK (x : Str) (k n : Nat) (S : SpD) (np : Nat) (ks : List Str) (is : List Nat) (dxs : List SV) : Prop := ∃ f fd ps ds dvs, FnOk P w K mg base (L2.CX P w) k f fd ps (spOf K n S) ∧ mg x = some (.ref f) ∧ PySem.W.keepIn K (.ref f) = true ∧ KB K fd ps np ks is ds ∧ Vals dvs ds ∧ ∀ G A, Svs K G A dvs dxs
/-- the method m of the class C; np counts self -/
def MtdK (C : Addr) (m : Str) (k n : Nat) (S : SpD) (np : Nat) (ks : List Str) (is : List Nat) (dxs : List SV) : Prop := ∃ f fd ps ds dvs, Cls K C ∧ Meth K C m f ∧ FnOk P w K mg base (L2.CX P w) k f fd ps (spOf K n S) ∧ KB K fd ps np ks is ds ∧ Vals dvs ds ∧ ∀ G A, Svs K G A dvs dxs
/-- C(..); np counts self -/
def MkrK (x : Str) (C : Addr) (k : Nat) (S : SpD) (np : Nat) (ks : List Str) (is : List Nat) (dxs : List SV) : Prop := ∃ f fd ps ds dvs, Mk K C f ∧ FnOk P w K mg base (L2.CX P w) k f fd ps (spOf K 1 S) ∧ mg x = some (.ref C) ∧ KB K fd ps np ks is ds ∧ Vals dvs ds ∧ ∀ G A, Svs K G A dvs dxs
end
/-- what is called with: np values ahead, nk by keywords -/
structure KQ (np nk : Nat) (xs ys : List SV) (R : Prop) : Prop where
  h1 : xs.length = np
  h2 : ys.length = nk
  q : R
section
variable {X : Cx} {B : Base} {ex : XD} {ss : Sst} {M : Mem} {e o : Expr} {es : List Expr} {kws : List Keyword} {pos p apos kpos : Pos} {Q : SV → Mem → Prop} {σ : L2.St} {H : Hp} {nm : Option Str} {x m : Str} {C : Addr} {k n np : Nat} {S : SpD} {ks : List Str} {is : List Nat} {dxs : List SV}
theorem we_callK (F : CalK X.prog X.w X.K X.mg X.base x k n S np ks is dxs) (hr : Room k X.A) (hg : Gl X x)
    (h : WA X B ex (e :: es) (fun xs M1 => WK X B ex kws (fun ys M2 => KQ np ks.length xs ys (CallQ n S (pick is (xs ++ (ys ++ dxs))) M2 Q ex ss)) ss M1) ss M)
    (hall : (backToKw pos (keywordEach kws X.env)).all (·.1.isSome) = true := by rfl) (hks : (backToKw pos (keywordEach kws X.env)).filterMap (·.1) = ks := by rfl)
    (hdb : (x == ("__debug__" : Str)) = false := by decide) (he : starEach (e :: es) X.env = (false, eval e X.env) :: starEach es X.env := by rfl)
    (hpl : ((backTo pos (starEach (e :: es) X.env)).any (·.1) || (backToKw pos (keywordEach kws X.env)).any (·.1.isNone)) = false := by rfl) :
    WE X B ex (.Call (.Name x p) (e :: es) kws pos) Q ss M := .mk fun ck G A H σ w sl Kq kk pins s I => by
  obtain ⟨f, fd, ps, ds, dvs, F, hm, hk, hb, hd, hD⟩ := F
  refine wpAny_Call_Name_kw (ld_glob I hg hm ?_ hdb)
  have hO : taW X (e :: es) σ H (fun vs H1 => tkW X kws σ H1 fun zs H2 => vs.length = np ∧ zs.length = ks.length ∧ spOf X.K n S (pick is (vs ++ (zs ++ dvs))) H2 Kq (fun cls d H' => XW X.K B ex cls d σ H')) := by
    refine h ck G A H σ w sl _ fun vs xs G1 A1 M1 H1 e1 w1 s1 h1 => ?_
    refine h1.run ck G1 A1 H1 σ w1 (sl.mono e1) _ fun zs ys G2 A2 M2 H2 e2 w2 s2 h2 => ?_
    refine ⟨by rw [(s1).length, h2.h1], by rw [s2.length, h2.h2], ?_⟩
    exact call_sp w2 (sl.mono (e1.trans e2)) (pick_svs (svs_app (svs_app (hD G2 A2) s2) (s1.mono e2)) is) h2.q fun v x G' A' M' H' e' => kk v x G' A' M' H' ((e1.trans e2).trans e')
  refine PySem.W.callWith_KW (h₀ := X.base) I.ok.mod.kin hk hall (thn (hO pos pins s I) fun us s1 ⟨vs, H1, I1, r, q⟩ => ?_) hpl he
  refine thn (q pos pins s1 I1) fun ws s2 ⟨zs, H2, I2, rz, l1, l2, q2⟩ => ⟨I2.kIn, ?_⟩
  rw [hks]
  exact run_fnKS (E := fun cls d H' => XW X.K B ex cls d σ H') F hr hb hd (ck.at σ) I2 r rz (r.length.symm.trans l1) (rz.length.symm.trans l2) q2
theorem we_callK0 (F : CalK X.prog X.w X.K X.mg X.base x k n S 0 ks is dxs) (hr : Room k X.A) (hg : Gl X x)
    (h : WK X B ex kws (fun ys M2 => KQ 0 ks.length [] ys (CallQ n S (pick is (ys ++ dxs)) M2 Q ex ss)) ss M)
    (hall : (backToKw pos (keywordEach kws X.env)).all (·.1.isSome) = true := by rfl) (hks : (backToKw pos (keywordEach kws X.env)).filterMap (·.1) = ks := by rfl)
    (hdb : (x == ("__debug__" : Str)) = false := by decide)
    (hpl : ((backTo pos (starEach [] X.env)).any (·.1) || (backToKw pos (keywordEach kws X.env)).any (·.1.isNone)) = false := by rfl) :
    WE X B ex (.Call (.Name x p) [] kws pos) Q ss M := .mk fun ck G A H σ w sl Kq kk pins s I => by
  obtain ⟨f, fd, ps, ds, dvs, F, hm, hk, hb, hd, hD⟩ := F
  refine wpAny_Call_Name_kw (ld_glob I hg hm ?_ hdb)
  have hO : tkW X kws σ H fun zs H2 => zs.length = ks.length ∧ spOf X.K n S (pick is ([] ++ (zs ++ dvs))) H2 Kq (fun cls d H' => XW X.K B ex cls d σ H') := by
    refine h.run ck G A H σ w sl _ fun zs ys G2 A2 M2 H2 e2 w2 s2 h2 => ?_
    refine ⟨by rw [s2.length, h2.h2], ?_⟩
    exact call_sp w2 (sl.mono e2) (pick_svs (svs_app (hD G2 A2) s2) is) h2.q fun v x G' A' M' H' e' => kk v x G' A' M' H' (e2.trans e')
  refine PySem.W.callWith_KW0 (h₀ := X.base) I.ok.mod.kin hk hall ?_ hpl
  refine thn (hO pos pins s I) fun ws s2 ⟨zs, H2, I2, rz, l2, q2⟩ => ⟨I2.kIn, ?_⟩
  rw [hks]
  exact run_fnKS (E := fun cls d H' => XW X.K B ex cls d σ H') (us := []) (vs := []) F hr hb hd (ck.at σ) I2 .nil rz rfl (rz.length.symm.trans l2) q2
theorem we_mtdK {pl : Sem Bool} (F : MtdK X.prog X.w X.K X.mg X.base C m k n S (np + 1) ks is dxs) (hr : Room k X.A)
    (h : WE X B ex o (fun x M1 => insS M1 x C m ∧ WA X B ex (e :: es) (fun xs M2 => WK X B ex kws (fun ys M3 => KQ np ks.length xs ys (CallQ n S (pick is (x :: (xs ++ (ys ++ dxs)))) M3 Q ex ss)) ss M2) ss M1) ss M)
    (hall : (backToKw pos (keywordEach kws X.env)).all (·.1.isSome) = true := by rfl) (hks : (backToKw pos (keywordEach kws X.env)).filterMap (·.1) = ks := by rfl)
    (he : starEach (e :: es) X.env = (false, eval e X.env) :: starEach es X.env := by rfl)
    (hpl : ((backTo pos (starEach (e :: es) X.env)).any (·.1) || (backToKw pos (keywordEach kws X.env)).any (·.1.isNone)) = false := by rfl)
    (ht : eval (.Call (.Attribute o m apos) (e :: es) kws pos) X.env = (do
      let ov ← eval o X.env
      standAt apos.atName
      let (f, first) ← holding [ov] (getMethod ov m pl)
      callWith pos f first (backTo pos (starEach (e :: es) X.env)) (backToKw pos (keywordEach kws X.env))) := by rfl) :
    WE X B ex (.Call (.Attribute o m apos) (e :: es) kws pos) Q ss M := .mk fun ck G A H σ w sl Kq kk pins s I => by
  obtain ⟨f, fd, ps, ds, dvs, cl, hm, F, hb, hd, hD⟩ := F
  have hO : teW X o σ H (fun v H1 => ∃ a dx fs, v = .ref a ∧ H1 a = some (.ins C dx fs) ∧ fs.lookup m = none ∧ taW X (e :: es) σ H1 fun vs H2 => tkW X kws σ H2 fun zs H3 => vs.length = np ∧ zs.length = ks.length ∧ spOf X.K n S (pick is (v :: (vs ++ (zs ++ dvs)))) H3 Kq (fun cls d H' => XW X.K B ex cls d σ H')) := by
    refine h ck G A H σ w sl _ fun v x G1 A1 M1 H1 e1 w1 s1 h1 => ?_
    obtain ⟨l, dx, fs, e, hl, hn⟩ := insS_at w1 s1 h1.1
    refine ⟨l, dx, fs, e, hl, hn, ?_⟩
    refine h1.2 ck G1 A1 H1 σ w1 (sl.mono e1) _ fun vs xs G2 A2 M2 H2 e2 w2 s2 h2 => ?_
    refine h2.run ck G2 A2 H2 σ w2 (sl.mono (e1.trans e2)) _ fun zs ys G3 A3 M3 H3 e3 w3 s3 h3 => ?_
    refine ⟨by rw [s2.length, h3.h1], by rw [s3.length, h3.h2], ?_⟩
    exact call_sp w3 (sl.mono ((e1.trans e2).trans e3)) (pick_svs (.cons (s1.mono (e2.trans e3)) (svs_app (svs_app (hD G3 A3) s3) (s2.mono e3))) is) h3.q fun v x G' A' M' H' e' => kk v x G' A' M' H' (((e1.trans e2).trans e3).trans e')
  refine PySem.W.methodCall_KW (pl := pl) (thn (hO pins s I) fun u s1 ⟨x, H1, I1, rx, l, dx, fs, ex1, ea, ln, q⟩ => ?_) ht
  subst ex1
  obtain rfl : u = .ref l := rx
  refine getmeth_ok I1 ea cl hm ln ?_
  refine PySem.W.callWith_KW (first := [.ref l]) (h₀ := X.base) I.ok.mod.kin hm.kp hall (thn (q pos pins s1 I1) fun us s2 ⟨vs, H2, I2, r, q2⟩ => ?_) hpl he
  refine thn (q2 pos pins s2 I2) fun ws s3 ⟨zs, H3, I3, rz, l1, l2, q3⟩ => ⟨I3.kIn, ?_⟩
  rw [hks]
  exact run_fnKS (E := fun cls d H' => XW X.K B ex cls d σ H') (us := .ref l :: us) (vs := .ref l :: vs) F hr hb hd (ck.at σ) I3 (.cons rfl r) rz (by rw [List.length_cons, ← r.length, l1]) (rz.length.symm.trans l2) q3
theorem we_mtdK0 {pl : Sem Bool} (F : MtdK X.prog X.w X.K X.mg X.base C m k n S 1 ks is dxs) (hr : Room k X.A)
    (h : WE X B ex o (fun x M1 => insS M1 x C m ∧ WK X B ex kws (fun ys M3 => KQ 0 ks.length [] ys (CallQ n S (pick is (x :: (ys ++ dxs))) M3 Q ex ss)) ss M1) ss M)
    (hall : (backToKw pos (keywordEach kws X.env)).all (·.1.isSome) = true := by rfl) (hks : (backToKw pos (keywordEach kws X.env)).filterMap (·.1) = ks := by rfl)
    (hpl : ((backTo pos (starEach [] X.env)).any (·.1) || (backToKw pos (keywordEach kws X.env)).any (·.1.isNone)) = false := by rfl)
    (ht : eval (.Call (.Attribute o m apos) [] kws pos) X.env = (do
      let ov ← eval o X.env
      standAt apos.atName
      let (f, first) ← holding [ov] (getMethod ov m pl)
      callWith pos f first (backTo pos (starEach [] X.env)) (backToKw pos (keywordEach kws X.env))) := by rfl) :
    WE X B ex (.Call (.Attribute o m apos) [] kws pos) Q ss M := .mk fun ck G A H σ w sl Kq kk pins s I => by
  obtain ⟨f, fd, ps, ds, dvs, cl, hm, F, hb, hd, hD⟩ := F
  have hO : teW X o σ H (fun v H1 => ∃ a dx fs, v = .ref a ∧ H1 a = some (.ins C dx fs) ∧ fs.lookup m = none ∧ tkW X kws σ H1 fun zs H3 => zs.length = ks.length ∧ spOf X.K n S (pick is (v :: ([] ++ (zs ++ dvs)))) H3 Kq (fun cls d H' => XW X.K B ex cls d σ H')) := by
    refine h ck G A H σ w sl _ fun v x G1 A1 M1 H1 e1 w1 s1 h1 => ?_
    obtain ⟨l, dx, fs, e, hl, hn⟩ := insS_at w1 s1 h1.1
    refine ⟨l, dx, fs, e, hl, hn, ?_⟩
    refine h1.2.run ck G1 A1 H1 σ w1 (sl.mono e1) _ fun zs ys G3 A3 M3 H3 e3 w3 s3 h3 => ?_
    refine ⟨by rw [s3.length, h3.h2], ?_⟩
    exact call_sp w3 (sl.mono (e1.trans e3)) (pick_svs (.cons (s1.mono e3) (svs_app (hD G3 A3) s3)) is) h3.q fun v x G' A' M' H' e' => kk v x G' A' M' H' ((e1.trans e3).trans e')
  refine PySem.W.methodCall_KW (pl := pl) (thn (hO pins s I) fun u s1 ⟨x, H1, I1, rx, l, dx, fs, ex1, ea, ln, q⟩ => ?_) ht
  subst ex1
  obtain rfl : u = .ref l := rx
  refine getmeth_ok I1 ea cl hm ln ?_
  refine PySem.W.callWith_KW0 (first := [.ref l]) (h₀ := X.base) I.ok.mod.kin hm.kp hall ?_ hpl
  refine thn (q pos pins s1 I1) fun ws s3 ⟨zs, H3, I3, rz, l2, q3⟩ => ⟨I3.kIn, ?_⟩
  rw [hks]
  exact run_fnKS (E := fun cls d H' => XW X.K B ex cls d σ H') (us := [.ref l]) (vs := [.ref l]) F hr hb hd (ck.at σ) I3 (.cons rfl .nil) rz rfl (rz.length.symm.trans l2) q3
theorem we_mkrK (F : MkrK X.prog X.w X.K X.mg X.base x C k S (np + 1) ks is dxs) (hr : Room (k + 1) X.A) (hg : Gl X x) (is' : List Nat) (his : is = 0 :: is'.map (· + 1))
    (h : WA X B ex (e :: es) (fun xs M1 => WK X B ex kws (fun ys M2 => KQ np ks.length xs ys (MakeQ S C (pick is' (xs ++ (ys ++ dxs))) M2 Q ex ss)) ss M1) ss M)
    (hall : (backToKw pos (keywordEach kws X.env)).all (·.1.isSome) = true := by rfl) (hks : (backToKw pos (keywordEach kws X.env)).filterMap (·.1) = ks := by rfl)
    (hdb : (x == ("__debug__" : Str)) = false := by decide) (he : starEach (e :: es) X.env = (false, eval e X.env) :: starEach es X.env := by rfl)
    (hpl : ((backTo pos (starEach (e :: es) X.env)).any (·.1) || (backToKw pos (keywordEach kws X.env)).any (·.1.isNone)) = false := by rfl) :
    WE X B ex (.Call (.Name x p) (e :: es) kws pos) Q ss M := .mk fun ck G A H σ w sl Kq kk pins s I => by
  obtain ⟨f, fd, ps, ds, dvs, Mk0, F, hm, hb, hd, hD⟩ := F
  refine wpAny_Call_Name_kw (ld_glob I hg hm ?_ hdb)
  have hO : taW X (e :: es) σ H (fun vs H1 => tkW X kws σ H1 fun zs H2 => vs.length = np ∧ zs.length = ks.length ∧ ∀ x dx, H2 x = none → H2 dx = none → dx ≠ x → spOf X.K 1 S (.ref x :: pick is' (vs ++ (zs ++ dvs))) (upd (upd H2 dx (.own x)) x (.ins C dx [])) (fun v H3 => v = .non ∧ Kq (.ref x) H3) (fun cls d H' => XW X.K B ex cls d σ H')) := by
    refine h ck G A H σ w sl _ fun vs xs G1 A1 M1 H1 e1 w1 s1 h1 => ?_
    refine h1.run ck G1 A1 H1 σ w1 (sl.mono e1) _ fun zs ys G2 A2 M2 H2 e2 w2 s2 h2 => ?_
    refine ⟨by rw [s1.length, h2.h1], by rw [s2.length, h2.h2], ?_⟩
    exact make_sp w2 (sl.mono (e1.trans e2)) (pick_svs (svs_app (svs_app (hD G2 A2) s2) (s1.mono e2)) is') h2.q fun v x G' A' M' H' e' => kk v x G' A' M' H' ((e1.trans e2).trans e')
  refine PySem.W.callWith_KW (h₀ := X.base) I.ok.mod.kin Mk0.kp hall (thn (hO pos pins s I) fun us s1 ⟨vs, H1, I1, r, q⟩ => ?_) hpl he
  refine thn (q pos pins s1 I1) fun ws s2 ⟨zs, H2, I2, rz, l1, l2, q2⟩ => ⟨I2.kIn, ?_⟩
  rw [hks]
  refine run_makeKS (E := fun cls d H' => XW X.K B ex cls d σ H') Mk0 F hr hb hd (ck.at σ) I2 r rz (r.length.symm.trans l1) (rz.length.symm.trans l2) fun x dx h1 h2 h3 => ?_
  have e : pick is (V.ref x :: (vs ++ (zs ++ dvs))) = .ref x :: pick is' (vs ++ (zs ++ dvs)) := by
    subst his
    show (0 :: is'.map (· + 1)).filterMap _ = _
    rw [List.filterMap_cons, List.filterMap_map]
    rfl
  rw [e]
  exact q2 x dx h1 h2 h3
theorem we_mkrK0 (F : MkrK X.prog X.w X.K X.mg X.base x C k S 1 ks is dxs) (hr : Room (k + 1) X.A) (hg : Gl X x) (is' : List Nat) (his : is = 0 :: is'.map (· + 1))
    (h : WK X B ex kws (fun ys M2 => KQ 0 ks.length [] ys (MakeQ S C (pick is' (ys ++ dxs)) M2 Q ex ss)) ss M)
    (hall : (backToKw pos (keywordEach kws X.env)).all (·.1.isSome) = true := by rfl) (hks : (backToKw pos (keywordEach kws X.env)).filterMap (·.1) = ks := by rfl)
    (hdb : (x == ("__debug__" : Str)) = false := by decide)
    (hpl : ((backTo pos (starEach [] X.env)).any (·.1) || (backToKw pos (keywordEach kws X.env)).any (·.1.isNone)) = false := by rfl) :
    WE X B ex (.Call (.Name x p) [] kws pos) Q ss M := .mk fun ck G A H σ w sl Kq kk pins s I => by
  obtain ⟨f, fd, ps, ds, dvs, Mk0, F, hm, hb, hd, hD⟩ := F
  refine wpAny_Call_Name_kw (ld_glob I hg hm ?_ hdb)
  have hO : tkW X kws σ H fun zs H2 => zs.length = ks.length ∧ ∀ x dx, H2 x = none → H2 dx = none → dx ≠ x → spOf X.K 1 S (.ref x :: pick is' (zs ++ dvs)) (upd (upd H2 dx (.own x)) x (.ins C dx [])) (fun v H3 => v = .non ∧ Kq (.ref x) H3) (fun cls d H' => XW X.K B ex cls d σ H') := by
    refine h.run ck G A H σ w sl _ fun zs ys G2 A2 M2 H2 e2 w2 s2 h2 => ?_
    refine ⟨by rw [s2.length, h2.h2], ?_⟩
    exact make_sp w2 (sl.mono e2) (pick_svs (svs_app (hD G2 A2) s2) is') h2.q fun v x G' A' M' H' e' => kk v x G' A' M' H' (e2.trans e')
  refine PySem.W.callWith_KW0 (h₀ := X.base) I.ok.mod.kin Mk0.kp hall ?_ hpl
  refine thn (hO pos pins s I) fun ws s2 ⟨zs, H2, I2, rz, l2, q2⟩ => ⟨I2.kIn, ?_⟩
  rw [hks]
  refine run_makeKS (E := fun cls d H' => XW X.K B ex cls d σ H') (us := []) (vs := []) Mk0 F hr hb hd (ck.at σ) I2 .nil rz rfl (rz.length.symm.trans l2) fun x dx h1 h2 h3 => ?_
  have e : pick is (V.ref x :: ([] ++ (zs ++ dvs))) = .ref x :: pick is' (zs ++ dvs) := by
    subst his
    show (0 :: is'.map (· + 1)).filterMap _ = _
    rw [List.filterMap_cons, List.filterMap_map]
    rfl
  rw [e]
  exact q2 x dx h1 h2 h3
end
end Mb

/-! Mb, part 48: five targets of a list. -/
namespace Mb
open PySem L2 PyProof.Rows
section
variable {X : Cx} {B : Base} {ex : XD} {ss : Sst} {M : Mem} {pos : Pos}
theorem wg_lst5 {t1 t2 t3 t4 t5 : Expr} {j : Nat} {d1 d2 d3 d4 d5 : D} {Q : Sst → Mem → Prop} (hc : X.calm = true) (h : WG X B ex t1 (.dat d1) (fun ss2 M2 => WG X B ex t2 (.dat d2) (fun ss3 M3 => WG X B ex t3 (.dat d3) (fun ss4 M4 => WG X B ex t4 (.dat d4) (fun ss5 M5 => WG X B ex t5 (.dat d5) Q ss5 M5) ss4 M4) ss3 M3) ss2 M2) ss M)
    (hn : (assignEach [t1, t2, t3, t4, t5] X.env).length = 5 := by rfl) (hst : (assignEach [t1, t2, t3, t4, t5] X.env).findIdx? (·.1) = none := by rfl) (h1 : (assignEach [t1, t2, t3, t4, t5] X.env).map (·.2) = assign t1 X.env :: (assignEach [t2, t3, t4, t5] X.env).map (·.2) := by rfl)
    (h2 : (assignEach [t2, t3, t4, t5] X.env).map (·.2) = assign t2 X.env :: (assignEach [t3, t4, t5] X.env).map (·.2) := by rfl) (h3 : (assignEach [t3, t4, t5] X.env).map (·.2) = assign t3 X.env :: (assignEach [t4, t5] X.env).map (·.2) := by rfl) (h4 : (assignEach [t4, t5] X.env).map (·.2) = assign t4 X.env :: (assignEach [t5] X.env).map (·.2) := by rfl) (h5 : (assignEach [t5] X.env).map (·.2) = assign t5 X.env :: (assignEach [] X.env).map (·.2) := by rfl) :
    WG X B ex (.Tuple [t1, t2, t3, t4, t5] j pos) (.dat (.lst [d1, d2, d3, d4, d5])) Q ss M := .mk fun ck G A H σ v w sl s Kq k => by
  refine tg_of (pg_lst hc (pgs_cons pg_self (pgs_cons pg_self (pgs_cons pg_self (pgs_cons pg_self (pgs_cons pg_self pgs_nil h5) h4) h3) h2) h1) hn hst) ?_
  have s : Rep X.K G v (.lst [d1, d2, d3, d4, d5]) := s
  cases s with
  | lst hl r =>
    cases r with
    | cons r1 r =>
      cases r with
      | cons r2 r =>
        cases r with
        | cons r3 r =>
          cases r with
          | cons r4 r =>
            cases r with
            | cons r5 r =>
              cases r
              refine ⟨_, _, rfl, .inl (rdM w.gh hl), rfl, _, _, rfl, ?_⟩
              refine h ck G A H σ _ w sl r1 _ fun σ' ss' G' A' M' H' s' w' sl' q => ⟨_, _, rfl, ?_⟩
              refine q ck G' A' H' σ' _ w' sl' (Rep.mono s' r2) _ fun σ2 ss2 G2 A2 M2 H2 s2 w2 sl2 q2 => ⟨_, _, rfl, ?_⟩
              refine q2 ck G2 A2 H2 σ2 _ w2 sl2 (Rep.mono (s'.trans s2) r3) _ fun σ3 ss3 G3 A3 M3 H3 s3 w3 sl3 q3 => ⟨_, _, rfl, ?_⟩
              refine q3 ck G3 A3 H3 σ3 _ w3 sl3 (Rep.mono ((s'.trans s2).trans s3) r4) _ fun σ4 ss4 G4 A4 M4 H4 s4 w4 sl4 q4 => ⟨_, _, rfl, ?_⟩
              exact q4 ck G4 A4 H4 σ4 _ w4 sl4 (Rep.mono (((s'.trans s2).trans s3).trans s4) r5) _ fun σ5 ss5 G5 A5 M5 H5 s5 w5 sl5 q5 => ⟨rfl, k σ5 ss5 G5 A5 M5 H5 ((((s'.trans s2).trans s3).trans s4).trans s5) w5 sl5 q5⟩
end
end Mb

/-! Mb, part 49: list(dict), sorted(ints), sorted(texts), list.pop(). -/
namespace Mb
open PySem L2 PyProof.Rows
theorem keys_reps {K : PySem.W.Frag} {G : Hp} : ∀ {kv : List (L2.Key × V)} {kvs : List (L2.Key × D)}, RepK K G kv kvs → (∀ p ∈ kvs, ∀ x, p.1 = Sum.inr x → SOk x) → Reps K G (kv.map fun p => kV p.1) (kvs.map fun p => kD p.1)
  | _, _, .nil, _ => .nil
  | _, _, .cons (k := k) (d := d) h r, hs => by
    refine .cons ?_ (keys_reps r fun p m => hs p (List.mem_cons_of_mem _ m))
    cases k with
    | inl i => exact .int i
    | inr x => exact .str x (hs (Sum.inr x, d) (List.mem_cons_self ..) x rfl)
section
variable {X : Cx} {B : Base} {ex : XD} {ss : Sst} {M : Mem} {a b e o : Expr} {es : List Expr} {pos p apos : Pos} {Q : SV → Mem → Prop}
/-- list(d): its keys, data -/
def listK (M : Mem) (d : D) (Q : SV → Mem → Prop) : Prop := match d with
  | .dic kvs => (∀ p ∈ kvs, ∀ x, p.1 = Sum.inr x → SOk x) ∧ Q (.dat (.lst (kvs.map fun p => kD p.1))) M
  | _ => False
theorem we_listK (hc : X.calm = true) (hm : X.mg "list" = none) (hg : Gl X "list") (h : WA X B ex (e :: es) (fun xs M1 => arg1 listK M1 xs Q) ss M)
    (he : starEach (e :: es) X.env = (false, eval e X.env) :: starEach es X.env := by rfl) (hpl : (backTo pos (starEach es X.env)).any (·.1) = false := by rfl) : WE X B ex (.Call (.Name "list" p) (e :: es) [] pos) Q ss M := by
  refine we_ct (f := arg1 listK) (call_listD hc) (fun G A H M xs vs Q Kq w r h k => ?_) hm (by decide +kernel) hg h (he := he) (hpl := hpl)
  obtain ⟨v, d, rfl, q, h⟩ := arg1_get w r h
  cases d <;> try exact h.elim
  obtain ⟨l, kv, rfl, hl, r⟩ := q
  exact ⟨l, kv, rfl, .inl hl, k.new .refl w h.2 fun p hp => .lst (.inl upd_same) ((keys_reps r h.1).mono (same_upd (w.none hp).2.2))⟩
/-- sorted(xs), whole numbers: data -/
def sortI (M : Mem) (d : D) (Q : SV → Mem → Prop) : Prop := match d with
  | .lst ds => ∃ ns : List Int, ds = ns.map D.int ∧ ∀ ns' : List Int, ns'.Perm ns → ns'.Pairwise (· ≤ ·) → Q (.dat (.lst (ns'.map D.int))) M
  | _ => False
theorem we_sortI (hm : X.mg "sorted" = none) (hg : Gl X "sorted") (h : WA X B ex (e :: es) (fun xs M1 => arg1 sortI M1 xs Q) ss M)
    (he : starEach (e :: es) X.env = (false, eval e X.env) :: starEach es X.env := by rfl) (hpl : (backTo pos (starEach es X.env)).any (·.1) = false := by rfl) : WE X B ex (.Call (.Name "sorted" p) (e :: es) [] pos) Q ss M := by
  refine we_cb (f := arg1 sortI) cr_sortedI (fun G A H M xs vs Q Kq w r h k => ?_) hm (by decide +kernel) hg h (he := he) (hpl := hpl)
  obtain ⟨v, d, rfl, q, h⟩ := arg1_get w r h
  cases d <;> try exact h.elim
  obtain ⟨ns, rfl, h⟩ := h
  obtain ⟨l, vs, rfl, hl, r⟩ := q
  rw [reps_ints r] at hl
  exact ⟨l, ns, rfl, .inl hl, fun ns' p hp hs hn => k.new .refl w (h ns' hp hs) (fun p hp => .lst (.inl upd_same) ints_reps) p hn⟩
/-- sorted(xs), fewer than 64 texts: data -/
def sortS (M : Mem) (d : D) (Q : SV → Mem → Prop) : Prop := match d with
  | .lst ds => ∃ zs : List Str, ds = zs.map D.str ∧ zs.length < 64 ∧ ∀ zs' : List Str, zs'.Perm zs → sortedS zs' = true → Q (.dat (.lst (zs'.map D.str))) M
  | _ => False
theorem strs_perm {K : PySem.W.Frag} {G : Hp} {zs zs' : List Str} {vs : List V} (r : Reps K G vs (zs.map D.str)) (h : zs'.Perm zs) : Reps K G (zs'.map V.str) (zs'.map D.str) := by
  have ok : ∀ z ∈ zs, SOk z := by
    clear h
    induction zs generalizing vs with
    | nil => intro z h; cases h
    | cons y ys ih =>
      cases r with
      | cons h1 r =>
        intro z hz
        rcases List.mem_cons.mp hz with rfl | hz
        · cases h1; assumption
        · exact ih r z hz
  have go : ∀ l : List Str, (∀ z ∈ l, SOk z) → Reps K G (l.map V.str) (l.map D.str) := by
    intro l
    induction l with
    | nil => intro _; exact .nil
    | cons y ys ih => intro hl; exact .cons (.str y (hl y (List.mem_cons_self ..))) (ih fun z m => hl z (List.mem_cons_of_mem _ m))
  exact go zs' fun z hz => ok z (h.mem_iff.mp hz)
theorem we_sortS (hm : X.mg "sorted" = none) (hg : Gl X "sorted") (h : WA X B ex (e :: es) (fun xs M1 => arg1 sortS M1 xs Q) ss M)
    (he : starEach (e :: es) X.env = (false, eval e X.env) :: starEach es X.env := by rfl) (hpl : (backTo pos (starEach es X.env)).any (·.1) = false := by rfl) : WE X B ex (.Call (.Name "sorted" p) (e :: es) [] pos) Q ss M := by
  refine we_cb (f := arg1 sortS) cr_sortedS (fun G A H M xs vs Q Kq w r h k => ?_) hm (by decide +kernel) hg h (he := he) (hpl := hpl)
  obtain ⟨v, d, rfl, q, h⟩ := arg1_get w r h
  cases d <;> try exact h.elim
  obtain ⟨ns, rfl, hz, h⟩ := h
  obtain ⟨l, vs, rfl, hl, r⟩ := q
  have e0 := (reps_strs r).1
  rw [e0] at hl
  exact ⟨l, ns, rfl, .inl hl, hz, fun ns' p hp hs hn => k.new .refl w (h ns' hp hs) (fun q hq => .lst (.inl upd_same) ((strs_perm r hp).mono (same_upd (w.none hq).2.2))) p hn⟩
/-- xs.pop(): the last one, xs a list of ours -/
theorem we_pop (h : WE X B ex o (fun x M1 => ∃ (i : Nat) (ds : List D) (d : D), x = .cel i ∧ M1[i]? = some (.lst (ds ++ [d])) ∧ Q (.dat d) (M1.set i (.lst ds))) ss M)
    (hbase : attributeBase o "pop" X.env (eval o X.env) = eval o X.env := by rfl) (hline : (apos.endLine == pos.line) = true := by rfl) : WE X B ex (.Call (.Attribute o "pop" apos) [] [] pos) Q ss M := .mk fun ck G A H σ w sl Kq k => by
  refine te_of (pe_bm0 PySem.F.plainAttrs_list PySem.F.slot_list_pop PySem.F.type_list_pop mt_pop pe_self hbase hline) ?_
  refine h ck G A H σ w sl _ fun v x G1 A1 M1 H1 e1 w1 s1 h1 => ?_
  obtain ⟨i, ds, d, rfl, hM, q⟩ := h1
  obtain ⟨l, rfl, hl⟩ := s1
  obtain ⟨gn, vs, hv, r⟩ := w1.cl.get hl hM
  refine ⟨.inl ⟨rfl, vs, .inl (.inl hv)⟩, ?_⟩
  have hlen := r.length
  rw [List.length_append, List.length_singleton] at hlen
  obtain ⟨y, hy, ry⟩ := r.get (i := ds.length) (d := d) (by simp)
  refine ⟨l, vs, y, rfl, rfl, hv, by rw [hlen]; simpa using hy, ?_⟩
  have re : Reps X.K G1 vs.dropLast ds := by
    have h1 := r.take ds.length
    rw [List.take_left] at h1
    rw [List.dropLast_eq_take, hlen]
    exact h1
  exact k _ (.dat d) G1 A1 _ _ e1 (w1.setC (c' := .lst ds) hl gn ⟨gn, _, upd_same, re⟩) ry q
end
end Mb

/-! Mb, part 50: list.index of texts. -/
namespace Mb
open PySem L2 PyProof.Rows
section
variable {X : Cx} {B : Base} {ex : XD} {ss : Sst} {M : Mem} {a b e o : Expr} {es : List Expr} {pos p apos : Pos} {Q : SV → Mem → Prop}
theorem we_lindex (h : WE X B ex o (fun x M1 => ∃ zs : List Str, x = .dat (.lst (zs.map D.str)) ∧ WA X B ex [e] (fun ys M2 => ∃ (z : Str) (j : Nat), ys = [.dat (.str z)] ∧ zs[j]? = some z ∧ (∀ m, m < j → zs[m]? ≠ some z) ∧ Q (.dat (.int (j : Int))) M2) ss M1) ss M)
    (hbase : attributeBase o "index" X.env (eval o X.env) = eval o X.env := by rfl)
    (hfew : ((backTo pos (starEach [e] X.env)).all (fun x => !x.1) && (backToKw pos (keywordEach [] X.env)).all (fun x => x.1.isSome) && decide ([e].length + ([] : List Keyword).length + (if ([] : List Keyword).isEmpty then 0 else 1) < 30)) = true := by rfl)
    (hline : (apos.endLine == pos.line) = true := by rfl) (hs : starEach [e] X.env = (false, eval e X.env) :: starEach [] X.env := by rfl) (hpl : (backTo pos (starEach [] X.env)).any (·.1) = false := by rfl) :
    WE X B ex (.Call (.Attribute o "index" apos) [e] [] pos) Q ss M := .mk fun ck G A H σ w sl Kq k => by
  refine te_of (pe_bm PySem.F.plainAttrs_list PySem.F.slot_list_index PySem.F.type_list_index mt_index pe_self pa_self hbase hfew hline hs hpl) ?_
  refine h ck G A H σ w sl _ fun v x G1 A1 M1 H1 e1 w1 s1 h1 => ?_
  obtain ⟨zs, rfl, h1⟩ := h1
  have s1 : Rep X.K G1 v (.lst (zs.map D.str)) := s1
  cases s1 with
  | lst hl r =>
    rename_i l vs
    have ev := (reps_strs r).1
    subst ev
    refine ⟨.inl ⟨rfl, _, .inl (rdM w1.gh hl)⟩, ?_⟩
    refine h1 ck G1 A1 H1 σ w1 (sl.mono e1) _ fun us ys G2 A2 M2 H2 e2 w2 s2 h2 => ?_
    obtain ⟨z, j, rfl, hj, hm, q⟩ := h2
    cases s2 with
    | cons ru rr =>
      cases rr
      cases ru
      refine ⟨l, zs.map V.str, .str z, j, .str z, rfl, rfl, .inl (rdM (e2.1.trans w2.gh) hl), rfl, ?_, by rw [List.getElem?_map, hj]; rfl, by simp [eqV], fun m z' hlt hz' => ?_, k _ (.dat (.int j)) G2 A2 _ _ (e1.trans e2) w2 (.int _) q⟩
      · rw [List.all_eq_true]
        intro u hu
        obtain ⟨_, _, rfl⟩ := List.mem_map.mp hu
        rfl
      · rw [List.getElem?_map] at hz'
        cases e3 : zs[m]? with
        | none => rw [e3] at hz'; cases hz'
        | some y =>
          rw [e3] at hz'
          obtain rfl := Option.some.inj hz'
          have hne : y ≠ z := fun q => hm m hlt (by rw [e3, q])
          simpa [eqV] using hne
end
end Mb

/-! Mb, part 51: dicts whose keys are tuples, nested. -/
namespace Mb
open PySem L2 PySem.Spec PyProof.Rows

mutual
inductive NkH (K : PySem.W.Frag) (H : Hp) : NestedKey → V → Prop
  | non : NkH K H .none .non
  | bl (b : Bool) : NkH K H (.num (if b = true then 1 else 0)) (.bl b)
  | int (i : Int) : NkH K H (.num i) (.int i)
  | str (x : Str) : NkH K H (.text x) (.str x)
  | tup {a : Addr} {xs : List V} {ks : List NestedKey} : SqT K H a xs → NksH K H ks xs → NkH K H (.tup ks) (.ref a)
inductive NksH (K : PySem.W.Frag) (H : Hp) : List NestedKey → List V → Prop
  | nil : NksH K H [] []
  | cons {k : NestedKey} {v : V} {ks : List NestedKey} {vs : List V} : NkH K H k v → NksH K H ks vs → NksH K H (k :: ks) (v :: vs)
end
mutual
theorem Rep.nk {K : PySem.W.Frag} {G H : Hp} (g : Same G H) : ∀ {v : V} {d : D} {k : NestedKey}, Rep K G v d → nkOf d = some k → NkH K H k v
  | _, _, _, .non, e => by
    simp only [nkOf, Option.some.injEq] at e; subst e; exact .non
  | _, _, _, .bl b, e => by
    simp only [nkOf, Option.some.injEq] at e; subst e; exact .bl b
  | _, _, _, .int i, e => by
    simp only [nkOf, Option.some.injEq] at e; subst e; exact .int i
  | _, _, _, .str x h, e => by
    simp only [nkOf, Option.some.injEq] at e; subst e; exact .str x
  | _, _, _, .lst _ _, e => by simp [nkOf] at e
  | _, _, _, .ins _ _ _, e => by simp [nkOf] at e
  | _, _, _, .dic _ _, e => by simp [nkOf] at e
  | _, _, _, .tup h r, e => by
    simp only [nkOf, Option.map_eq_some_iff] at e
    obtain ⟨ks, e, rfl⟩ := e
    exact .tup (sqtM g h) (Reps.nk g r e)
theorem Reps.nk {K : PySem.W.Frag} {G H : Hp} (g : Same G H) : ∀ {v : List V} {d : List D} {k : List NestedKey}, Reps K G v d → nksOf d = some k → NksH K H k v
  | _, _, _, .nil, e => by
    simp only [nksOf, Option.some.injEq] at e; subst e; exact .nil
  | _, d :: ds, _, .cons h r, e => by
    simp only [nksOf] at e
    cases e1 : nkOf d with
    | none => rw [e1] at e; cases e
    | some k =>
      rw [e1] at e
      simp only [Option.map_eq_some_iff] at e
      obtain ⟨ks, e2, rfl⟩ := e
      exact .cons (Rep.nk g h e1) (Reps.nk g r e2)
end
section
variable {X : Cx} {pins : List (Addr × Obj)} {σ : L2.St} {H : Hp} {s : Shared}
mutual
theorem NkH.is (I : Inv X pins σ H s) : ∀ {k : NestedKey} {y : V} {u : Value}, NkH X.K H k y → RelV y u → NestedIs s.heap k u
  | _, _, _, .non, r => by
    cases (show _ = Value.none from r); exact .none
  | _, _, _, .bl b, r => by
    cases (show _ = Value.bool b from r); exact .bool rfl
  | _, _, _, .int i, r => by
    obtain ⟨t, rfl⟩ := (show ∃ t, _ = Value.int i t from r); exact .int i t
  | _, _, _, .str x, r => by
    obtain ⟨t, rfl⟩ := (show ∃ t, _ = Value.str x t from r); exact .text x t
  | _, _, _, .tup (a := a) h q, r => by
    cases (show _ = Value.ref a from r)
    obtain ⟨its, rv, ⟨o, ho, hc, n, hd⟩, _⟩ := I.tuple h
    exact .tup ho hc hd (NksH.is I q rv)
theorem NksH.is (I : Inv X pins σ H s) : ∀ {k : List NestedKey} {y : List V} {u : List Value}, NksH X.K H k y → Vals y u → NestedAll s.heap k u
  | _, _, _, .nil, .nil => .nil
  | _, _, _, .cons h q, .cons r t => .cons (NkH.is I h r) (NksH.is I q t)
end
end
abbrev KvX := List (NestedKey × Addr × V)
def valN (kv : KvX) (k : NestedKey) : Option V := (kv.find? fun e => decide (e.1 = k)).map (·.2.2)
abbrev KX : KvX → List (NestedKey × Addr × Value) → Prop := Paired (fun (p : NestedKey × Addr × V) (q : NestedKey × Addr × Value) => p.1 = q.1 ∧ p.2.1 = q.2.1 ∧ RelV p.2.2 q.2.2)
theorem KX.val {kv : KvX} {xs : List (NestedKey × Addr × Value)} (r : KX kv xs) (k : NestedKey) : RelO (valN kv k) ((atKey xs k).map (·.2)) := by
  induction r with
  | nil => exact True.intro
  | @cons p q ps qs h t ih =>
    obtain ⟨h1, _, h2⟩ := h
    by_cases e : p.1 = k
    · have e' : q.1 = k := h1.symm.trans e
      have b : atKey (q :: qs) k = some q.2 := by simp [atKey, List.find?_cons, e']
      have a : valN (p :: ps) k = some p.2.2 := by simp [valN, List.find?_cons, e]
      rw [a, b]; exact h2
    · have e' : ¬ q.1 = k := fun z => e (h1.trans z)
      have b : atKey (q :: qs) k = atKey qs k := by simp [atKey, List.find?_cons, e']
      have a : valN (p :: ps) k = valN ps k := by simp [valN, List.find?_cons, e]
      rw [a, b]; exact ih
def XKy (K : PySem.W.Frag) (H : Hp) (kv : KvX) : Prop := ∀ e ∈ kv, NkH K H e.1 (.ref e.2.1) ∧ e.1.depth ≤ 8
section
variable {X : Cx} {pins : List (Addr × Obj)} {σ : L2.St} {H : Hp} {s : Shared} {a b : Addr} {kv : KvX} {k : NestedKey} {v : V} {r : Value} {A : Around} {E : Value → Shared → Prop}
theorem dx_of (I : Inv X pins σ H s) (e : H a = some (deepO X.prog X.w a kv)) (ks : XKy X.K H kv) : kv.length ≤ sizeLine ∧ (a == sysModules) = false ∧ ∃ xs, KX kv xs ∧ s.heap.DictOfH (nestedKind X.prog X.w) a xs := by
  obtain ⟨⟨z, y, xs, r, o, es, ep, h1, h2, h3, h4, h5⟩, _⟩ := (show ObjOk X.prog X.w H s.heap a (deepO X.prog X.w a kv) from I.hok a _ e)
  refine ⟨z, y, xs, r, o, es, ep, h1, h2, h3, h4, fun x hx => ?_, h5⟩
  have all : ∀ {l : KvX} {m : List (NestedKey × Addr × Value)}, XKy X.K H l → KX l m → ∀ x ∈ m, (nestedKind X.prog X.w).is s.heap x.1 x.2.1 := by
    intro l m q t
    induction t with
    | nil => intro x hx; exact nomatch hx
    | @cons p y ps qs hq t ih =>
      intro x hx
      rcases List.mem_cons.mp hx with e | hx
      · subst e
        obtain ⟨h1, h2⟩ := q p (List.mem_cons_self ..)
        rw [← hq.1, ← hq.2.1]
        exact ⟨h1.is I rfl, h2⟩
      · exact ih (fun e m => q e (List.mem_cons_of_mem _ m)) x hx
  exact all ks r x hx
theorem x_room (hu : A.units + 64 < cLine) : (nestedKind X.prog X.w).room A.in1 := by
  show A.units + 1 + 8 < cLine
  omega
theorem x_in {Q : Value → Shared → Prop} (hu : A.units + 64 < cLine) (I : Inv X pins σ H s) (e : H a = some (deepO X.prog X.w a kv)) (ks : XKy X.K H kv) (hk : NkH X.K H k (.ref b)) (hd : k.depth ≤ 8) (h : ∀ s', Inv X pins σ H s' → Q (.bool (valN kv k).isSome) s') :
    wpAny (model X.prog X.w) A (compareOp .In (.ref b) (.ref a)) Q E s := by
  obtain ⟨z, hs, xs, rel, dd⟩ := dx_of I e ks
  refine wpAny_in_heap (knd := nestedKind X.prog X.w) (x_room hu) ⟨hk.is I rfl, hd⟩ hs dd ?_
  have q := (rel.val k).isSome_eq
  rw [Option.isSome_map] at q
  rw [← q]
  exact h _ (I.tok _)
theorem x_notIn {Q : Value → Shared → Prop} (hu : A.units + 64 < cLine) (I : Inv X pins σ H s) (e : H a = some (deepO X.prog X.w a kv)) (ks : XKy X.K H kv) (hk : NkH X.K H k (.ref b)) (hd : k.depth ≤ 8) (h : ∀ s', Inv X pins σ H s' → Q (.bool (!(valN kv k).isSome)) s') :
    wpAny (model X.prog X.w) A (compareOp .NotIn (.ref b) (.ref a)) Q E s := by
  obtain ⟨z, hs, xs, rel, dd⟩ := dx_of I e ks
  refine wpAny_notIn_heap (knd := nestedKind X.prog X.w) (x_room hu) ⟨hk.is I rfl, hd⟩ hs dd ?_
  have q := (rel.val k).isSome_eq
  rw [Option.isSome_map] at q
  rw [← q]
  exact h _ (I.tok _)
theorem x_getItem {Q : Value → Shared → Prop} (hu : A.units + 64 < cLine) (I : Inv X pins σ H s) (e : H a = some (deepO X.prog X.w a kv)) (ks : XKy X.K H kv) (hk : NkH X.K H k (.ref b)) (hd : k.depth ≤ 8) (hv : valN kv k = some v) (h : ∀ w' s', Inv X pins σ H s' → RelV v w' → Q w' s') :
    wpAny (model X.prog X.w) A (getItem (.ref a) (.ref b)) Q E s := by
  obtain ⟨z, hs, xs, rel, dd⟩ := dx_of I e ks
  obtain ⟨w', hw, rw'⟩ := RelO.some_of (v := v) (o := (atKey xs k).map (·.2)) (by rw [← hv]; exact rel.val k)
  obtain ⟨p, hp, hp2⟩ := Option.map_eq_some_iff.mp hw
  refine wpAny_getItem_heap (knd := nestedKind X.prog X.w) (x_room hu) ⟨hk.is I rfl, hd⟩ dd hp ?_
  rw [hp2]
  exact h w' _ (I.tok _) rw'
theorem deep_new {P : Program} {w : World} {H' : Hp} {h' : Heap} {xs : List (NestedKey × Addr × Value)} (z : kv.length ≤ sizeLine) (hd : (a == sysModules) = false) (rel : KX kv xs) (dd : ∃ o es ep, h'.get? a = some o ∧ o.ExactDict ∧ o.data = .dict es ep ∧ es.toList = xs.map (entryOfKey (nestedKind P w)) ∧ (xs.map (·.1)).Nodup) :
    ObjOk P w H' h' a (deepO P w a kv) := by
  have dd2 := dd
  obtain ⟨o, es, ep, h1, h2, h3, h4, h5⟩ := dd
  refine ⟨⟨z, hd, xs, rel, dd2⟩, ⟨o, h1⟩, ?_⟩
  rintro g1 g2 ⟨z, y, xs, r, o, es, ep, h1, h2, h3, h4, h5⟩ st
  exact ⟨z, y, xs, r, o, es, ep, st _ h1, h2, h3, h4, h5⟩
/-- d[y] = v, y is new -/
theorem x_setItem {Q : Unit → Shared → Prop} (hu : A.units + 64 < cLine) (I : Inv X pins σ H s) (e : H a = some (deepO X.prog X.w a kv)) (ks : XKy X.K H kv) (hk : NkH X.K H k (.ref b)) (hd : k.depth ≤ 8) (hn : valN kv k = none) (hl : kv.length < sizeLine) (rv : RelV v r) (h : ∀ s', Inv X pins σ (upd H a (deepO X.prog X.w a (kv ++ [(k, b, v)]))) s' → Q () s') :
    wpAny (model X.prog X.w) A (setItem (.ref a) (.ref b) r) Q E s := by
  obtain ⟨z, hs, xs, rel, dd⟩ := dx_of I e ks
  have hz : xs.length ≤ sizeLine := by rw [← Paired.length rel]; exact z
  have hx : atKey xs k = none := by
    have q := (rel.val k).isSome_eq
    rw [Option.isSome_map, hn] at q
    cases c : atKey xs k with
    | none => rfl
    | some p => rw [c] at q; cases q
  refine wpAny_setItem_heap (hsz := hz) (knd := nestedKind X.prog X.w) (x_room hu) ⟨hk.is I rfl, hd⟩ dd fun h' dd' hb => h _ ?_
  rw [storedH_new hx] at dd'
  obtain ⟨q, es, ep, hq, h2, h3, h4, _, h5⟩ := dd'
  refine d_write I (by rw [e]; exact True.intro) hb ⟨q, hq⟩ (deep_new (xs := xs ++ [(k, b, r)]) (by rw [List.length_append, List.length_singleton]; omega) hs (Paired.snoc rel ⟨rfl, rfl, rv⟩) ⟨q, es, ep, hq, h2, h3, h4, h5⟩)
end
/-! ### rules of expressions -/
section
variable {X : Cx} {o i e value : Expr} {pos pos' tpos : Pos} {td ty tv : TE}
def tXGet (X : Cx) (td ty : TE) : TE := fun σ H Q => td σ H fun x H1 => ty σ H1 fun y H2 => ∃ a b kv k v, x = .ref a ∧ y = .ref b ∧ H2 a = some (deepO X.prog X.w a kv) ∧ XKy X.K H2 kv ∧ NkH X.K H2 k (.ref b) ∧ k.depth ≤ 8 ∧ valN kv k = some v ∧ Q v H2
def tXIn (X : Cx) (ty td : TE) : TE := fun σ H Q => ty σ H fun y H1 => td σ H1 fun x H2 => ∃ a b kv k, x = .ref a ∧ y = .ref b ∧ H2 a = some (deepO X.prog X.w a kv) ∧ XKy X.K H2 kv ∧ NkH X.K H2 k (.ref b) ∧ k.depth ≤ 8 ∧ Q (.bl (valN kv k).isSome) H2
def tXNotIn (X : Cx) (ty td : TE) : TE := fun σ H Q => ty σ H fun y H1 => td σ H1 fun x H2 => ∃ a b kv k, x = .ref a ∧ y = .ref b ∧ H2 a = some (deepO X.prog X.w a kv) ∧ XKy X.K H2 kv ∧ NkH X.K H2 k (.ref b) ∧ k.depth ≤ 8 ∧ Q (.bl (!(valN kv k).isSome)) H2
def sXPut (X : Cx) (td ty tv : TE) : TS := fun D σ H => tv σ H fun v H1 => td σ H1 fun x H2 => ty σ H2 fun y H3 => ∃ a b kv k, x = .ref a ∧ y = .ref b ∧ H3 a = some (deepO X.prog X.w a kv) ∧ XKy X.K H3 kv ∧ NkH X.K H3 k (.ref b) ∧ k.depth ≤ 8 ∧ valN kv k = none ∧ kv.length < sizeLine ∧ D.nx σ (upd H3 a (deepO X.prog X.w a (kv ++ [(k, b, v)])))
theorem pe_xget (hu : X.A.units + 64 < cLine) (ho : PE X o td) (hi : PE X i ty) (hs : NoSl i) : PE X (.Subscript o i pos) (tXGet X td ty) := by
  refine ⟨fun pins s σ H Q I h => ?_⟩
  refine subD_of PySem.F.slot_dict_getitem.lookup hs (thn (ho.run pins s σ H _ I h) fun u s1 ⟨x, H1, I1, rx, q1⟩ => thn (hi.run pins s1 σ H1 _ I1 q1) fun iv s2 ⟨y, H2, I2, ry, a, b, kv, k, v, ex, ey, e, ks, nk, hd, hv, q2⟩ => ?_)
  subst ex ey
  obtain rfl : u = Value.ref a := rx
  obtain rfl : iv = Value.ref b := ry
  obtain ⟨_, _, xs, _, dd⟩ := dx_of I2 e ks
  exact ⟨dd.typeIs, x_getItem hu I2 e ks nk hd hv fun w' s3 I3 rw' => ⟨v, H2, I3, rw', q2⟩⟩
theorem pc_xin (hu : X.A.units + 64 < cLine) (hi : PE X i ty) (ho : PE X o td) : PC X .In i o (tXIn X ty td) := by
  refine ⟨fun pins s σ H Q I h => ?_⟩
  refine thn (hi.run pins s σ H _ I h) fun iv s1 ⟨y, H1, I1, ry, q1⟩ => thn (ho.run pins s1 σ H1 _ I1 q1) fun u s2 ⟨x, H2, I2, rx, a, b, kv, k, ex, ey, e, ks, nk, hd, q2⟩ => ?_
  subst ex ey
  obtain rfl : u = Value.ref a := rx
  obtain rfl : iv = Value.ref b := ry
  exact x_in hu I2 e ks nk hd fun s3 I3 => ⟨.bl (valN kv k).isSome, H2, I3, rfl, q2⟩
theorem pc_xnotin (hu : X.A.units + 64 < cLine) (hi : PE X i ty) (ho : PE X o td) : PC X .NotIn i o (tXNotIn X ty td) := by
  refine ⟨fun pins s σ H Q I h => ?_⟩
  refine thn (hi.run pins s σ H _ I h) fun iv s1 ⟨y, H1, I1, ry, q1⟩ => thn (ho.run pins s1 σ H1 _ I1 q1) fun u s2 ⟨x, H2, I2, rx, a, b, kv, k, ex, ey, e, ks, nk, hd, q2⟩ => ?_
  subst ex ey
  obtain rfl : u = Value.ref a := rx
  obtain rfl : iv = Value.ref b := ry
  exact x_notIn hu I2 e ks nk hd fun s3 I3 => ⟨.bl (!(valN kv k).isSome), H2, I3, rfl, q2⟩
theorem ps_xput (hu : X.A.units + 64 < cLine) (ho : PE X o td) (hi : PE X i ty) (hv : PE X value tv) (hs : swapsWith value (some (.Subscript o i pos')) pos.line X.env = pure false) :
    PS X (.Assign [.Subscript o i pos'] value pos) (sXPut X td ty tv) := by
  refine ⟨fun pins s σ H D I h => ?_⟩
  refine wpAny_Assign_Subscript (thn (hv.run pins s σ H _ I h) fun r s1 ⟨v, H1, I1, rv, q1⟩ => thn (ho.run pins s1 σ H1 _ I1 q1) fun u s2 ⟨x, H2, I2, rx, q2⟩ => thn (hi.run pins s2 σ H2 _ I2 q2) fun iv s3 ⟨y, H3, I3, ry, a, b, kv, k, ex, ey, e, ks, nk, hd, hn, hl, q3⟩ => ?_) hs
  subst ex ey
  obtain rfl : u = Value.ref a := rx
  obtain rfl : iv = Value.ref b := ry
  exact x_setItem hu I3 e ks nk hd hn hl rv fun s4 I4 => ⟨σ, _, I4, q3⟩
end
/-- what the dict holds at a key -/
def valX (kvs : List (D × D)) (dk : D) : Option D := (kvs.find? fun e => decide (nkOf e.1 = nkOf dk)).map (·.2)
section
variable {K : PySem.W.Frag} {G H : Hp} {kv : KvX} {kvs : List (D × D)} {dk : D} {k : NestedKey}
theorem DctOk.xk (g : Same G H) (r : DctOk K G kv kvs) : XKy K H kv := by
  induction r with
  | nil => intro e m; exact nomatch m
  | cons a b h _ _ ih =>
    intro e m
    rcases List.mem_cons.mp m with rfl | m
    · exact ⟨h.nk g a, b⟩
    · exact ih e m
theorem DctOk.length (r : DctOk K G kv kvs) : kv.length = kvs.length := by
  induction r with
  | nil => rfl
  | cons _ _ _ _ _ ih => simp only [List.length_cons, ih]
theorem DctOk.val (r : DctOk K G kv kvs) (hk : nkOf dk = some k) : match valX kvs dk with
    | some d => ∃ v, valN kv k = some v ∧ Rep K G v d
    | none => valN kv k = none := by
  induction r with
  | nil => rfl
  | @cons k' b v dk' dv kv kvs a _ h hv _ ih =>
    by_cases c : k' = k
    · have e1 : valX ((dk', dv) :: kvs) dk = some dv := by simp [valX, List.find?_cons, a, hk, c]
      have e2 : valN ((k', b, v) :: kv) k = some v := by simp [valN, List.find?_cons, c]
      rw [e1, e2]
      exact ⟨v, rfl, hv⟩
    · have e1 : valX ((dk', dv) :: kvs) dk = valX kvs dk := by simp [valX, List.find?_cons, a, hk, c]
      have e2 : valN ((k', b, v) :: kv) k = valN kv k := by simp [valN, List.find?_cons, c]
      rw [e1, e2]
      exact ih
theorem DctOk.isSome (r : DctOk K G kv kvs) (hk : nkOf dk = some k) : (valN kv k).isSome = (valX kvs dk).isSome := by
  have := r.val hk
  cases c : valX kvs dk with
  | none => rw [c] at this; rw [this]; rfl
  | some d => rw [c] at this; obtain ⟨v, e, _⟩ := this; rw [e]; rfl
theorem DctOk.snoc {b : Addr} {v : V} {dv : D} (r : DctOk K G kv kvs) (hk : nkOf dk = some k) (hd : k.depth ≤ 8) (h1 : Rep K G (.ref b) dk) (h2 : Rep K G v dv) : DctOk K G (kv ++ [(k, b, v)]) (kvs ++ [(dk, dv)]) := by
  induction r with
  | nil => exact .cons hk hd h1 h2 .nil
  | cons a b h hv _ ih => exact .cons a b h hv ih
end
section
variable {X : Cx} {B : Base} {ex : XD} {ss : Sst} {M : Mem} {Q : SV → Mem → Prop} {QB : Bool → Mem → Prop} {N : Nd} {a b e : Expr} {pos p' : Pos}
theorem wt_xni {k : Nat} (hr : Room k X.A) (hm : behindInMarks .NotIn b = false) (h : WE X B ex a (fun x M1 => WE X B ex b (fun y M2 => ∃ dk ks i kvs, x = .dat dk ∧ nkOf dk = some (.tup ks) ∧ (NestedKey.tup ks).depth ≤ 8 ∧ y = .cel i ∧ M2[i]? = some (.dct X.prog X.w kvs) ∧ QB (!(valX kvs dk).isSome) M2) ss M1) ss M) : WT X B ex (.Compare a [.NotIn] [b] pos) QB ss M := .mk fun ck G A H σ w sl Kq kk => by
  refine tt_of (pt_cmp (pc_xnotin hr.units pe_self pe_self) hm) ?_
  refine h ck G A H σ w sl _ fun u x G1 A1 M1 H1 e1 w1 s1 h1 => ?_
  refine h1 ck G1 A1 H1 σ w1 (sl.mono e1) _ fun v y G2 A2 M2 H2 e2 w2 s2 h2 => ?_
  obtain ⟨dk, ks, i, kvs, rfl, hk, hd, rfl, hM, q⟩ := h2
  obtain ⟨l, rfl, hl⟩ := s2
  obtain ⟨gn, kv, hv, r⟩ := w2.cl.get hl hM
  have rk : Rep X.K G2 u dk := (SvOk.mono e2 s1 : SvOk X.K G2 A2 u (.dat dk))
  have nk := rk.nk w2.gh hk
  obtain ⟨b', rfl⟩ : ∃ b', u = .ref b' := by cases nk; exact ⟨_, rfl⟩
  refine ⟨l, b', kv, _, rfl, rfl, hv, r.xk w2.gh, nk, hd, ?_⟩
  rw [r.isSome hk]
  exact ⟨_, rfl, kk _ G2 A2 M2 H2 (e1.trans e2) w2 q⟩
theorem wt_xin {k : Nat} (hr : Room k X.A) (hm : behindInMarks .In b = false) (h : WE X B ex a (fun x M1 => WE X B ex b (fun y M2 => ∃ dk ks i kvs, x = .dat dk ∧ nkOf dk = some (.tup ks) ∧ (NestedKey.tup ks).depth ≤ 8 ∧ y = .cel i ∧ M2[i]? = some (.dct X.prog X.w kvs) ∧ QB (valX kvs dk).isSome M2) ss M1) ss M) : WT X B ex (.Compare a [.In] [b] pos) QB ss M := .mk fun ck G A H σ w sl Kq kk => by
  refine tt_of (pt_cmp (pc_xin hr.units pe_self pe_self) hm) ?_
  refine h ck G A H σ w sl _ fun u x G1 A1 M1 H1 e1 w1 s1 h1 => ?_
  refine h1 ck G1 A1 H1 σ w1 (sl.mono e1) _ fun v y G2 A2 M2 H2 e2 w2 s2 h2 => ?_
  obtain ⟨dk, ks, i, kvs, rfl, hk, hd, rfl, hM, q⟩ := h2
  obtain ⟨l, rfl, hl⟩ := s2
  obtain ⟨gn, kv, hv, r⟩ := w2.cl.get hl hM
  have rk : Rep X.K G2 u dk := (SvOk.mono e2 s1 : SvOk X.K G2 A2 u (.dat dk))
  have nk := rk.nk w2.gh hk
  obtain ⟨b', rfl⟩ : ∃ b', u = .ref b' := by cases nk; exact ⟨_, rfl⟩
  refine ⟨l, b', kv, _, rfl, rfl, hv, r.xk w2.gh, nk, hd, ?_⟩
  rw [r.isSome hk]
  exact ⟨_, rfl, kk _ G2 A2 M2 H2 (e1.trans e2) w2 q⟩
theorem we_xget {k : Nat} (hr : Room k X.A) (h : WE X B ex a (fun x M1 => WE X B ex b (fun y M2 => ∃ dk ks i kvs d, x = .cel i ∧ M2[i]? = some (.dct X.prog X.w kvs) ∧ y = .dat dk ∧ nkOf dk = some (.tup ks) ∧ (NestedKey.tup ks).depth ≤ 8 ∧ valX kvs dk = some d ∧ Q (.dat d) M2) ss M1) ss M) (hs : NoSl b := by intro _ _; rfl) : WE X B ex (.Subscript a b pos) Q ss M := .mk fun ck G A H σ w sl Kq kk => by
  refine te_of (pe_xget hr.units pe_self pe_self hs) ?_
  refine h ck G A H σ w sl _ fun u x G1 A1 M1 H1 e1 w1 s1 h1 => ?_
  refine h1 ck G1 A1 H1 σ w1 (sl.mono e1) _ fun v y G2 A2 M2 H2 e2 w2 s2 h2 => ?_
  obtain ⟨dk, ks, i, kvs, d, rfl, hM, rfl, hk, hd, hv, q⟩ := h2
  obtain ⟨l, rfl, hl⟩ := s1.mono e2
  obtain ⟨gn, kv, hl2, r⟩ := w2.cl.get hl hM
  have rk : Rep X.K G2 v dk := s2
  have nk := rk.nk w2.gh hk
  obtain ⟨b', rfl⟩ : ∃ b', v = .ref b' := by cases nk; exact ⟨_, rfl⟩
  have rv := r.val hk
  rw [hv] at rv
  obtain ⟨z, hz, rz⟩ := rv
  exact ⟨l, b', kv, _, z, rfl, rfl, hl2, r.xk w2.gh, nk, hd, hz, kk _ (.dat d) G2 A2 M2 H2 (e1.trans e2) w2 rz q⟩
theorem ws_xput {k : Nat} (hr : Room k X.A) (h : WE X B ex e (fun v M1 => WE X B ex a (fun x M2 => WE X B ex b (fun y M3 => ∃ dv dk ks i kvs, v = .dat dv ∧ x = .cel i ∧ M3[i]? = some (.dct X.prog X.w kvs) ∧ y = .dat dk ∧ nkOf dk = some (.tup ks) ∧ (NestedKey.tup ks).depth ≤ 8 ∧ valX kvs dk = none ∧ kvs.length < sizeLine ∧ N.nx ss (M3.set i (.dct X.prog X.w (kvs ++ [(dk, dv)])))) ss M2) ss M1) ss M)
    (hs : swapsWith e (some (.Subscript a b p')) pos.line X.env = pure false := by rfl) : WS X B ex (.Assign [.Subscript a b p'] e pos) N ss M := .mk fun ck G A H σ w sl E kk => by
  refine ts_of (ps_xput hr.units pe_self pe_self pe_self hs) ?_
  refine h ck G A H σ w sl _ fun v z G1 A1 M1 H1 e1 w1 s1 h1 => ?_
  refine h1 ck G1 A1 H1 σ w1 (sl.mono e1) _ fun u x G2 A2 M2 H2 e2 w2 s2 h2 => ?_
  refine h2 ck G2 A2 H2 σ w2 (sl.mono (e1.trans e2)) _ fun t y G3 A3 M3 H3 e3 w3 s3 h3 => ?_
  obtain ⟨dv, dk, ks, i, kvs, rfl, rfl, hM, rfl, hk, hd, hn, hz, q⟩ := h3
  obtain ⟨l, rfl, hl⟩ := s2.mono e3
  obtain ⟨gn, kv, hv, r⟩ := w3.cl.get hl hM
  have rk : Rep X.K G3 t dk := s3
  have nk := rk.nk w3.gh hk
  obtain ⟨b', rfl⟩ : ∃ b', t = .ref b' := by cases nk; exact ⟨_, rfl⟩
  have rd : Rep X.K G3 v dv := (SvOk.mono (e2.trans e3) s1 : SvOk X.K G3 A3 v (.dat dv))
  have hvn := r.val hk
  rw [hn] at hvn
  refine ⟨l, b', kv, _, rfl, rfl, hv, r.xk w3.gh, nk, hd, hvn, by rw [r.length]; exact hz, ?_⟩
  exact kk.nx σ ss G3 A3 _ _ ((e1.trans e2).trans e3).1 (w3.setC (c' := .dct X.prog X.w (kvs ++ [(dk, dv)])) hl gn ⟨gn, _, upd_same, r.snoc hk hd rk rd⟩) (sl.mono ((e1.trans e2).trans e3)) q
end
end Mb

/-! Mb, part 52: list(d) and {k: v} of dicts whose keys are tuples, nested. -/
namespace Mb
open PySem L2 PySem.Spec PyProof.Rows
theorem kx_addr {kv : KvX} {xs : List (NestedKey × Addr × Value)} (r : KX kv xs) : (xs.map fun x => x.2.1) = kv.map fun e => e.2.1 := by
  induction r with
  | nil => rfl
  | cons h _ ih => simp only [List.map_cons, ih, h.2.1]
section
variable {X : Cx}
theorem call_list_dX (hc : X.calm = true) : CallR X (.type "list") (fun xs H Q => ∃ d kv, xs = [V.ref d] ∧ H d = some (deepO X.prog X.w d kv) ∧ ∀ p, H p = none → Q (.ref p) (upd H p (.lst (kv.map fun e => V.ref e.2.1)))) := by
  intro pins s σ H xs us Q I r h
  obtain ⟨d, kv, rfl, hd, q⟩ := h
  obtain ⟨u, rfl, rx⟩ := vals1 r
  obtain rfl : u = Value.ref d := rx
  obtain ⟨⟨z, hs, ks, pr, o, es, ep, ho, hx, hdt, he, hn⟩, _⟩ := (show ObjOk X.prog X.w H s.heap d (deepO X.prog X.w d kv) from I.hok d _ hd)
  have l1 : es.size = ks.length := size_of_entries he
  have l2 : kv.length = ks.length := Paired.length pr
  refine PySem.W.kdl_call (kdl_raw hs hx hdt) (I.ok.hd hc) ho (by omega) fun h' tk acc' c' kp e it => ?_
  have ea : acc'.toList = ks.map fun x => Value.ref x.2.1 := by
    have hl : acc'.toList.length = ks.length := by rw [Array.length_toList, it.1]; exact l1
    apply List.ext_getElem?
    intro j
    rw [List.getElem?_map]
    cases hj : acc'.toList[j]? with
    | none =>
      have h1 := List.getElem?_eq_none_iff.mp hj
      rw [List.getElem?_eq_none (by omega)]
      all_goals rfl
    | some v =>
      obtain ⟨en, hen, hv⟩ := it.2 j v (by rw [← Array.getElem?_toList]; exact hj)
      have qe := entry_at he j
      rw [hen] at qe
      cases hb : ks[j]? with
      | none =>
        rw [hb] at qe
        exact nomatch (show some en = none from qe)
      | some b =>
        rw [hb] at qe
        have e2 : en = entryOfKey (nestedKind X.prog X.w) b := Option.some.inj qe
        rw [hv, e2]
        all_goals rfl
  have ek : (ks.map fun x => Value.ref x.2.1) = (kv.map fun e => e.2.1).map Value.ref := by
    rw [← kx_addr pr, List.map_map]
    all_goals rfl
  have ev : (kv.map fun e => V.ref e.2.1) = (kv.map fun e => e.2.1).map V.ref := by rw [List.map_map]; all_goals rfl
  have rv : Vals (kv.map fun e => V.ref e.2.1) acc'.toList := by rw [ea, ek, ev]; exact vals_refs _
  have hz : (kv.map fun e => V.ref e.2.1).length ≤ sizeLine := by rw [List.length_map]; omega
  refine ⟨.ref s.heap.objs.size, _, I.laid (t' := tk) (o := .lst (kv.map fun e => V.ref e.2.1)) kp (Nat.le_refl _) ?_, rfl, q _ (I.hok.fresh (Nat.le_refl _))⟩
  exact ⟨hz, acc'.toList, c', rv, by rw [Array.toArray_toList]; exact e⟩
/-- {k: v}, k a tuple -/
def tXDisp (X : Cx) (tk tv : TE) : TE := fun σ H Q => ∀ p, H p = none → tk σ (upd H p (deepO X.prog X.w p [])) fun x H1 => tv σ H1 fun y H2 => H2 p = some (deepO X.prog X.w p []) ∧ ∃ b k, x = .ref b ∧ NkH X.K H2 k (.ref b) ∧ k.depth ≤ 8 ∧ Q (.ref p) (upd H2 p (deepO X.prog X.w p [(k, b, y)]))
theorem pe_xdisp {a b : Expr} {pos : Pos} {tk tv : TE} (hu : X.A.units + 64 < cLine) (hk : PE X a tk) (hv : PE X b tv) : PE X (.Dict [some a] [b] pos) (tXDisp X tk tv) := by
  refine ⟨fun pins s σ H Q I q => ?_⟩
  have hn := I.hok.fresh (Nat.le_refl s.heap.objs.size)
  have I1 := I.laid (a := s.heap.objs.size) (o := deepO X.prog X.w s.heap.objs.size []) (h' := s.heap.push { cls := .type "dict", data := .dict #[] }) (t' := s.toks) (fun _ _ q => Heap.get?_push_of_some _ q) (Nat.le_refl _)
    (deep_new (xs := []) (Nat.zero_le _) (beq_eq_false_iff_ne.mpr (Ne.symm (Nat.ne_of_lt I.big))) .nil ⟨_, _, _, Heap.get?_push_size _ rfl, ⟨rfl, rfl, rfl⟩, rfl, rfl, .nil⟩)
  have hz := zip_pairTrees [some a] [b] X.env pos rfl rfl
  have hln := pairTrees_length [some a] [b] X.env pos rfl rfl
  rw [arm_eval_Dict, hz, dictDisplay_pairs _ (fun e => by rw [e] at hln; exact nomatch hln) (by rw [hln]; exact Nat.le_of_ble_eq_true rfl)]
  refine wpAny_bind (wpAny_standAt (wpAny_bind (wpAny_subDictH (knd := nestedKind X.prog X.w) (Q := fun d s' => wpAny (model X.prog X.w) X.A (pure (Value.ref d)) _ _ s') (by show X.A.units + 8 < cLine; omega) (by rw [hln]; exact Nat.le_of_ble_eq_true rfl) ?_)))
  refine pairTrees_cons_walk (thn (hk.run pins _ σ _ _ I1 (q _ hn)) fun u s1 ⟨x, H1, I2, rx, q1⟩ => thn (hv.run pins s1 σ H1 _ I2 q1) fun w2 s2 ⟨y, H2, I3, ry, e, b', k, ex, nk, hd, q2⟩ => pairTrees_nil_walk ?_)
  subst ex
  obtain rfl : u = Value.ref b' := rx
  obtain ⟨z, hs, xs, rel, dd⟩ := dx_of I3 e (fun e m => nomatch m)
  cases rel
  refine ⟨[(k, b', w2)], ⟨rfl, rfl, ⟨nk.is I3 rfl, hd⟩, True.intro⟩, dd, fun h' tk dd' hb => wpAny_pure ⟨.ref s.heap.objs.size, _, ?_, rfl, q2⟩⟩
  obtain ⟨ob, es, ep, hq, h2, h3, h4, _, h5⟩ := dd'
  exact d_write (t' := tk) I3 (by rw [e]; exact True.intro) hb ⟨ob, hq⟩ (deep_new (xs := [(k, b', w2)]) (by rw [sizeLine_eq]; exact Nat.le_of_ble_eq_true rfl) hs (.cons ⟨rfl, rfl, ry⟩ .nil) ⟨ob, es, ep, hq, h2, h3, h4, h5⟩)
end
section
variable {X : Cx} {B : Base} {ex : XD} {ss : Sst} {M : Mem} {Q : SV → Mem → Prop} {a b e : Expr} {es : List Expr} {pos p : Pos}
theorem DctOk.keys {K : PySem.W.Frag} {G : Hp} {kv : KvX} {kvs : List (D × D)} (r : DctOk K G kv kvs) : Reps K G (kv.map fun e => V.ref e.2.1) (kvs.map (·.1)) := by
  induction r with
  | nil => exact .nil
  | cons _ _ h _ _ ih => exact .cons h ih
/-- list(d): its keys, data -/
theorem we_listX (hc : X.calm = true) (hm : X.mg "list" = none) (hg : Gl X "list") (h : WA X B ex (e :: es) (fun xs M1 => ∃ i kvs, xs = [.cel i] ∧ M1[i]? = some (.dct X.prog X.w kvs) ∧ Q (.dat (.lst (kvs.map (·.1)))) M1) ss M)
    (he : starEach (e :: es) X.env = (false, eval e X.env) :: starEach es X.env := by rfl) (hpl : (backTo pos (starEach es X.env)).any (·.1) = false := by rfl) : WE X B ex (.Call (.Name "list" p) (e :: es) [] pos) Q ss M := by
  refine we_ct (f := fun M1 xs Q => ∃ i kvs, xs = [.cel i] ∧ M1[i]? = some (.dct X.prog X.w kvs) ∧ Q (.dat (.lst (kvs.map (·.1)))) M1) (call_list_dX hc) (fun G A H M xs vs Q Kq w r h k => ?_) hm (by decide +kernel) hg h (he := he) (hpl := hpl)
  obtain ⟨i, kvs, rfl, hM, q⟩ := h
  cases r with
  | cons s r =>
    cases r
    obtain ⟨l, rfl, hl⟩ := s
    obtain ⟨gn, kv, hv, r⟩ := w.cl.get hl hM
    exact ⟨l, kv, rfl, hv, k.new .refl w q fun p hp => .lst (.inl upd_same) (r.keys.mono (same_upd (w.none hp).2.2))⟩
theorem we_xdisp {k : Nat} (hr : Room k X.A) (h : WE X B ex a (fun x M1 => WE X B ex b (fun y M2 => ∃ dk ks dv, x = .dat dk ∧ nkOf dk = some (.tup ks) ∧ (NestedKey.tup ks).depth ≤ 8 ∧ y = .dat dv ∧ M2[M.length]? = some (.dct X.prog X.w []) ∧ Q (.cel M.length) (M2.set M.length (.dct X.prog X.w [(dk, dv)]))) ss M1) ss (M ++ [.dct X.prog X.w []])) :
    WE X B ex (.Dict [some a] [b] pos) Q ss M := .mk fun ck G A H σ w sl Kq kk => by
  refine te_of (pe_xdisp hr.units pe_self pe_self) fun q hq => ?_
  obtain ⟨w1, e1⟩ := w.newC (c := .dct X.prog X.w []) (o := deepO X.prog X.w q []) hq ⟨(w.none hq).2.2, [], upd_same, .nil⟩
  refine h ck G _ _ σ w1 (sl.mono e1) _ fun u x G1 A1 M1 H1 e2 w2 s1 h1 => ?_
  refine h1 ck G1 A1 H1 σ w2 (sl.mono (e1.trans e2)) _ fun v y G2 A2 M2 H2 e3 w3 s2 h2 => ?_
  obtain ⟨dk, ks, dv, rfl, hk, hd, rfl, hM, hQ⟩ := h2
  have gA : A2[M.length]? = some q := by
    refine pre_get (e2.trans e3).2 ?_
    rw [← w.len, List.getElem?_append_right (Nat.le_refl _), Nat.sub_self]
    rfl
  obtain ⟨gn, kv0, hv, r0⟩ := w3.cl.get gA hM
  cases r0
  have rk : Rep X.K G2 u dk := (SvOk.mono e3 s1 : SvOk X.K G2 A2 u (.dat dk))
  have nk := rk.nk w3.gh hk
  obtain ⟨b', rfl⟩ : ∃ b', u = .ref b' := by cases nk; exact ⟨_, rfl⟩
  refine ⟨hv, b', _, rfl, nk, hd, ?_⟩
  have w4 := w3.setC (c' := .dct X.prog X.w [(dk, dv)]) (o := deepO X.prog X.w q [(_, b', v)]) gA gn ⟨gn, _, upd_same, .cons hk hd rk s2 .nil⟩
  exact kk _ (.cel M.length) G2 A2 _ _ ((e1.trans e2).trans e3) w4 ⟨q, rfl, gA⟩ hQ
end
end Mb

/-! Mb, part 53: sorted(xs) of nested tuples, any number: data. -/
namespace Mb
open PySem L2 PySem.Spec PyProof.Rows PySem.W
section
variable {X : Cx} {pins : List (Addr × Obj)} {σ : L2.St} {G H : Hp} {s : Shared}
mutual
theorem Rep.reads (I : Inv X pins σ H s) (g : Same G H) : ∀ {v : V} {d : D} {k : NestedKey} {u : Value}, Rep X.K G v d → nkOf d = some k → RelV v u → Reads s.heap u (py d) []
  | _, _, _, _, .non, _, r => by cases (show _ = Value.none from r); exact .none
  | _, _, _, _, .bl b, _, r => by cases (show _ = Value.bool b from r); exact .bool b
  | _, _, _, _, .int i, _, r => by obtain ⟨t, rfl⟩ := (show ∃ t, _ = Value.int i t from r); exact .int i t
  | _, _, _, _, .str x _, _, r => by obtain ⟨t, rfl⟩ := (show ∃ t, _ = Value.str x t from r); exact .str x t
  | _, _, _, _, .lst _ _, e, _ => by simp [nkOf] at e
  | _, _, _, _, .ins _ _ _, e, _ => by simp [nkOf] at e
  | _, _, _, _, .dic _ _, e, _ => by simp [nkOf] at e
  | _, _, _, _, .tup (a := a) h q, e, r => by
    simp only [nkOf, Option.map_eq_some_iff] at e
    obtain ⟨ks, e, _⟩ := e
    cases (show _ = Value.ref a from r)
    obtain ⟨its, rv, ⟨o, ho, hc, n, hd⟩, _⟩ := I.tuple (sqtM g h)
    simp only [py]
    exact .tuple ho hc hd (Reps.reads I g q e rv)
theorem Reps.reads (I : Inv X pins σ H s) (g : Same G H) : ∀ {v : List V} {d : List D} {k : List NestedKey} {u : List Value}, Reps X.K G v d → nksOf d = some k → Vals v u → ReadsAll s.heap u (pys d) []
  | _, _, _, _, .nil, _, .nil => by simp only [pys]; exact .nil
  | _, d :: ds, _, _, .cons h q, e, .cons r t => by
    simp only [nksOf] at e
    cases e1 : nkOf d with
    | none => rw [e1] at e; cases e
    | some k =>
      rw [e1] at e
      simp only [Option.map_eq_some_iff] at e
      obtain ⟨ks, e2, _⟩ := e
      simp only [pys]
      exact .cons (as := []) (bs := []) (Rep.reads I g h e1 r) (Reps.reads I g q e2 t)
end
theorem each_of {K : PySem.W.Frag} {G : Hp} : ∀ {xs : List V} {ds : List D} {its : List Value}, Reps K G xs ds → Vals xs its → EachIs (fun v d => ∃ y, RelV y v ∧ Rep K G y d) its ds
  | _, _, _, .nil, .nil => .nil
  | _, _, _, .cons h q, .cons r t => .cons ⟨_, r, h⟩ (each_of q t)
theorem of_each {K : PySem.W.Frag} {G : Hp} : ∀ {ds : List D} {out : List Value}, EachIs (fun v d => ∃ y, RelV y v ∧ Rep K G y d) out ds → ∃ ys, Vals ys out ∧ Reps K G ys ds
  | _, _, .nil => ⟨[], .nil, .nil⟩
  | _, _, .cons ⟨y, r, h⟩ t => by
    obtain ⟨ys, a, b⟩ := of_each t
    exact ⟨y :: ys, .cons r a, .cons h b⟩
theorem each_reads (I : Inv X pins σ H s) (g : Same G H) : ∀ {xs : List V} {ds : List D} {its : List Value}, Reps X.K G xs ds → (∀ d ∈ ds, (nkOf d).isSome = true) → Vals xs its → EachIs (fun v d => ∃ as, Reads s.heap v (py d) as) its ds
  | _, _, _, .nil, _, .nil => .nil
  | _, _, _, .cons h q, hk, .cons r t => by
    obtain ⟨k, e⟩ := Option.isSome_iff_exists.mp (hk _ (List.mem_cons_self ..))
    exact .cons ⟨[], Rep.reads I g h e r⟩ (each_reads I g q (fun d m => hk d (List.mem_cons_of_mem _ m)) t)
end
def srtD (ds : List D) : List D := ds.mergeSort (dataLe false py)
section
variable {X : Cx}
theorem cr_sortedN (hu : X.A.units + 64 < cLine) : CallR X (.builtin "sorted") (fun vs H Q => ∃ (a : Addr) (xs : List V) (ds : List D) (G : Hp), vs = [V.ref a] ∧ SqL X.K H a xs ∧ Same G H ∧ Reps X.K G xs ds ∧ (∀ d ∈ ds, (nkOf d).isSome = true) ∧ (∀ d ∈ ds, (py d).depth ≤ 60) ∧ AllAlike (ds.map py) ∧ Sortable (ds.map py) ∧
    ∀ (ys : List V) (p : Addr), Reps X.K G ys (srtD ds) → H p = none → Q (.ref p) (upd H p (.lst ys))) := by
  intro pins s σ H vs us Q I r h
  obtain ⟨a, xs, ds, G, rfl, hs, g, rp, hk, hd, hal, hso, q⟩ := h
  obtain ⟨its, rv, hl, hz⟩ := I.list hs
  obtain ⟨u, rfl, ru⟩ := vals1 r
  obtain rfl : u = Value.ref a := ru
  refine sorted_data (enc := py) (R := fun v d => ∃ y, RelV y v ∧ Rep X.K G y d) (bs := ds) (vs := its) hl.isList (each_of rp rv) (each_reads I g rp hk rv) hal hso (by rw [← rp.length]; exact hz) (fun d m => by have := hd d m; omega) fun out hlen ho => ?_
  obtain ⟨ys, hv, ry⟩ := of_each ho
  obtain ⟨c, hc⟩ := sortedAll_at s.heap its out.toArray
  refine ⟨.ref (s.heap.objs.size + 1), _, I.laid (t' := s.toks) (o := .lst ys) (fun _ _ => sortedAll_old) (Nat.le_succ _) ⟨?_, out, c, hv, hc⟩, rfl, q ys _ ry (I.hok.fresh (Nat.le_succ _))⟩
  rw [hv.length, hlen, ← rp.length]
  exact hz
end
section
variable {X : Cx} {B : Base} {ex : XD} {ss : Sst} {M : Mem} {Q : SV → Mem → Prop} {e : Expr} {es : List Expr} {pos p : Pos}
/-- sorted(xs), xs data (or a list of ours) of nested tuples: a new list, data -/
theorem we_sortN {k : Nat} (hr : Room k X.A) (hm : X.mg "sorted" = none) (hg : Gl X "sorted") (h : WA X B ex (e :: es) (fun xs M1 => arg1 (fun M1 d Q => ∃ ds, d = .lst ds ∧ (∀ d ∈ ds, (nkOf d).isSome = true) ∧ (∀ d ∈ ds, (py d).depth ≤ 60) ∧ AllAlike (ds.map py) ∧ Sortable (ds.map py) ∧ Q (.dat (.lst (srtD ds))) M1) M1 xs Q) ss M)
    (he : starEach (e :: es) X.env = (false, eval e X.env) :: starEach es X.env := by rfl) (hpl : (backTo pos (starEach es X.env)).any (·.1) = false := by rfl) : WE X B ex (.Call (.Name "sorted" p) (e :: es) [] pos) Q ss M := by
  refine we_cb (f := fun M1 xs Q => arg1 (fun M1 d Q => ∃ ds, d = .lst ds ∧ (∀ d ∈ ds, (nkOf d).isSome = true) ∧ (∀ d ∈ ds, (py d).depth ≤ 60) ∧ AllAlike (ds.map py) ∧ Sortable (ds.map py) ∧ Q (.dat (.lst (srtD ds))) M1) M1 xs Q) (cr_sortedN hr.units) (fun G A H M xs vs Q Kq w r h k => ?_) hm (by decide +kernel) hg h (he := he) (hpl := hpl)
  obtain ⟨v, d, rfl, q, ds, rfl, h1, h2, h3, h4, h5⟩ := arg1_get w r h
  obtain ⟨l, vs, rfl, hl, rp⟩ := q
  exact ⟨l, vs, ds, G, rfl, .inl hl, w.gh, rp, h1, h2, h3, h4, fun ys p ry hp => k.new (o := .lst ys) .refl w h5 (fun p' hp' => .lst (.inl upd_same) (ry.mono (same_upd (w.none hp').2.2))) p hp⟩
end
end Mb

/-! Mb, part 54: an instance that keeps cells of its own: C(e, ..) where the store is empty; the instance is cell 0. -/
namespace Mb
open PySem L2 PySem.Spec PyProof.Rows
section
variable {K : PySem.W.Frag} {B : Base} {G : Hp} {H : Hp}
theorem Wd.madeC (w : Wd K B G [] [] H) {x : Addr} {H2 : Hp} (hx : H x = Option.none) (s2 : Same H H2) {G' : Hp} {A' : List Addr} {M' : List Cell} {H' : Hp} (w' : Wd K ⟨G, [x], H2⟩ G' A' M' H') :
    Wd K B G' A' M' H' ∧ Ext G [] G' A' := by
  obtain ⟨hb, hA, hg⟩ := w.none hx
  have ex : Ext G [] G' A' := ⟨w'.gg, A', rfl⟩
  have keep : ∀ b o, H b = some o → H' b = some o := fun b o e => w'.fr b o (s2 b o e) (by
    show b ∉ [x]
    rw [List.mem_singleton]
    intro z; subst z; rw [hx] at e; cases e)
  have hB : B.A = [] := by
    obtain ⟨m0, e⟩ := w.pre
    exact (List.append_eq_nil_iff.mp e.symm).1
  refine ⟨⟨w.gg.trans w'.gg, w'.gh, fun b o e nb => keep b o (w.fr b o e nb), fun b o e => ?_, w'.nd, ⟨A', by rw [hB]; rfl⟩, w'.there, fun b m => ?_, w'.cl⟩, ex⟩
  · rcases w'.fresh b o e with q | q
    · exact w.fresh b o q
    · have q : H2 b = Option.none := q
      exact .inr (w.none (s2.free q)).1
  · rcases w'.an b m with q | q
    · have q : b ∈ [x] := q
      rw [List.mem_singleton] at q; subst q; exact .inr hb
    · have q : H2 b = Option.none := q
      exact .inr (w.none (s2.free q)).1
end
/-- a spec that hands back the whole store -/
def spOfF (K : PySem.W.Frag) (n : Nat) (S : SpD) : Sp := fun vs H Q E => ∃ xs M G A, A.length = n ∧ Wd K ⟨G, A, H⟩ G A M H ∧ Svs K G A vs xs ∧ ∃ R Rx, S xs M R Rx ∧
  (∀ v x G' A' M' H', Wd K ⟨G, A, H⟩ G' A' M' H' → SvOk K G' A' v x → R x M' → Q v H') ∧
  (∀ C fs d G' A' M' H', Wd K ⟨G, A, H⟩ G' A' M' H' → XdOk K G' d fs → Rx C fs M' → E (.ref C) d H')
section
variable {P : Program} {w : World} {K : PySem.W.Frag} {mg : Str → Option Value} {base : Heap}
theorem fn_okF {x qual : Str} {st : Stmt} {f : Addr} {fd : FuncData} {N ps : List Str} {k n : Nat} {S : SpD} (F : Fun K x qual st f fd) (Sc : FnScope N ps (defScope st)) (len : ∀ xs M R Rx, S xs M R Rx → xs.length = ps.length)
    (hb : ∀ (cdv : Value) (A : Around) (outer : List Env) (s : Shared) (H : Hp) (E : XK) (B : Base) (xs : List SV) (M : Mem) (R : SV → Mem → Prop) (Rx : Addr → List (Str × D) → Mem → Prop), Room k (A.deeper (envOfC qual (defScope st) s.heap.objs.size f cdv)) → B.A.length = n → S xs M R Rx →
      WB (cxOf (L2.CX P w) P w K mg base N qual (defScope st) f cdv A outer s H E) B (fun C fs _ M => Rx C fs M) (defBody st) { nx := fun _ M => R (.dat .non) M, rt := R } (startD N xs) M) :
    FnOk P w K mg base (L2.CX P w) (k + 1) f fd ps (spOfF K n S) := by
  refine F.okX Sc (fun vs H Q E h => ?_) (fun cdv A outer s H vs Q E hr h => ?_)
  · obtain ⟨xs, M, G, A, hn, hw, hv, R, Rx, hS, _⟩ := h
    rw [hv.length]; exact len _ _ _ _ hS
  · obtain ⟨xs, M, G, A0, hn, hw, hv, R, Rx, hS, hR, hX⟩ := h
    refine ⟨tbW _ _, pb_self, ?_⟩
    have ck : Cok (cxOf (L2.CX P w) P w K mg base N qual (defScope st) f cdv A outer s H E) ⟨G, A0, H⟩ (fun C fs _ M => Rx C fs M) :=
      ⟨(takes_of (E := E) rfl rfl rfl rfl).imp fun cls d σ H' ⟨C, fs, ss, G', A', M', ec, xd, w', sl', q⟩ => by
        subst ec; exact hX C fs d G' A' M' H' w' xd q, passes_of rfl⟩
    refine hb cdv A outer s H E ⟨G, A0, H⟩ xs M R Rx hr hn hS ck G A0 H _ hw (sl_start hv N) _ ⟨fun σ ss G' A' M' H' _ w' sl' q => ?_, fun v y G' A' M' H' _ w' s' q => ?_, fun _ _ _ _ _ _ _ _ _ q => q.elim, fun _ _ _ _ _ _ _ _ _ q => q.elim⟩
    · exact hR .non (.dat .non) G' A' M' H' w' .non q
    · exact hR v y G' A' M' H' w' s' q
end
section
variable (P : Program) (w : World) (K : PySem.W.Frag) (mg : Str → Option Value) (base : Heap)
def MkrF (x : Str) (C : Addr) (k : Nat) (S : SpD) : Prop := ∃ f fd ps, Mk K C f ∧ FnOk P w K mg base (L2.CX P w) k f fd ps (spOfF K 1 S) ∧ mg x = some (.ref C) ∧ Binds K fd ps []
end
section
variable {X : Cx} {B : Base} {ex : XD} {ss : Sst} {M : Mem} {Q : SV → Mem → Prop} {e : Expr} {es : List Expr} {pos p : Pos}
structure MakeQC (S : SpD) (C : Addr) (xs : List SV) (M : Mem) (Q : SV → Mem → Prop) (ex : XD) (ss : Sst) : Prop where
  run : M = [] ∧ xs.all (SV.lt 0) = true ∧ S (.cel 0 :: xs) [.ins C []] (fun y M' => y = .dat .non ∧ Q (.cel 0) M') (fun D fs _ => ex D fs ss [])
theorem make_spC {S : SpD} {C : Addr} {xs : List SV} {G : Hp} {A : List Addr} {H : Hp} {vs : List V} {σ : L2.St} {Kq : VK} (w : Wd X.K B G A M H) (sl : Sl X.K G A σ ss) (r : Svs X.K G A vs xs) (h : MakeQC S C xs M Q ex ss) (k : VPost X.K B G A Q Kq) :
    ∀ x dx, H x = none → H dx = none → dx ≠ x → spOfF X.K 1 S (.ref x :: vs) (upd (upd H dx (.own x)) x (.ins C dx [])) (fun v H2 => v = .non ∧ Kq (.ref x) H2) (fun cls d H' => XW X.K B ex cls d σ H') := fun x dx hx hdx ne => by
  obtain ⟨rfl, hc, hS⟩ := h.run
  have hA := w.len
  obtain rfl : A = [] := List.length_eq_zero_iff.mp hA
  have hx2 : (upd H dx (.own x)) x = none := by rw [upd_ne (Ne.symm ne)]; exact hx
  have s2 : Same H (upd (upd H dx (.own x)) x (.ins C dx [])) := (same_upd hdx).trans (same_upd hx2)
  have hg := (w.none hx).2.2
  refine ⟨.cel 0 :: xs, [.ins C []], G, [x], rfl, Wd.start (w.gh.trans s2) (by simp) (fun b m => ?_) (.cons ⟨hg, dx, [], upd_same, .nil⟩ .nil), .cons ⟨x, rfl, rfl⟩ (r.cut0 hc), _, _, hS, ?_, ?_⟩
  · rw [List.mem_singleton] at m; subst m; exact ⟨_, upd_same⟩
  · intro v y G' A' M' H' w' s' q
    obtain ⟨rfl, q⟩ := q
    cases s'
    refine ⟨rfl, ?_⟩
    obtain ⟨more, eA⟩ := w'.pre
    have eA : A' = [x] ++ more := eA
    obtain ⟨w2, e2⟩ := w.madeC hx s2 w'
    exact k _ (.cel 0) G' A' M' H' e2 w2 ⟨x, rfl, by rw [eA]; rfl⟩ q
  · intro D fs d G' A' M' H' w' xd q
    obtain ⟨w2, e2⟩ := w.made (c := .dead) hx s2 w' (.inl rfl)
    have hbl : B.A.length ≤ 0 := by
      obtain ⟨m0, e⟩ := w.pre
      rw [(List.append_eq_nil_iff.mp e.symm).1]
      exact Nat.le_refl _
    have w3 := w2.drop 0 hbl rfl
    exact ⟨D, fs, ss, G', [], [], rfl, xd, w3, sl.mono ⟨e2.1, [], by simp⟩, q⟩
theorem we_mkrC {x : Str} {C : Addr} {k : Nat} {S : SpD} (F : MkrF X.prog X.w X.K X.mg X.base x C k S) (hr : Room (k + 1) X.A) (hg : Gl X x) (h : WA X B ex (e :: es) (fun xs M1 => MakeQC S C xs M1 Q ex ss) ss M)
    (hdb : (x == ("__debug__" : Str)) = false := by decide) (he : starEach (e :: es) X.env = (false, eval e X.env) :: starEach es X.env := by rfl) (hpl : (backTo pos (starEach es X.env)).any (·.1) = false := by rfl) : WE X B ex (.Call (.Name x p) (e :: es) [] pos) Q ss M := .mk fun ck G A H σ w sl Kq kk pins s I => by
  obtain ⟨f, fd, ps, Mk0, F, hm, hb⟩ := F
  refine wpAny_Call_Name_kw (ld_glob I hg hm ?_ hdb)
  have hO : taW X (e :: es) σ H (fun vs H1 => ∀ x dx, H1 x = none → H1 dx = none → dx ≠ x → spOfF X.K 1 S (.ref x :: (vs ++ [])) (upd (upd H1 dx (.own x)) x (.ins C dx [])) (fun v H2 => v = .non ∧ Kq (.ref x) H2) (fun cls d H' => XW X.K B ex cls d σ H')) := by
    refine h ck G A H σ w sl _ fun vs xs G1 A1 M1 H1 e1 w1 s1 h1 => ?_
    rw [List.append_nil]
    exact make_spC w1 (sl.mono e1) s1 h1 fun v x G' A' M' H' e' => kk v x G' A' M' H' (e1.trans e')
  refine PySem.W.callWith_K (h₀ := X.base) I.ok.mod.kin Mk0.kp (thn (hO pos pins s I) fun us s1 ⟨vs, H1, I1, r, q⟩ => ⟨I1.kIn, ?_⟩) he hpl
  exact run_makeS Mk0 F hr hb .nil (ck.at σ) I1 r q
end
end Mb

/-! Mb, part 55: len of dicts whose keys are tuples; sorted(xs) of nested tuples as a list of the asker's own. -/
namespace Mb
open PySem L2 PySem.Spec PyProof.Rows PySem.W
section
variable {X : Cx}
theorem call_len_dX : CallR X (.builtin "len") (fun xs H Q => ∃ d kv, xs = [V.ref d] ∧ H d = some (deepO X.prog X.w d kv) ∧ XKy X.K H kv ∧ Q (.int kv.length) H) := by
  intro pins s σ H xs us Q I r h
  obtain ⟨d, kv, rfl, hd, hk, q⟩ := h
  obtain ⟨u, rfl, ru⟩ := vals1 r
  obtain rfl : u = Value.ref d := ru
  obtain ⟨z, hs, ks, rel, dd⟩ := dx_of I hd hk
  have hl : kv.length = ks.length := Paired.length rel
  refine call_len_dictH hs dd (by rw [← hl]; rw [sizeLine_eq] at z; omega) ?_
  rw [← hl]
  exact ⟨.int kv.length, H, I.tok _, ⟨_, rfl⟩, q⟩
end
section
variable {X : Cx} {B : Base} {ex : XD} {ss : Sst} {M : Mem} {Q : SV → Mem → Prop} {e : Expr} {es : List Expr} {pos p : Pos}
theorem we_lenX (hm : X.mg "len" = none) (hg : Gl X "len") (h : WA X B ex (e :: es) (fun xs M1 => ∃ i kvs, xs = [.cel i] ∧ M1[i]? = some (.dct X.prog X.w kvs) ∧ Q (.dat (.int (kvs.length : Int))) M1) ss M)
    (he : starEach (e :: es) X.env = (false, eval e X.env) :: starEach es X.env := by rfl) (hpl : (backTo pos (starEach es X.env)).any (·.1) = false := by rfl) : WE X B ex (.Call (.Name "len" p) (e :: es) [] pos) Q ss M := by
  refine we_cb (f := fun M1 xs Q => ∃ i kvs, xs = [.cel i] ∧ M1[i]? = some (.dct X.prog X.w kvs) ∧ Q (.dat (.int (kvs.length : Int))) M1) call_len_dX (fun G A H M xs vs Q Kq w r h k => ?_) hm PySem.boot_len hg h (he := he) (hpl := hpl)
  obtain ⟨i, kvs, rfl, hM, q⟩ := h
  cases r with
  | cons s r =>
    cases r
    obtain ⟨l, rfl, hl⟩ := s
    obtain ⟨gn, kv, hv, r⟩ := w.cl.get hl hM
    refine ⟨l, kv, rfl, hv, r.xk w.gh, ?_⟩
    rw [r.length]
    exact k.flat .refl w (.int _) q
theorem we_sortNC {k : Nat} (hr : Room k X.A) (hm : X.mg "sorted" = none) (hg : Gl X "sorted") (h : WA X B ex (e :: es) (fun xs M1 => arg1 (fun M1 d Q => ∃ ds, d = .lst ds ∧ (∀ d ∈ ds, (nkOf d).isSome = true) ∧ (∀ d ∈ ds, (py d).depth ≤ 60) ∧ AllAlike (ds.map py) ∧ Sortable (ds.map py) ∧ Q (.cel M1.length) (M1 ++ [.lst (srtD ds)])) M1 xs Q) ss M)
    (he : starEach (e :: es) X.env = (false, eval e X.env) :: starEach es X.env := by rfl) (hpl : (backTo pos (starEach es X.env)).any (·.1) = false := by rfl) : WE X B ex (.Call (.Name "sorted" p) (e :: es) [] pos) Q ss M := by
  refine we_cb (f := fun M1 xs Q => arg1 (fun M1 d Q => ∃ ds, d = .lst ds ∧ (∀ d ∈ ds, (nkOf d).isSome = true) ∧ (∀ d ∈ ds, (py d).depth ≤ 60) ∧ AllAlike (ds.map py) ∧ Sortable (ds.map py) ∧ Q (.cel M1.length) (M1 ++ [.lst (srtD ds)])) M1 xs Q) (cr_sortedN hr.units) (fun G A H M xs vs Q Kq w r h k => ?_) hm (by decide +kernel) hg h (he := he) (hpl := hpl)
  obtain ⟨v, d, rfl, q, ds, rfl, h1, h2, h3, h4, h5⟩ := arg1_get w r h
  obtain ⟨l, vs, rfl, hl, rp⟩ := q
  exact ⟨l, vs, ds, G, rfl, .inl hl, w.gh, rp, h1, h2, h3, h4, fun ys p ry hp => k.newC .refl w ry h5 p hp⟩
/-- of all that was made a list alone is kept -/
theorem Wd.pick {K : PySem.W.Frag} {B : Base} {G : Hp} {A : List Addr} {M : Mem} {H : Hp} (w : Wd K B G A M H) (hB : B.A.length = 0) {j : Nat} {l : Addr} {ds : List D} (hl : A[j]? = some l) (hM : M[j]? = some (.lst ds)) : Wd K B G [l] [.lst ds] H := by
  have hm := List.mem_of_getElem? hl
  have e0 : B.A = [] := List.eq_nil_of_length_eq_zero hB
  refine ⟨w.gg, w.gh, w.fr, w.fresh, by simp, ⟨[l], by rw [e0]; rfl⟩, fun b hb => ?_, fun b hb => ?_, .cons (w.cl.get hl hM) .nil⟩
  · rw [List.mem_singleton] at hb; subst hb; exact w.there _ hm
  · rw [List.mem_singleton] at hb; subst hb; exact w.an _ hm
theorem WE.pick0 (hB : B.A.length = 0) (h : WE X B ex e (fun x M1 => ∃ j ds, x = .cel j ∧ M1[j]? = some (.lst ds) ∧ Q (.cel 0) [.lst ds]) ss []) : WE X B ex e Q ss [] := .mk fun ck G A H σ w sl Kq k => by
  refine h ck G A H σ w sl _ fun v x G1 A1 M1 H1 e1 w1 s1 h1 => ?_
  obtain ⟨j, ds, rfl, hM, q⟩ := h1
  obtain ⟨l, rfl, hl⟩ := s1
  have hA : A = [] := List.eq_nil_of_length_eq_zero w.len
  subst hA
  exact k _ (.cel 0) G1 [l] [.lst ds] H1 ⟨e1.1, [l], rfl⟩ (w1.pick hB hl hM) ⟨l, rfl, rfl⟩ q
end
end Mb

/-! Mb, part 56: a or b, a and b as values of any kind (truth by truD). -/
namespace Mb
open PySem L2 PyProof.Rows
section
variable {X : Cx} {B : Base} {ex : XD} {ss : Sst} {M : Mem} {Q : SV → Mem → Prop} {a b : Expr} {es : List Expr} {pos : Pos}
theorem we_orD (h : WE X B ex a (fun x M1 => with1 M1 x fun d => d.isIns = false ∧ if truD d = true then Q x M1 else WE X B ex (.BoolOp .Or (b :: es) pos) Q ss M1) ss M) : WE X B ex (.BoolOp .Or (a :: b :: es) pos) Q ss M := .mk fun ck G A H σ w sl Kq k => by
  refine te_of (pe_orT pe_self pe_self) ?_
  refine h ck G A H σ w sl _ fun u x G1 A1 M1 H1 e1 w1 s1 h1 => ?_
  obtain ⟨d, g, hi, h1⟩ := with1_get h1
  refine ⟨truD d, tru_run w1 s1 g hi, ?_⟩
  cases ht : truD d with
  | false => rw [ht, if_neg Bool.false_ne_true] at h1; rw [if_neg Bool.false_ne_true]; exact h1 ck G1 A1 H1 σ w1 (sl.mono e1) _ fun v y G2 A2 M2 H2 e2 w2 s2 h2 => k v y G2 A2 M2 H2 (e1.trans e2) w2 s2 h2
  | true => rw [ht, if_pos rfl] at h1; rw [if_pos rfl]; exact k u x G1 A1 M1 H1 e1 w1 s1 h1
theorem we_andD (h : WE X B ex a (fun x M1 => with1 M1 x fun d => d.isIns = false ∧ if truD d = true then WE X B ex (.BoolOp .And (b :: es) pos) Q ss M1 else Q x M1) ss M) : WE X B ex (.BoolOp .And (a :: b :: es) pos) Q ss M := .mk fun ck G A H σ w sl Kq k => by
  refine te_of (pe_andT pe_self pe_self) ?_
  refine h ck G A H σ w sl _ fun u x G1 A1 M1 H1 e1 w1 s1 h1 => ?_
  obtain ⟨d, g, hi, h1⟩ := with1_get h1
  refine ⟨truD d, tru_run w1 s1 g hi, ?_⟩
  cases ht : truD d with
  | true => rw [ht, if_pos rfl] at h1; rw [if_pos rfl]; exact h1 ck G1 A1 H1 σ w1 (sl.mono e1) _ fun v y G2 A2 M2 H2 e2 w2 s2 h2 => k v y G2 A2 M2 H2 (e1.trans e2) w2 s2 h2
  | false => rw [ht, if_neg Bool.false_ne_true] at h1; rw [if_neg Bool.false_ne_true]; exact k u x G1 A1 M1 H1 e1 w1 s1 h1
end
end Mb

/-! Mb, part 57: a loop over a list of the asker's own that holds cells (which the turns may change). -/
namespace Mb
open PySem L2 PyProof.Rows
section
variable {X : Cx} {B : Base} {ex : XD} {ss : Sst} {M : Mem} {tg iter : Expr} {pos : Pos} {N : Nd} {body : List Stmt}
theorem Cok.rebase (ck : Cok X B ex) {G : Hp} {A : List Addr} {M : Mem} {H : Hp} (w : Wd X.K B G A M H) : Cok X ⟨G, A, H⟩ ex :=
  ⟨ck.tk.imp fun c d σ H' h => by
    obtain ⟨C, fs, ss, G', A', M', h1, h2, h3, h4, h5⟩ := h
    exact ⟨C, fs, ss, G', A', M', h1, h2, (w.rebase h3).1, h4, h5⟩, ck.ps⟩
theorem walk_cur {K : PySem.W.Frag} {a : Addr} {n : Nat} : Walk (Itl K a) n (fun H => ∃ vs, SqL K H a vs ∧ vs.length = n) (fun i H x H' => H' = H ∧ ∀ vs, SqL K H a vs → vs[i]? = some x) :=
  ⟨fun i H hi ⟨vs, q, e⟩ => ⟨vs, vs[i]'(by omega), q, by simp [show i < vs.length by omega]⟩, fun H ⟨vs, q, e⟩ => ⟨vs, q, by omega⟩, fun i H x H' hi _ y => y⟩
theorem ws_forM (hc : X.calm = true) (h : WE X B ex iter (fun x M1 => ∃ j xs, x = .cel j ∧ M1[j]? = some (.mix xs) ∧ ∃ I : Nat → Sst → Mem → Prop, I 0 ss M1 ∧ (∀ i ss M, I i ss M → M[j]? = some (.mix xs)) ∧
      (∀ B' : Base, B'.A.length = M1.length → ∀ i v ss M, xs[i]? = some v → I i ss M → WG X B' ex tg v (fun ss2 M2 => WB X B' ex body { N with nx := I (i + 1), ct := I (i + 1), bk := N.nx } ss2 M2) ss M) ∧ ∀ ss M, I xs.length ss M → N.nx ss M) ss M) (hs : ∀ x, foldedSetIterable iter X.env x = pure x := by intro _; rfl) : WS X B ex (.For tg iter body [] pos) N ss M := .mk fun ck G A H σ w sl E k => by
  refine ts_of (ps_for ck.ps hc (pi_list pe_self) pg_self pb_self hs) ?_
  refine h ck G A H σ w sl _ fun v x G1 A1 M1 H1 e1 w1 s1 h1 => ?_
  obtain ⟨j, xs, rfl, hM, I, h0, hI, ht, he⟩ := h1
  obtain ⟨a, rfl, hA⟩ := s1
  have hj : j < A1.length := by rw [w1.len]; exact (List.getElem?_eq_some_iff.mp hM).1
  -- the list as it stands
  have cur : ∀ {i : Nat} {ss : Sst} {G : Hp} {A : List Addr} {M : Mem} {H : Hp}, Wd X.K ⟨G1, A1, H1⟩ G A M H → I i ss M → ∃ vs, H a = some (.lst vs) ∧ Svs X.K G A vs xs := by
    intro i ss G A M H w' q
    obtain ⟨more, e⟩ := w'.pre
    have e : A = A1 ++ more := e
    have hA' : A[j]? = some a := by rw [e, List.getElem?_append_left hj]; exact hA
    obtain ⟨_, vs, h1, r⟩ := w'.cl.get hA' (hI _ _ _ q)
    exact ⟨vs, h1, r⟩
  have curL : ∀ {i : Nat} {ss : Sst} {G : Hp} {A : List Addr} {M : Mem} {H : Hp}, Wd X.K ⟨G1, A1, H1⟩ G A M H → I i ss M → ∃ vs, SqL X.K H a vs ∧ vs.length = xs.length := fun w' q => by
    obtain ⟨vs, h1, r⟩ := cur w' q
    exact ⟨vs, .of h1, r.length⟩
  obtain ⟨vs0, hv0, r0⟩ := cur w1.self h0
  refine ⟨a, rfl, ⟨vs0, .of hv0⟩, ?_⟩
  refine for_it (walk_cur (a := a) (n := xs.length)) (fun i σ H => ∃ ss G A M, Wd X.K ⟨G1, A1, H1⟩ G A M H ∧ Sl X.K G A σ ss ∧ I i ss M) ⟨ss, G1, A1, M1, w1.self, sl.mono e1, h0⟩ (fun i σ H _ ⟨_, _, _, _, w', _, q⟩ => curL w' q) (fun i y σ H H' hi hj hy => ?_) fun σ H hj => ?_
  · obtain ⟨rfl, hy⟩ := hy
    obtain ⟨ss, G2, A2, M2, w2, sl2, q⟩ := hj
    obtain ⟨vs, hv, r⟩ := cur w2 q
    have hyv := hy vs (.of hv)
    obtain ⟨u, hu⟩ : ∃ u, xs[i]? = some u := ⟨xs[i], by simp [hi]⟩
    obtain ⟨y', hy', sy⟩ := r.getS hu
    obtain rfl : y' = y := by rw [hy'] at hyv; exact Option.some.inj hyv
    refine ht ⟨G1, A1, H1⟩ w1.len i u ss M2 hu q (ck.rebase w1) G2 A2 _ σ y' w2 sl2 sy _ fun σ4 ss4 G4 A4 M4 H4 s4 w4 sl4 h4 => ?_
    refine h4 (ck.rebase w1) G4 A4 H4 σ4 w4 sl4 _ ⟨fun σ' ss' G' A' M' H' s' w' sl' q' => ?_, fun v x G' A' M' H' s' w' sv q' => ?_, fun σ' ss' G' A' M' H' s' w' sl' q' => ?_, fun σ' ss' G' A' M' H' s' w' sl' q' => ?_⟩
    · exact ⟨ss', G', A', M', w', sl', q'⟩
    · exact k.rt v x G' A' M' H' (e1.1.trans (w1.rebase w').2.1) (w1.rebase w').1 sv q'
    · exact k.nx σ' ss' G' A' M' H' (e1.1.trans (w1.rebase w').2.1) (w1.rebase w').1 sl' q'
    · exact ⟨ss', G', A', M', w', sl', q'⟩
  · obtain ⟨ss, G2, A2, M2, w2, sl2, q⟩ := hj
    exact k.nx σ ss G2 A2 M2 H (e1.1.trans (w1.rebase w2).2.1) (w1.rebase w2).1 sl2 (he ss M2 q)
theorem wg_tup2S {t1 t2 : Expr} {j : Nat} {f1 f2 : FV} {Q : Sst → Mem → Prop} (hc : X.calm = true) (h : ∀ B' : Base, B'.A.length = M.length → WG X B' ex t1 f1.sv (fun ss2 M2 => WG X B' ex t2 f2.sv Q ss2 M2) ss M)
    (hn : (assignEach [t1, t2] X.env).length = 2 := by rfl) (hst : (assignEach [t1, t2] X.env).findIdx? (·.1) = none := by rfl) (h1 : (assignEach [t1, t2] X.env).map (·.2) = assign t1 X.env :: (assignEach [t2] X.env).map (·.2) := by rfl) (h2 : (assignEach [t2] X.env).map (·.2) = assign t2 X.env :: (assignEach [] X.env).map (·.2) := by rfl) :
    WG X B ex (.Tuple [t1, t2] j pos) (.tup [f1, f2]) Q ss M := .mk fun ck G A H σ v w sl s Kq k => by
  refine tg_of (pg_tup hc (pgs_cons pg_self (pgs_cons pg_self pgs_nil h2) h1) hn hst) ?_
  obtain ⟨a, vs, rfl, hl, r⟩ := s
  cases r with
  | cons r1 r =>
    cases r with
    | cons r2 r =>
      cases r
      refine ⟨_, _, rfl, sqtM w.gh hl, rfl, _, _, rfl, ?_⟩
      refine h ⟨G, A, H⟩ w.len (ck.rebase w) G A H σ _ w.self sl r1.sv _ fun σ' ss' G' A' M' H' s' w' sl' q => ?_
      refine ⟨_, _, rfl, ?_⟩
      refine q (ck.rebase w) G' A' H' σ' _ w' sl' (SvOk.mono (w.rebase w').2 r2.sv) _ fun σ2 ss2 G2 A2 M2 H2 s2 w2 sl2 q2 => ⟨rfl, k σ2 ss2 G2 A2 M2 H2 (s'.trans s2) (w.rebase w2).1 sl2 q2⟩
end
end Mb

/-! Mb, part 58: xs[::-1]. -/
namespace Mb
open PySem L2 PySem.Spec PyProof.Rows
section
variable {X : Cx} {e st : Expr} {te : TE} {tk : TO} {pos p2 : Pos}
theorem pe_rev (he : PE X e te) (hk : PO X (some st) tk) : PE X (.Subscript e (.Slice none none (some st) p2) pos) (fun σ H Q => te σ H fun x H1 => tk σ H1 fun k H2 => k = some (-1) ∧ ∃ a xs, x = .ref a ∧ SqL X.K H2 a xs ∧ ∀ p, H2 p = none → Q (.ref p) (upd H2 p (.lst xs.reverse))) := by
  refine ⟨fun pins s σ H Q I h => ?_⟩
  refine Subscript_ (thn (he.run pins s σ H _ I h) fun v s1 ⟨x, H1, I1, r1, q1⟩ => ?_)
  refine wpAny_Slice ?_
  rw [evalPart_none]
  refine wpAny_pure (wpAny_pure ?_)
  refine thn (hk.run pins s1 σ H1 _ I1 q1) fun vk s3 ⟨k, H3, I3, pk, q3⟩ => ?_
  obtain ⟨rfl, a, xs, rfl, hx, q⟩ := q3
  cases r1
  have I4 : Inv X pins σ H3 { s3 with heap := s3.heap.push { cls := .type "slice", data := .fields #[.none, .none, vk] } } := I3.kept (t' := s3.toks) fun b ob q => Heap.get?_push_of_some _ q
  obtain ⟨its, r, ht, hz⟩ := I4.list hx
  have hlen := r.length
  show wpAny (model X.prog X.w) X.A (subscriptTail e (.Slice none none (some st) p2) (.ref a) (.ref s3.heap.objs.size)) (EP X pins σ Q) X.xe { s3 with heap := s3.heap.push { cls := .type "slice", data := .fields #[.none, .none, vk] } }
  refine tail_any (ops := [.ref a, .ref s3.heap.objs.size]) ht.isList.typeIs slot_list_getitem.lookup ?_ (by with_unfolding_all rfl)
  refine wpAny_getItem_list_slice ht.isList (Heap.IsSliceOf.new ..) .none .none pk (by decide) ?_ (by rw [List.size_toArray] <;> omega)
  rw [PySem.W.krv_pick]
  refine ⟨.ref _, _, I4.laid (t' := s3.toks) (o := .lst xs.reverse) (fun b ob q => Heap.get?_push_of_some _ q) (Nat.le_refl _) ?_, rfl, q _ (I4.hok.fresh (Nat.le_refl _))⟩
  exact ⟨by rw [List.length_reverse]; exact hz, _, 0, r.reverse, Heap.get?_push_size _ rfl⟩
end
theorem Reps.reverse {K : PySem.W.Frag} {G : Hp} : ∀ {vs : List V} {ds : List D}, Reps K G vs ds → Reps K G vs.reverse ds.reverse
  | _, _, .nil => .nil
  | _, _, .cons h r => by rw [List.reverse_cons, List.reverse_cons]; exact r.reverse.append (.cons h .nil)
section
variable {X : Cx} {B : Base} {ex : XD} {ss : Sst} {M : Mem} {e st : Expr} {pos p2 : Pos} {Q : SV → Mem → Prop}
theorem we_revC (h : WE X B ex e (fun x M1 => WO X B ex (some st) (fun k M2 => k = some (-1) ∧ with1 M2 x fun d => ∃ ds, d = .lst ds ∧ Q (.cel M2.length) (M2 ++ [.lst ds.reverse])) ss M1) ss M) : WE X B ex (.Subscript e (.Slice none none (some st) p2) pos) Q ss M := .mk fun ck G A H σ w sl Kq k => by
  refine te_of (pe_rev pe_self po_self) ?_
  refine h ck G A H σ w sl _ fun v x G1 A1 M1 H1 e1 w1 s1 h1 => ?_
  refine WO.goes ck h1 w1 (sl.mono e1) fun l G2 A2 M2 H2 e2 w2 h2 => ?_
  obtain ⟨rfl, h2⟩ := h2
  obtain ⟨d, g, ds, rfl, h3⟩ := with1_get h2
  obtain ⟨t, vs, rfl, ht, r⟩ := (s1.mono e2).s w2 g
  exact ⟨rfl, t, vs, rfl, .inl ht, fun p hp => VPost.newC (M := M2) k (e1.trans e2) w2 r.reverse h3 p hp⟩
theorem we_rev (h : WE X B ex e (fun x M1 => WO X B ex (some st) (fun k M2 => k = some (-1) ∧ with1 M2 x fun d => ∃ ds, d = .lst ds ∧ Q (.dat (.lst ds.reverse)) M2) ss M1) ss M) : WE X B ex (.Subscript e (.Slice none none (some st) p2) pos) Q ss M := .mk fun ck G A H σ w sl Kq k => by
  refine te_of (pe_rev pe_self po_self) ?_
  refine h ck G A H σ w sl _ fun v x G1 A1 M1 H1 e1 w1 s1 h1 => ?_
  refine WO.goes ck h1 w1 (sl.mono e1) fun l G2 A2 M2 H2 e2 w2 h2 => ?_
  obtain ⟨rfl, h2⟩ := h2
  obtain ⟨d, g, ds, rfl, h3⟩ := with1_get h2
  obtain ⟨t, vs, rfl, ht, r⟩ := (s1.mono e2).s w2 g
  exact ⟨rfl, t, vs, rfl, .inl ht, k.new (e1.trans e2) w2 h3 fun p hp => .lst (.inl upd_same) (r.reverse.mono (same_upd (w2.none hp).2.2))⟩
theorem gRev (h : WE X B ex (.Subscript e (.Slice none none (some st) p2) pos) Q ss M) : WE X B ex (.Subscript e (.Slice none none (some st) p2) pos) Q ss M := h
end
end Mb

/-! Mb, part 59: == of a list of the asker's own that holds cells, seen as data. -/
namespace Mb
open PySem L2 PyProof.Rows
section
variable {X : Cx} {B : Base} {ex : XD} {ss : Sst} {M : Mem} {a b : Expr} {pos : Pos} {Q : SV → Mem → Prop} {QB : Bool → Mem → Prop} {n : Nat}
/-- == of two things seen as data by own methods -/
structure eqS2 (X : Cx) (n : Nat) (op : CmpOp) (M : Mem) (x y : SV) (Q : SV → Mem → Prop) : Prop where
  run : ∃ d e b, x.see M = some d ∧ y.see M = some e ∧ RcA X n op d e b ∧ Q (.dat (.bl b)) M
theorem eqS2_run {op : CmpOp} {G : Hp} {A : List Addr} {H : Hp} {M : Mem} {x y : SV} {u v : V} {Q : SV → Mem → Prop} {Kq : VK} (w : Wd X.K B G A M H) (sx : SvOk X.K G A u x) (sy : SvOk X.K G A v y) (h : eqS2 X n op M x y Q) (k : VPost X.K B G A Q Kq) : rRcA X n op u v H Kq := by
  obtain ⟨d, e, b, g1, g2, r, q⟩ := h.run
  exact ⟨d, e, b, sx.see w g1, sy.see w g2, r, fun H' s => k.flat .refl (w.same s) (.bl b) q⟩
theorem wt_eqS (hr : Room n X.A) (h : WE X B ex a (fun x M1 => WE X B ex b (fun y M2 => eqS2 X n .Eq M2 x y fun z M3 => ∃ k, z = .dat (.bl k) ∧ QB k M3) ss M1) ss M) : WT X B ex (.Compare a [.Eq] [b] pos) QB ss M :=
  wt_cmp2 (f := eqS2 X n .Eq) (op_eqA hr) (nomark _) (fun G A H M x y u v Q Kq w sx sy h k => eqS2_run w sx sy h k) h
theorem wt_neS (hr : Room n X.A) (h : WE X B ex a (fun x M1 => WE X B ex b (fun y M2 => eqS2 X n .NotEq M2 x y fun z M3 => ∃ k, z = .dat (.bl k) ∧ QB k M3) ss M1) ss M) : WT X B ex (.Compare a [.NotEq] [b] pos) QB ss M :=
  wt_cmp2 (f := eqS2 X n .NotEq) (op_neA hr) (nomark _) (fun G A H M x y u v Q Kq w sx sy h k => eqS2_run w sx sy h k) h
end
end Mb

/-! Mb, part 60: self.f += e; dicts of the top with text keys: in, not in, d[k], d.get(k, x). -/
namespace Mb
open PySem L2 PyProof.Rows
section
variable {X : Cx} {B : Base} {ex : XD} {ss : Sst} {M : Mem} {a b e o : Expr} {pos tpos : Pos} {Q : SV → Mem → Prop} {QB : Bool → Mem → Prop}
theorem ws_fldaug {f : Str} {N : Nd} (h : WE X B ex o (fun x M1 => ∃ i C fs n, x = .cel i ∧ M1[i]? = some (.ins C fs) ∧ Cls X.K C ∧ NoAttr X.K C f ∧ fs.lookup f = some (.dat (.int n)) ∧
      WE X B ex e (fun y M2 => ∃ k fs2, y = .dat (.int k) ∧ M2[i]? = some (.ins C fs2) ∧ fs2.length < 1000 ∧ N.nx ss (M2.set i (.ins C (putS f (.dat (.int (n + k))) fs2)))) ss M1) ss M) :
    WS X B ex (.AugAssign (.Attribute o f tpos) .Add e pos) N ss M := .mk fun ck G A H σ w sl E k => by
  refine ts_of (ps_fldaug pe_self pe_self in_add) ?_
  refine h ck G A H σ w sl _ fun v x G1 A1 M1 H1 e1 w1 s1 h1 => ?_
  obtain ⟨i, C, fs, n, rfl, hM, hc, hn, hl, h1⟩ := h1
  obtain ⟨l, rfl, hA⟩ := s1
  obtain ⟨gn, dx, fv, hv, r⟩ := w1.cl.get hA hM
  obtain ⟨u, hu, su⟩ := r.look hl
  cases su
  refine ⟨l, C, dx, fv, _, rfl, hv, hc, hn, hu, ?_⟩
  refine h1 ck G1 A1 H1 σ w1 (sl.mono e1) _ fun v y G2 A2 M2 H2 e2 w2 s2 h2 => ?_
  obtain ⟨j, fs2, rfl, hM2, hz, q⟩ := h2
  cases s2
  have hA2 := pre_get e2.2 hA
  obtain ⟨gn2, dx2, fv2, hv2, r2⟩ := w2.cl.get hA2 hM2
  refine ⟨n, j, rfl, rfl, dx2, fv2, hv2, by rw [r2.length]; exact hz, ?_⟩
  exact k.nx σ ss G2 A2 _ _ (e1.trans e2).1 (w2.setC (c' := .ins C (putS f (.dat (.int (n + j))) fs2)) hA2 gn2 ⟨gn2, dx2, _, upd_same, r2.put (show SvOk X.K G2 A2 (V.int (n + j)) (.dat (.int (n + j))) from Rep.int _)⟩) (sl.mono (e1.trans e2)) q
/-! ### dicts of the top -/
/-- the dict at l, its texts' values -/
structure TabAt (K : PySem.W.Frag) (w : World) (l : Addr) (look : Str → Option (Option D)) : Prop where
  kd : ∃ es n, KDict K w l es n
  no : ∀ z, look z = some none → PySem.W.nsIn K l z = some none
  yes : ∀ z d, look z = some (some d) → ∃ u v, PySem.W.nsIn K l z = some (some u) ∧ RelV v u ∧ ∀ G, Rep K G v d
variable {l : Addr} {look : Str → Option (Option D)}
theorem wt_niK (T : TabAt X.K X.w l look) (hm : behindInMarks .NotIn b = false) (h : WE X B ex a (fun x M1 => WE X B ex b (fun y M2 => ∃ z r, x = .dat (.str z) ∧ y = .raw (.ref l) ∧ look z = some r ∧ QB (!r.isSome) M2) ss M1) ss M) : WT X B ex (.Compare a [.NotIn] [b] pos) QB ss M := by
  obtain ⟨es, n, KD⟩ := T.kd
  refine wt_cmp2 (f := fun M x y Q => ∃ z r, x = .dat (.str z) ∧ y = .raw (.ref l) ∧ look z = some r ∧ Q (.dat (.bl (!r.isSome))) M) (op_notIn_kd KD) hm (fun G A H M x y u v Q Kq w sx sy h k => ?_) (h.mono fun x M1 h1 => h1.mono fun y M2 ⟨z, r, e1, e2, e3, q⟩ => ⟨z, r, e1, e2, e3, _, rfl, q⟩)
  obtain ⟨z, r, rfl, rfl, hz, q⟩ := h
  have sx : Rep X.K G u (.str z) := sx
  have sx := sx.s w.gh
  obtain ⟨rfl, _⟩ := sx
  cases sy
  cases r with
  | none => exact ⟨z, none, rfl, rfl, T.no z hz, k.flat .refl w (.bl _) q⟩
  | some d =>
    obtain ⟨u0, v0, h1, _, _⟩ := T.yes z d hz
    exact ⟨z, some u0, rfl, rfl, h1, k.flat .refl w (.bl _) q⟩
theorem we_ixK (T : TabAt X.K X.w l look) (h : WE X B ex a (fun x M1 => x = .raw (.ref l) ∧ WE X B ex b (fun y M2 => ∃ z d, y = .dat (.str z) ∧ look z = some (some d) ∧ Q (.dat d) M2) ss M1) ss M) (hs : PlainIx b := by intro _ _; rfl) : WE X B ex (.Subscript a b pos) Q ss M := .mk fun ck G A H σ w sl Kq k => by
  refine te_of (pe_ix ix_kdict pe_self pe_self hs) ?_
  refine h ck G A H σ w sl _ fun u x G1 A1 M1 H1 e1 w1 s1 h1 => ?_
  obtain ⟨rfl, h1⟩ := h1
  refine h1 ck G1 A1 H1 σ w1 (sl.mono e1) _ fun v y G2 A2 M2 H2 e2 w2 s2 h2 => ?_
  obtain ⟨z, d, rfl, hz, q⟩ := h2
  have s2 : Rep X.K G2 v (.str z) := s2
  have s2 := s2.s w2.gh
  obtain ⟨rfl, _⟩ := s2
  cases s1
  obtain ⟨es, n, KD⟩ := T.kd
  obtain ⟨u0, v0, h3, h4, h5⟩ := T.yes z d hz
  exact ⟨l, z, v0, rfl, rfl, ⟨es, n, u0, KD.at_, KD.lit, h3, h4⟩, k v0 (.dat d) G2 A2 M2 H2 (e1.trans e2) w2 (h5 G2) q⟩
end
section
variable {X : Cx} {o e f : Expr} {apos cpos : Pos} {td ty tx : TE} {l : Addr} {look : Str → Option (Option D)}
theorem pe_getK (T : TabAt X.K X.w l look) (ho : PE X o td) (he : PE X e ty) (hf : PE X f tx) (m : M2 X o "get" apos e f cpos) : PE X (.Call (.Attribute o "get" apos) [e, f] [] cpos)
    (fun σ H Q => td σ H fun x H1 => x = .ref l ∧ ty σ H1 fun y H2 => ∃ z r, y = .str z ∧ PySem.W.nsIn X.K l z = some r ∧ tx σ H2 fun t H3 => match r with
      | none => Q t H3
      | some u => ∃ v, RelV v u ∧ Q v H3) := by
  refine ⟨fun pins s σ H Q I h => ?_⟩
  obtain ⟨es, n, D⟩ := T.kd
  refine wpAny_Call_method m.base m.few m.line PySem.F.plainAttrs_dict PySem.F.slot_dict_get PySem.F.type_dict_get (thn (ho.run pins s σ H _ I h) fun u s1 ⟨x, H1, I1, rx, ex, q1⟩ => ?_)
  subst ex
  obtain rfl : u = Value.ref l := rx
  have hm := PySem.W.mapOf_K (prog := X.prog) (w := X.w) I1.kIn D.at_ D.lit
  refine ⟨hm.typeIs, fun b q => ?_, ?_⟩
  · cases q
    exact ⟨_, I1.kIn _ _ D.at_, rfl⟩
  rw [m.trees]
  refine Calls.callWith_builtin rfl (Calls.evalArgs_plain (Calls.spliced_cons (thn (he.run pins s1 σ H1 _ I1 q1) fun iv s2 ⟨y, H2, I2, ry, z, r, ey, hz, q2⟩ =>
    Calls.spliced_cons (thn (hf.run pins s2 σ H2 _ I2 q2) fun fv s3 ⟨t, H3, I3, rt, q3⟩ => Calls.spliced_nil ?_))))
  subst ey
  obtain ⟨tk, rfl⟩ := ry
  have hm3 := PySem.W.mapOf_K (prog := X.prog) (w := X.w) I3.kIn D.at_ D.lit
  refine call_meetsIn PySem.F.slot_dict_get hm3.typeIs PySem.F.entry_dict_get (PySem.F.args_dict_get_3 _ _ _) (meets_dict_get_default (strKind X.prog X.w) l (strKind_is X.prog X.w z tk) D.low fv) ⟨_, hm3, ?_⟩
  rw [PySem.W.find_K D.at_ hz]
  cases r with
  | none => exact ⟨t, H3, I3.tok _, rt, q3⟩
  | some u =>
    obtain ⟨v, rv, q3⟩ := q3
    exact ⟨v, H3, I3.tok _, rv, q3⟩
end
section
variable {X : Cx} {B : Base} {ex : XD} {ss : Sst} {M : Mem} {o e f : Expr} {apos pos : Pos} {Q : SV → Mem → Prop} {l : Addr} {look : Str → Option (Option D)}
theorem we_getK (T : TabAt X.K X.w l look) (h : WE X B ex o (fun x M1 => x = .raw (.ref l) ∧ WE X B ex e (fun y M2 => ∃ z r, y = .dat (.str z) ∧ look z = some r ∧ WE X B ex f (fun t M3 => match r with
      | none => Q t M3
      | some d => Q (.dat d) M3) ss M2) ss M1) ss M) (m : M2 X o "get" apos e f pos := by exact ⟨rfl, rfl, rfl, rfl⟩) : WE X B ex (.Call (.Attribute o "get" apos) [e, f] [] pos) Q ss M := .mk fun ck G A H σ w sl Kq k => by
  refine te_of (pe_getK T pe_self pe_self pe_self m) ?_
  refine h ck G A H σ w sl _ fun u x G1 A1 M1 H1 e1 w1 s1 h1 => ?_
  obtain ⟨rfl, h1⟩ := h1
  cases s1
  refine ⟨rfl, ?_⟩
  refine h1 ck G1 A1 H1 σ w1 (sl.mono e1) _ fun v y G2 A2 M2 H2 e2 w2 s2 h2 => ?_
  obtain ⟨z, r, rfl, hz, h2⟩ := h2
  have s2 : Rep X.K G2 v (.str z) := s2
  have s2 := s2.s w2.gh
  obtain ⟨rfl, _⟩ := s2
  cases r with
  | none =>
    refine ⟨z, none, rfl, T.no z hz, ?_⟩
    refine h2 ck G2 A2 H2 σ w2 (sl.mono (e1.trans e2)) _ fun v t G3 A3 M3 H3 e3 w3 s3 h3 => ?_
    exact k v t G3 A3 M3 H3 ((e1.trans e2).trans e3) w3 s3 h3
  | some d =>
    obtain ⟨u0, v0, h4, h5, h6⟩ := T.yes z d hz
    refine ⟨z, some u0, rfl, h4, ?_⟩
    refine h2 ck G2 A2 H2 σ w2 (sl.mono (e1.trans e2)) _ fun v t G3 A3 M3 H3 e3 w3 s3 h3 => ?_
    exact ⟨v0, h5, k v0 (.dat d) G3 A3 M3 H3 ((e1.trans e2).trans e3) w3 (h6 G3) h3⟩
end
/-! ### the facts of tables -/
section
variable {K : PySem.W.Frag} {mg : Str → Option Value} {h : Heap}
def TV.d : TV → Option D
  | .no => none
  | .int n => some (.int n)
  | .txs xs => some (.tup (xs.map D.str))
def TV.ok : TV → Prop
  | .txs xs => ∀ z ∈ xs, SOk z
  | _ => True
instance (v : TV) : Decidable v.ok := by cases v <;> unfold TV.ok <;> infer_instance
def lookT (f : List (Str × TV)) (z : Str) : Option (Option D) := (f.find? fun q => decide (q.1 = z)).map fun q => q.2.d
theorem dtF_ok (X : K.In h) (G : h.Ns mainGlobals mg) {x : Str} {f : List (Str × TV)} (c : dtF x f K = true) : mg x = some (.ref (He.ga K x)) := by
  obtain ⟨c1, _⟩ := He.ba c
  split at c1
  · rename_i l e
    rw [PySem.W.mg_of X G e, of_decide_eq_true c1]
  · cases c1
theorem dtF_tab {w : World} {x : Str} {f : List (Str × TV)} (c : dtF x f K = true) (hk : ∃ es n, KDict K w (He.ga K x) es n) (hs : ∀ q ∈ f, q.2.ok) : TabAt K w (He.ga K x) (lookT f) := by
  obtain ⟨_, c2⟩ := He.ba c
  have at_ : ∀ z r, lookT f z = some r → ∃ q ∈ f, q.1 = z ∧ q.2.d = r := by
    intro z r e
    unfold lookT at e
    cases hf : f.find? fun q => decide (q.1 = z) with
    | none => rw [hf] at e; cases e
    | some q =>
      rw [hf] at e
      have h2 := List.find?_some hf
      exact ⟨q, List.mem_of_find?_eq_some hf, of_decide_eq_true h2, Option.some.inj e⟩
  refine ⟨hk, fun z e => ?_, fun z d e => ?_⟩
  · obtain ⟨⟨y, v⟩, hq, rfl, hr⟩ := at_ z none e
    have b := List.all_eq_true.mp c2 _ hq
    have b : tvB K v (PySem.W.nsIn K (He.ga K x) y) = true := b
    cases v with
    | no =>
      show PySem.W.nsIn K (He.ga K x) y = some none
      cases e1 : PySem.W.nsIn K (He.ga K x) y with
      | none => rw [e1] at b; cases b
      | some o =>
        rw [e1] at b
        cases o with
        | none => rfl
        | some u => cases b
    | int n => cases hr
    | txs xs => cases hr
  · obtain ⟨⟨y, v⟩, hq, rfl, hr⟩ := at_ z (some d) e
    have hsq := hs _ hq
    have b := List.all_eq_true.mp c2 _ hq
    have b : tvB K v (PySem.W.nsIn K (He.ga K x) y) = true := b
    show ∃ u v, PySem.W.nsIn K (He.ga K x) y = some (some u) ∧ RelV v u ∧ ∀ G, Rep K G v d
    cases e1 : PySem.W.nsIn K (He.ga K x) y with
    | none => rw [e1] at b; cases v <;> cases b
    | some o =>
      rw [e1] at b
      cases o with
      | none => cases v <;> first | (cases hr; done) | (cases b; done)
      | some u =>
        cases v with
        | no => cases hr
        | int n =>
          cases hr
          cases u with
          | int m t =>
            obtain rfl : m = n := of_decide_eq_true b
            exact ⟨_, .int m, rfl, ⟨t, rfl⟩, fun G => .int m⟩
          | _ => cases b
        | txs xs =>
          cases hr
          cases u with
          | ref t =>
            have b : (match K.lookup t with
              | some o => decide (tupO o = some xs)
              | none => false) = true := b
            split at b
            · rename_i o lk
              exact ⟨_, .ref t, rfl, rfl, tupO_rep lk (of_decide_eq_true b) hsq⟩
            · cases b
          | _ => cases b
end
/-- a law, over a head that tells its facts and its tables -/
theorem walkY {l : PySem.W.OpenLaw} {k : Nat} {q : Program} {loose : List Str} {ns : List Str × List Str} {XP : (Str → Option Value) → Heap → Prop} {d : DefRec} {fa : List (List Fact)} {fn : List He.FnD} {ts : List (Str × List Str)} (hn : l.most = some 63) (hdf : d.params.defaults = []) (hdn : d.name = "law") (hr : Room k callerA)
    (F : ∀ (w : World) (mg : Str → Option Value) (h : Heap) (K : PySem.W.Frag), K.In h → h.Ns mainGlobals mg → HeldY fa fn ts w K →
      ∃ (f : Addr) (fd : FuncData), mg "law" = some (.ref f) ∧ (∀ (s : Shared) (u : Value), BindsTo s fd ⟨[u], []⟩ [("_law_script", u)]) ∧ ∀ base : Heap, FnOk l.prog w K mg base (L2.CX l.prog w) k f fd ["_law_script"] (spOf K 0 (sp_law K))) :
    PySem.W.WalkO q loose XP (hookY ns fa fn ts).says l.row.toRowW d [] (fun f vs => PySem.call f vs) := by
  refine Att.attach_call hn hdf fun w s0 s1 mg mb fa o pm cd doc a vs is G Y ho hd hcd hmg hobj hints hlen hg => ?_
  obtain ⟨K, KX, c⟩ := Y
  obtain ⟨f, fd, hf, hb, hF⟩ := F w mg _ K KX G.T.g c
  rw [hdn] at hmg
  obtain rfl : fa = f := by
    have e := hmg.symm.trans hf
    cases e
    rfl
  refine law_call (k := k) KX G.T.g G.T.b G.T.builtins G.T.nolimit hg hobj hints (Nat.le_trans hlen (by decide)) hr (fun base _ _ => hF base) hb (fun H hO hS => law_sp hlen hS) ?_
  intro H e s' z
  obtain ⟨_, _, _, _, _, _, _, _, _, _, _, _, z⟩ := z
  exact z
end Mb

/-! Mb, part 61: comprehensions with three names; comprehensions that change cells, told turn by turn. -/
namespace Mb
open PySem L2 PyProof.Rows
section
variable {X : Cx} {B : Base} {ex : XD} {ss : Sst} {M : Mem} {elt iter : Expr} {ifs : List Expr} {pos : Pos} {Q : SV → Mem → Prop} {scope : Scope} {α : Type}
/-- [f x for a, b, c in l] -/
theorem lcq_mapA3 {j j2 j3 : Nat} {l : List α} {ga gb gc : α → D} (f : α → D) (hl : l.length ≤ sizeLine)
    (he : ∀ (i : Nat) (x : α), l[i]? = some x → ∀ (s : Shared) (H : Hp) (C : Addr) (cl : List (Str × Addr)) (fp : List Addr) (B : Base), B.A.length = M.length → WE (Blk X scope s H C cl fp) B exF elt (fun y M4 => y = .dat (f x) ∧ M4 = M) ((((wipeD ss [j, j2, j3]).set j (some (.dat (ga x)))).set j2 (some (.dat (gb x)))).set j3 (some (.dat (gc x)))) M)
    (q : Q (.dat (.lst (l.map f))) M) : ∃ I, I 0 [] M ∧ LcQ X scope elt [] (tg3 j j2 j3) [j, j2, j3] (l.map fun x => .tup [ga x, gb x, gc x]) I Q ss := by
  refine ⟨fun i acc M' => i ≤ l.length ∧ acc = (l.take i).map f ∧ M' = M, ⟨Nat.zero_le _, rfl, rfl⟩, ?_, ?_⟩
  · rintro i d acc M' hd ⟨hi, rfl, rfl⟩
    obtain ⟨x, hx, rfl⟩ := map_get hd
    have hlt := (List.getElem?_eq_some_iff.mp hx).1
    refine ⟨_, _, _, rfl, ?_⟩
    intro s H C cl fp B hB
    refine (he i x hx s H C cl fp B hB).mono ?_
    rintro y M4 ⟨rfl, rfl⟩
    refine ⟨_, rfl, ?_, hlt, map_take_succ f hx, rfl⟩
    rw [List.length_map, List.length_take]
    omega
  · rintro acc M' ⟨_, rfl, rfl⟩
    rw [List.length_map, List.take_length]
    exact q
/-- a comprehension whose turns change the cells: what is told so far has a property -/
theorem lcq_turns {j : Nat} {ds : List D} (J : Nat → List D → Mem → Prop) (hl : ds.length ≤ sizeLine) (h0 : J 0 [] M)
    (ht : ∀ (i : Nat) (d : D) (acc : List D) (M : Mem), ds[i]? = some d → J i acc M → acc.length = i → ∀ (s : Shared) (H : Hp) (C : Addr) (cl : List (Str × Addr)) (fp : List Addr) (B : Base), B.A.length = M.length → WE (Blk X scope s H C cl fp) B exF elt (fun y M4 => ∃ d, y = .dat d ∧ J (i + 1) (acc ++ [d]) M4) ((wipeD ss [j]).set j (some (.dat d))) M)
    (q : ∀ acc M, acc.length = ds.length → J ds.length acc M → Q (.dat (.lst acc)) M) : ∃ I, I 0 [] M ∧ LcQ X scope elt [] (tg1 j) [j] ds I Q ss := by
  refine ⟨fun i acc M' => acc.length = i ∧ J i acc M', ⟨rfl, h0⟩, ?_, ?_⟩
  · rintro i d acc M' hd ⟨hi, hI⟩
    intro s H C cl fp B hB
    have hlt := (List.getElem?_eq_some_iff.mp hd).1
    refine (ht i d acc M' hd hI hi s H C cl fp B hB).mono ?_
    rintro y M4 ⟨z, rfl, hI2⟩
    refine ⟨z, rfl, by omega, ?_, hI2⟩
    rw [List.length_append]; simp; omega
  · rintro acc M' ⟨h1, h3⟩
    exact q acc M' h1 h3
end
end Mb

/-! Mb, part 62: dict(pairs) as a cell; == as a value of things seen as data. -/
namespace Mb
open PySem L2 PyProof.Rows
section
variable {X : Cx} {B : Base} {ex : XD} {ss : Sst} {M : Mem} {a b e : Expr} {pos p : Pos} {Q : SV → Mem → Prop} {n : Nat}
theorem we_dictC (hc : X.calm = true) (hm : X.mg "dict" = none) (hg : Gl X "dict") (h : WA X B ex [e] (fun xs M1 => ∃ x kvs, xs = [x] ∧ x.get M1 = some (.lst (kvs.map fun kv => .tup [kD kv.1, kv.2])) ∧ Q (.cel M1.length) (M1 ++ [.dic (mergeD [] kvs)])) ss M)
    (he : starEach [e] X.env = (false, eval e X.env) :: starEach [] X.env := by rfl) (hpl : (backTo pos (starEach [] X.env)).any (·.1) = false := by rfl) : WE X B ex (.Call (.Name "dict" p) [e] [] pos) Q ss M := by
  refine we_ct (f := fun M1 xs Q => ∃ x kvs, xs = [x] ∧ x.get M1 = some (.lst (kvs.map fun kv => .tup [kD kv.1, kv.2])) ∧ Q (.cel M1.length) (M1 ++ [.dic (mergeD [] kvs)])) (call_dictP hc) (fun G A H M xs vs Q Kq w r h k => ?_) hm (by decide +kernel) hg h (he := he) (hpl := hpl)
  obtain ⟨x, kvs, rfl, g, q⟩ := h
  cases r with
  | cons s r =>
    cases r
    obtain ⟨l, us, rfl, hl, ru⟩ := s.s w g
    obtain ⟨ps, kv, rfl, hp, hk⟩ := pairs_rep w.gh ru
    refine ⟨l, ps, kv, rfl, .inl hl, hp, fun p hp => ?_⟩
    obtain ⟨w2, e2⟩ := w.newC (c := .dic (mergeD [] kvs)) (o := .dK (mergeK [] kv)) hp ⟨(w.none hp).2.2, _, upd_same, RepK.merge hk .nil⟩
    refine k _ (.cel M.length) _ _ _ _ e2 w2 ⟨p, rfl, ?_⟩ q
    rw [← w.len, List.getElem?_append_right (Nat.le_refl _), Nat.sub_self]
    rfl
theorem we_eqS (hr : Room n X.A) (h : WE X B ex a (fun x M1 => WE X B ex b (fun y M2 => eqS2 X n .Eq M2 x y Q) ss M1) ss M) : WE X B ex (.Compare a [.Eq] [b] pos) Q ss M :=
  we_cmp2 (f := eqS2 X n .Eq) (op_eqA hr) (nomark _) (fun G A H M x y u v Q Kq w sx sy h k => eqS2_run w sx sy h k) h
end
end Mb

/-! Mb, part 63: sorted(set(texts)). -/
namespace Mb
open PySem PySem.Spec L2 PyProof.Rows
/-- the text of an entry -/
def txK (e : Int × Value) : Str := match e.2 with
  | .str z _ => z
  | _ => Str.empty
def TxE (P : Program) (w : World) (e : Int × Value) : Prop := ∃ z t, e.2 = Value.str z t ∧ e.1 = (PySem.strKind P w).hash z
/-- a table of texts that can be walked: S its members -/
structure TxTab (P : Program) (w : World) (es : Array (Int × Value)) (t : SetTable) (S : Str → Bool) : Prop where
  good : ∀ e ∈ es.toList, TxE P w e
  nd : (es.toList.map txK).Nodup
  mem : ∀ z, S z = true ↔ z ∈ es.toList.map txK
  few : es.size < scanBound
  fit : t.fits es.size = true
  ris : Ris t.place.toList
  led : w.params.followText "set-order" = true ∨ t.led = true
/-- the set of n texts at a -/
def TxSet (P : Program) (w : World) (h : Heap) (a : Addr) (S : Str → Bool) (n : Nat) : Prop :=
  ∃ o es ep t, h.get? a = some o ∧ o.ExactSet ∧ o.data = .set es ep t ∧ es.size = n ∧ TxTab P w es t S
section
variable {P : Program} {w : World} {es es' : Array (Int × Value)} {t t' : SetTable} {S : Str → Bool} {z : Str} {tk : Tok}
theorem TxTab.elems (T : TxTab P w es t S) : ElemsOf (PySem.strKind P w) es.toList := fun e m => by
  obtain ⟨z, u, e1, e2⟩ := T.good e m
  rw [e1]
  exact ⟨⟨z, strKind_is P w z u, e2⟩, rfl⟩
theorem TxTab.is_iff (T : TxTab P w es t S) {e : Int × Value} (m : e ∈ es.toList) (z : Str) : (PySem.strKind P w).is z e.2 = true ↔ txK e = z := by
  obtain ⟨y, u, e1, _⟩ := T.good e m
  unfold txK
  rw [e1]
  show (y == z) = true ↔ y = z
  exact beq_iff_eq
/-- other rows of the same entries -/
theorem TxTab.perm (T : TxTab P w es t S) (p : es'.toList.Perm es.toList) (hf : t'.fits es'.size = true) (hr : Ris t'.place.toList) (hl : t'.led = t.led) : TxTab P w es' t' S ∧ es'.size = es.size := by
  have hs : es'.size = es.size := by
    have := p.length_eq
    rwa [Array.length_toList, Array.length_toList] at this
  exact ⟨⟨fun e m => T.good e (p.mem_iff.mp m), (p.map txK).nodup_iff.mpr T.nd, fun z => (T.mem z).trans (p.map txK).mem_iff.symm, hs ▸ T.few, hf, hr, T.led.imp id fun q => hl.trans q⟩, hs⟩
/-- one entry more -/
theorem TxTab.more (T : TxTab P w es t S) (hz : S z = false) (p : es'.toList.Perm ((es.push ((PySem.strKind P w).hash z, Value.str z tk)).toList)) (room : es.size + 1 < scanBound) (hf : t'.fits es'.size = true) (hr : Ris t'.place.toList) (hl : t'.led = t.led) :
    TxTab P w es' t' (fun y => S y || decide (y = z)) ∧ es'.size = es.size + 1 := by
  rw [Array.toList_push] at p
  have pc := p.trans (List.perm_append_singleton _ _)
  have pk : (es'.toList.map txK).Perm (z :: es.toList.map txK) := pc.map txK
  have hnew : z ∉ es.toList.map txK := fun m => by rw [(T.mem z).mpr m] at hz; cases hz
  have hs : es'.size = es.size + 1 := by
    have := pc.length_eq
    rwa [Array.length_toList, List.length_cons, Array.length_toList] at this
  refine ⟨⟨fun e m => ?_, pk.nodup_iff.mpr (List.nodup_cons.mpr ⟨hnew, T.nd⟩), fun y => ?_, hs ▸ room, hf, hr, T.led.imp id fun q => hl.trans q⟩, hs⟩
  · rcases List.mem_cons.mp (pc.mem_iff.mp m) with rfl | m
    · exact ⟨z, tk, rfl, rfl⟩
    · exact T.good e m
  · rw [pk.mem_iff, List.mem_cons, Bool.or_eq_true, decide_eq_true_eq, T.mem y]
    exact or_comm
theorem TxTab.off (T : TxTab P w es t S) : TxTab P w es { t with plain := false } S := ⟨T.good, T.nd, T.mem, T.few, SetTable.fits_plain_off T.fit, T.ris, T.led⟩
end
section
variable {P : Program} {w : World} {A : Around} {E : Value → Shared → Prop} {s : Shared} {a : Addr} {S : Str → Bool} {n : Nat}
theorem TxSet.to (R : TxSet P w s.heap a S n) : s.heap.SetOf (PySem.strKind P w) a S n := by
  obtain ⟨o, es, ep, t, ho, hx, hd, hn, T⟩ := R
  refine ⟨o, es, ep, t, ho, hx, hd, T.elems, fun z => ?_, T.few, T.fit, hn⟩
  rw [T.mem z, List.mem_map]
  exact ⟨fun ⟨e, m, q⟩ => ⟨e, m, (T.is_iff m z).mpr q⟩, fun ⟨e, m, q⟩ => ⟨e, m, (T.is_iff m z).mp q⟩⟩
theorem TxSet.keep {h h' : Heap} (R : TxSet P w h a S n) (k : ∀ o, h.get? a = some o → h'.get? a = some o) : TxSet P w h' a S n := by
  obtain ⟨o, es, ep, t, ho, r⟩ := R
  exact ⟨o, es, ep, t, k o ho, r⟩
/-- the row is stored, and laid anew where it is too full -/
theorem tx_stored {g : Bool → Sem Unit} (hg : ∀ (b : Bool) (s1 : Shared) (Z : Unit → Shared → Prop), Z () s1 → wpAny (model P w) A (g b) Z E s1)
    {o : Obj} {es es1 : Array (Int × Value)} {ep : Nat} {t t1 : SetTable} (ho : s.heap.get? a = some o) (hx : o.ExactSet) (hd : o.data = .set es ep t) (T : TxTab P w es1 t1 S) {wasDummy : Bool} {R : Option Bool → Shared → Prop}
    (q : ∀ h', Heap.SameBut a s.heap h' → TxSet P w h' a S es1.size → R (some true) { s with heap := h' }) :
    wpAny (model P w) A (do
      storeSet a es1 t1
      if (!wasDummy && t1.tooFull) = true then do
        g (relayAll t1 es1 (SetTable.grown es1.size)).2.2
        storeSet a (relayAll t1 es1 (SetTable.grown es1.size)).1 (relayAll t1 es1 (SetTable.grown es1.size)).2.1
        pure (some true)
      else pure (some true)) R E s := by
  have at1 := L2.store_at (es' := es1) (t' := t1) ho hd
  have b1 := Heap.SameBut.update s.heap a (Obj.putSet es1 t1)
  refine wpAny_bind (wpAny_storeSet_of ho hd ?_ (fits_of_scanBound T.few)); split
  case isFalse => exact wpAny_pure (q _ b1 ⟨_, es1, _, t1, at1, hx, rfl, rfl, T⟩)
  have z1 := relayAll_perm t1 es1 (SetTable.grown es1.size)
  have z2 := relayAll_fits t1 es1 (SetTable.grown es1.size)
  have z3 := relayAll_ris t1 es1 (SetTable.grown es1.size)
  have z4 := relayAll_led t1 es1 (SetTable.grown es1.size)
  generalize relayAll t1 es1 (SetTable.grown es1.size) = Y at z1 z2 z3 z4 ⊢
  obtain ⟨es2, t2, gv⟩ := Y
  obtain ⟨T2, e2⟩ := T.perm z1 z2 z3 z4
  refine wpAny_bind (hg _ _ _ (wpAny_bind (wpAny_storeSet_of at1 rfl ?_ (fits_of_scanBound T2.few))))
  exact wpAny_pure (q _ (b1.trans (Heap.SameBut.update _ a _)) ⟨_, es2, _, t2, L2.store_at (es' := es2) (t' := t2) at1 rfl, hx, rfl, e2, T2⟩)
/-- one text put in -/
theorem tx_add {z : Str} {tk : Tok} {Q : Bool → Shared → Prop} (R : TxSet P w s.heap a S n) (room : n + 1 < scanBound)
    (q : ∀ h', Heap.SameBut a s.heap h' → TxSet P w h' a (fun y => S y || decide (y = z)) (if S z = true then n else n + 1) → Q (!S z) { s with heap := h' }) :
    wpAny (model P w) A (setAddHashed a (.str z tk) ((PySem.strKind P w).hash z)) Q E s := by
  obtain ⟨o, es, ep, t, ho, hx, hd, hn, T⟩ := R
  have key : (PySem.strKind P w).is z (.str z tk) = true := strKind_is P w z tk
  have rl : ∀ (b : Bool) (s1 : Shared) (Z : Unit → Shared → Prop), Z () s1 → wpAny (model P w) A (match b with | true => rule "set.scan.the-table-gave-way" | false => pure ()) Z E s1 := fun b s1 Z h => by
    cases b
    · exact wpAny_pure h
    · exact wpAny_rule h
  unfold setAddHashed setAddHashedIn
  refine wpAny_holding (wpAny_bind (wpAny_setState_of ho hd T.fit ?_)); dsimp only
  rw [byScan_of (show (Value.str z tk).scannable = true from rfl) T.few T.elems, if_pos rfl]
  unfold setAddByScan
  refine wpAny_bind (wpAny_bind (wpAny_rule (wpAny_bind (wpAny_setScan_of key ho hd T.fit T.elems ?_))))
  cases hi : List.findIdx? (fun e => (PySem.strKind P w).is z e.2) es.toList with
  | some j =>
    obtain ⟨hj, pj, _⟩ := List.findIdx?_eq_some_iff_getElem.mp hi
    have hm := List.getElem_mem hj
    have hz : S z = true := (T.mem z).mpr (List.mem_map.mpr ⟨_, hm, (T.is_iff hm z).mp pj⟩)
    have q1 := q s.heap (Heap.SameBut.refl a s.heap)
    rw [hz, if_pos rfl] at q1
    refine wpAny_pure (wpAny_pure (q1 ⟨o, es, ep, t, ho, hx, hd, hn, T.good, T.nd, fun y => ?_, T.few, T.fit, T.ris, T.led⟩))
    rw [← T.mem y, Bool.or_eq_true, decide_eq_true_eq]
    exact ⟨fun h => h.elim id fun e => e ▸ hz, .inl⟩
  | none =>
    have hz : S z = false := by
      cases hS : S z with
      | false => rfl
      | true =>
        obtain ⟨e, m, k⟩ := List.mem_map.mp ((T.mem z).mp hS)
        have c := List.findIdx?_eq_none_iff.mp hi e m
        rw [(T.is_iff m z).mpr k] at c
        cases c
    have q1 : ∀ h', Heap.SameBut a s.heap h' → TxSet P w h' a (fun y => S y || decide (y = z)) (n + 1) → Q true { s with heap := h' } := fun h' b r => by
      have h := q h' b
      rw [hz] at h
      exact h r
    have z1 := layNew_perm t es ((PySem.strKind P w).hash z) (.str z tk)
    have z2 := layNew_fits t es ((PySem.strKind P w).hash z) (.str z tk)
    have z3 := layNew_ris t es ((PySem.strKind P w).hash z) (.str z tk) T.ris
    have z4 := layNew_led t es ((PySem.strKind P w).hash z) (.str z tk)
    dsimp only; generalize layNew t es ((PySem.strKind P w).hash z) (.str z tk) = Y at z1 z2 z3 z4 ⊢
    obtain ⟨es1, t1, wd, gv⟩ := Y
    obtain ⟨T1, n1⟩ := T.more hz z1 (by rw [hn]; exact room) z2 z3 z4
    rw [hn] at n1
    refine wpAny_bind (rl _ _ _ ?_); split
    · rw [hashByValue_scannable 8 (show (Value.str z tk).scannable = true from rfl)]
      refine wpAny_bind (wpAny_pure (tx_stored (fun b s1 Z h => rl b s1 Z h) ho hx hd (S := fun y => S y || decide (y = z)) ?_ fun h' b r => wpAny_pure (q1 h' b (n1 ▸ r))))
      split
      · exact T1
      · exact T1.off
    · refine wpAny_bind (wpAny_pure ?_); rw [if_pos rfl]
      exact tx_stored (fun b s1 Z h => rl b s1 Z h) ho hx hd (S := fun y => S y || decide (y = z)) T1 fun h' b r => wpAny_pure (q1 h' b (n1 ▸ r))
theorem txSet_fresh {h : Heap} (P : Program) (w : World) : TxSet P w (h.push { cls := .type "set", dict := none, data := .set #[] 0 (.fresh 0 0 (!w.params.followText "set-order")) }) h.objs.size (fun _ => false) 0 := by
  refine ⟨_, #[], 0, _, Heap.get?_push_size _ rfl, ⟨rfl, rfl, rfl⟩, rfl, rfl, ⟨by simp, by simp, by simp, by decide, rfl, List.Pairwise.nil, ?_⟩⟩
  show _ ∨ (!w.params.followText "set-order") = true
  cases w.params.followText "set-order" <;> simp
/-- set.update's loop over texts -/
theorem tx_loop {I C : Addr} {fp wr : List Addr} {G : Array GenState → Array GenState → Prop} {m : Nat} {Pv : Nat → Value → Prop} {St : Nat → Shared → Prop} {R : Result → Shared → Prop}
    (W : WalksS P w A.in1 I fp wr G m Pv St) (hC : C ∉ fp) (zs : Nat → Str) (hv : ∀ i v, Pv i v → ∃ t, v = .str (zs i) t) (room : m + 1 < scanBound) :
    ∀ (k i : Nat) (s : Shared) (S : Str → Bool) (n : Nat), m - i = k → i ≤ m → St i s → TxSet P w s.heap C S n → n ≤ i → (∀ y, S y = true ↔ ∃ j, j < i ∧ zs j = y) →
      (∀ s' S' n', Moved (C :: wr) G s s' → TxSet P w s'.heap C S' n' → n' ≤ m → (∀ y, S' y = true ↔ ∃ j, j < m ∧ zs j = y) → R (.ok (.ret .none)) s') →
      codeAny (model P w) A (.builtin "set.update.loop" ⟨[.ref C, .ref I], []⟩) R s := by
  have hCw : C ∉ wr := fun h => hC (W.sub _ h)
  have up : ∀ b ∈ wr, b ∈ C :: wr := fun b hb => List.mem_cons_of_mem _ hb
  intro k
  induction k with
  | zero =>
    intro i s S n hk hi st T hn hS q
    obtain rfl : i = m := by omega
    refine codeAny_builtin PyProof.Rows.F.entry_set_update_loop ?_; rw [Around.under_plainId PyProof.Rows.F.plain_set_update_loop _]
    show wpAny _ A.in1 (pyNext (.ref I) >>= _) _ _ _
    refine wpAny_bind (W.done s _ _ st fun s1 mv => ?_); show wpAny _ _ (ret Value.none) _ _ _
    exact wpAny_pure (q s1 S n (mv.mono up) (T.keep fun o => mv.heap C o hCw) hn hS)
  | succ k ih =>
    intro i s S n hk hi st T hn hS q
    have hlt : i < m := by omega
    refine codeAny_builtin PyProof.Rows.F.entry_set_update_loop ?_; rw [Around.under_plainId PyProof.Rows.F.plain_set_update_loop _]
    show wpAny _ A.in1 (pyNext (.ref I) >>= _) _ _ _
    refine wpAny_bind (W.item i s _ _ hlt st fun v s1 hp st1 mv => ?_)
    obtain ⟨tk, rfl⟩ := hv i v hp
    show wpAny _ A.in1 (holding [Value.str (zs i) tk] (setAdd C (.str (zs i) tk)) >>= _) _ _ _
    refine wpAny_bind (wpAny_holding ?_); unfold setAdd
    refine wpAny_holding (wpAny_bind ((PySem.strKind P w).pyHash (k := zs i) (strKind_is _ _ _ _) ?_))
    refine tx_add (s := { s1 with toks := s1.toks + 1 }) (T.keep fun o => mv.heap C o hCw) (by omega) fun h' sb T2 => ?_
    refine wpAny_pure ⟨plainId_quiet PyProof.Rows.F.plain_set_update_loop _, ih (i + 1) _ _ _ (by omega) hlt ?_ T2 ?_ (fun y => ?_) fun s2 S2 n2 mv2 T3 => ?_⟩
    · refine W.frame _ s1 _ _ st1 (Nat.le_succ _) fun b hb o e => ?_
      show h'.get? b = some o
      rw [sb.2 b fun h => hC (h ▸ hb)]
      exact e
    · split <;> omega
    · rw [Bool.or_eq_true, decide_eq_true_eq, hS y]
      constructor
      · rintro (⟨j, hj, e⟩ | e)
        · exact ⟨j, by omega, e⟩
        · exact ⟨i, by omega, e.symm⟩
      · rintro ⟨j, hj, e⟩
        by_cases h : j = i
        · exact .inr (by rw [← e, h])
        · exact .inl ⟨j, by omega, e⟩
    · refine q s2 S2 n2 (Moved.trans W.gtrans ((mv.mono up).then_heap (Nat.le_succ _) fun b o hb e => ?_) mv2) T3
      show h'.get? b = some o
      rw [sb.2 b fun h => hb (h ▸ List.mem_cons_self)]
      exact e
/-- set(texts) -/
theorem tx_set {l : Addr} {items : Array Value} {zs : List Str} {Q : Value → Shared → Prop} (hh : A.handled = none) (hl : s.heap.IsList l items) (hi : StrsAre items.toList zs) (room : zs.length + 1 < scanBound)
    (q : ∀ (h' : Heap) (tk : Nat) (S : Str → Bool) (n : Nat), TxSet P w h' s.heap.objs.size S n → n ≤ zs.length → (∀ y, S y = true ↔ y ∈ zs) → (∀ b o, s.heap.get? b = some o → h'.get? b = some o) → Q (.ref s.heap.objs.size) { s with heap := h', toks := tk }) :
    wpAny (model P w) A (call (.type "set") [.ref l]) Q E s := by
  have hsz : zs.length = items.size := by rw [← StrsAre.len_eq hi, Array.length_toList]
  have hval : ∀ (i : Nat) (v : Value), items[i]? = some v → ∃ t, v = .str (zs.getD i Str.empty) t := fun i v e => SS.strs_at hi i v (by rw [Array.getElem?_toList]; exact e)
  obtain ⟨c0, tl0, hm0⟩ := F.called_set.mro
  have g1 := F.called_set.made; have g2 := F.called_set.sub; have g3 := F.called_set.notType; have g4 := F.called_set.canCreate; have g5 := F.typeCall_set_1 (.ref l)
  refine wpAny_call (codeAny_of_tree ?_); show wpAny _ _ (callAny (.type "set") _) _ _ _
  refine wpAny_pure ⟨Code.quiet_builtin _ (by decide +kernel), codeAny_builtin F.entry_type_call ?_⟩; rw [Around.under_plain (weight_type_call_type "set" [.ref l] []) rfl]
  repeat (any_goals (first | assumption | wp_step))
  have hT0 := txSet_fresh (h := s.heap) P w
  obtain ⟨O0, hO⟩ : ∃ O0 : Obj, O0 = { cls := .type "set", dict := none, data := .set #[] 0 (.fresh 0 0 (!w.params.followText "set-order")) } := ⟨_, rfl⟩
  refine codeAny_mono (code_set_led1 (.ref l) (E := E) (Q₁ := fun x s1 => x = .ref s.heap.objs.size ∧ s1 = { s with heap := s.heap.push O0 }) (by rw [hO]; exact ⟨rfl, rfl⟩)) fun r s1 hr => ?_
  rw [← hO] at hT0
  have hcls : O0.cls = .type "set" := by subst hO; rfl
  have hfr : O0.isFreed = false := by subst hO; rfl
  rcases r with e1 | fl1
  · exact hr
  rcases fl1 with _ | _ | _ | x
  all_goals first | exact hr.elim | skip
  · obtain ⟨rfl, rfl⟩ := hr
    have k1 : (s.heap.push O0).get? s.heap.objs.size = some O0 := Heap.get?_push_size _ hfr
    have k2 : Shared.TypeIs { s with heap := s.heap.push O0 } (.ref s.heap.objs.size) "set" := ⟨O0, k1, hcls⟩
    have k3 := F.called_set.init.lookup; have k4 := F.called_set.init.bind (.ref s.heap.objs.size)
    repeat (any_goals (first | assumption | wp_step))
    refine codeAny_mono (codeAny_call_builtin (R := wants (fun r s2 => r = .none ∧ ∃ h' tk S n, s2 = { s with heap := h', toks := tk } ∧ TxSet P w h' s.heap.objs.size S n ∧ n ≤ zs.length ∧ (∀ y, S y = true ↔ y ∈ zs) ∧ (∀ b o, s.heap.get? b = some o → h'.get? b = some o)) E) F.called_set.init.plain F.entry_set_init (check_set_init_1 k2 ?_)) fun r2 s2 hr2 => ?_
    · obtain ⟨⟨ocls, odict, odata, oslots⟩, hol, hcl, nl, hdl⟩ := hl
      simp only at hcl hdl; subst hcl; subst hdl
      have hlS : l < s.heap.objs.size := Heap.lt_size hol
      have m1 : (s.heap.push O0).get? l = some { cls := .type "list", dict := odict, data := .seq items nl, slots := oslots } := Heap.get?_push_of_some _ hol
      have m2 := F.sub_list_set; have m3 := F.sub_list_frozenset
      have m4 : (Value.type "list" == Value.type "dict") = false := by decide
      have hl1 : (s.heap.push O0).IsList l items := ⟨_, m1, rfl, nl, rfl⟩
      have hps : (s.heap.push O0).objs.size = s.heap.objs.size + 1 := Heap.size_push ..
      unfold Builtin.«set.__init__» noKeywords Builtin.Frozenset.updateFrom; generalize hPI : pyIter = PI
      subst hO
      wp_walk
      subst hPI
      refine wpAny_pyIter_list hl1 ?_
      refine wpAny_bind (wpAny_runValue ?_)
      refine tx_loop ((Walks.list (show A.in1.in1.in1.handled = none by simp [hh]) _ l (Nat.ne_of_lt (by rw [hps]; exact Nat.lt_succ_of_lt hlS)) items).toS) (C := s.heap.objs.size) ?_ (fun i => zs.getD i Str.empty) hval (by rw [← hsz]; exact room) (items.size - 0) 0 _ (fun _ => false) 0 (by omega) (Nat.zero_le _)
        ⟨⟨_, Heap.get?_push_size _ rfl, rfl, rfl⟩, hl1.push _⟩ ?_ (Nat.zero_le _) (fun y => by simp) ?_
      · intro h
        rcases List.mem_cons.mp h with h | h
        · rw [hps] at h; exact Nat.ne_of_lt (Nat.lt_succ_self _) h
        · rw [List.mem_singleton] at h; exact Nat.ne_of_gt hlS h
      · exact hT0.keep fun o e => Heap.get?_push_of_some _ e
      · intro s3 S n mv T hn hS
        obtain ⟨h3, g3, d3, t3, o3⟩ := s3
        obtain rfl : g3 = s.gens := mv.gens
        obtain rfl : d3 = s.drawn := mv.drawn
        obtain rfl : o3 = s.os := mv.os
        show wpAny _ _ _ _ _ _
        refine wpAny_pure ?_
        show wpAny _ _ (ret Value.none) _ _ _
        refine wpAny_pure ⟨rfl, h3, t3, S, n, rfl, T, by omega, fun y => ?_, fun b o e => ?_⟩
        · rw [hS y, List.mem_iff_getElem?]
          constructor
          · rintro ⟨j, hj, e⟩
            exact ⟨j, by rw [← e, List.getD_eq_getElem?_getD, List.getElem?_eq_getElem (by omega)]; rfl⟩
          · rintro ⟨j, e⟩
            have hj := (List.getElem?_eq_some_iff.mp e).1
            exact ⟨j, by omega, by rw [List.getD_eq_getElem?_getD, e]; rfl⟩
        · have hb := Heap.lt_size e
          refine mv.heap b o (fun h => ?_) (Heap.get?_push_of_some _ (Heap.get?_push_of_some _ e))
          rcases List.mem_cons.mp h with h | h
          · exact Nat.ne_of_lt hb h
          · have h := List.mem_singleton.mp h
            rw [hps] at h; exact Nat.ne_of_lt (Nat.lt_succ_of_lt hb) h
    · rcases r2 with e2 | fl2
      · exact hr2
      rcases fl2 with _ | _ | _ | x
      all_goals first | exact hr2.elim | skip
      · obtain ⟨rfl, h', tk, S, n, rfl, T, hn, hS, kp⟩ := hr2
        repeat (any_goals (first | assumption | wp_step))
        exact q _ _ S n T hn hS kp
/-- sorted(a set of texts) -/
theorem tx_strs : ∀ (vs : List Value), (∀ v ∈ vs, ∃ z t, v = Value.str z t) → ∃ zs, StrsAre vs zs ∧ zs = vs.map fun v => txK (0, v)
  | [], _ => ⟨[], .nil, rfl⟩
  | v :: vs, h => by
    obtain ⟨z, t, rfl⟩ := h v (List.mem_cons_self ..)
    obtain ⟨zs, a, b⟩ := tx_strs vs fun u m => h u (List.mem_cons_of_mem _ m)
    exact ⟨z :: zs, .cons z t a, by rw [b]; rfl⟩
theorem tx_sorted {Q : Value → Shared → Prop} (R : TxSet P w s.heap a S n) (hh : A.handled = none) (h64 : n < 64)
    (q : ∀ (s' : Shared) (p : Addr) (out : Array Value) (c : Nat) (zs : List Str), (∀ b o, s.heap.get? b = some o → s'.heap.get? b = some o) → s'.gens = s.gens → s'.os = s.os → s.heap.objs.size ≤ p →
      s'.heap.get? p = some (seqObj "list" out c) → StrsAre out.toList zs → sortedS zs = true → zs.Nodup → (∀ y, y ∈ zs ↔ S y = true) → zs.length = n → Q (.ref p) s') :
    wpAny (model P w) A (call (.builtin "sorted") [.ref a]) Q E s := by
  obtain ⟨o, es, ep, t, ho, hx, hd, hn, T⟩ := R
  refine Calls.call_function_entry kind_sorted plain_sorted entry_sorted (args_sorted1 _) ?_; unfold Builtin.«sorted»
  refine wpAny_bind (m := checkCount "sorted" 1 1 _) (wpAny_pure (wpAny_bind ?_))
  refine L2.collect_set (A := A.in1) hh ⟨o, ho, hx.1, hd⟩ T.fit T.few T.ris T.led fun s1 vs k1 hz g1 o1 pm => ?_
  have len : vs.length = n := by rw [pm.length_eq, List.length_map, Array.length_toList, hn]
  obtain ⟨zs, hI, hzs⟩ := tx_strs vs fun v hv => by
    obtain ⟨e, he, rfl⟩ := List.mem_map.mp (pm.mem_iff.mp hv)
    obtain ⟨z, u, e1, _⟩ := T.good e he
    exact ⟨z, u, e1⟩
  have pz : zs.Perm (es.toList.map txK) := by
    have := pm.map fun v => txK (0, v)
    rw [← hzs, List.map_map] at this
    exact this
  refine wpAny_bind (wpAny_newList ?_ (by rw [len, sizeLine_eq]; omega))
  have at0 : (s1.heap.push (seqObj "list" vs.toArray 0)).get? s1.heap.objs.size = some (seqObj "list" vs.toArray 0) := Heap.get?_push_size _ rfl
  refine wpAny_bind (wpAny_holding (wpAny_call_entry slot_list_sort ⟨_, at0, rfl⟩ entry_list_sort (list_sort_treeK strKind_oneLt at0 hI.keysOf (fun v1 v2 rest e => keyKind_strs (by rw [← e]; exact hI)) (by omega) fun st hp hs => ⟨_, rfl, ?_⟩) (args_list_sort _)))
  obtain ⟨zs', a1, a2, a3⟩ := sorted_out_str hI hp hs
  obtain ⟨c, hc⟩ := sortedHeap_at (vs := vs) (out := (arrOf st).map (·.2)) at0
  have p2 := a2.trans pz
  refine wpAny_pure ⟨_, rfl, q _ s1.heap.objs.size _ c zs' (fun b u e => ?_) g1 o1 hz hc a1 a3 (p2.nodup_iff.mpr T.nd) (fun y => by rw [p2.mem_iff, T.mem y]) (by rw [p2.length_eq, List.length_map, Array.length_toList, hn])⟩
  have e1 := k1 b u e
  have lt := Heap.lt_size e1
  show (sortedHeap (s1.heap.push (seqObj "list" vs.toArray 0)) s1.heap.objs.size vs _).get? b = some u
  rw [sortedHeap_old (Nat.ne_of_lt lt) (by rw [size_push']; exact Nat.lt_succ_of_lt lt)]
  exact Heap.get?_push_of_some _ e1
end
/-! over the hand layer -/
def TxO (P : Program) (w : World) (a : Addr) (S : Str → Bool) (n : Nat) : HO := .ext fun h => TxSet P w h a S n
theorem txO_new {P : Program} {w : World} {H : Hp} {h : Heap} {a : Addr} {S : Str → Bool} {n : Nat} (R : TxSet P w h a S n) : ObjOk P w H h a (TxO P w a S n) := by
  obtain ⟨o, _, _, _, ho, _⟩ := id R
  exact ⟨R, ⟨o, ho⟩, fun _ _ r k => r.keep k⟩
section
variable {X : Cx}
theorem cr_setTx (hc : X.calm = true) : CallR X (.type "set") (fun xs H Q => ∃ (l : Addr) (zs : List Str), xs = [V.ref l] ∧ SqL X.K H l (zs.map V.str) ∧ zs.length < 64 ∧
    ∀ a S n, H a = none → n ≤ zs.length → (∀ y, S y = true ↔ y ∈ zs) → Q (.ref a) (upd H a (TxO X.prog X.w a S n))) := by
  intro pins s σ H xs us Q I r h
  obtain ⟨l, zs, rfl, hl, hz, q⟩ := h
  rw [Vals.ref1 r]
  obtain ⟨its, rv, pl, _⟩ := I.list hl
  refine tx_set (P := X.prog) (w := X.w) (zs := zs) (I.ok.hd hc) pl.isList (by simpa using rv.strs) (by unfold scanBound; omega) fun h' tk S n T hn hS k => ?_
  exact ⟨.ref s.heap.objs.size, upd H s.heap.objs.size (TxO X.prog X.w s.heap.objs.size S n), I.laid (t' := tk) k (Nat.le_refl _) (txO_new T), rfl, q _ S n (I.hok.fresh (Nat.le_refl _)) hn hS⟩
theorem cr_sortTx (hc : X.calm = true) : CallR X (.builtin "sorted") (fun vs H Q => ∃ (a : Addr) (S : Str → Bool) (n : Nat), vs = [V.ref a] ∧ H a = some (TxO X.prog X.w a S n) ∧ n < 64 ∧
    ∀ (zs : List Str) (p : Addr), sortedS zs = true → zs.Nodup → (∀ y, y ∈ zs ↔ S y = true) → H p = none → Q (.ref p) (upd H p (.lst (zs.map V.str)))) := by
  intro pins s σ H vs us Q I r h
  obtain ⟨a, S, n, rfl, ha, h64, q⟩ := h
  have R : TxSet X.prog X.w s.heap a S n := (I.hok a _ ha).1
  rw [Vals.ref1 r]
  refine tx_sorted R (I.ok.hd hc) h64 fun s' p out c zs k g o hp hg hi hs hnd hm hl => ?_
  have hn : H p = none := I.hok.fresh hp
  have J : Inv X pins σ (upd H p (.lst (zs.map V.str))) { s with heap := s'.heap, gens := s'.gens, drawn := s'.drawn, toks := s'.toks } :=
    I.call (ch := []) (Un.laid k hp hn) (I.hok.laid k hp ⟨by rw [List.length_map, hl, sizeLine_eq]; omega, out.toList, c, vals_of_strs hi, hg⟩) (by rw [g]; exact I.bare) (fun _ z => nomatch z)
  have e : s' = { s with heap := s'.heap, gens := s'.gens, drawn := s'.drawn, toks := s'.toks } := by
    obtain ⟨_, _, _, _, _⟩ := s'
    obtain ⟨_, _, _, _, _⟩ := s
    cases o; rfl
  rw [e]
  exact ⟨.ref p, _, J, rfl, q zs p hs hnd hm hn⟩
end
end Mb

/-! Mb, part 64: sorted(set(texts)) as a rule; sorted lists of texts without doubles are one. -/
namespace Mb
open PySem L2 PyProof.Rows
theorem reps_sok {K : PySem.W.Frag} {G : Hp} : ∀ {zs : List Str} {vs : List V}, Reps K G vs (zs.map D.str) → ∀ z ∈ zs, SOk z
  | [], _, _, z, m => by cases m
  | y :: zs, _, .cons h r, z, m => by
    rcases List.mem_cons.mp m with rfl | m
    · cases h; assumption
    · exact reps_sok r z m
theorem rising_pw : ∀ (p : Str) (l : List Str), risingS p l = true → (p :: l).Pairwise fun a b => ¬ b.cps.toList < a.cps.toList
  | p, [], _ => List.pairwise_singleton _ _
  | p, x :: r, h => by
    have h : (!PySem.Spec.ltCps x.cps.toList p.cps.toList && risingS x r) = true := h
    rw [Bool.and_eq_true, PyProof.Rows.ltCps_eq, Bool.not_eq_true', decide_eq_false_iff_not] at h
    have h2 := rising_pw x r h.2
    refine List.pairwise_cons.mpr ⟨fun y hy => ?_, h2⟩
    rcases List.mem_cons.mp hy with rfl | hy
    · exact h.1
    · exact fun c => h.1 (List.lt_of_le_of_lt (List.not_lt.mp ((List.pairwise_cons.mp h2).1 y hy)) c)
theorem sortS_pw : ∀ {l : List Str}, sortedS l = true → l.Pairwise fun a b => ¬ b.cps.toList < a.cps.toList
  | [], _ => List.Pairwise.nil
  | x :: r, h => rising_pw x r h
theorem str_antisymm {a b : Str} (h1 : ¬ a.cps.toList < b.cps.toList) (h2 : ¬ b.cps.toList < a.cps.toList) : a = b := by
  have h := List.le_antisymm (List.not_lt.mp h2) (List.not_lt.mp h1)
  cases a; cases b
  simp only [Str.mk.injEq]
  exact Array.toList_inj.mp h
/-- sorted lists without doubles are told by their members -/
theorem sortS_uniq : ∀ {a b : List Str}, sortedS a = true → sortedS b = true → a.Nodup → b.Nodup → (∀ y, y ∈ a ↔ y ∈ b) → a = b := by
  intro a b ha hb na nb h
  have pm : a.Perm b := (List.perm_ext_iff_of_nodup na nb).mpr h
  exact pm.eq_of_pairwise (le := fun a b => ¬ b.cps.toList < a.cps.toList) (fun x y _ _ h1 h2 => str_antisymm h2 h1) (sortS_pw ha) (sortS_pw hb)
section
variable {X : Cx} {B : Base} {ex : XD} {ss : Sst} {M : Mem} {a b e o : Expr} {es : List Expr} {pos p p2 pos2 apos : Pos} {Q : SV → Mem → Prop}
/-- sorted(xs), fewer than 64 texts: a list of the asker's own -/
def sortSC (M : Mem) (d : D) (Q : SV → Mem → Prop) : Prop := match d with
  | .lst ds => ∃ zs : List Str, ds = zs.map D.str ∧ zs.length < 64 ∧ ∀ zs' : List Str, zs'.Perm zs → sortedS zs' = true → Q (.cel M.length) (M ++ [.lst (zs'.map D.str)])
  | _ => False
theorem we_sortSC (hm : X.mg "sorted" = none) (hg : Gl X "sorted") (h : WA X B ex (e :: es) (fun xs M1 => arg1 sortSC M1 xs Q) ss M)
    (he : starEach (e :: es) X.env = (false, eval e X.env) :: starEach es X.env := by rfl) (hpl : (backTo pos (starEach es X.env)).any (·.1) = false := by rfl) : WE X B ex (.Call (.Name "sorted" p) (e :: es) [] pos) Q ss M := by
  refine we_cb (f := arg1 sortSC) cr_sortedS (fun G A H M xs vs Q Kq w r h k => ?_) hm (by decide +kernel) hg h (he := he) (hpl := hpl)
  obtain ⟨v, d, rfl, q, h⟩ := arg1_get w r h
  cases d <;> try exact h.elim
  obtain ⟨zs, rfl, hz, h⟩ := h
  obtain ⟨l, vs, rfl, hl, r⟩ := q
  have e0 := (reps_strs r).1
  rw [e0] at hl
  exact ⟨l, zs, rfl, .inl hl, hz, fun zs' p hp hs hn => k.newC .refl w (strs_perm r hp) (h zs' hp hs) p hn⟩
/-- sorted(set(xs)), fewer than 64 texts: data -/
def setS (M : Mem) (d : D) (Q : SV → Mem → Prop) : Prop := match d with
  | .lst ds => ∃ zs : List Str, ds = zs.map D.str ∧ zs.length < 64 ∧ ∀ zs' : List Str, sortedS zs' = true → zs'.Nodup → (∀ y, y ∈ zs' ↔ y ∈ zs) → Q (.dat (.lst (zs'.map D.str))) M
  | _ => False
theorem we_sortSet (hc : X.calm = true) (hm : X.mg "sorted" = none) (hg : Gl X "sorted") (hm2 : X.mg "set" = none) (hg2 : Gl X "set") (h : WA X B ex (e :: es) (fun xs M1 => arg1 setS M1 xs Q) ss M)
    (he : starEach (e :: es) X.env = (false, eval e X.env) :: starEach es X.env := by rfl) (hpl : (backTo pos2 (starEach es X.env)).any (·.1) = false := by rfl) : WE X B ex (.Call (.Name "sorted" p) [.Call (.Name "set" p2) (e :: es) [] pos2] [] pos) Q ss M := .mk fun ck G A H σ w sl Kq k => by
  refine te_of (pe_callB (cr_sortTx hc) hg hm (by decide +kernel) (pa_cons (pe_callTy (cr_setTx hc) hg2 hm2 (by decide +kernel) pa_self (by decide) (by decide) he hpl) pa_nil rfl) (by decide) (by decide) rfl rfl) ?_
  refine h ck G A H σ w sl _ fun vs xs G1 A1 M1 H1 e1 w1 s1 h1 => ?_
  obtain ⟨v, d, rfl, q, h⟩ := arg1_get w1 s1 h1
  cases d <;> try exact h.elim
  obtain ⟨zs, rfl, hz, h⟩ := h
  obtain ⟨l, vs, rfl, hl, r⟩ := q
  have e0 := (reps_strs r).1
  rw [e0] at hl r
  refine ⟨l, zs, rfl, .inl hl, hz, fun a S n ha hn hS => ?_⟩
  refine ⟨a, S, n, rfl, upd_same, by omega, fun zs' p hs hd hm hp => ?_⟩
  obtain ⟨w2, e2⟩ := w1.newD (o := TxO X.prog X.w a S n) ha
  refine k.new (e1.trans e2) w2 (h zs' hs hd fun y => (hm y).trans (hS y)) (fun p hp => .lst (.inl upd_same) (strs_reps fun z m => reps_sok r z ((hS z).mp ((hm z).mp m)))) p hp
end
section
variable {X : Cx} {ss : Sst} {M : Mem} {Q : SV → Mem → Prop} {elt c : Expr} {scope : Scope}
/-- a filter of a list of data that keeps what it takes -/
theorem lcq_filterD {j : Nat} {ds l : List D} (e : ds = l) (pr : D → Bool) (hl : l.length ≤ sizeLine)
    (ht : ∀ (i : Nat) (x : D), l[i]? = some x → ∀ (s : Shared) (H : Hp) (C : Addr) (cl : List (Str × Addr)) (fp : List Addr) (B : Base), B.A.length = M.length → WT (Blk X scope s H C cl fp) B exF c (fun b M4 => b = pr x ∧ M4 = M) ((wipeD ss [j]).set j (some (.dat x))) M)
    (he : ∀ (i : Nat) (x : D), l[i]? = some x → pr x = true → ∀ (s : Shared) (H : Hp) (C : Addr) (cl : List (Str × Addr)) (fp : List Addr) (B : Base), B.A.length = M.length → WE (Blk X scope s H C cl fp) B exF elt (fun y M4 => y = .dat x ∧ M4 = M) ((wipeD ss [j]).set j (some (.dat x))) M)
    (q : Q (.dat (.lst (l.filter pr))) M) : ∃ I, I 0 [] M ∧ LcQ X scope elt [c] (tg1 j) [j] ds I Q ss := by
  subst e
  have h := lcq_filter (X := X) (Q := Q) (elt := elt) (c := c) (scope := scope) (ss := ss) (M := M) (j := j) (l := ds) (g := fun d => d) (fun d => d) pr hl ht he (by rw [List.map_id']; exact q)
  rwa [List.map_id'] at h
end
end Mb

/-! Mb, part 65: x.partition(sep). -/
namespace Mb
open PySem L2 PyProof.Rows
def partD (z u : Str) : D := .tup [.str (Txt.partition z u).1, .str (Txt.partition z u).2.1, .str (Txt.partition z u).2.2]
section
variable {X : Cx} {B : Base} {ex : XD} {ss : Sst} {M : Mem} {o e : Expr} {pos apos : Pos} {Q : SV → Mem → Prop}
theorem we_partition (h : WE X B ex o (fun x M1 => ∃ z, x = .dat (.str z) ∧ WE X B ex e (fun y M2 => ∃ u, y = .dat (.str u) ∧ ((u.length == 0) = false ∧ z.length ≤ sizeLine ∧ SOk (Txt.partition z u).1 ∧ SOk (Txt.partition z u).2.1 ∧ SOk (Txt.partition z u).2.2) ∧ Q (.dat (partD z u)) M2) ss M1) ss M)
    (hs : starEach [e] X.env = [(false, eval e X.env)] := by rfl) (hbase : attributeBase o "partition" X.env (eval o X.env) = eval o X.env := by rfl) (hline : (apos.endLine == pos.line) = true := by rfl) :
    WE X B ex (.Call (.Attribute o "partition" apos) [e] [] pos) Q ss M := .mk fun ck G A H σ w sl Kq k => by
  refine te_of (pe_partition pe_self pe_self hs hbase hline) ?_
  refine h ck G A H σ w sl _ fun v x G1 A1 M1 H1 e1 w1 s1 h1 => ?_
  obtain ⟨z, rfl, h1⟩ := h1
  have s1 : Rep X.K G1 v (.str z) := s1
  cases s1 with
  | str _ hz =>
    refine ⟨⟨z, rfl⟩, ?_⟩
    refine h1 ck G1 A1 H1 σ w1 (sl.mono e1) _ fun u y G2 A2 M2 H2 e2 w2 s2 h2 => ?_
    obtain ⟨t, rfl, hc, q⟩ := h2
    have s2 : Rep X.K G2 u (.str t) := s2
    cases s2 with
    | str _ ht =>
      refine ⟨z, t, rfl, rfl, hc.1, hc.2.1, ?_⟩
      exact k.new (e1.trans e2) w2 q fun p hp => .tup (.inl (.inl upd_same)) (.cons (.str _ hc.2.2.1) (.cons (.str _ hc.2.2.2.1) (.cons (.str _ hc.2.2.2.2) .nil)))
end
end Mb

/-! Mb, part 66: defs with defaults; f-strings of ints. -/
namespace Mb
open PySem L2 PyProof.Rows
/-- a law, over a head that tells its facts, its tables and its defs with defaults -/
theorem walkZ {l : PySem.W.OpenLaw} {k : Nat} {q : Program} {loose : List Str} {ns : List Str × List Str} {XP : (Str → Option Value) → Heap → Prop} {d : DefRec} {fa : List (List Fact)} {fn : List He.FnD} {ts : List (Str × List Str)} {ds : List He.DefD} (hn : l.most = some 63) (hdf : d.params.defaults = []) (hdn : d.name = "law") (hr : Room k callerA)
    (F : ∀ (w : World) (mg : Str → Option Value) (h : Heap) (K : PySem.W.Frag), K.In h → h.Ns mainGlobals mg → HeldZ fa fn ts ds w K →
      ∃ (f : Addr) (fd : FuncData), mg "law" = some (.ref f) ∧ (∀ (s : Shared) (u : Value), BindsTo s fd ⟨[u], []⟩ [("_law_script", u)]) ∧ ∀ base : Heap, FnOk l.prog w K mg base (L2.CX l.prog w) k f fd ["_law_script"] (spOf K 0 (sp_law K))) :
    PySem.W.WalkO q loose XP (hookZ ns fa fn ts ds).says l.row.toRowW d [] (fun f vs => PySem.call f vs) := by
  refine Att.attach_call hn hdf fun w s0 s1 mg mb fa o pm cd doc a vs is G Y ho hd hcd hmg hobj hints hlen hg => ?_
  obtain ⟨K, KX, c⟩ := Y
  obtain ⟨f, fd, hf, hb, hF⟩ := F w mg _ K KX G.T.g c
  rw [hdn] at hmg
  obtain rfl : fa = f := by
    have e := hmg.symm.trans hf
    cases e
    rfl
  refine law_call (k := k) KX G.T.g G.T.b G.T.builtins G.T.nolimit hg hobj hints (Nat.le_trans hlen (by decide)) hr (fun base _ _ => hF base) hb (fun H hO hS => law_sp hlen hS) ?_
  intro H e s' z
  obtain ⟨_, _, _, _, _, _, _, _, _, _, _, _, z⟩ := z
  exact z
section
variable {P : Program} {w : World} {K : PySem.W.Frag} {mg : Str → Option Value} {base : Heap}
/-- the rule for a def with defaults -/
theorem fn_okD {x qual : Str} {st : Stmt} {f : Addr} {fd : FuncData} {dvs : List V} {kws : List (Str × V)} {N ps : List Str} {k n : Nat} {S : SpD} (F : FunD K x qual (defArgs st) (defBody st) (defScope st) dvs kws f fd) (Sc : FnScope N ps (defScope st)) (len : ∀ xs M R Rx, S xs M R Rx → xs.length = ps.length)
    (hb : ∀ (cdv : Value) (A : Around) (outer : List Env) (s : Shared) (H : Hp) (E : XK) (B : Base) (xs : List SV) (M : Mem) (R : SV → Mem → Prop) (Rx : Addr → List (Str × D) → Mem → Prop), Room k (A.deeper (envOfC qual (defScope st) s.heap.objs.size f cdv)) → B.A.length = n → S xs M R Rx →
      WB (cxOf (L2.CX P w) P w K mg base N qual (defScope st) f cdv A outer s H E) B (fun C fs _ M => RetX n Rx C fs M) (defBody st) { nx := fun _ M => Ret n R (.dat .non) M, rt := Ret n R } (startD N xs) M) :
    FnOk P w K mg base (L2.CX P w) (k + 1) f fd ps (spOf K n S) := by
  refine F.ok Sc (fun vs H Q E h => ?_) (fun cdv A outer s H vs Q E hr h => ?_)
  · obtain ⟨xs, M, G, A, hn, hw, hv, R, Rx, hS, _⟩ := h
    rw [hv.length]; exact len _ _ _ _ hS
  · obtain ⟨xs, M, G, A0, hn, hw, hv, R, Rx, hS, hR, hX⟩ := h
    refine ⟨tbW _ _, pb_self, ?_⟩
    have ck : Cok (cxOf (L2.CX P w) P w K mg base N qual (defScope st) f cdv A outer s H E) ⟨G, A0, H⟩ (fun C fs _ M => RetX n Rx C fs M) :=
      ⟨(takes_of (E := E) rfl rfl rfl rfl).imp fun cls d σ H' ⟨C, fs, ss, G', A', M', ec, xd, w', sl', q1, q2⟩ => by
        subst ec; exact hX C fs d G' (A'.take n) (M'.take n) H' (w'.drop n (by exact Nat.le_of_eq hn) q1) xd q1 q2, passes_of rfl⟩
    have hRT : ∀ {G' : Hp} {A' : List Addr} {M' : Mem} {H' : Hp} {v : V} {x : SV}, Wd K ⟨G, A0, H⟩ G' A' M' H' → SvOk K G' A' v x → Ret n R x M' → ∃ A2 M2, Wd K ⟨G, A0, H⟩ G' A2 M2 H' ∧ SvOk K G' A2 v x ∧ M2.all (Cell.lt n) = true ∧ R x M2 := fun {G' A' M' H' v x} w' s' q => by
      obtain ⟨h1, h2⟩ := q
      rw [Bool.and_eq_true] at h1
      exact ⟨A'.take n, M'.take n, w'.drop n (Nat.le_of_eq hn) h1.2, s'.cut h1.1, h1.2, h2⟩
    refine hb cdv A outer s H E ⟨G, A0, H⟩ xs M R Rx hr hn hS ck G A0 H _ hw (sl_start hv N) _ ⟨fun σ ss G' A' M' H' _ w' sl' q => ?_, fun v y G' A' M' H' _ w' s' q => ?_, fun _ _ _ _ _ _ _ _ _ q => q.elim, fun _ _ _ _ _ _ _ _ _ q => q.elim⟩
    · obtain ⟨A2, M2, w2, s2, hl, q⟩ := hRT w' (v := .non) (x := .dat .non) .non q
      exact hR .non (.dat .non) G' A2 M2 H' w2 s2 hl q
    · obtain ⟨A2, M2, w2, s2, hl, q⟩ := hRT w' s' q
      exact hR v y G' A2 M2 H' w2 s2 hl q
end
/-- .. called by keywords; its defaults stand behind the keywords' values -/
theorem fun_kbD {K : PySem.W.Frag} {x qual : Str} {params : Arguments} {body : List Stmt} {scope : Scope} {dvs : List V} {f : Addr} {fd : FuncData} (F : FunD K x qual params body scope dvs [] f fd) (ps : List Str) (np : Nat) (ks : List Str) (is : List Nat) (hd : dvs ≠ [])
    (h : ∀ (T : Addr) (kV doc pm : Value) (an : Option Addr) (cdv ct : Value) (us its ws : List Value), us.length = np → its.length = dvs.length → ws.length = ks.length →
      ∃ k, bindArgs (PySem.W.fnOf x qual params body scope (.ref T) kV doc pm an cdv ct) ⟨us, ks.zip ws⟩ = seqItems? (.ref T) >>= k ∧ k (some its.toArray) = pure (ps.zip (pick is (us ++ (ws ++ its))))) :
    ∃ ds, Vals dvs ds ∧ KB K fd ps np ks is ds := by
  obtain ⟨oc, od, dV, kV, doc, pm, an, cdv, ct, osl, rfl, lk, hcd, hD, hK⟩ := F.ex
  rcases hD with ⟨e, _⟩ | ⟨_, T, o, its, m, rfl, lT, oT, rT⟩
  · exact absurd e hd
  · refine ⟨its, rT, ⟨fun s us ws X l1 l2 => ?_⟩⟩
    obtain ⟨k, e1, e2⟩ := h T kV doc pm an cdv ct us its ws l1 rT.length.symm l2
    refine BindsTo.of_looks fun M => ?_
    rw [e1]
    exact looks_items X lT oT (.of_pure e2)
section
variable {X : Cx} {B : Base} {ex : XD} {ss : Sst} {M : Mem} {a b c e : Expr} {pos p1 p2 p3 p4 : Pos} {Q : SV → Mem → Prop}
/-- f"{a}.{b}" of two ints -/
theorem we_fmt2 {z : Str} {j : Nat} (h : WE X B ex a (fun x M1 => ∃ i : Int, x = .dat (.int i) ∧ (i.natAbs.log2 < 1920 ∧ (toString i : Str).length ≤ 1000 ∧ z.length ≤ 1000) ∧ WE X B ex b (fun y M2 => ∃ k : Int, y = .dat (.int k) ∧ (k.natAbs.log2 < 1920 ∧ (toString k : Str).length ≤ 1000) ∧ SOk ((toString i : Str) ++ z ++ (toString k : Str)) ∧ Q (.dat (.str ((toString i : Str) ++ z ++ (toString k : Str)))) M2) ss M1) ss M) :
    WE X B ex (.JoinedStr [.FormattedValue a (-1) none p1, .Constant (.str z) j p3, .FormattedValue b (-1) none p2] pos) Q ss M := .mk fun ck G A H σ w sl Kq k => by
  have hz : ∀ n : Nat, n ≤ 3000 → n ≤ sizeLine := fun n h => Nat.le_trans h (by decide)
  have ha : ∀ x y : Str, (x ++ y).length = x.length + y.length := fun x y => by
    show (x.cps ++ y.cps).size = _
    rw [Array.size_append]
    rfl
  have he : ∀ x : Str, Str.empty ++ x = x := fun x => by
    show (⟨Str.empty.cps ++ x.cps⟩ : Str) = x
    have : Str.empty.cps ++ x.cps = x.cps := by
      show #[] ++ x.cps = x.cps
      simp
    rw [this]
  refine te_of (pe_joined (.cons (pe_fmt pe_self) (.cons pe_str (.cons (pe_fmt pe_self) .nil)))) ?_
  refine h ck G A H σ w sl _ fun u x G1 A1 M1 H1 e1 w1 s1 h1 => ?_
  obtain ⟨i, rfl, ⟨hi, l1, l2⟩, h1⟩ := h1
  have s1 : Rep X.K G1 u (.int i) := s1
  cases s1
  refine .inr ⟨i, rfl, hi, _, rfl, ?_, ?_⟩
  · rw [he]
    exact hz _ (by omega)
  refine ⟨_, rfl, ?_, ?_⟩
  · rw [he, ha]
    exact hz _ (by omega)
  refine h1 ck G1 A1 H1 σ w1 (sl.mono e1) _ fun v y G2 A2 M2 H2 e2 w2 s2 h2 => ?_
  obtain ⟨k2, rfl, ⟨hk, l3⟩, ok, q⟩ := h2
  have s2 : Rep X.K G2 v (.int k2) := s2
  cases s2
  refine .inr ⟨k2, rfl, hk, _, rfl, ?_, ?_⟩
  · rw [he, ha, ha]
    exact hz _ (by omega)
  · rw [he]
    exact k.flat (e1.trans e2) w2 (.str _ ok) q
end
/-! ### a comprehension whose two names take lists of two -/
section
variable {X : Cx} {B : Base} {ex : XD} {ss : Sst} {M : Mem} {iter elt : Expr} {ifs : List Expr} {pos : Pos} {Q : SV → Mem → Prop} {scope : Scope}
def tg2L (i j : Nat) (d : D) (ss : Sst) (R : Sst → Prop) : Prop := ∃ a b, d = .lst [a, b] ∧ R ((ss.set i (some (.dat a))).set j (some (.dat b)))
theorem tgOk2L {K : PySem.W.Frag} {i j : Nat} (hij : i ≠ j) : TgOk K (gLst K 2 (gCons (gName i) (gCons (gName j) gNil))) (tg2L i j) [i, j] := by
  refine ⟨fun {B G A M H v d σ ss R Q'} w sl r h k => ?_⟩
  obtain ⟨a, b, rfl, h⟩ := h
  cases r with
  | lst hl r =>
    cases r with
    | cons r1 r =>
      cases r with
      | cons r2 r =>
        cases r
        refine ⟨_, _, rfl, .inl (rdM w.gh hl), rfl, _, _, rfl, _, _, rfl, rfl, ?_⟩
        exact k _ _ (set_back σ i j hij _ _) (((sl.wipe [i, j]).set (x := .dat a) r1 i).set (x := .dat b) r2 j) h
theorem we_lc2L {x y : Str} {i j kt : Nat} {tp tp1 tp2 : Pos} (hc : X.calm = true) (hN : X.N.Nodup) (ok : BlkOk X.N X.env.scope scope [(x, i), (y, j)]) (hi : X.N[i]? = some x) (hj : X.N[j]? = some y) (hij : i ≠ j) (hL : ∀ s H C cl fp, Loc (Blk X scope s H C cl fp).env.scope x) (hL2 : ∀ s H C cl fp, Loc (Blk X scope s H C cl fp).env.scope y) (hl : ifs.length ≤ 1)
    (h : WI X B ex (.Tuple [.Name x tp1, .Name y tp2] kt tp) iter (fun ds M1 => ∃ I, I 0 [] M1 ∧ LcQ X scope elt ifs (tg2L i j) [i, j] ds I Q ss) ss M)
    (hf : ∀ s H C cl fp, (Blk X scope s H C cl fp).fn x = true ∨ (Blk X scope s H C cl fp).env.scope.names.lookup x = some .local := by intro _ _ _ _ _; first | exact .inl rfl | exact .inr rfl)
    (hf2 : ∀ s H C cl fp, (Blk X scope s H C cl fp).fn y = true ∨ (Blk X scope s H C cl fp).env.scope.names.lookup y = some .local := by intro _ _ _ _ _; first | exact .inl rfl | exact .inr rfl)
    (hs : ∀ x, foldedSetIterable iter X.env x = pure x := by intro _; rfl) : WE X B ex (.ListComp elt [⟨.Tuple [.Name x tp1, .Name y tp2] kt tp, iter, ifs, 0⟩] scope pos) Q ss M := .mk fun ck G A H σ w sl Kq k => by
  refine te_of (pe_lc (own := [(x, i), (y, j)]) (g := gLst X.K 2 (gCons (gName i) (gCons (gName j) gNil))) hc hN pi_self ok (fun s H C cl fp => pg_lst hc (pgs_cons (pg_name (i := i) hN hi (hL s H C cl fp) (hf s H C cl fp)) (pgs_cons (pg_name (i := j) hN hj (hL2 s H C cl fp) (hf2 s H C cl fp)) pgs_nil))) (fun s H C cl fp => ps_blk hl) (fun s H C cl fp => pe_blk) hs) ?_
  exact lc_all ck (tgOk2L hij) w sl k h
theorem lcq_map2L {j j' : Nat} {ds : List D} (f : D → D) (hl : ds.length ≤ sizeLine)
    (ht : ∀ (i : Nat) (d : D), ds[i]? = some d → ∃ a b, d = .lst [a, b] ∧ ∀ (s : Shared) (H : Hp) (C : Addr) (cl : List (Str × Addr)) (fp : List Addr) (B : Base), B.A.length = M.length → WE (Blk X scope s H C cl fp) B exF elt (fun y M4 => y = .dat (f d) ∧ M4 = M) (((wipeD ss [j, j']).set j (some (.dat a))).set j' (some (.dat b))) M)
    (q : Q (.dat (.lst (ds.map f))) M) : ∃ I, I 0 [] M ∧ LcQ X scope elt [] (tg2L j j') [j, j'] ds I Q ss := by
  refine ⟨fun i acc M' => i ≤ ds.length ∧ acc = (ds.take i).map f ∧ M' = M, ⟨Nat.zero_le _, rfl, rfl⟩, ?_, ?_⟩
  · rintro i d acc M' hd ⟨hi, rfl, rfl⟩
    have hlt := (List.getElem?_eq_some_iff.mp hd).1
    obtain ⟨a, b, e, ht⟩ := ht i d hd
    refine ⟨a, b, e, ?_⟩
    intro s H C cl fp B hB
    refine (ht s H C cl fp B hB).mono ?_
    rintro y M4 ⟨rfl, rfl⟩
    refine ⟨_, rfl, ?_, hlt, map_take_succ f hd, rfl⟩
    rw [List.length_map, List.length_take]
    omega
  · rintro acc M' ⟨_, rfl, rfl⟩
    rw [List.take_length]
    exact q
end
end Mb

/-! Mb, part 67: list.count, list.index by data. -/
namespace Mb
open PySem L2 PyProof.Rows
/-- how many are equal to it -/
def rHowM (K : PySem.W.Frag) : V → List V → Hp → VK → Prop := fun x xs H Q => ∃ (a : Addr) (y : V) (d : PyData) (ds : List PyData), (x = V.ref a ∧ xs = [y]) ∧ (Dp K H (V.ref a) (.list ds) ∧ Dp K H y d) ∧
  (SeqAt.shaped (.list ds) = true ∧ SeqAt.shaped d = true) ∧ Q (.int (ds.countP fun z => PyData.eqv z d : Nat)) H
theorem countP_map_of {α β : Type} (f : α → β) (p : β → Bool) : ∀ l : List α, (l.map f).countP p = l.countP fun a => p (f a)
  | [] => rfl
  | x :: l => by rw [List.map_cons, List.countP_cons, List.countP_cons, countP_map_of f p l]
theorem mt_howM {X : Cx} (hu : X.A.units + 65 < cLine) : MtR X "list.count" (rHowM X.K) := fun pins s σ H x xs v us Q I rx rxs h => by
  obtain ⟨a, y, d, ds, ⟨rfl, rfl⟩, ⟨hl, hy⟩, ⟨sl, sd⟩, q⟩ := h
  cases rx
  obtain ⟨uy, rfl, ry⟩ := rxs.one
  obtain ⟨bs, r1⟩ := Dp.reads I d y uy hy ry
  have hxs : PyData.canLayAll0 ds = true := SeqAt.canLay_of_shaped sl
  have hrm := room_in_shaped (A := X.A) (xs := ds) sd hu
  cases hl with
  | lst hs ha =>
    obtain ⟨its, rv, ⟨⟨cl, dd, da, sls⟩, n, ho, hc, hdn, hdt⟩, hlen⟩ := I.list hs
    obtain rfl : cl = _ := hc
    obtain rfl : da = _ := hdt
    obtain ⟨as, r4⟩ := Dp.readsAll I ds _ its ha rv
    have hmp : its.map (SeqAt.readOf s.heap) = ds := SeqAt.readsAll_map ds its as hxs r4
    refine call_meets PySem.F.slot_list_count ⟨_, ho, rfl⟩ PySem.F.entry_list_count (PySem.F.args_list_count_2 _ _)
      (SeqAt.list_countAt a its.toArray n dd sls uy (fun u => PyData.eqv (SeqAt.readOf s.heap u) d)) ⟨ho, ?_, ?_⟩
    · exact SeqAt.items_eqAt (vs := its.toArray) (as := as) r4 r1 hxs (SeqAt.canLay_of_shaped sd) hrm
    · refine ⟨.int (ds.countP fun z => PyData.eqv z d : Nat), H, I.tok _, ⟨s.toks, ?_⟩, q⟩
      have e : its.toArray.toList.countP (fun u => PyData.eqv (SeqAt.readOf s.heap u) d) = ds.countP fun z => PyData.eqv z d := by
        rw [← hmp, countP_map_of]
      rw [e]
section
variable {X : Cx} {B : Base} {ex : XD} {ss : Sst} {M : Mem} {a b e o : Expr} {es : List Expr} {pos p apos : Pos} {Q : SV → Mem → Prop}
theorem pys_map (ds : List D) : pys ds = ds.map py := by
  induction ds with
  | nil => rfl
  | cons x r ih => show py x :: pys r = _; rw [ih]; rfl
theorem we_lcount (hu : X.A.units + 65 < cLine) (h : WE X B ex o (fun x M1 => ∃ ds : List D, x = .dat (.lst ds) ∧ D.pl 60 (.lst ds) = true ∧ WA X B ex [e] (fun ys M2 => ∃ d, ys = [.dat d] ∧ D.pl 60 d = true ∧ Q (.dat (.int ((ds.countP fun z => deq z d : Nat) : Int))) M2) ss M1) ss M)
    (hbase : attributeBase o "count" X.env (eval o X.env) = eval o X.env := by rfl)
    (hfew : ((backTo pos (starEach [e] X.env)).all (fun x => !x.1) && (backToKw pos (keywordEach [] X.env)).all (fun x => x.1.isSome) && decide ([e].length + ([] : List Keyword).length + (if ([] : List Keyword).isEmpty then 0 else 1) < 30)) = true := by rfl)
    (hline : (apos.endLine == pos.line) = true := by rfl) (hs : starEach [e] X.env = (false, eval e X.env) :: starEach [] X.env := by rfl) (hpl : (backTo pos (starEach [] X.env)).any (·.1) = false := by rfl) :
    WE X B ex (.Call (.Attribute o "count" apos) [e] [] pos) Q ss M := .mk fun ck G A H σ w sl Kq k => by
  refine te_of (pe_bm PySem.F.plainAttrs_list PySem.F.slot_list_count PySem.F.type_list_count (mt_howM hu) pe_self pa_self hbase hfew hline hs hpl) ?_
  refine h ck G A H σ w sl _ fun v x G1 A1 M1 H1 e1 w1 s1 h1 => ?_
  obtain ⟨ds, rfl, pd, h1⟩ := h1
  have s1 : Rep X.K G1 v (.lst ds) := s1
  obtain ⟨l, vs, rfl, hl, r⟩ := Rep.s w1.gh s1
  refine ⟨.inl ⟨rfl, _, .inl hl⟩, ?_⟩
  refine h1 ck G1 A1 H1 σ w1 (sl.mono e1) _ fun us ys G2 A2 M2 H2 e2 w2 s2 h2 => ?_
  obtain ⟨d, rfl, pdd, q⟩ := h2
  cases s2 with
  | cons ru rr =>
    cases rr
    have q1 : Rep X.K H2 (.ref l) (.lst ds) := s1.mono (e2.1.trans w2.gh)
    have q2 := Rep.mono w2.gh (show Rep X.K G2 _ d from ru)
    refine ⟨l, _, py d, pys ds, ⟨rfl, rfl⟩, ⟨q1.dp pd, q2.dp pdd⟩, ⟨q1.shaped pd (by omega), q2.shaped pdd (by omega)⟩, ?_⟩
    have e3 : (pys ds).countP (fun z => PyData.eqv z (py d)) = ds.countP fun z => deq z d := by
      rw [pys_map, countP_map_of]
      rfl
    rw [e3]
    exact k _ (.dat (.int _)) G2 A2 _ _ (e1.trans e2) w2 (.int _) q
/-- the first place of an equal one, by data -/
theorem we_lindexD (hu : X.A.units + 65 < cLine) (h : WE X B ex o (fun x M1 => ∃ ds : List D, x = .dat (.lst ds) ∧ D.pl 60 (.lst ds) = true ∧ WA X B ex [e] (fun ys M2 => ∃ d j z, ys = [.dat d] ∧ D.pl 60 d = true ∧ (ds[j]? = some z ∧ deq z d = true) ∧ (∀ m y, m < j → ds[m]? = some y → deq y d = false) ∧ Q (.dat (.int ((j : Nat) : Int))) M2) ss M1) ss M)
    (hbase : attributeBase o "index" X.env (eval o X.env) = eval o X.env := by rfl)
    (hfew : ((backTo pos (starEach [e] X.env)).all (fun x => !x.1) && (backToKw pos (keywordEach [] X.env)).all (fun x => x.1.isSome) && decide ([e].length + ([] : List Keyword).length + (if ([] : List Keyword).isEmpty then 0 else 1) < 30)) = true := by rfl)
    (hline : (apos.endLine == pos.line) = true := by rfl) (hs : starEach [e] X.env = (false, eval e X.env) :: starEach [] X.env := by rfl) (hpl : (backTo pos (starEach [] X.env)).any (·.1) = false := by rfl) :
    WE X B ex (.Call (.Attribute o "index" apos) [e] [] pos) Q ss M := .mk fun ck G A H σ w sl Kq k => by
  refine te_of (pe_bm PySem.F.plainAttrs_list PySem.F.slot_list_index PySem.F.type_list_index (mt_indexD hu) pe_self pa_self hbase hfew hline hs hpl) ?_
  refine h ck G A H σ w sl _ fun v x G1 A1 M1 H1 e1 w1 s1 h1 => ?_
  obtain ⟨ds, rfl, pd, h1⟩ := h1
  have s1 : Rep X.K G1 v (.lst ds) := s1
  obtain ⟨l, vs, rfl, hl, r⟩ := Rep.s w1.gh s1
  refine ⟨.inl ⟨rfl, _, .inl hl⟩, ?_⟩
  refine h1 ck G1 A1 H1 σ w1 (sl.mono e1) _ fun us ys G2 A2 M2 H2 e2 w2 s2 h2 => ?_
  obtain ⟨d, j, z, rfl, pdd, ⟨hj, hjt⟩, hno, q⟩ := h2
  cases s2 with
  | cons ru rr =>
    cases rr
    have q1 : Rep X.K H2 (.ref l) (.lst ds) := s1.mono (e2.1.trans w2.gh)
    have q2 := Rep.mono w2.gh (show Rep X.K G2 _ d from ru)
    refine ⟨l, _, py d, pys ds, j, py z, rfl, rfl, q1.dp pd, q2.dp pdd, q1.shaped pd (by omega), q2.shaped pdd (by omega), ?_, hjt, fun m z' hm hz' => ?_, k _ (.dat (.int _)) G2 A2 _ _ (e1.trans e2) w2 (.int _) q⟩
    · rw [pys_map, List.getElem?_map, hj]
      rfl
    · rw [pys_map, List.getElem?_map] at hz'
      cases e4 : ds[m]? with
      | none => rw [e4] at hz'; cases hz'
      | some y =>
        rw [e4] at hz'
        obtain rfl := Option.some.inj hz'
        exact hno m y hm e4
end
end Mb

/-! Mb, part 68: lists of ours lent as data to an expression that gives data without lists. -/
namespace Mb
open PySem L2 PyProof.Rows
mutual
/-- no list, no dict within -/
def D.noL : D → Bool
  | .lst _ => false
  | .dic _ => false
  | .tup ds => noLs ds
  | .ins _ fs => noLf fs
  | _ => true
def noLs : List D → Bool
  | [] => true
  | d :: r => d.noL && noLs r
def noLf : List (Str × D) → Bool
  | [] => true
  | p :: r => p.2.noL && noLf r
end
/-- what is no list stays -/
def KeepN (G G2 : Hp) : Prop := ∀ b o, G b = some o → (∀ vs, o ≠ .lst vs) → G2 b = some o
theorem KeepN.sq {K : PySem.W.Frag} {G G2 : Hp} (k : KeepN G G2) {a : Addr} {vs : List V} (h : SqT K G a vs) : SqT K G2 a vs := by
  rcases h with (h | ⟨o, h⟩) | h
  · exact .inl (.inl (k _ _ h fun vs e => by cases e))
  · exact .inl (.inr ⟨o, k _ _ h fun vs e => by cases e⟩)
  · exact .inr h
mutual
theorem Rep.noL {K : PySem.W.Frag} {G G2 : Hp} (k : KeepN G G2) : ∀ {v : V} {d : D}, Rep K G v d → d.noL = true → Rep K G2 v d
  | _, _, .non, _ => .non
  | _, _, .bl b, _ => .bl b
  | _, _, .int i, _ => .int i
  | _, _, .str x h, _ => .str x h
  | _, _, .lst _ _, e => by cases e
  | _, _, .dic _ _, e => by cases e
  | _, _, .tup h r, e => .tup (k.sq h) (Reps.noL k r e)
  | _, _, .ins h r q, e => .ins (k _ _ h fun vs e => by cases e) (RepF.noL k r e) fun f v c l => by
    obtain ⟨a, h1, o, u, h2, h3⟩ := q f v c l
    exact ⟨a, h1, o, u, k _ _ h2 (fun vs e => by cases e), h3⟩
theorem Reps.noL {K : PySem.W.Frag} {G G2 : Hp} (k : KeepN G G2) : ∀ {v : List V} {d : List D}, Reps K G v d → noLs d = true → Reps K G2 v d
  | _, _, .nil, _ => .nil
  | _, _, .cons h r, e => by
    have e := Bool.and_eq_true_iff.mp e
    exact .cons (Rep.noL k h e.1) (Reps.noL k r e.2)
theorem RepF.noL {K : PySem.W.Frag} {G G2 : Hp} (k : KeepN G G2) : ∀ {v : List (Str × V)} {d : List (Str × D)}, RepF K G v d → noLf d = true → RepF K G2 v d
  | _, _, .nil, _ => .nil
  | _, _, .cons h r, e => by
    have e := Bool.and_eq_true_iff.mp e
    exact .cons (Rep.noL k h e.1) (RepF.noL k r e.2)
end
def celL (M : Mem) (i : Nat) : Option D := match M[i]? with
  | some (.lst ds) => some (.lst ds)
  | _ => none
def FV.seeL (M : Mem) : FV → Option D
  | .dat d => some d
  | .cel i => celL M i
def fseesL (M : Mem) : List FV → Option (List D)
  | [] => some []
  | f :: r => match f.seeL M, fseesL M r with
    | some d, some ds => some (d :: ds)
    | _, _ => none
def SV.seeL (M : Mem) : SV → Option D
  | .dat d => some d
  | .cel i => celL M i
  | .tup fs => (fseesL M fs).map .tup
  | _ => none
/-- slots, their lists lent -/
inductive LendL (M : Mem) : Sst → Sst → Prop
  | nil : LendL M [] []
  | drop {o : Option SV} {ss ss' : Sst} : LendL M ss ss' → LendL M (o :: ss) (none :: ss')
  | see {x : SV} {d : D} {ss ss' : Sst} : x.seeL M = some d → LendL M ss ss' → LendL M (some x :: ss) (some (.dat d) :: ss')
/-- .. with the lists of ours -/
def withL (G : Hp) (A : List Addr) (H : Hp) : Hp := fun b => match G b with
  | some o => some o
  | none => if b ∈ A then (match H b with
    | some (.lst vs) => some (.lst vs)
    | _ => none) else none
section
variable {K : PySem.W.Frag} {B : Base} {G : Hp} {A : List Addr} {M : Mem} {H : Hp}
theorem withL_same : Same G (withL G A H) := fun b o e => by unfold withL; rw [e]
theorem withL_in (gh : Same G H) : Same (withL G A H) H := fun b o e => by
  unfold withL at e
  cases e1 : G b with
  | some u => rw [e1] at e; cases e; exact gh _ _ e1
  | none =>
    rw [e1] at e
    dsimp only at e
    split at e
    · split at e
      · rename_i h; rw [h]; exact e
      · cases e
    · cases e
theorem withL_new {b : Addr} {o : HO} (e : withL G A H b = some o) : G b = some o ∨ (G b = none ∧ ∃ vs, o = .lst vs) := by
  unfold withL at e
  cases e1 : G b with
  | some u => rw [e1] at e; exact .inl e
  | none =>
    rw [e1] at e
    dsimp only at e
    split at e
    · split at e
      · cases e; exact .inr ⟨rfl, _, rfl⟩
      · cases e
    · cases e
theorem celL_rep (w : Wd K B G A M H) {i : Nat} {a : Addr} {d : D} (ha : A[i]? = some a) (e : celL M i = some d) : Rep K (withL G A H) (.ref a) d := by
  unfold celL at e
  cases hM : M[i]? with
  | none => simp [hM] at e
  | some c =>
    have q := w.cl.get ha hM
    cases c with
    | lst ds =>
      simp only [hM, Option.some.injEq] at e; subst e
      obtain ⟨g, vs, h1, r⟩ := q
      refine .lst (.inl ?_) (r.mono withL_same)
      unfold withL
      rw [g]
      dsimp only
      rw [if_pos (List.mem_of_getElem? ha), h1]
    | _ => simp [hM] at e
theorem FvOk.seeL (w : Wd K B G A M H) {v : V} {x : FV} {d : D} (h : FvOk K G A v x) (e : x.seeL M = some d) : Rep K (withL G A H) v d := by
  cases x with
  | dat d' => simp only [FV.seeL, Option.some.injEq] at e; subst e; exact Rep.mono withL_same h
  | cel i =>
    obtain ⟨a, rfl, ha⟩ := h
    exact celL_rep w ha e
theorem Fvs.seesL (w : Wd K B G A M H) : ∀ {vs : List V} {xs : List FV} {ds : List D}, Fvs K G A vs xs → fseesL M xs = some ds → Reps K (withL G A H) vs ds
  | _, _, _, .nil, e => by
    simp only [fseesL, Option.some.injEq] at e
    subst e
    exact .nil
  | _, x :: r, _, .cons h q, e => by
    simp only [fseesL] at e
    cases e1 : x.seeL M with
    | none => simp [e1] at e
    | some d =>
      cases e2 : fseesL M r with
      | none => simp [e1, e2] at e
      | some ds =>
        simp only [e1, e2, Option.some.injEq] at e
        subst e
        exact .cons (h.seeL w e1) (q.seesL w e2)
theorem SvOk.seeL (w : Wd K B G A M H) {v : V} {x : SV} {d : D} (h : SvOk K G A v x) (e : x.seeL M = some d) : Rep K (withL G A H) v d := by
  cases x with
  | dat d' => simp only [SV.seeL, Option.some.injEq] at e; subst e; exact Rep.mono withL_same h
  | cel i =>
    obtain ⟨a, rfl, ha⟩ := h
    exact celL_rep w ha e
  | tup fs =>
    simp only [SV.seeL, Option.map_eq_some_iff] at e
    obtain ⟨ds, e, rfl⟩ := e
    obtain ⟨a, vs, rfl, h2, h3⟩ := h
    exact .tup (sqtM withL_same h2) (h3.seesL w e)
  | raw u => simp [SV.seeL] at e
  | xt ds => simp [SV.seeL] at e
  | exc a b c => simp [SV.seeL] at e
theorem Sl.lendL (w : Wd K B G A M H) : ∀ {σ : L2.St} {ss ss' : Sst}, Sl K G A σ ss → LendL M ss ss' → Sl K (withL G A H) [] σ ss'
  | _, _, _, .nil, .nil => .nil
  | _, _, _, .skip r, .drop f => .skip (r.lendL w f)
  | _, _, _, .cons _ r, .drop f => .skip (r.lendL w f)
  | _, _, _, .cons h r, .see e f => .cons (show Rep K _ _ _ from h.seeL w e) (r.lendL w f)
/-- what is left of what the lender saw -/
def takeB (G GL G' : Hp) : Hp := fun b => match G b with
  | some o => some o
  | none => match GL b with
    | some _ => none
    | none => G' b
theorem takeB_g {G GL G' : Hp} {b : Addr} {o : HO} (e : G b = some o) : takeB G GL G' b = some o := by unfold takeB; rw [e]
theorem takeB_l {G GL G' : Hp} {b : Addr} {o : HO} (e : G b = none) (e2 : GL b = some o) : takeB G GL G' b = none := by unfold takeB; rw [e]; dsimp only; rw [e2]
theorem takeB_n {G GL G' : Hp} {b : Addr} (e : G b = none) (e2 : GL b = none) : takeB G GL G' b = G' b := by unfold takeB; rw [e]; dsimp only; rw [e2]
/-- the lists are ours again -/
theorem backL (w : Wd K B G A M H) {G' H' : Hp} {A' : List Addr} {M' : Mem} (w' : Wd K ⟨withL G A H, [], H⟩ G' A' M' H') : ∃ G2, Wd K B G2 A M H' ∧ Ext G A G2 A ∧ KeepN G' G2 := by
  have s1 : Same H H' := fun b o e => w'.fr b o e (by intro m; cases m)
  have hG : Same G (takeB G (withL G A H) G') := fun b o e => takeB_g e
  have new : ∀ b o, G b = none → takeB G (withL G A H) G' b = some o → withL G A H b = none ∧ G' b = some o ∧ H b = none := fun b o e1 e => by
    cases e2 : withL G A H b with
    | some u => rw [takeB_l e1 e2] at e; cases e
    | none =>
      rw [takeB_n e1 e2] at e
      refine ⟨rfl, e, ?_⟩
      rcases w'.fresh _ _ e with q | q
      · have q : withL G A H b = some o := q
        rw [e2] at q; cases q
      · exact q
  refine ⟨takeB G (withL G A H) G', ⟨w.gg.trans hG, fun b o e => ?_, fun b o e n => s1 _ _ (w.fr b o e n), fun b o e => ?_, w.nd, w.pre, fun b m => ?_, w.an, w.cl.imp fun a c m h => h.keep ⟨hG, [], by simp⟩ (fun g => ?_) (fun o e => s1 _ _ e)⟩, ⟨hG, [], by simp⟩, fun b o e hn => ?_⟩
  · cases e1 : G b with
    | some u => rw [takeB_g e1] at e; cases e; exact s1 _ _ (w.gh _ _ e1)
    | none => exact w'.gh _ _ (new b o e1 e).2.1
  · cases e1 : G b with
    | some u => rw [takeB_g e1] at e; cases e; exact w.fresh _ _ e1
    | none => exact .inr (w.none (new b o e1 e).2.2).1
  · obtain ⟨o, e⟩ := w.there b m
    exact ⟨o, s1 _ _ e⟩
  · cases e2 : takeB G (withL G A H) G' a with
    | none => rfl
    | some u =>
      obtain ⟨o, e⟩ := w.there a m
      rw [(new a u g e2).2.2] at e
      cases e
  · cases e1 : G b with
    | some u =>
      have := w'.gg _ _ (show withL G A H b = some u from withL_same _ _ e1)
      rw [e] at this
      cases this
      exact takeB_g e1
    | none =>
      cases e2 : withL G A H b with
      | none => rw [takeB_n e1 e2]; exact e
      | some u =>
        have := w'.gg _ _ (show withL G A H b = some u from e2)
        rw [e] at this
        cases this
        rcases withL_new e2 with q | ⟨_, vs, rfl⟩
        · rw [e1] at q; cases q
        · exact absurd rfl (hn vs)
end
section
variable {X : Cx} {B : Base} {ex : XD} {ss ss' : Sst} {M : Mem} {a b c e tg o : Expr} {es : List Expr} {pos p p' apos : Pos} {Q : SV → Mem → Prop} {QB : Bool → Mem → Prop}
theorem Cok.lentL (ck : Cok X B ex) (B2 : Base) : Cok X B2 (fun _ _ _ _ => False) :=
  ⟨ck.tk.imp fun c d σ H' h => by
    obtain ⟨_, _, _, _, _, _, _, _, _, _, z⟩ := h
    exact z.elim, ck.ps⟩
theorem wt_eqU (hu : X.A.units + 64 < cLine) (h : WE X B ex a (fun x M1 => WE X B ex b (fun y M2 => eq2t false M2 x y QB) ss M1) ss M) : WT X B ex (.Compare a [.Eq] [b] pos) QB ss M :=
  wt_cmp2 (f := eq2 false) (op_eqD hu) (nomark _) (fun G A H M x y u v Q Kq w sx sy h k => eq2_run w sx sy h k) (h.mono fun x M1 h1 => h1.mono fun y M2 h2 => eq2_t h2)
theorem wt_neU (hu : X.A.units + 64 < cLine) (h : WE X B ex a (fun x M1 => WE X B ex b (fun y M2 => eq2t true M2 x y QB) ss M1) ss M) : WT X B ex (.Compare a [.NotEq] [b] pos) QB ss M :=
  wt_cmp2 (f := eq2 true) (op_neD hu) (nomark _) (fun G A H M x y u v Q Kq w sx sy h k => eq2_run w sx sy h k) (h.mono fun x M1 h1 => h1.mono fun y M2 h2 => eq2_t h2)
/-- an expression that reads our lists as data -/
theorem we_lendN (hl : LendL M ss ss') (h : ∀ B' : Base, B'.A.length = 0 → WE X B' (fun _ _ _ _ => False) e (fun x _ => ∃ d, x = .dat d ∧ d.noL = true ∧ Q (.dat d) M) ss' []) : WE X B ex e Q ss M := .mk fun ck G A H σ w sl Kq k => by
  refine (h ⟨withL G A H, [], H⟩ rfl) (ck.lentL _) (withL G A H) [] H σ (Wd.start (withL_in w.gh) List.nodup_nil (fun _ m => by cases m) .nil) (sl.lendL w hl) Kq fun v x G' A' M' H' e' w' s' q => ?_
  obtain ⟨d, rfl, hf, q⟩ := q
  have s' : Rep X.K G' v d := s'
  obtain ⟨G2, w2, e2, kn⟩ := backL w w'
  exact k v (.dat d) G2 A M H' e2 w2 (s'.noL kn hf) q
end
end Mb

/-! Mb, part 69: name = [..] on one line, the list a cell of ours. -/
namespace Mb
open PySem L2 PyProof.Rows
section
variable {X : Cx} {B : Base} {ex : XD} {ss : Sst} {M : Mem} {iter elt : Expr} {ifs : List Expr} {pos : Pos} {scope : Scope}
theorem ws_lc1C {x y : Str} {i j : Nat} {tp py spos : Pos} {N : Nd} (hc : X.calm = true) (hN : X.N.Nodup) (hy : X.N[i]? = some y) (hyl : X.env.scope.names.lookup y = some .local) (hsw : swapsWith (.ListComp elt [⟨.Name x tp, iter, ifs, 0⟩] scope pos) (some (.Name y py)) spos.line X.env = pure true)
    (ok : BlkOk X.N X.env.scope scope [(x, j)]) (hj : X.N[j]? = some x) (hL : ∀ s H C cl fp, Loc (Blk X scope s H C cl fp).env.scope x) (hi : ifs.length ≤ 1)
    (h : WI X B ex (.Name x tp) iter (fun ds M1 => ∃ I, I 0 [] M1 ∧ LcQ X scope elt ifs (tg1 j) [j] ds I (asCell fun v M' => N.nx (ss.set i (some v)) M') ss) ss M)
    (hf : ∀ s H C cl fp, (Blk X scope s H C cl fp).fn x = true ∨ (Blk X scope s H C cl fp).env.scope.names.lookup x = some .local := by intro _ _ _ _ _; first | exact .inl rfl | exact .inr rfl)
    (hs : ∀ x, foldedSetIterable iter X.env x = pure x := by intro _; rfl) : WS X B ex (.Assign [.Name y py] (.ListComp elt [⟨.Name x tp, iter, ifs, 0⟩] scope pos) spos) N ss M := .mk fun ck G A H σ w sl E k => by
  refine ts_of (ps_setLc (own := [(x, j)]) (g := gName j) hc hN hy hyl hsw pi_self ok (fun s H C cl fp => pg_name (i := j) hN hj (hL s H C cl fp) (hf s H C cl fp)) (fun s H C cl fp => ps_blk hi) (fun s H C cl fp => pe_blk) hs) ?_
  exact lc_allC ck tgOk1 w sl (fun v z G' A' M' H' e' w' s' q => k.nx _ _ G' A' M' H' e'.1 w' ((sl.mono e').set s' i) q) h
end
end Mb

namespace Mb
open PySem L2 PyProof.Rows
/-- what the top holds -/
structure Tx (K : PySem.W.Frag) (mg : Str → Option Value) : Prop where
  ex : ∃ h : Heap, K.In h ∧ h.Ns mainGlobals mg
  c : Held facts fnsL K
  cd : HeldD dfsL K
section
variable {K : PySem.W.Frag} {mg : Str → Option Value}
noncomputable def Tx.hp (T : Tx K mg) : Heap := T.ex.choose
theorem Tx.X (T : Tx K mg) : K.In T.hp := T.ex.choose_spec.1
theorem Tx.G (T : Tx K mg) : T.hp.Ns mainGlobals mg := T.ex.choose_spec.2
@[irreducible] def Tx.f_BadCount_init (_ : Tx K mg) : Addr := a_f_BadCount_init K
@[irreducible] def Tx.f_NoName_init (_ : Tx K mg) : Addr := a_f_NoName_init K
@[irreducible] def Tx.f_Twice_init (_ : Tx K mg) : Addr := a_f_Twice_init K
@[irreducible] def Tx.f_is_name (_ : Tx K mg) : Addr := a_f_is_name K
@[irreducible] def Tx.f_asked_names (_ : Tx K mg) : Addr := a_f_asked_names K
@[irreducible] def Tx.f_asked_once (_ : Tx K mg) : Addr := a_f_asked_once K
@[irreducible] def Tx.f_Question_init (_ : Tx K mg) : Addr := a_f_Question_init K
@[irreducible] def Tx.f_Question_eq (_ : Tx K mg) : Addr := a_f_Question_eq K
@[irreducible] def Tx.f_law_cell_at (_ : Tx K mg) : Addr := a_f_law_cell_at K
@[irreducible] def Tx.f_law_well (_ : Tx K mg) : Addr := a_f_law_well K
@[irreducible] def Tx.f_law_draw (_ : Tx K mg) : Addr := a_f_law_draw K
@[irreducible] def Tx.f_law_of (_ : Tx K mg) : Addr := a_f_law_of K
@[irreducible] def Tx.f_law_text (_ : Tx K mg) : Addr := a_f_law_text K
@[irreducible] def Tx.f_law_is_name (_ : Tx K mg) : Addr := a_f_law_is_name K
@[irreducible] def Tx.f_law_due (_ : Tx K mg) : Addr := a_f_law_due K
@[irreducible] def Tx.f_law_made (_ : Tx K mg) : Addr := a_f_law_made K
@[irreducible] def Tx.f_law_said (_ : Tx K mg) : Addr := a_f_law_said K
@[irreducible] def Tx.f_law_others (_ : Tx K mg) : Addr := a_f_law_others K
@[irreducible] def Tx.f_law_like_itself (_ : Tx K mg) : Addr := a_f_law_like_itself K
@[irreducible] def Tx.f_law (_ : Tx K mg) : Addr := a_f_law K
@[irreducible] def Tx.C_BoardError (_ : Tx K mg) : Addr := a_C_BoardError K
@[irreducible] def Tx.C_BadCount (_ : Tx K mg) : Addr := a_C_BadCount K
@[irreducible] def Tx.C_NoName (_ : Tx K mg) : Addr := a_C_NoName K
@[irreducible] def Tx.C_Twice (_ : Tx K mg) : Addr := a_C_Twice K
@[irreducible] def Tx.C_Question (_ : Tx K mg) : Addr := a_C_Question K
theorem Tx.l_BadCount_init (T : Tx K mg) : FnRaw K "__init__" "BadCount.__init__" s_BadCount_init T.f_BadCount_init := by unfold Tx.f_BadCount_init; exact fnX (T.c.def_ 0 rfl) (T.c.at 7 0 rfl rfl)
@[irreducible] noncomputable def Tx.d_BadCount_init (T : Tx K mg) : FuncData := T.l_BadCount_init.choose
theorem Tx.F_BadCount_init (T : Tx K mg) : Fun K "__init__" "BadCount.__init__" s_BadCount_init T.f_BadCount_init T.d_BadCount_init := by unfold Tx.d_BadCount_init; exact T.l_BadCount_init.choose_spec
theorem Tx.b_BadCount_init (T : Tx K mg) : Binds K T.d_BadCount_init ["self", "what", "count"] [] := T.F_BadCount_init.binds (ps := ["self", "what", "count"]) fun _ _ _ _ _ _ us hl => match us, hl with | [_, _, _], _ => by kernel_rfl
theorem Tx.l_NoName_init (T : Tx K mg) : FnRaw K "__init__" "NoName.__init__" s_NoName_init T.f_NoName_init := by unfold Tx.f_NoName_init; exact fnX (T.c.def_ 1 rfl) (T.c.at 7 1 rfl rfl)
@[irreducible] noncomputable def Tx.d_NoName_init (T : Tx K mg) : FuncData := T.l_NoName_init.choose
theorem Tx.F_NoName_init (T : Tx K mg) : Fun K "__init__" "NoName.__init__" s_NoName_init T.f_NoName_init T.d_NoName_init := by unfold Tx.d_NoName_init; exact T.l_NoName_init.choose_spec
theorem Tx.b_NoName_init (T : Tx K mg) : Binds K T.d_NoName_init ["self", "name"] [] := T.F_NoName_init.binds (ps := ["self", "name"]) fun _ _ _ _ _ _ us hl => match us, hl with | [_, _], _ => by kernel_rfl
theorem Tx.l_Twice_init (T : Tx K mg) : FnRaw K "__init__" "Twice.__init__" s_Twice_init T.f_Twice_init := by unfold Tx.f_Twice_init; exact fnX (T.c.def_ 2 rfl) (T.c.at 7 2 rfl rfl)
@[irreducible] noncomputable def Tx.d_Twice_init (T : Tx K mg) : FuncData := T.l_Twice_init.choose
theorem Tx.F_Twice_init (T : Tx K mg) : Fun K "__init__" "Twice.__init__" s_Twice_init T.f_Twice_init T.d_Twice_init := by unfold Tx.d_Twice_init; exact T.l_Twice_init.choose_spec
theorem Tx.b_Twice_init (T : Tx K mg) : Binds K T.d_Twice_init ["self", "name"] [] := T.F_Twice_init.binds (ps := ["self", "name"]) fun _ _ _ _ _ _ us hl => match us, hl with | [_, _], _ => by kernel_rfl
theorem Tx.l_is_name (T : Tx K mg) : FnRaw K "is_name" "is_name" s_is_name T.f_is_name := by unfold Tx.f_is_name; exact fnX (T.c.def_ 3 rfl) (T.c.at 7 3 rfl rfl)
@[irreducible] noncomputable def Tx.d_is_name (T : Tx K mg) : FuncData := T.l_is_name.choose
theorem Tx.F_is_name (T : Tx K mg) : Fun K "is_name" "is_name" s_is_name T.f_is_name T.d_is_name := by unfold Tx.d_is_name; exact T.l_is_name.choose_spec
theorem Tx.b_is_name (T : Tx K mg) : Binds K T.d_is_name ["text"] [] := T.F_is_name.binds (ps := ["text"]) fun _ _ _ _ _ _ us hl => match us, hl with | [_], _ => by kernel_rfl
theorem Tx.l_asked_names (T : Tx K mg) : FnRaw K "asked_names" "asked_names" s_asked_names T.f_asked_names := by unfold Tx.f_asked_names; exact fnX (T.c.def_ 4 rfl) (T.c.at 7 4 rfl rfl)
@[irreducible] noncomputable def Tx.d_asked_names (T : Tx K mg) : FuncData := T.l_asked_names.choose
theorem Tx.F_asked_names (T : Tx K mg) : Fun K "asked_names" "asked_names" s_asked_names T.f_asked_names T.d_asked_names := by unfold Tx.d_asked_names; exact T.l_asked_names.choose_spec
theorem Tx.b_asked_names (T : Tx K mg) : Binds K T.d_asked_names ["texts"] [] := T.F_asked_names.binds (ps := ["texts"]) fun _ _ _ _ _ _ us hl => match us, hl with | [_], _ => by kernel_rfl
theorem Tx.l_asked_once (T : Tx K mg) : FnRaw K "asked_once" "asked_once" s_asked_once T.f_asked_once := by unfold Tx.f_asked_once; exact fnX (T.c.def_ 5 rfl) (T.c.at 7 5 rfl rfl)
@[irreducible] noncomputable def Tx.d_asked_once (T : Tx K mg) : FuncData := T.l_asked_once.choose
theorem Tx.F_asked_once (T : Tx K mg) : Fun K "asked_once" "asked_once" s_asked_once T.f_asked_once T.d_asked_once := by unfold Tx.d_asked_once; exact T.l_asked_once.choose_spec
theorem Tx.b_asked_once (T : Tx K mg) : Binds K T.d_asked_once ["names"] [] := T.F_asked_once.binds (ps := ["names"]) fun _ _ _ _ _ _ us hl => match us, hl with | [_], _ => by kernel_rfl
theorem Tx.l_Question_eq (T : Tx K mg) : FnRaw K "__eq__" "Question.__eq__" s_Question_eq T.f_Question_eq := by unfold Tx.f_Question_eq; exact fnX (T.c.def_ 6 rfl) (T.c.at 7 6 rfl rfl)
@[irreducible] noncomputable def Tx.d_Question_eq (T : Tx K mg) : FuncData := T.l_Question_eq.choose
theorem Tx.F_Question_eq (T : Tx K mg) : Fun K "__eq__" "Question.__eq__" s_Question_eq T.f_Question_eq T.d_Question_eq := by unfold Tx.d_Question_eq; exact T.l_Question_eq.choose_spec
theorem Tx.b_Question_eq (T : Tx K mg) : Binds K T.d_Question_eq ["self", "other"] [] := T.F_Question_eq.binds (ps := ["self", "other"]) fun _ _ _ _ _ _ us hl => match us, hl with | [_, _], _ => by kernel_rfl
theorem Tx.l_law_cell_at (T : Tx K mg) : FnRaw K "_law_cell_at" "_law_cell_at" s_law_cell_at T.f_law_cell_at := by unfold Tx.f_law_cell_at; exact fnX (T.c.def_ 7 rfl) (T.c.at 7 7 rfl rfl)
@[irreducible] noncomputable def Tx.d_law_cell_at (T : Tx K mg) : FuncData := T.l_law_cell_at.choose
theorem Tx.F_law_cell_at (T : Tx K mg) : Fun K "_law_cell_at" "_law_cell_at" s_law_cell_at T.f_law_cell_at T.d_law_cell_at := by unfold Tx.d_law_cell_at; exact T.l_law_cell_at.choose_spec
theorem Tx.b_law_cell_at (T : Tx K mg) : Binds K T.d_law_cell_at ["_law_script", "_law_k"] [] := T.F_law_cell_at.binds (ps := ["_law_script", "_law_k"]) fun _ _ _ _ _ _ us hl => match us, hl with | [_, _], _ => by kernel_rfl
theorem Tx.l_law_well (T : Tx K mg) : FnRaw K "_law_well" "_law_well" s_law_well T.f_law_well := by unfold Tx.f_law_well; exact fnX (T.c.def_ 8 rfl) (T.c.at 7 8 rfl rfl)
@[irreducible] noncomputable def Tx.d_law_well (T : Tx K mg) : FuncData := T.l_law_well.choose
theorem Tx.F_law_well (T : Tx K mg) : Fun K "_law_well" "_law_well" s_law_well T.f_law_well T.d_law_well := by unfold Tx.d_law_well; exact T.l_law_well.choose_spec
theorem Tx.b_law_well (T : Tx K mg) : Binds K T.d_law_well ["_law_cell"] [] := T.F_law_well.binds (ps := ["_law_cell"]) fun _ _ _ _ _ _ us hl => match us, hl with | [_], _ => by kernel_rfl
theorem Tx.l_law_draw (T : Tx K mg) : FnRaw K "_law_draw" "_law_draw" s_law_draw T.f_law_draw := by unfold Tx.f_law_draw; exact fnX (T.c.def_ 9 rfl) (T.c.at 7 9 rfl rfl)
@[irreducible] noncomputable def Tx.d_law_draw (T : Tx K mg) : FuncData := T.l_law_draw.choose
theorem Tx.F_law_draw (T : Tx K mg) : Fun K "_law_draw" "_law_draw" s_law_draw T.f_law_draw T.d_law_draw := by unfold Tx.d_law_draw; exact T.l_law_draw.choose_spec
theorem Tx.b_law_draw (T : Tx K mg) : Binds K T.d_law_draw ["_law_well_here", "_law_many"] [] := T.F_law_draw.binds (ps := ["_law_well_here", "_law_many"]) fun _ _ _ _ _ _ us hl => match us, hl with | [_, _], _ => by kernel_rfl
theorem Tx.l_law_of (T : Tx K mg) : FnRaw K "_law_of" "_law_of" s_law_of T.f_law_of := by unfold Tx.f_law_of; exact fnX (T.c.def_ 10 rfl) (T.c.at 7 10 rfl rfl)
@[irreducible] noncomputable def Tx.d_law_of (T : Tx K mg) : FuncData := T.l_law_of.choose
theorem Tx.F_law_of (T : Tx K mg) : Fun K "_law_of" "_law_of" s_law_of T.f_law_of T.d_law_of := by unfold Tx.d_law_of; exact T.l_law_of.choose_spec
theorem Tx.b_law_of (T : Tx K mg) : Binds K T.d_law_of ["_law_well_here", "_law_some"] [] := T.F_law_of.binds (ps := ["_law_well_here", "_law_some"]) fun _ _ _ _ _ _ us hl => match us, hl with | [_, _], _ => by kernel_rfl
theorem Tx.l_law_text (T : Tx K mg) : FnRaw K "_law_text" "_law_text" s_law_text T.f_law_text := by unfold Tx.f_law_text; exact fnX (T.c.def_ 11 rfl) (T.c.at 7 11 rfl rfl)
@[irreducible] noncomputable def Tx.d_law_text (T : Tx K mg) : FuncData := T.l_law_text.choose
theorem Tx.F_law_text (T : Tx K mg) : Fun K "_law_text" "_law_text" s_law_text T.f_law_text T.d_law_text := by unfold Tx.d_law_text; exact T.l_law_text.choose_spec
theorem Tx.b_law_text (T : Tx K mg) : Binds K T.d_law_text ["_law_well_here", "_law_spoilt"] [] := T.F_law_text.binds (ps := ["_law_well_here", "_law_spoilt"]) fun _ _ _ _ _ _ us hl => match us, hl with | [_, _], _ => by kernel_rfl
theorem Tx.l_law_is_name (T : Tx K mg) : FnRaw K "_law_is_name" "_law_is_name" s_law_is_name T.f_law_is_name := by unfold Tx.f_law_is_name; exact fnX (T.c.def_ 12 rfl) (T.c.at 7 12 rfl rfl)
@[irreducible] noncomputable def Tx.d_law_is_name (T : Tx K mg) : FuncData := T.l_law_is_name.choose
theorem Tx.F_law_is_name (T : Tx K mg) : Fun K "_law_is_name" "_law_is_name" s_law_is_name T.f_law_is_name T.d_law_is_name := by unfold Tx.d_law_is_name; exact T.l_law_is_name.choose_spec
theorem Tx.b_law_is_name (T : Tx K mg) : Binds K T.d_law_is_name ["_law_text_here"] [] := T.F_law_is_name.binds (ps := ["_law_text_here"]) fun _ _ _ _ _ _ us hl => match us, hl with | [_], _ => by kernel_rfl
theorem Tx.l_law_due (T : Tx K mg) : FnRaw K "_law_due" "_law_due" s_law_due T.f_law_due := by unfold Tx.f_law_due; exact fnX (T.c.def_ 13 rfl) (T.c.at 7 13 rfl rfl)
@[irreducible] noncomputable def Tx.d_law_due (T : Tx K mg) : FuncData := T.l_law_due.choose
theorem Tx.F_law_due (T : Tx K mg) : Fun K "_law_due" "_law_due" s_law_due T.f_law_due T.d_law_due := by unfold Tx.d_law_due; exact T.l_law_due.choose_spec
theorem Tx.b_law_due (T : Tx K mg) : Binds K T.d_law_due ["_law_head", "_law_some", "_law_pairs"] [] := T.F_law_due.binds (ps := ["_law_head", "_law_some", "_law_pairs"]) fun _ _ _ _ _ _ us hl => match us, hl with | [_, _, _], _ => by kernel_rfl
theorem Tx.l_law_made (T : Tx K mg) : FnRaw K "_law_made" "_law_made" s_law_made T.f_law_made := by unfold Tx.f_law_made; exact fnX (T.c.def_ 14 rfl) (T.c.at 7 14 rfl rfl)
@[irreducible] noncomputable def Tx.d_law_made (T : Tx K mg) : FuncData := T.l_law_made.choose
theorem Tx.F_law_made (T : Tx K mg) : Fun K "_law_made" "_law_made" s_law_made T.f_law_made T.d_law_made := by unfold Tx.d_law_made; exact T.l_law_made.choose_spec
theorem Tx.b_law_made (T : Tx K mg) : Binds K T.d_law_made ["_law_door", "_law_head", "_law_some", "_law_pairs"] [] := T.F_law_made.binds (ps := ["_law_door", "_law_head", "_law_some", "_law_pairs"]) fun _ _ _ _ _ _ us hl => match us, hl with | [_, _, _, _], _ => by kernel_rfl
theorem Tx.l_law_said (T : Tx K mg) : FnRaw K "_law_said" "_law_said" s_law_said T.f_law_said := by unfold Tx.f_law_said; exact fnX (T.c.def_ 15 rfl) (T.c.at 7 15 rfl rfl)
@[irreducible] noncomputable def Tx.d_law_said (T : Tx K mg) : FuncData := T.l_law_said.choose
theorem Tx.F_law_said (T : Tx K mg) : Fun K "_law_said" "_law_said" s_law_said T.f_law_said T.d_law_said := by unfold Tx.d_law_said; exact T.l_law_said.choose_spec
theorem Tx.b_law_said (T : Tx K mg) : Binds K T.d_law_said ["_law_door", "_law_head", "_law_some", "_law_pairs"] [] := T.F_law_said.binds (ps := ["_law_door", "_law_head", "_law_some", "_law_pairs"]) fun _ _ _ _ _ _ us hl => match us, hl with | [_, _, _, _], _ => by kernel_rfl
theorem Tx.l_law_others (T : Tx K mg) : FnRaw K "_law_others" "_law_others" s_law_others T.f_law_others := by unfold Tx.f_law_others; exact fnX (T.c.def_ 16 rfl) (T.c.at 7 16 rfl rfl)
@[irreducible] noncomputable def Tx.d_law_others (T : Tx K mg) : FuncData := T.l_law_others.choose
theorem Tx.F_law_others (T : Tx K mg) : Fun K "_law_others" "_law_others" s_law_others T.f_law_others T.d_law_others := by unfold Tx.d_law_others; exact T.l_law_others.choose_spec
theorem Tx.b_law_others (T : Tx K mg) : Binds K T.d_law_others ["_law_head", "_law_some", "_law_pairs"] [] := T.F_law_others.binds (ps := ["_law_head", "_law_some", "_law_pairs"]) fun _ _ _ _ _ _ us hl => match us, hl with | [_, _, _], _ => by kernel_rfl
theorem Tx.l_law_like_itself (T : Tx K mg) : FnRaw K "_law_like_itself" "_law_like_itself" s_law_like_itself T.f_law_like_itself := by unfold Tx.f_law_like_itself; exact fnX (T.c.def_ 17 rfl) (T.c.at 7 17 rfl rfl)
@[irreducible] noncomputable def Tx.d_law_like_itself (T : Tx K mg) : FuncData := T.l_law_like_itself.choose
theorem Tx.F_law_like_itself (T : Tx K mg) : Fun K "_law_like_itself" "_law_like_itself" s_law_like_itself T.f_law_like_itself T.d_law_like_itself := by unfold Tx.d_law_like_itself; exact T.l_law_like_itself.choose_spec
theorem Tx.b_law_like_itself (T : Tx K mg) : Binds K T.d_law_like_itself ["_law_head", "_law_some", "_law_pairs"] [] := T.F_law_like_itself.binds (ps := ["_law_head", "_law_some", "_law_pairs"]) fun _ _ _ _ _ _ us hl => match us, hl with | [_, _, _], _ => by kernel_rfl
theorem Tx.l_law (T : Tx K mg) : FnRaw K "law" "law" s_law T.f_law := by unfold Tx.f_law; exact fnX (T.c.def_ 18 rfl) (T.c.at 7 18 rfl rfl)
@[irreducible] noncomputable def Tx.d_law (T : Tx K mg) : FuncData := T.l_law.choose
theorem Tx.F_law (T : Tx K mg) : Fun K "law" "law" s_law T.f_law T.d_law := by unfold Tx.d_law; exact T.l_law.choose_spec
theorem Tx.b_law (T : Tx K mg) : Binds K T.d_law ["_law_script"] [] := T.F_law.binds (ps := ["_law_script"]) fun _ _ _ _ _ _ us hl => match us, hl with | [_], _ => by kernel_rfl
theorem Tx.l_Question_init (T : Tx K mg) : ∃ fd, FunD K "__init__" "Question.__init__" (defArgs s_Question_init) (defBody s_Question_init) (defScope s_Question_init) [V.non, V.non, V.non] [] T.f_Question_init fd := by unfold Tx.f_Question_init; exact dfF_ok (d := dfd_Question_init) (T.c.at 2 0 rfl rfl) (T.cd.def_ 0 rfl)
@[irreducible] noncomputable def Tx.d_Question_init (T : Tx K mg) : FuncData := T.l_Question_init.choose
theorem Tx.F_Question_init (T : Tx K mg) : FunD K "__init__" "Question.__init__" (defArgs s_Question_init) (defBody s_Question_init) (defScope s_Question_init) [V.non, V.non, V.non] [] T.f_Question_init T.d_Question_init := by unfold Tx.d_Question_init; exact T.l_Question_init.choose_spec
theorem Tx.b_Question_init (T : Tx K mg) : Binds K T.d_Question_init ["self", "lead", "follows", "holds"] [] := by
  obtain ⟨ds, h1, h2⟩ := T.F_Question_init.binds1 (ps := ["self", "lead", "follows", "holds"]) 4 3 (by simp) rfl (fun T1 kV doc pm an cdv ct us its hu hi => match us, its, hu, hi with | [_, _, _, _], [_, _, _], _, _ => ⟨_, rfl, rfl⟩)
  cases h1
  exact h2
theorem Tx.z_len (T : Tx K mg) : mg "len" = none := by have H := T.c.at 0 0 rfl rfl; exact He.free_ok T.X T.G H
theorem Tx.z_int (T : Tx K mg) : mg "int" = none := by have H := T.c.at 0 1 rfl rfl; exact He.free_ok T.X T.G H
theorem Tx.z_list (T : Tx K mg) : mg "list" = none := by have H := T.c.at 0 2 rfl rfl; exact He.free_ok T.X T.G H
theorem Tx.z_tuple (T : Tx K mg) : mg "tuple" = none := by have H := T.c.at 0 3 rfl rfl; exact He.free_ok T.X T.G H
theorem Tx.z_all (T : Tx K mg) : mg "all" = none := by have H := T.c.at 0 4 rfl rfl; exact He.free_ok T.X T.G H
theorem Tx.z_range (T : Tx K mg) : mg "range" = none := by have H := T.c.at 0 5 rfl rfl; exact He.free_ok T.X T.G H
theorem Tx.z_enumerate (T : Tx K mg) : mg "enumerate" = none := by have H := T.c.at 0 6 rfl rfl; exact He.free_ok T.X T.G H
theorem Tx.z_isinstance (T : Tx K mg) : mg "isinstance" = none := by have H := T.c.at 0 7 rfl rfl; exact He.free_ok T.X T.G H
theorem Tx.c_LETTERS (T : Tx K mg) : ∃ t, mg "LETTERS" = some (.str "abcdefghijklmnopqrstuvwxyz" t) := by have H := T.c.at 0 8 rfl rfl; exact He.str_ok T.X T.G H
theorem Tx.c_FIGURES (T : Tx K mg) : ∃ t, mg "FIGURES" = some (.str "0123456789" t) := by have H := T.c.at 0 9 rfl rfl; exact He.str_ok T.X T.G H
theorem Tx.c_LONGEST (T : Tx K mg) : ∃ t, mg "LONGEST" = some (.int 10 t) := by have H := T.c.at 0 10 rfl rfl; exact He.int_ok T.X T.G H
theorem Tx.c_MOST_FOLLOWS (T : Tx K mg) : ∃ t, mg "MOST_FOLLOWS" = some (.int 6 t) := by have H := T.c.at 0 11 rfl rfl; exact He.int_ok T.X T.G H
theorem Tx.g_is_name (T : Tx K mg) : mg "is_name" = some (.ref T.f_is_name) := by have H := T.c.at 1 0 rfl rfl; unfold Tx.f_is_name; exact He.glo_ok T.X T.G H
theorem Tx.g_asked_names (T : Tx K mg) : mg "asked_names" = some (.ref T.f_asked_names) := by have H := T.c.at 1 1 rfl rfl; unfold Tx.f_asked_names; exact He.glo_ok T.X T.G H
theorem Tx.g_asked_once (T : Tx K mg) : mg "asked_once" = some (.ref T.f_asked_once) := by have H := T.c.at 1 2 rfl rfl; unfold Tx.f_asked_once; exact He.glo_ok T.X T.G H
theorem Tx.g_law_cell_at (T : Tx K mg) : mg "_law_cell_at" = some (.ref T.f_law_cell_at) := by have H := T.c.at 1 3 rfl rfl; unfold Tx.f_law_cell_at; exact He.glo_ok T.X T.G H
theorem Tx.g_law_well (T : Tx K mg) : mg "_law_well" = some (.ref T.f_law_well) := by have H := T.c.at 1 4 rfl rfl; unfold Tx.f_law_well; exact He.glo_ok T.X T.G H
theorem Tx.g_law_draw (T : Tx K mg) : mg "_law_draw" = some (.ref T.f_law_draw) := by have H := T.c.at 1 5 rfl rfl; unfold Tx.f_law_draw; exact He.glo_ok T.X T.G H
theorem Tx.g_law_of (T : Tx K mg) : mg "_law_of" = some (.ref T.f_law_of) := by have H := T.c.at 1 6 rfl rfl; unfold Tx.f_law_of; exact He.glo_ok T.X T.G H
theorem Tx.g_law_text (T : Tx K mg) : mg "_law_text" = some (.ref T.f_law_text) := by have H := T.c.at 1 7 rfl rfl; unfold Tx.f_law_text; exact He.glo_ok T.X T.G H
theorem Tx.g_law_is_name (T : Tx K mg) : mg "_law_is_name" = some (.ref T.f_law_is_name) := by have H := T.c.at 1 8 rfl rfl; unfold Tx.f_law_is_name; exact He.glo_ok T.X T.G H
theorem Tx.g_law_due (T : Tx K mg) : mg "_law_due" = some (.ref T.f_law_due) := by have H := T.c.at 1 9 rfl rfl; unfold Tx.f_law_due; exact He.glo_ok T.X T.G H
theorem Tx.g_law_made (T : Tx K mg) : mg "_law_made" = some (.ref T.f_law_made) := by have H := T.c.at 1 10 rfl rfl; unfold Tx.f_law_made; exact He.glo_ok T.X T.G H
theorem Tx.g_law_said (T : Tx K mg) : mg "_law_said" = some (.ref T.f_law_said) := by have H := T.c.at 1 11 rfl rfl; unfold Tx.f_law_said; exact He.glo_ok T.X T.G H
theorem Tx.g_law_others (T : Tx K mg) : mg "_law_others" = some (.ref T.f_law_others) := by have H := T.c.at 1 12 rfl rfl; unfold Tx.f_law_others; exact He.glo_ok T.X T.G H
theorem Tx.g_law_like_itself (T : Tx K mg) : mg "_law_like_itself" = some (.ref T.f_law_like_itself) := by have H := T.c.at 1 13 rfl rfl; unfold Tx.f_law_like_itself; exact He.glo_ok T.X T.G H
theorem Tx.g_law (T : Tx K mg) : mg "law" = some (.ref T.f_law) := by have H := T.c.at 1 14 rfl rfl; unfold Tx.f_law; exact He.glo_ok T.X T.G H
theorem Tx.g_BoardError (T : Tx K mg) : mg "BoardError" = some (.ref T.C_BoardError) := by have H := T.c.at 1 15 rfl rfl; unfold Tx.C_BoardError; exact He.glo_ok T.X T.G H
theorem Tx.g_BadCount (T : Tx K mg) : mg "BadCount" = some (.ref T.C_BadCount) := by have H := T.c.at 1 16 rfl rfl; unfold Tx.C_BadCount; exact He.glo_ok T.X T.G H
theorem Tx.xe_BadCount (T : Tx K mg) : XfC K T.C_BadCount ∧ ExcC K T.C_BadCount := by have H := T.c.at 3 0 rfl rfl; unfold Tx.C_BadCount; exact exF2_ok (C := a_C_BadCount) H
theorem Tx.x_BadCount (T : Tx K mg) : XfC K T.C_BadCount := T.xe_BadCount.1
theorem Tx.e_BadCount (T : Tx K mg) : ExcC K T.C_BadCount := T.xe_BadCount.2
theorem Tx.o_BadCount (T : Tx K mg) : OexC K T.C_BadCount := by have H := T.c.at 3 1 rfl rfl; unfold Tx.C_BadCount; exact oxF_ok (C := a_C_BadCount) H
theorem Tx.i_BadCount (T : Tx K mg) : PySem.W.findIn K (.ref T.C_BadCount) "__init__" = some (some (.ref T.f_BadCount_init)) := by have H := T.c.at 3 2 rfl rfl; unfold Tx.C_BadCount; unfold Tx.f_BadCount_init; exact fiF_ok (C := a_C_BadCount) H
theorem Tx.t_BadCount (T : Tx K mg) : PySem.W.typeIn K (.ref T.f_BadCount_init) = some (.type "function") := by have H := T.c.at 3 3 rfl rfl; unfold Tx.f_BadCount_init; exact tyF_ok (C := a_f_BadCount_init) H
theorem Tx.n_BadCount_what (T : Tx K mg) : PySem.W.findIn K (.ref T.C_BadCount) "what" = some none := by have H := T.c.at 3 4 rfl rfl; unfold Tx.C_BadCount; exact fiF_ok (C := a_C_BadCount) H
theorem Tx.n_BadCount_count (T : Tx K mg) : PySem.W.findIn K (.ref T.C_BadCount) "count" = some none := by have H := T.c.at 3 5 rfl rfl; unfold Tx.C_BadCount; exact fiF_ok (C := a_C_BadCount) H
theorem Tx.y_BadCount_BoardError (T : Tx K mg) : PySem.W.exmOne K (.ref T.C_BadCount) (.ref T.C_BoardError) = some true := by have H := T.c.at 3 6 rfl rfl; unfold Tx.C_BadCount; unfold Tx.C_BoardError; exact xmF_ok (C := a_C_BadCount) (v := fun K => .ref (a_C_BoardError K)) H
theorem Tx.k_BadCount_BadCount (T : Tx K mg) : PySem.W.kitOne K (.ref T.C_BadCount) (.ref T.C_BadCount) = some true := by have H := T.c.at 3 7 rfl rfl; unfold Tx.C_BadCount; exact kiF_ok (C := a_C_BadCount) (v := fun K => .ref (a_C_BadCount K)) H
theorem Tx.k_BadCount_NoName (T : Tx K mg) : PySem.W.kitOne K (.ref T.C_BadCount) (.ref T.C_NoName) = some false := by have H := T.c.at 3 8 rfl rfl; unfold Tx.C_BadCount; unfold Tx.C_NoName; exact kiF_ok (C := a_C_BadCount) (v := fun K => .ref (a_C_NoName K)) H
theorem Tx.k_BadCount_Twice (T : Tx K mg) : PySem.W.kitOne K (.ref T.C_BadCount) (.ref T.C_Twice) = some false := by have H := T.c.at 3 9 rfl rfl; unfold Tx.C_BadCount; unfold Tx.C_Twice; exact kiF_ok (C := a_C_BadCount) (v := fun K => .ref (a_C_Twice K)) H
theorem Tx.g_NoName (T : Tx K mg) : mg "NoName" = some (.ref T.C_NoName) := by have H := T.c.at 1 17 rfl rfl; unfold Tx.C_NoName; exact He.glo_ok T.X T.G H
theorem Tx.xe_NoName (T : Tx K mg) : XfC K T.C_NoName ∧ ExcC K T.C_NoName := by have H := T.c.at 4 0 rfl rfl; unfold Tx.C_NoName; exact exF2_ok (C := a_C_NoName) H
theorem Tx.x_NoName (T : Tx K mg) : XfC K T.C_NoName := T.xe_NoName.1
theorem Tx.e_NoName (T : Tx K mg) : ExcC K T.C_NoName := T.xe_NoName.2
theorem Tx.o_NoName (T : Tx K mg) : OexC K T.C_NoName := by have H := T.c.at 4 1 rfl rfl; unfold Tx.C_NoName; exact oxF_ok (C := a_C_NoName) H
theorem Tx.i_NoName (T : Tx K mg) : PySem.W.findIn K (.ref T.C_NoName) "__init__" = some (some (.ref T.f_NoName_init)) := by have H := T.c.at 4 2 rfl rfl; unfold Tx.C_NoName; unfold Tx.f_NoName_init; exact fiF_ok (C := a_C_NoName) H
theorem Tx.t_NoName (T : Tx K mg) : PySem.W.typeIn K (.ref T.f_NoName_init) = some (.type "function") := by have H := T.c.at 4 3 rfl rfl; unfold Tx.f_NoName_init; exact tyF_ok (C := a_f_NoName_init) H
theorem Tx.n_NoName_name (T : Tx K mg) : PySem.W.findIn K (.ref T.C_NoName) "name" = some none := by have H := T.c.at 4 4 rfl rfl; unfold Tx.C_NoName; exact fiF_ok (C := a_C_NoName) H
theorem Tx.y_NoName_BoardError (T : Tx K mg) : PySem.W.exmOne K (.ref T.C_NoName) (.ref T.C_BoardError) = some true := by have H := T.c.at 4 5 rfl rfl; unfold Tx.C_NoName; unfold Tx.C_BoardError; exact xmF_ok (C := a_C_NoName) (v := fun K => .ref (a_C_BoardError K)) H
theorem Tx.k_NoName_BadCount (T : Tx K mg) : PySem.W.kitOne K (.ref T.C_NoName) (.ref T.C_BadCount) = some false := by have H := T.c.at 4 6 rfl rfl; unfold Tx.C_NoName; unfold Tx.C_BadCount; exact kiF_ok (C := a_C_NoName) (v := fun K => .ref (a_C_BadCount K)) H
theorem Tx.k_NoName_NoName (T : Tx K mg) : PySem.W.kitOne K (.ref T.C_NoName) (.ref T.C_NoName) = some true := by have H := T.c.at 4 7 rfl rfl; unfold Tx.C_NoName; exact kiF_ok (C := a_C_NoName) (v := fun K => .ref (a_C_NoName K)) H
theorem Tx.k_NoName_Twice (T : Tx K mg) : PySem.W.kitOne K (.ref T.C_NoName) (.ref T.C_Twice) = some false := by have H := T.c.at 4 8 rfl rfl; unfold Tx.C_NoName; unfold Tx.C_Twice; exact kiF_ok (C := a_C_NoName) (v := fun K => .ref (a_C_Twice K)) H
theorem Tx.g_Twice (T : Tx K mg) : mg "Twice" = some (.ref T.C_Twice) := by have H := T.c.at 1 18 rfl rfl; unfold Tx.C_Twice; exact He.glo_ok T.X T.G H
theorem Tx.xe_Twice (T : Tx K mg) : XfC K T.C_Twice ∧ ExcC K T.C_Twice := by have H := T.c.at 5 0 rfl rfl; unfold Tx.C_Twice; exact exF2_ok (C := a_C_Twice) H
theorem Tx.x_Twice (T : Tx K mg) : XfC K T.C_Twice := T.xe_Twice.1
theorem Tx.e_Twice (T : Tx K mg) : ExcC K T.C_Twice := T.xe_Twice.2
theorem Tx.o_Twice (T : Tx K mg) : OexC K T.C_Twice := by have H := T.c.at 5 1 rfl rfl; unfold Tx.C_Twice; exact oxF_ok (C := a_C_Twice) H
theorem Tx.i_Twice (T : Tx K mg) : PySem.W.findIn K (.ref T.C_Twice) "__init__" = some (some (.ref T.f_Twice_init)) := by have H := T.c.at 5 2 rfl rfl; unfold Tx.C_Twice; unfold Tx.f_Twice_init; exact fiF_ok (C := a_C_Twice) H
theorem Tx.t_Twice (T : Tx K mg) : PySem.W.typeIn K (.ref T.f_Twice_init) = some (.type "function") := by have H := T.c.at 5 3 rfl rfl; unfold Tx.f_Twice_init; exact tyF_ok (C := a_f_Twice_init) H
theorem Tx.n_Twice_name (T : Tx K mg) : PySem.W.findIn K (.ref T.C_Twice) "name" = some none := by have H := T.c.at 5 4 rfl rfl; unfold Tx.C_Twice; exact fiF_ok (C := a_C_Twice) H
theorem Tx.y_Twice_BoardError (T : Tx K mg) : PySem.W.exmOne K (.ref T.C_Twice) (.ref T.C_BoardError) = some true := by have H := T.c.at 5 5 rfl rfl; unfold Tx.C_Twice; unfold Tx.C_BoardError; exact xmF_ok (C := a_C_Twice) (v := fun K => .ref (a_C_BoardError K)) H
theorem Tx.k_Twice_BadCount (T : Tx K mg) : PySem.W.kitOne K (.ref T.C_Twice) (.ref T.C_BadCount) = some false := by have H := T.c.at 5 6 rfl rfl; unfold Tx.C_Twice; unfold Tx.C_BadCount; exact kiF_ok (C := a_C_Twice) (v := fun K => .ref (a_C_BadCount K)) H
theorem Tx.k_Twice_NoName (T : Tx K mg) : PySem.W.kitOne K (.ref T.C_Twice) (.ref T.C_NoName) = some false := by have H := T.c.at 5 7 rfl rfl; unfold Tx.C_Twice; unfold Tx.C_NoName; exact kiF_ok (C := a_C_Twice) (v := fun K => .ref (a_C_NoName K)) H
theorem Tx.k_Twice_Twice (T : Tx K mg) : PySem.W.kitOne K (.ref T.C_Twice) (.ref T.C_Twice) = some true := by have H := T.c.at 5 8 rfl rfl; unfold Tx.C_Twice; exact kiF_ok (C := a_C_Twice) (v := fun K => .ref (a_C_Twice K)) H
theorem Tx.g_Question (T : Tx K mg) : mg "Question" = some (.ref T.C_Question) := by have H := T.c.at 1 19 rfl rfl; unfold Tx.C_Question; exact He.glo_ok T.X T.G H
theorem Tx.cl_Question (T : Tx K mg) : Cls K T.C_Question := by have H := T.c.at 6 0 rfl rfl; unfold Tx.C_Question; exact clF_ok (C := a_C_Question) H
theorem Tx.n_Question_lead (T : Tx K mg) : NoAttr K T.C_Question "lead" := by have H := T.c.at 6 1 rfl rfl; unfold Tx.C_Question; exact fiF_ok (C := a_C_Question) H
theorem Tx.n_Question_follows (T : Tx K mg) : NoAttr K T.C_Question "follows" := by have H := T.c.at 6 2 rfl rfl; unfold Tx.C_Question; exact fiF_ok (C := a_C_Question) H
theorem Tx.n_Question_holds (T : Tx K mg) : NoAttr K T.C_Question "holds" := by have H := T.c.at 6 3 rfl rfl; unfold Tx.C_Question; exact fiF_ok (C := a_C_Question) H
theorem Tx.mk_Question (T : Tx K mg) : Mk K T.C_Question T.f_Question_init := by have H := T.c.at 6 4 rfl rfl; unfold Tx.C_Question; unfold Tx.f_Question_init; exact mkF_ok (C := a_C_Question) (f := a_f_Question_init) H
theorem Tx.is0_Question (T : Tx K mg) : IsC0 K T.C_Question := by have H := T.c.at 6 5 rfl rfl; unfold Tx.C_Question; exact isF_ok (C := a_C_Question) H
theorem Tx.tc_Question (T : Tx K mg) : PySem.W.typeIn K (.ref T.C_Question) = some (.type "type") := by have H := T.c.at 6 6 rfl rfl; unfold Tx.C_Question; exact tyF_ok (C := a_C_Question) H
theorem Tx.is_Question (T : Tx K mg) : IsC K T.C_Question := T.is0_Question.is T.cl_Question
theorem Tx.k_Question_Question (T : Tx K mg) : PySem.W.kitOne K (.ref T.C_Question) (.ref T.C_Question) = some true := by have H := T.c.at 6 7 rfl rfl; unfold Tx.C_Question; exact kiF_ok (C := a_C_Question) (v := fun K => .ref (a_C_Question K)) H
theorem Tx.ne_Question (T : Tx K mg) : PySem.W.findIn K (.ref T.C_Question) "__ne__" = some (some (.builtin "object.__ne__")) := by have H := T.c.at 6 8 rfl rfl; unfold Tx.C_Question; exact fiF_ok (C := a_C_Question) H
theorem Tx.m_Question_eq (T : Tx K mg) : Meth K T.C_Question "__eq__" T.f_Question_eq := by have H := T.c.at 6 9 rfl rfl; unfold Tx.C_Question; unfold Tx.f_Question_eq; exact meF_ok (C := a_C_Question) (f := a_f_Question_eq) H
end

section
variable {P : Program} {w : World} {K : PySem.W.Frag} {mg : Str → Option Value} {base : Heap}
local macro_rules | `(tactic| walk_at "cl") => `(tactic| first | exact (‹Tx _ _›).cl_Question)
local macro_rules | `(tactic| walk_at "no") => `(tactic| first | exact (‹Tx _ _›).n_Question_lead | exact (‹Tx _ _›).n_Question_follows | exact (‹Tx _ _›).n_Question_holds)
local macro_rules | `(tactic| walk_at "glob") => `(tactic| first | ((with_reducible refine gNa "LETTERS" ?_); refine we_gS (‹Tx _ _›).c_LETTERS rfl (by decide +kernel) ?_) | ((with_reducible refine gNa "FIGURES" ?_); refine we_gS (‹Tx _ _›).c_FIGURES rfl (by decide +kernel) ?_) | ((with_reducible refine gNa "LONGEST" ?_); refine we_gI (‹Tx _ _›).c_LONGEST rfl ?_) | ((with_reducible refine gNa "MOST_FOLLOWS" ?_); refine we_gI (‹Tx _ _›).c_MOST_FOLLOWS rfl ?_))
local macro_rules | `(tactic| walk_at "blt") => `(tactic| first | ((with_reducible refine gF "len" ?_); refine we_len (‹Tx _ _›).z_len rfl ?_) | ((with_reducible refine gF "int" ?_); refine we_toint (‹Tx _ _›).z_int rfl ?_) | ((with_reducible refine gF "list" ?_); refine we_list (‹Tx _ _›).z_list rfl ?_) | ((with_reducible refine gF "tuple" ?_); refine we_tuple (‹Tx _ _›).z_tuple rfl ?_) | ((with_reducible refine gF "all" ?_); refine we_all rfl (‹Tx _ _›).z_all rfl ?_) | ((with_reducible refine gX "append" ?_); refine we_append ?_) | ((with_reducible refine gX "extend" ?_); refine we_extend ?_) | ((with_reducible refine gX "join" ?_); refine we_join ?_) | ((with_reducible refine gX "split" ?_); refine we_split ?_))
local macro_rules | `(tactic| walk_at "na") => `(tactic| first | (refine ⟨⟨?_, ?_⟩, ?_⟩; walk_at "cl"; walk_at "no") | (refine ⟨_, _, _, rfl, rfl, ⟨?_, ?_⟩, ?_⟩; walk_at "cl"; walk_at "no") | (refine ⟨_, _, _, rfl, rfl, ?_, ?_, Nat.le_of_ble_eq_true rfl, ?_⟩; walk_at "cl"; walk_at "no"))
local macro_rules | `(tactic| walk_at "w") => `(tactic| ((first | refine w1d ?_ | refine w1c rfl ?_ | refine w1k rfl ?_); (first | refine w1d ?_ | refine w1c rfl ?_ | refine w1k rfl ?_ | skip)))
local macro_rules | `(tactic| walk_at "e") => `(tactic| first
  | ((with_reducible refine gN ?_); first | walk_at "v" | walk_at "glob")
  | ((with_reducible refine gC ?_); first | refine we_int ?_ | refine we_str (by decide +kernel) ?_ | refine we_bl ?_ | refine we_non ?_)
  | ((with_reducible refine gO ?_); first | refine we_add ?_ | refine we_sub1 ?_ | refine we_mul1 ?_ | refine we_fdiv1 ?_ | refine we_mod1 ?_ | refine we_pow1 ?_)
  | ((with_reducible refine gI ?_); first | refine we_slice ?_ | refine we_ix ?_)
  | ((with_reducible refine gL ?_); first | walk_at "call" | walk_at "blt")
  | ((with_reducible refine gM ?_); first | refine we_lt ?_ | refine we_le ?_ | refine we_gt ?_ | refine we_ge ?_ | refine we_eq (by assumption) ?_ | refine we_ne (by assumption) ?_ | refine we_in (by assumption) rfl ?_ | refine we_ni (by assumption) rfl ?_)
  | refine we_or ?_ | refine we_and ?_ | refine we_one ?_ | refine we_not ?_ | refine we_tup ?_ | refine we_fld ?_)
local macro_rules | `(tactic| walk_at "t") => `(tactic| first
  | refine wt_lt ?_ | refine wt_le ?_ | refine wt_gt ?_ | refine wt_ge ?_ | refine wt_lele ?_ | refine wt_eq (by assumption) ?_ | refine wt_ne (by assumption) ?_ | refine wt_not ?_ | refine wt_in (by assumption) rfl ?_ | refine wt_ni (by assumption) rfl ?_ | (refine wt_w ?_; first | refine ww_or ?_ | refine ww_and ?_) | ((with_reducible refine gTc ?_); refine wt_val ?_) | refine wt_val ?_)
local macro_rules | `(tactic| walk_at "st") => `(tactic| first
  | ((with_reducible refine gR ?_); first | walk_at "set" | refine ws_fld ?_ | refine ws_asg ?_)
  | refine ws_if ?_ | refine ws_ret ?_ | refine ws_expr ?_ | walk_at "raise")
local macro_rules | `(tactic| walk_at "x") => `(tactic| (fail_if_success refine gE ?_); (fail_if_success refine gT ?_); (fail_if_success refine gS ?_); first
  | refine i2 ?_ | refine a1 ?_ | refine on1 ?_ | refine dinS ?_ | refine cl1 rfl ?_ | refine cdc rfl ?_ | walk_at "w" | refine wsd rfl ⟨Nat.le_of_ble_eq_true rfl, ?_⟩ | refine eqI ?_ | refine neI ?_ | refine eqS ?_ | refine neS ?_ | refine inSs ?_ | refine niSs ?_ | refine inSe ?_ | refine niSe ?_ | refine addI ?_ | refine ixL rfl ?_ | refine ixT rfl ?_ | ((with_reducible refine gGi ?_); refine wg_item ?_)
  | walk_at "na" | refine ⟨_, _, _, _, _, rfl, rfl, rfl, rfl, rfl, ?_⟩ | refine ⟨_, _, rfl, rfl, (show _ ∧ _ from ⟨by omega, by omega⟩), ?_⟩ | refine ⟨_, _, rfl, rfl, (show (_ : Prop) from by omega), ?_⟩ | refine ⟨_, _, rfl, rfl, ?_⟩ | refine wo_none ?_ | refine wo_some ?_ | refine ⟨_, rfl, ?_⟩)
local macro_rules | `(tactic| walk_at "s") => `(tactic| first
  | (refine gE ?_; walk_at "e")
  | (refine gB ?_; first | refine wb_cons ?_ | refine wb_nil ?_)
  | (refine gS ?_; walk_at "st")
  | (refine gT ?_; walk_at "t")
  | (refine gA ?_; first | refine wa_cons ?_ | refine wa_nil ?_)
  | (refine gW ?_; first | refine ww_or ?_ | refine ww_and ?_ | refine ww_or1 ?_ | refine ww_and1 ?_)
  | walk_at "x")

/-! the well: a great number's own digits, then mixed ones -/
structure WOk (n : Nat) (st : Int × Int × Int) : Prop where
  a : 0 ≤ st.1
  b : 0 ≤ st.2.1 ∧ st.2.1 < 2147483647
  c : 0 ≤ st.2.2 ∧ st.2.2 ≤ n
theorem WOk.mono {n m : Nat} {st : Int × Int × Int} (h : WOk n st) (e : n ≤ m) : WOk m st := ⟨h.a, h.b, h.c.1, by have := h.c.2; omega⟩
def sp_well : SpD := fun xs M R _ => ∃ n : Int, xs = [.dat (.int n)] ∧ M = [] ∧ ∀ st, WOk 0 st → R (.cel 0) [dC st]
section
local macro_rules | `(tactic| walk_at "v") => `(tactic| first | ((with_reducible refine gNa "_law_cell" ?_); refine we_var (i := 0) rfl (vis rfl) rfl ?_))
local macro_rules | `(tactic| walk_at "set") => `(tactic| first | ((with_reducible refine gSn "_law_cell" ?_); refine ws_set (i := 0) (by assumption) rfl (by first | exact .inl rfl | exact .inr rfl) ?_))
theorem ok_well (T : Tx K mg) : FnOk P w K mg base (L2.CX P w) 1 T.f_law_well T.d_law_well ps_law_well (spOf K 0 sp_well) := by
  refine fn_okC T.F_law_well sc_law_well (fun xs M R Rx h => by obtain ⟨_, rfl, _⟩ := h; rfl) (fun cdv A outer s H E B xs M R Rx hr hB h => ?_)
  obtain ⟨n, rfl, rfl, hR⟩ := h
  have nd := sc_law_well.nd
  repeat walk_at "s"
  refine we_lstC ?_
  iterate 3 walk_at "s"
  refine gF "int" ?_
  refine we_toint T.z_int rfl ?_
  refine wa_cons ?_
  refine we_ge ?_
  walk_at "s"
  refine we_pow1 ?_
  iterate 2 walk_at "s"
  refine ⟨10, 18, rfl, rfl, ⟨by omega, by omega, by decide⟩, ?_⟩
  refine ⟨n, 10 ^ (18 : Int).toNat, rfl, rfl, ?_⟩
  have hp : (10 : Int) ^ (18 : Int).toNat = 1000000000000000000 := by decide
  rw [hp]
  refine wa_nil ?_
  refine a1 (w1d ?_)
  refine ⟨n, _, rfl, rfl, .inr ⟨by split <;> omega, by split <;> omega⟩, ?_⟩
  repeat walk_at "s"
  refine ⟨rfl, hR (_, _, _) ⟨?_, ⟨?_, ?_⟩, ⟨?_, ?_⟩⟩⟩
  · show 0 ≤ n * if decide ((1000000000000000000 : Int) ≤ n) = true then 1 else 0
    split
    · rename_i h
      have := of_decide_eq_true h
      omega
    · omega
  all_goals (dsimp only; omega)
end
/-- a draw below b -/
def sp_wdraw : SpD := fun xs M R _ => ∃ st b k, xs = [.cel 0, .dat (.int b)] ∧ M = [dC st] ∧ (WOk k st ∧ k ≤ 1000000) ∧ (0 < b ∧ b < 1073741824) ∧ ∀ st' n, WOk (k + 1) st' → 0 ≤ n → n < b → R (.dat (.int n)) [dC st']
theorem base_small {b c : Int} (h1 : 0 ≤ b) (h2 : b < 2147483647) (h3 : 0 ≤ c) (h4 : c ≤ 1000001) : (b * (2 * c + 1) + 7919 * c + 1).natAbs < 2 ^ 64 := by
  have h5 : b * (2 * c + 1) ≤ 2147483647 * 2000003 := Int.mul_le_mul (by omega) (by omega) (by omega) (by omega)
  have h6 : 0 ≤ b * (2 * c + 1) := Int.mul_nonneg h1 (by omega)
  omega
section
local macro_rules | `(tactic| walk_at "v") => `(tactic| first | ((with_reducible refine gNa "_law_well_here" ?_); refine we_var (i := 0) rfl (vis rfl) rfl ?_) | ((with_reducible refine gNa "_law_many" ?_); refine we_var (i := 1) rfl (vis rfl) rfl ?_) | ((with_reducible refine gNa "_law_digit" ?_); refine we_var (i := 2) rfl (vis rfl) rfl ?_) | ((with_reducible refine gNa "_law_prime" ?_); refine we_var (i := 3) rfl (vis rfl) rfl ?_) | ((with_reducible refine gNa "_law_number" ?_); refine we_var (i := 4) rfl (vis rfl) rfl ?_))
local macro_rules | `(tactic| walk_at "set") => `(tactic| first | ((with_reducible refine gSn "_law_well_here" ?_); refine ws_set (i := 0) (by assumption) rfl (by first | exact .inl rfl | exact .inr rfl) ?_) | ((with_reducible refine gSn "_law_many" ?_); refine ws_set (i := 1) (by assumption) rfl (by first | exact .inl rfl | exact .inr rfl) ?_) | ((with_reducible refine gSn "_law_digit" ?_); refine ws_set (i := 2) (by assumption) rfl (by first | exact .inl rfl | exact .inr rfl) ?_) | ((with_reducible refine gSn "_law_prime" ?_); refine ws_set (i := 3) (by assumption) rfl (by first | exact .inl rfl | exact .inr rfl) ?_) | ((with_reducible refine gSn "_law_number" ?_); refine ws_set (i := 4) (by assumption) rfl (by first | exact .inl rfl | exact .inr rfl) ?_))
theorem ok_wdraw (T : Tx K mg) : FnOk P w K mg base (L2.CX P w) 1 T.f_law_draw T.d_law_draw ps_law_draw (spOf K 1 sp_wdraw) := by
  refine fn_ok T.F_law_draw sc_law_draw (fun xs M R Rx h => by obtain ⟨_, _, _, rfl, _⟩ := h; rfl) (fun cdv A outer s H E B xs M R Rx hr hB h => ?_)
  obtain ⟨⟨a, b, c⟩, n, k, rfl, rfl, ⟨ok, hk⟩, hb, hR⟩ := h
  have nd := sc_law_draw.nd
  have oa := ok.a
  have ob := ok.b
  have oc := ok.c
  simp only at oa ob oc
  repeat walk_at "s"
  refine ite_b (fun ha => ?_) (fun ha => ?_)
  · repeat walk_at "s"
    exact ⟨rfl, hR (a / n, b, c) _ ⟨Int.ediv_nonneg oa (by omega), ob, ⟨oc.1, by dsimp only; omega⟩⟩ (Int.emod_nonneg _ (by omega)) (Int.emod_lt_of_pos _ hb.1)⟩
  · repeat walk_at "s"
    refine we_lst ?_
    repeat walk_at "s"
    have hm0 : 0 ≤ (c + 1) % 5 := Int.emod_nonneg _ (by omega)
    have hm1 : (c + 1) % 5 < 5 := Int.emod_lt_of_pos _ (by omega)
    refine ix_lst hm0 (by show _ < (5 : Int); exact hm1) (fun d hd => ?_)
    obtain ⟨p, rfl, hp0, hp1⟩ : ∃ p : Int, d = .int p ∧ 1009 < p ∧ p < 2147483648 := by
      simp only [List.mem_cons, List.not_mem_nil, or_false] at hd
      rcases hd with rfl | rfl | rfl | rfl | rfl <;> exact ⟨_, rfl, by omega, by omega⟩
    have hbs := base_small (b := b) (c := c + 1) ob.1 ob.2 (by omega) (by omega)
    have hq : ∀ X : Int, 0 ≤ X % p ∧ X % p < p := fun X => ⟨Int.emod_nonneg _ (by omega), Int.emod_lt_of_pos _ (by omega)⟩
    show WB _ _ _ _ _ _ _
    refine wb_cut (st := .Assign _ _ _) (fun ss M => ∃ q, (0 ≤ q ∧ q < p) ∧ ss = [some (.cel 0), some (.dat (.int n)), none, some (.dat (.int p)), some (.dat (.int q))] ∧ M = [dC (a, b, c + 1)]) ?_ ?_
    · repeat walk_at "s"
      refine ⟨.inl ⟨by show -2 ^ 64 < b; omega, by show b < 2 ^ 64; omega⟩, ?_⟩
      repeat walk_at "s"
      refine ⟨⟨by omega, by omega, hbs⟩, ?_⟩
      repeat walk_at "s"
      exact ⟨_, hq _, rfl, rfl⟩
    rintro ss M ⟨q, ⟨hq0, hq1⟩, rfl, rfl⟩
    refine wb_cut (st := .Assign _ _ _) (fun ss M => ∃ q, (0 ≤ q ∧ q < p) ∧ ss = [some (.cel 0), some (.dat (.int n)), none, some (.dat (.int p)), some (.dat (.int q))] ∧ M = [dC (a, b, c + 1)]) ?_ ?_
    · repeat walk_at "s"
      exact ⟨_, hq _, rfl, rfl⟩
    rintro ss M ⟨q2, ⟨hq2, hq3⟩, rfl, rfl⟩
    repeat walk_at "s"
    exact ⟨rfl, hR (a, b, c + 1) _ ⟨oa, ob, ⟨by dsimp only; omega, by dsimp only; omega⟩⟩ (Int.emod_nonneg _ (by omega)) (Int.emod_lt_of_pos _ hb.1)⟩
end
theorem cal_well (T : Tx K mg) : Cal P w K mg base "_law_well" 1 0 sp_well := ⟨_, _, _, ok_well T, T.g_law_well, T.F_law_well.kp, T.b_law_well⟩
local macro_rules | `(tactic| walk_at "call") => `(tactic| ((with_reducible refine gF "_law_well" ?_); refine we_own (k := 1) (n := 0) (S := sp_well) ?_ ?_ rfl ?_; exact cal_well ‹Tx _ _›; exact room ‹Room _ _› (by decide)))
theorem cal_wdraw (T : Tx K mg) : Cal P w K mg base "_law_draw" 1 1 sp_wdraw := ⟨_, _, _, ok_wdraw T, T.g_law_draw, T.F_law_draw.kp, T.b_law_draw⟩
local macro_rules | `(tactic| walk_at "call") => `(tactic| ((with_reducible refine gF "_law_draw" ?_); refine we_own (k := 1) (n := 1) (S := sp_wdraw) ?_ ?_ rfl ?_; exact cal_wdraw ‹Tx _ _›; exact room ‹Room _ _› (by decide)))
local macro_rules | `(tactic| walk_at "dig") => `(tactic| (refine cq rfl ⟨_, _, _, rfl, rfl, ⟨by assumption, by omega⟩, ⟨by omega, by omega⟩, fun _ _ _ _ _ => ?_⟩))

/-- a name: 1 to 10 signs, a letter ahead, letters and figures -/
def lets : Str := "abcdefghijklmnopqrstuvwxyz"
def figs : Str := "0123456789"
def signOk (c : Nat) : Bool := decide (c ∈ lets.cps.toList) || decide (c ∈ figs.cps.toList)
def isNm (z : Str) : Bool := match z.cps.toList with
  | [] => false
  | c :: r => decide (r.length ≤ 9) && decide (c ∈ lets.cps.toList) && (c :: r).all signOk
def sp_isname : SpD := fun xs M R _ => ∃ z, xs = [.dat (.str z)] ∧ M = [] ∧ R (.dat (.bl (isNm z))) []
theorem isNm_short {z : Str} (h : isNm z = true) : z.length ≤ 10 ∧ 1 ≤ z.length := by
  unfold isNm at h
  have e : z.length = z.cps.toList.length := by simp [Str.length]
  split at h
  · cases h
  · rename_i c r e2
    rw [e, e2]
    simp only [Bool.and_eq_true, decide_eq_true_eq] at h
    simp only [List.length_cons]
    omega
section
local macro_rules | `(tactic| walk_at "v") => `(tactic| first | ((with_reducible refine gNa "text" ?_); refine we_var (i := 0) rfl (vis rfl) rfl ?_) | ((with_reducible refine gNa "sign" ?_); refine we_var (i := 1) rfl (vis rfl) rfl ?_))
local macro_rules | `(tactic| walk_at "set") => `(tactic| first | ((with_reducible refine gSn "text" ?_); refine ws_set (i := 0) (by assumption) rfl (by first | exact .inl rfl | exact .inr rfl) ?_) | ((with_reducible refine gSn "sign" ?_); refine ws_set (i := 1) (by assumption) rfl (by first | exact .inl rfl | exact .inr rfl) ?_))
theorem ok_isname (T : Tx K mg) : FnOk P w K mg base (L2.CX P w) 1 T.f_is_name T.d_is_name ["text"] (spOf K 0 sp_isname) := by
  refine fn_ok T.F_is_name sc_is_name (fun xs M R Rx h => by obtain ⟨_, rfl, _⟩ := h; rfl) (fun cdv A outer s H E B xs M R Rx hr hB h => ?_)
  obtain ⟨z, rfl, rfl, hR⟩ := h
  have nd := sc_is_name.nd
  repeat walk_at "s"
  have e : z.length = z.cps.toList.length := by simp [Str.length]
  refine ite_b (fun h1 => ?_) (fun h1 => ?_)
  · repeat walk_at "s"
    refine ite_n (fun h2 => ?_) (fun h2 => ?_)
    · refine it_t rfl ?_
      repeat walk_at "s"
      refine ⟨rfl, ?_⟩
      have : isNm z = false := by
        cases ez : isNm z with
        | false => rfl
        | true => have := (isNm_short ez).1; omega
      rw [this] at hR
      exact hR
    cases ez : z.cps.toList with
    | nil => rw [ez] at e; simp at e; omega
    | cons c r =>
    have en : isNm z = (decide (c ∈ lets.cps.toList) && (c :: r).all signOk) := by
      unfold isNm
      rw [ez]
      have : decide (r.length ≤ 9) = true := by
        rw [ez, List.length_cons] at e
        exact decide_eq_true (by omega)
      simp only [this, Bool.true_and]
    rw [en] at hR
    repeat walk_at "s"
    refine ixS (c := c) (by rw [ez]; exact atI_nat (j := 0) rfl) ?_
    repeat walk_at "s"
    refine ite_n (fun h3 => ?_) (fun h3 => ?_)
    · repeat walk_at "s"
      refine ⟨rfl, ?_⟩
      rw [decide_eq_false (show ¬ c ∈ lets.cps.toList from h3)] at hR
      exact hR
    rw [decide_eq_true (show c ∈ lets.cps.toList from h3), Bool.true_and] at hR
    repeat walk_at "s"
    refine we_lc1 (j := 1) rfl nd (blkOk_by rfl) rfl (fun _ _ _ _ _ => .inl rfl) (by decide) (wi_str ?_)
    repeat walk_at "s"
    refine lcq_map (fun d => match d with | .str y => .bl (match y.cps.toList with | [c] => signOk c | _ => false) | _ => .bl false) ?_ ?_ ?_
    · unfold signsD
      rw [List.length_map, ← e]
      exact size_ge (by omega)
    · intro i d hd s H C cl fp B hB
      obtain ⟨c', rfl⟩ : ∃ c', d = .str ⟨#[c']⟩ := by
        unfold signsD at hd
        rw [List.getElem?_map] at hd
        cases e2 : z.cps.toList[i]? with
        | none => rw [e2] at hd; cases hd
        | some c' => rw [e2] at hd; exact ⟨c', (Option.some.inj hd).symm⟩
      repeat walk_at "s"
      refine ite_b (fun h4 => ?_) (fun h4 => ?_)
      · have : signOk c' = true := by unfold signOk; rw [decide_eq_true (show c' ∈ lets.cps.toList from h4)]; rfl
        exact ⟨by show _ = SV.dat (D.bl (signOk c')); rw [this], rfl⟩
      · repeat walk_at "s"
        have : signOk c' = decide (c' ∈ figs.cps.toList) := by unfold signOk; rw [decide_eq_false (show ¬ c' ∈ lets.cps.toList from h4)]; rfl
        exact ⟨by show _ = SV.dat (D.bl (signOk c')); rw [this]; rfl, rfl⟩
    · repeat walk_at "s"
      refine ⟨z.cps.toList.map signOk, ?_, ?_⟩
      · unfold signsD
        rw [List.map_map, List.map_map]
        rfl
      · refine ⟨rfl, ?_⟩
        have : (z.cps.toList.map signOk).all id = (c :: r).all signOk := by rw [ez, List.all_map]; rfl
        rw [← this] at hR
        exact hR
  · repeat walk_at "s"
    refine ⟨rfl, ?_⟩
    have : isNm z = false := by
      cases ez : isNm z with
      | false => rfl
      | true => have := (isNm_short ez).2; omega
    rw [this] at hR
    exact hR
end
theorem cal_isname (T : Tx K mg) : Cal P w K mg base "is_name" 1 0 sp_isname := ⟨_, _, _, ok_isname T, T.g_is_name, T.F_is_name.kp, T.b_is_name⟩
local macro_rules | `(tactic| walk_at "call") => `(tactic| ((with_reducible refine gF "is_name" ?_); refine we_own (k := 1) (n := 0) (S := sp_isname) ?_ ?_ rfl ?_; exact cal_isname ‹Tx _ _›; exact room ‹Room _ _› (by decide)))

theorem ok_NoName_init (T : Tx K mg) : FnOk P w K mg base CX0 1 T.f_NoName_init T.d_NoName_init ["self", "name"] (spX1 K "name") := by
  refine T.F_NoName_init.ok sc_NoName_init (fun vs H Q E h => by obtain ⟨a, C, v, rfl, _⟩ := h; rfl) (fun cdv A outer s H vs Q E hr h => ?_)
  obtain ⟨a, C, v, rfl, hC, hf, ha, k⟩ := h
  exact ⟨_, pss_one (ps_ost (pv 0) (pv 1)), v, rfl, .ref a, rfl, a, C, rfl, hC, hf, .inl ⟨ha, k⟩⟩
theorem rai_NoName (T : Tx K mg) : Rai P w K mg base "NoName" T.C_NoName "name" := ⟨_, _, _, ⟨T.o_NoName, T.g_NoName, T.i_NoName, T.t_NoName⟩, T.n_NoName_name, ok_NoName_init T, T.b_NoName_init⟩
local macro_rules | `(tactic| walk_at "raise") => `(tactic| ((with_reducible refine gRa "NoName" ?_); refine ws_rai (x := "NoName") (C := (‹Tx _ _›).C_NoName) (f := "name") ?_ ?_ rfl rfl ?_; exact rai_NoName ‹Tx _ _›; exact room ‹Room _ _› (by decide)))
/-- the first that is no name -/
def badNm (zs : List Str) : Option Str := zs.find? fun z => !isNm z
def sp_names (CN : Addr) : SpD := fun xs M R Rx => ∃ zs : List Str, xs = [.dat (.lst (zs.map D.str))] ∧ M = [] ∧ (match badNm zs with
  | none => R (.dat .non) []
  | some z => Rx CN [("name", .str z)] [])
theorem str_get {zs : List Str} {i : Nat} {d : D} (h : (zs.map D.str)[i]? = some d) : ∃ z, zs[i]? = some z ∧ d = .str z := by
  rw [List.getElem?_map] at h
  cases e : zs[i]? with
  | none => rw [e] at h; cases h
  | some z => rw [e] at h; exact ⟨z, rfl, (Option.some.inj h).symm⟩
theorem find_at {α : Type} {p : α → Bool} : ∀ {l : List α} {i : Nat} {z : α}, l[i]? = some z → (∀ j y, j < i → l[j]? = some y → p y = false) → p z = true → l.find? p = some z
  | [], _, _, h, _, _ => by simp at h
  | x :: l, 0, z, h, _, hz => by simp at h; subst h; simp [hz]
  | x :: l, i + 1, z, h, hl, hz => by
    have hx := hl 0 x (by omega) (by simp)
    rw [List.find?_cons, hx]
    exact find_at (i := i) (by simpa using h) (fun j y hj hy => hl (j + 1) y (by omega) (by simpa using hy)) hz
theorem find_no {α : Type} {p : α → Bool} {l : List α} (h : ∀ (j : Nat) y, j < l.length → l[j]? = some y → p y = false) : l.find? p = none := by
  rw [List.find?_eq_none]
  intro x hx
  obtain ⟨j, hj⟩ := List.getElem?_of_mem hx
  have := h j x (List.getElem?_eq_some_iff.mp hj).1 hj
  rw [this]
  exact Bool.false_ne_true
section
local macro_rules | `(tactic| walk_at "v") => `(tactic| first | ((with_reducible refine gNa "texts" ?_); refine we_var (i := 0) rfl (vis rfl) rfl ?_) | ((with_reducible refine gNa "text" ?_); refine we_var (i := 1) rfl (vis rfl) rfl ?_))
local macro_rules | `(tactic| walk_at "set") => `(tactic| first | ((with_reducible refine gSn "texts" ?_); refine ws_set (i := 0) (by assumption) rfl (by first | exact .inl rfl | exact .inr rfl) ?_) | ((with_reducible refine gSn "text" ?_); refine ws_set (i := 1) (by assumption) rfl (by first | exact .inl rfl | exact .inr rfl) ?_))
theorem ok_names (T : Tx K mg) : FnOk P w K mg base (L2.CX P w) 3 T.f_asked_names T.d_asked_names ["texts"] (spOf K 0 (sp_names T.C_NoName)) := by
  refine fn_ok T.F_asked_names sc_asked_names (fun xs M R Rx h => by obtain ⟨_, rfl, _⟩ := h; rfl) (fun cdv A outer s H E B xs M R Rx hr hB h => ?_)
  obtain ⟨zs, rfl, rfl, hR⟩ := h
  have nd := sc_asked_names.nd
  walk_at "s"
  refine ws_for rfl (wi_list ?_)
  repeat walk_at "s"
  refine ⟨fun i ss M => (∀ (j : Nat) y, j < i → zs[j]? = some y → isNm y = true) ∧ (∃ o, ss = [some (.dat (.lst (zs.map D.str))), o]) ∧ M = [], ⟨fun j y hj => absurd hj (Nat.not_lt_zero j), ⟨_, rfl⟩, rfl⟩, ?_, ?_⟩
  · rintro i d ss M hd ⟨hz, ⟨o, rfl⟩, rfl⟩
    obtain ⟨z, hi, rfl⟩ := str_get hd
    refine wg_name (i := 1) nd rfl (.inl rfl) ?_
    repeat walk_at "s"
    refine cq rfl ⟨z, rfl, rfl, ?_⟩
    repeat walk_at "s"
    refine ite_v (fun h => ?_) (fun h => ?_)
    · repeat walk_at "s"
      have : badNm zs = some z := find_at hi (fun j y hj hy => by rw [hz j y hj hy]; rfl) h
      rw [this] at hR
      exact ⟨rfl, hR⟩
    · repeat walk_at "s"
      refine ⟨fun j y hj hy => ?_, ⟨_, rfl⟩, rfl⟩
      rcases Nat.lt_succ_iff_lt_or_eq.mp hj with h1 | h1
      · exact hz j y h1 hy
      · subst h1
        rw [hi] at hy
        cases hy
        simpa using h
  · rintro ss M ⟨hz, ⟨o, rfl⟩, rfl⟩
    have : badNm zs = none := find_no fun j y hj hy => by rw [hz j y (by rw [List.length_map]; exact hj) hy]; rfl
    rw [this] at hR
    repeat walk_at "s"
    exact ⟨rfl, hR⟩
end
theorem cal_names (T : Tx K mg) : Cal P w K mg base "asked_names" 3 0 (sp_names T.C_NoName) := ⟨_, _, _, ok_names T, T.g_asked_names, T.F_asked_names.kp, T.b_asked_names⟩
local macro_rules | `(tactic| walk_at "call") => `(tactic| ((with_reducible refine gF "asked_names" ?_); refine we_own (k := 3) (n := 0) (S := (sp_names (‹Tx _ _›).C_NoName)) ?_ ?_ rfl ?_; exact cal_names ‹Tx _ _›; exact room ‹Room _ _› (by decide)))

/-- one of some: of a list, of a text's signs -/
def pickD (d e : D) : Prop := match d with
  | .lst ds => e ∈ ds
  | .str z => ∃ c ∈ z.cps.toList, e = .str ⟨#[c]⟩
  | _ => False
def sp_wof : SpD := fun xs M R _ => ∃ st k d n, xs = [.cel 0, .dat d] ∧ M = [dC st] ∧ (WOk k st ∧ k ≤ 1000000) ∧ ((∃ ds, d = .lst ds ∧ ds.length = n) ∨ (∃ z : Str, d = .str z ∧ z.length = n)) ∧ (1 ≤ n ∧ n ≤ 1000) ∧ ∀ st' e, WOk (k + 1) st' → pickD d e → R (.dat e) [dC st']
section
local macro_rules | `(tactic| walk_at "v") => `(tactic| first | ((with_reducible refine gNa "_law_well_here" ?_); refine we_var (i := 0) rfl (vis rfl) rfl ?_) | ((with_reducible refine gNa "_law_some" ?_); refine we_var (i := 1) rfl (vis rfl) rfl ?_))
local macro_rules | `(tactic| walk_at "set") => `(tactic| first | ((with_reducible refine gSn "_law_well_here" ?_); refine ws_set (i := 0) (by assumption) rfl (by first | exact .inl rfl | exact .inr rfl) ?_) | ((with_reducible refine gSn "_law_some" ?_); refine ws_set (i := 1) (by assumption) rfl (by first | exact .inl rfl | exact .inr rfl) ?_))
theorem ok_wof (T : Tx K mg) : FnOk P w K mg base (L2.CX P w) 3 T.f_law_of T.d_law_of ps_law_of (spOf K 1 sp_wof) := by
  refine fn_ok T.F_law_of sc_law_of (fun xs M R Rx h => by obtain ⟨_, _, _, _, rfl, _⟩ := h; rfl) (fun cdv A outer s0 H E B xs M R Rx hr hB h => ?_)
  obtain ⟨st, k, d, n, rfl, rfl, ⟨ok, hk⟩, hd, hn, hR⟩ := h
  have nd := sc_law_of.nd
  rcases hd with ⟨ds, rfl, rfl⟩ | ⟨z, rfl, rfl⟩
  · repeat walk_at "s"
    walk_at "dig"
    rename_i st1 v ok1 v0 v1
    repeat walk_at "s"
    refine ix_lst v0 v1 (fun d hd => ?_)
    exact ⟨rfl, hR st1 d ok1 hd⟩
  · repeat walk_at "s"
    walk_at "dig"
    rename_i st1 v ok1 v0 v1
    repeat walk_at "s"
    refine ix_str v0 v1 (fun c hc => ?_)
    exact ⟨rfl, hR st1 _ ok1 ⟨c, hc, rfl⟩⟩
end
theorem cal_wof (T : Tx K mg) : Cal P w K mg base "_law_of" 3 1 sp_wof := ⟨_, _, _, ok_wof T, T.g_law_of, T.F_law_of.kp, T.b_law_of⟩
local macro_rules | `(tactic| walk_at "call") => `(tactic| ((with_reducible refine gF "_law_of" ?_); refine we_own (k := 3) (n := 1) (S := sp_wof) ?_ ?_ rfl ?_; exact cal_wof ‹Tx _ _›; exact room ‹Room _ _› (by decide)))

/-! texts, names or not -/
structure TxOk (z : Str) : Prop where
  sok : SOk z
  len : z.length ≤ 11
  ne : z ≠ "c3c3c3c3c"
theorem bad_tx : ∀ z ∈ (["", "A", "9a", "abcdefghijk", "a b", "a-b", "{", " a", "a_", "aB"] : List Str), (PyData.strOk z = true ∧ z.length ≤ 11) ∧ z ≠ "c3c3c3c3c" := by decide +kernel
theorem wrd_tx : ∀ z ∈ (["write", "wait", "skip", "lead", "with", "holds", "any", "m", "abcdefghij", "a123456789"] : List Str), (PyData.strOk z = true ∧ z.length ≤ 11) ∧ z ≠ "c3c3c3c3c" := by decide +kernel
theorem tx_of {z : Str} (h : (PyData.strOk z = true ∧ z.length ≤ 11) ∧ z ≠ "c3c3c3c3c") : TxOk z := ⟨⟨size_ge (by have := h.1.2; omega), h.1.1⟩, h.1.2, h.2⟩
theorem strs_pick {l : List Str} {e : D} (h : pickD (.lst (l.map D.str)) e) : ∃ z ∈ l, e = .str z := by
  obtain ⟨z, hz, rfl⟩ := List.mem_map.mp h
  exact ⟨z, hz, rfl⟩
theorem lets_ok : ∀ c ∈ lets.cps.toList, c < 0x110000 := by decide +kernel
theorem both_ok : ∀ c ∈ (lets ++ figs).cps.toList, c < 0x110000 := by decide +kernel
theorem one_ok {c : Nat} (h : c < 0x110000) : PyData.strOk ⟨#[c]⟩ = true := by
  unfold PyData.strOk
  rw [← Array.all_toList]
  simpa using h
def sp_wtext : SpD := fun xs M R _ => ∃ st k b, xs = [.cel 0, .dat (.bl b)] ∧ M = [dC st] ∧ (WOk k st ∧ k ≤ 900000) ∧ ∀ st' z, WOk (k + 12) st' → TxOk z → R (.dat (.str z)) [dC st']
section
local macro_rules | `(tactic| walk_at "v") => `(tactic| first | ((with_reducible refine gNa "_law_well_here" ?_); refine we_var (i := 0) rfl (vis rfl) rfl ?_) | ((with_reducible refine gNa "_law_spoilt" ?_); refine we_var (i := 1) rfl (vis rfl) rfl ?_) | ((with_reducible refine gNa "_law_signs" ?_); refine we_var (i := 2) rfl (vis rfl) rfl ?_) | ((with_reducible refine gNa "_law_name" ?_); refine we_var (i := 3) rfl (vis rfl) rfl ?_) | ((with_reducible refine gNa "_law_door" ?_); refine we_var (i := 4) rfl (vis rfl) rfl ?_) | ((with_reducible refine gNa "_law_k" ?_); refine we_var (i := 5) rfl (vis rfl) rfl ?_))
local macro_rules | `(tactic| walk_at "set") => `(tactic| first | ((with_reducible refine gSn "_law_well_here" ?_); refine ws_set (i := 0) (by assumption) rfl (by first | exact .inl rfl | exact .inr rfl) ?_) | ((with_reducible refine gSn "_law_spoilt" ?_); refine ws_set (i := 1) (by assumption) rfl (by first | exact .inl rfl | exact .inr rfl) ?_) | ((with_reducible refine gSn "_law_signs" ?_); refine ws_set (i := 2) (by assumption) rfl (by first | exact .inl rfl | exact .inr rfl) ?_) | ((with_reducible refine gSn "_law_name" ?_); refine ws_set (i := 3) (by assumption) rfl (by first | exact .inl rfl | exact .inr rfl) ?_) | ((with_reducible refine gSn "_law_door" ?_); refine ws_set (i := 4) (by assumption) rfl (by first | exact .inl rfl | exact .inr rfl) ?_) | ((with_reducible refine gSn "_law_k" ?_); refine ws_set (i := 5) (by assumption) rfl (by first | exact .inl rfl | exact .inr rfl) ?_))
theorem ok_wtext (T : Tx K mg) : FnOk P w K mg base (L2.CX P w) 5 T.f_law_text T.d_law_text ps_law_text (spOf K 1 sp_wtext) := by
  refine fn_ok T.F_law_text sc_law_text (fun xs M R Rx h => by obtain ⟨_, _, _, rfl, _⟩ := h; rfl) (fun cdv A outer s0 H E B xs M R Rx hr hB h => ?_)
  obtain ⟨st, k, b, rfl, rfl, ⟨ok, hk⟩, hR⟩ := h
  have nd := sc_law_text.nd
  repeat walk_at "s"
  refine cq rfl ⟨_, k, .str lets, 26, rfl, rfl, ⟨ok, by omega⟩, .inr ⟨_, rfl, by decide +kernel⟩, ⟨by omega, by omega⟩, fun st1 e ok1 he => ?_⟩
  obtain ⟨c, hc, rfl⟩ := he
  repeat walk_at "s"
  walk_at "dig"
  rename_i st2 door ok2 dr0 dr1
  refine wb_cut (st := .If _ _ _ _) (fun ss M => ∃ st3 z o5, WOk (k + 10) st3 ∧ ((PyData.strOk z = true ∧ z.length ≤ 11) ∧ z ≠ "c3c3c3c3c") ∧ ss = [some (.cel 0), some (.dat (.bl b)), some (.dat (.str lets)), some (.dat (.str z)), some (.dat (.int door)), o5] ∧ M = [dC st3]) ?_ ?_
  · repeat walk_at "s"
    refine ite_b (fun hd0 => ?_) (fun hd0 => ?_)
    · repeat walk_at "s"
      refine we_lst ?_
      repeat walk_at "s"
      refine cq rfl ⟨_, k + 2, .lst ((["write", "wait", "skip", "lead", "with", "holds", "any", "m", "abcdefghij", "a123456789"] : List Str).map D.str), 10, rfl, rfl, ⟨ok2, by omega⟩, .inl ⟨_, rfl, rfl⟩, ⟨by omega, by omega⟩, fun st3 e ok3 he => ?_⟩
      obtain ⟨z, hz, rfl⟩ := strs_pick he
      repeat walk_at "s"
      exact ⟨st3, z, _, ok3.mono (by omega), wrd_tx z hz, rfl, rfl⟩
    · repeat walk_at "s"
      refine ite_b (fun hd1 => ?_) (fun hd1 => ?_)
      · walk_at "s"
        refine ws_for rfl (wi_range1 T.z_range rfl ?_)
        repeat walk_at "s"
        walk_at "dig"
        rename_i st3 v ok3 v0 v1
        repeat walk_at "s"
        refine ⟨⟨by omega, by omega⟩, ?_⟩
        refine ⟨fun i ss M => ∃ st z o5, WOk (k + 3 + i) st ∧ (PyData.strOk z = true ∧ z.length = i + 1) ∧ ss = [some (.cel 0), some (.dat (.bl b)), some (.dat (.str lets)), some (.dat (.str z)), some (.dat (.int door)), o5] ∧ M = [dC st], ⟨st3, ⟨#[c]⟩, _, ok3, ⟨one_ok (lets_ok c hc), rfl⟩, rfl, rfl⟩, ?_, ?_⟩
        · rintro i d ss M hd ⟨st4, z, o5, ok4, ⟨hz1, hz2⟩, rfl, rfl⟩
          obtain ⟨hi, rfl⟩ := rangeD_get hd
          refine wg_name (i := 5) nd rfl (.inl rfl) ?_
          repeat walk_at "s"
          refine addS (size_ge (by decide +kernel)) ?_
          repeat walk_at "s"
          refine cq rfl ⟨_, k + 3 + i, .str (lets ++ figs), 36, rfl, rfl, ⟨ok4, by omega⟩, .inr ⟨_, rfl, by decide +kernel⟩, ⟨by omega, by omega⟩, fun st5 e ok5 he => ?_⟩
          obtain ⟨c5, hc5, rfl⟩ := he
          have hl5 : (z ++ (⟨#[c5]⟩ : Str)).length = z.length + 1 := by
            show (z.cps ++ #[c5]).size = _
            rw [Array.size_append]
            rfl
          repeat walk_at "s"
          refine addS (size_ge (by show z.length + 1 ≤ _; omega)) ?_
          repeat walk_at "s"
          exact ⟨st5, z ++ ⟨#[c5]⟩, _, ok5, ⟨strOk_app hz1 (one_ok (both_ok c5 hc5)), by rw [hl5, hz2]⟩, rfl, rfl⟩
        · rintro ss M ⟨st4, z, o5, ok4, ⟨hz1, hz2⟩, rfl, rfl⟩
          rw [rangeD_len] at ok4 hz2
          repeat walk_at "s"
          refine ⟨st4, z, _, ok4.mono (by omega), ⟨⟨hz1, by omega⟩, ?_⟩, rfl, rfl⟩
          rintro rfl
          have h9 : ("c3c3c3c3c" : Str).length = 9 := by decide +kernel
          omega
      · repeat walk_at "s"
        refine ⟨st2, ⟨#[c]⟩, _, ok2.mono (by omega), ⟨⟨one_ok (lets_ok c hc), by show 1 ≤ 11; decide⟩, ?_⟩, rfl, rfl⟩
        intro e
        have h9 : ("c3c3c3c3c" : Str).length = 9 := by decide +kernel
        rw [← e] at h9
        exact absurd h9 (by show ¬ 1 = 9; decide)
  · rintro ss M ⟨st3, z, o5, ok3, hz, rfl, rfl⟩
    refine wb_cut (st := .If _ _ _ _) (fun ss M => ∃ st3 z o5, WOk (k + 12) st3 ∧ ((PyData.strOk z = true ∧ z.length ≤ 11) ∧ z ≠ "c3c3c3c3c") ∧ ss = [some (.cel 0), some (.dat (.bl b)), some (.dat (.str lets)), some (.dat (.str z)), some (.dat (.int door)), o5] ∧ M = [dC st3]) ?_ ?_
    · refine ws_if ?_
      refine wt_w ?_
      refine ww_and ?_
      refine wt_val ?_
      walk_at "s"
      refine ⟨_, rfl, ?_⟩
      cases b with
      | false =>
        refine it_f rfl ?_
        refine it_f rfl ?_
        repeat walk_at "s"
        exact ⟨st3, z, _, ok3.mono (by omega), hz, rfl, rfl⟩
      | true =>
        refine it_t rfl ?_
        refine ww_and1 ?_
        repeat walk_at "s"
        walk_at "dig"
        rename_i st4 v ok4 v0 v1
        repeat walk_at "s"
        refine ite_b (fun hv => ?_) (fun hv => ?_)
        · repeat walk_at "s"
          refine we_lst ?_
          repeat walk_at "s"
          refine cq rfl ⟨_, k + 11, .lst ((["", "A", "9a", "abcdefghijk", "a b", "a-b", "{", " a", "a_", "aB"] : List Str).map D.str), 10, rfl, rfl, ⟨ok4, by omega⟩, .inl ⟨_, rfl, rfl⟩, ⟨by omega, by omega⟩, fun st5 e ok5 he => ?_⟩
          obtain ⟨z5, hz5, rfl⟩ := strs_pick he
          repeat walk_at "s"
          exact ⟨st5, z5, _, ok5, bad_tx z5 hz5, rfl, rfl⟩
        · repeat walk_at "s"
          exact ⟨st4, z, _, ok4.mono (by omega), hz, rfl, rfl⟩
    · rintro ss M ⟨st4, z, o5, ok4, hz, rfl, rfl⟩
      repeat walk_at "s"
      exact ⟨rfl, hR st4 z ok4 (tx_of hz)⟩
end
theorem cal_wtext (T : Tx K mg) : Cal P w K mg base "_law_text" 5 1 sp_wtext := ⟨_, _, _, ok_wtext T, T.g_law_text, T.F_law_text.kp, T.b_law_text⟩
local macro_rules | `(tactic| walk_at "call") => `(tactic| ((with_reducible refine gF "_law_text" ?_); refine we_own (k := 5) (n := 1) (S := sp_wtext) ?_ ?_ rfl ?_; exact cal_wtext ‹Tx _ _›; exact room ‹Room _ _› (by decide)))

theorem app_cps6 (a b : Str) : (a ++ b).cps.toList = a.cps.toList ++ b.cps.toList := by
  show (a.cps ++ b.cps).toList = _
  rw [Array.toList_append]
section
local macro_rules | `(tactic| walk_at "v") => `(tactic| first | ((with_reducible refine gNa "_law_text_here" ?_); refine we_var (i := 0) rfl (vis rfl) rfl ?_) | ((with_reducible refine gNa "_law_letters" ?_); refine we_var (i := 1) rfl (vis rfl) rfl ?_) | ((with_reducible refine gNa "_law_sign" ?_); refine we_var (i := 2) rfl (vis rfl) rfl ?_))
local macro_rules | `(tactic| walk_at "set") => `(tactic| first | ((with_reducible refine gSn "_law_text_here" ?_); refine ws_set (i := 0) (by assumption) rfl (by first | exact .inl rfl | exact .inr rfl) ?_) | ((with_reducible refine gSn "_law_letters" ?_); refine ws_set (i := 1) (by assumption) rfl (by first | exact .inl rfl | exact .inr rfl) ?_) | ((with_reducible refine gSn "_law_sign" ?_); refine ws_set (i := 2) (by assumption) rfl (by first | exact .inl rfl | exact .inr rfl) ?_))
theorem ok_lisname6 (T : Tx K mg) : FnOk P w K mg base (L2.CX P w) 1 T.f_law_is_name T.d_law_is_name ps_law_is_name (spOf K 0 sp_isname) := by
  refine fn_ok T.F_law_is_name sc_law_is_name (fun xs M R Rx h => by obtain ⟨_, rfl, _⟩ := h; rfl) (fun cdv A outer s H E B xs M R Rx hr hB h => ?_)
  obtain ⟨z, rfl, rfl, hR⟩ := h
  have nd := sc_law_is_name.nd
  have e : z.length = z.cps.toList.length := by simp [Str.length]
  repeat walk_at "s"
  refine ite_b (fun h1 => ?_) (fun h1 => ?_)
  · repeat walk_at "s"
    refine ite_n (fun h2 => ?_) (fun h2 => ?_)
    · refine it_t rfl ?_
      repeat walk_at "s"
      refine ⟨rfl, ?_⟩
      have : isNm z = false := by
        cases ez : isNm z with
        | false => rfl
        | true => have := (isNm_short ez).1; omega
      rw [this] at hR
      exact hR
    cases ez : z.cps.toList with
    | nil => rw [ez] at e; simp at e; omega
    | cons c r =>
    have en : isNm z = (decide (c ∈ lets.cps.toList) && (c :: r).all signOk) := by
      unfold isNm
      rw [ez]
      have : decide (r.length ≤ 9) = true := by
        rw [ez, List.length_cons] at e
        exact decide_eq_true (by omega)
      simp only [this, Bool.true_and]
    rw [en] at hR
    repeat walk_at "s"
    refine ixS (c := c) (by rw [ez]; exact atI_nat (j := 0) rfl) ?_
    repeat walk_at "s"
    refine ite_n (fun h3 => ?_) (fun h3 => ?_)
    · repeat walk_at "s"
      refine ⟨rfl, ?_⟩
      rw [decide_eq_false (show ¬ c ∈ lets.cps.toList from h3)] at hR
      exact hR
    rw [decide_eq_true (show c ∈ lets.cps.toList from h3), Bool.true_and] at hR
    repeat walk_at "s"
    refine we_lc1 (j := 2) rfl nd (blkOk_by rfl) rfl (fun _ _ _ _ _ => .inl rfl) (by decide) (wi_str ?_)
    repeat walk_at "s"
    refine lcq_filter (l := z.cps.toList) (g := fun c => .str ⟨#[c]⟩) (fun c => .str ⟨#[c]⟩) (fun c => !signOk c) (size_ge (by omega)) ?_ ?_ ?_
    · intro i c' hc s H C cl fp B hB
      repeat walk_at "s"
      refine addS (by decide +kernel) ?_
      repeat walk_at "s"
      refine ⟨?_, rfl⟩
      show (!decide (c' ∈ (lets ++ figs).cps.toList)) = !signOk c'
      have : decide (c' ∈ (lets ++ figs).cps.toList) = signOk c' := by
        unfold signOk
        rw [app_cps6, Bool.eq_iff_iff]
        simp [List.mem_append]
      rw [this]
    · intro i c' hc _ s H C cl fp B hB
      repeat walk_at "s"
      exact ⟨rfl, rfl⟩
    · repeat walk_at "s"
      refine we_lst ?_
      repeat walk_at "s"
      have hall : ∀ l : List Nat, (l.map fun c => D.str ⟨#[c]⟩).all (D.pl 59) = true := by
        intro l
        induction l with
        | nil => rfl
        | cons x l ih => rw [List.map_cons, List.all_cons, ih]; rfl
      refine ⟨w1d (w1d ⟨⟨hall _, rfl⟩, ?_⟩)⟩
      refine ⟨rfl, ?_⟩
      have key : ∀ l : List Nat, deq (.lst ((l.filter fun c => !signOk c).map fun c => D.str ⟨#[c]⟩)) (.lst []) = l.all signOk := by
        intro l
        induction l with
        | nil => simp [deq, py, pys, PyData.eqv, PyData.eqvAll]
        | cons x l ih =>
          cases hx : signOk x with
          | true => rw [List.filter_cons_of_neg (by simp [hx]), ih, List.all_cons, hx, Bool.true_and]
          | false =>
            rw [List.filter_cons_of_pos (by simp [hx]), List.all_cons, hx, Bool.false_and]
            simp [deq, py, pys, PyData.eqv, PyData.eqvAll]
      rw [← ez, ← key] at hR
      exact hR
  · repeat walk_at "s"
    refine ⟨rfl, ?_⟩
    have : isNm z = false := by
      cases ez : isNm z with
      | false => rfl
      | true => have := (isNm_short ez).2; omega
    rw [this] at hR
    exact hR
end
theorem cal_lisname6 (T : Tx K mg) : Cal P w K mg base "_law_is_name" 1 0 sp_isname := ⟨_, _, _, ok_lisname6 T, T.g_law_is_name, T.F_law_is_name.kp, T.b_law_is_name⟩
local macro_rules | `(tactic| walk_at "call") => `(tactic| ((with_reducible refine gF "_law_is_name" ?_); refine we_own (k := 1) (n := 0) (S := sp_isname) ?_ ?_ rfl ?_; exact cal_lisname6 ‹Tx _ _›; exact room ‹Room _ _› (by decide)))

/-! what stands twice first -/
theorem valD_none {kvs : List (Key × D)} {k : Key} (h : ∀ kv ∈ kvs, kv.1 ≠ k) : valD kvs k = none := by
  unfold valD
  have : (kvs.find? fun kv => decide (kv.1 = k)) = none := by
    rw [List.find?_eq_none]
    intro x hx
    simpa using h x hx
  rw [this]
  rfl
theorem putD_new {kvs : List (Key × D)} {k : Key} {v : D} (h : ∀ kv ∈ kvs, kv.1 ≠ k) : putD kvs k v = kvs ++ [(k, v)] := by
  unfold putD
  rw [if_neg]
  rw [List.any_eq_true]
  rintro ⟨x, hx, e⟩
  exact h x hx (by simpa using e)
def dupF (s : List Str) : List Str → Option Str
  | [] => none
  | z :: r => if z ∈ s then some z else dupF (s ++ [z]) r
def dupS (zs : List Str) : Option Str := dupF [] zs
theorem dupF_skip : ∀ (k : Nat) (s r : List Str), (∀ (j : Nat) y, j < k → r[j]? = some y → y ∉ s ++ r.take j) → k ≤ r.length → dupF s r = dupF (s ++ r.take k) (r.drop k)
  | 0, s, r, _, _ => by simp
  | k + 1, s, [], _, h => by simp at h
  | k + 1, s, z :: r, hn, h => by
    have h0 : z ∉ s := by have := hn 0 z (by omega) rfl; simpa using this
    have e : dupF s (z :: r) = dupF (s ++ [z]) r := by show (if z ∈ s then some z else _) = _; rw [if_neg h0]
    rw [e, dupF_skip k (s ++ [z]) r (fun j y hj hy => by
      have := hn (j + 1) y (by omega) (by simpa using hy)
      simpa using this) (by simpa using h)]
    simp
theorem dup_at {zs : List Str} {i : Nat} {z : Str} (h : zs[i]? = some z) (hn : ∀ (j : Nat) y, j < i → zs[j]? = some y → y ∉ zs.take j) (hm : z ∈ zs.take i) : dupS zs = some z := by
  have hi := (List.getElem?_eq_some_iff.mp h).1
  unfold dupS
  rw [dupF_skip i [] zs (fun j y hj hy => by rw [List.nil_append]; exact hn j y hj hy) (by omega), List.nil_append, List.drop_eq_getElem_cons hi]
  have e : zs[i] = z := (List.getElem?_eq_some_iff.mp h).2
  show (if zs[i] ∈ zs.take i then some zs[i] else _) = _
  rw [e, if_pos hm]
theorem dup_no {zs : List Str} (hn : ∀ (j : Nat) y, j < zs.length → zs[j]? = some y → y ∉ zs.take j) : dupS zs = none := by
  unfold dupS
  rw [dupF_skip zs.length [] zs (fun j y hj hy => by rw [List.nil_append]; exact hn j y hj hy) (Nat.le_refl _), List.drop_length]
  rfl
theorem ok_Twice_init (T : Tx K mg) : FnOk P w K mg base CX0 1 T.f_Twice_init T.d_Twice_init ["self", "name"] (spX1 K "name") := by
  refine T.F_Twice_init.ok sc_Twice_init (fun vs H Q E h => by obtain ⟨a, C, v, rfl, _⟩ := h; rfl) (fun cdv A outer s H vs Q E hr h => ?_)
  obtain ⟨a, C, v, rfl, hC, hf, ha, k⟩ := h
  exact ⟨_, pss_one (ps_ost (pv 0) (pv 1)), v, rfl, .ref a, rfl, a, C, rfl, hC, hf, .inl ⟨ha, k⟩⟩
theorem rai_Twice (T : Tx K mg) : Rai P w K mg base "Twice" T.C_Twice "name" := ⟨_, _, _, ⟨T.o_Twice, T.g_Twice, T.i_Twice, T.t_Twice⟩, T.n_Twice_name, ok_Twice_init T, T.b_Twice_init⟩
local macro_rules | `(tactic| walk_at "raise") => `(tactic| ((with_reducible refine gRa "Twice" ?_); refine ws_rai (x := "Twice") (C := (‹Tx _ _›).C_Twice) (f := "name") ?_ ?_ rfl rfl ?_; exact rai_Twice ‹Tx _ _›; exact room ‹Room _ _› (by decide)))
def seenD (zs : List Str) : List (Key × D) := zs.map fun z => (Sum.inr z, D.bl true)
theorem seen_not {zs : List Str} {z : Str} (h : z ∉ zs) : ∀ kv ∈ seenD zs, kv.1 ≠ Sum.inr z := by
  intro kv hk e
  unfold seenD at hk
  obtain ⟨y, hy, rfl⟩ := List.mem_map.mp hk
  exact h ((Sum.inr.inj e) ▸ hy)
theorem seen_in {zs : List Str} {z : Str} (h : z ∈ zs) : valD (seenD zs) (Sum.inr z) = some (.bl true) := by
  unfold valD seenD
  induction zs with
  | nil => cases h
  | cons x r ih =>
    rw [List.map_cons, List.find?_cons]
    by_cases c : x = z
    · subst c; simp
    · have : decide ((Sum.inr x : Key) = Sum.inr z) = false := decide_eq_false fun e => c (Sum.inr.inj e)
      simp only [this]
      exact ih (by rcases List.mem_cons.mp h with h | h; exact absurd h.symm c; exact h)
/-- no name twice, or the first that is refused -/
def sp_dup (CT : Addr) : SpD := fun xs M R Rx => ∃ zs : List Str, xs = [.dat (.lst (zs.map D.str))] ∧ M = [] ∧ zs.length ≤ 1000 ∧ (match dupS zs with
  | none => R (.dat .non) []
  | some z => Rx CT [("name", .str z)] [])
section
local macro_rules | `(tactic| walk_at "v") => `(tactic| first | ((with_reducible refine gNa "names" ?_); refine we_var (i := 0) rfl (vis rfl) rfl ?_) | ((with_reducible refine gNa "seen" ?_); refine we_var (i := 1) rfl (vis rfl) rfl ?_) | ((with_reducible refine gNa "name" ?_); refine we_var (i := 2) rfl (vis rfl) rfl ?_))
local macro_rules | `(tactic| walk_at "set") => `(tactic| first | ((with_reducible refine gSn "names" ?_); refine ws_set (i := 0) (by assumption) rfl (by first | exact .inl rfl | exact .inr rfl) ?_) | ((with_reducible refine gSn "seen" ?_); refine ws_set (i := 1) (by assumption) rfl (by first | exact .inl rfl | exact .inr rfl) ?_) | ((with_reducible refine gSn "name" ?_); refine ws_set (i := 2) (by assumption) rfl (by first | exact .inl rfl | exact .inr rfl) ?_))
theorem ok_dup (T : Tx K mg) : FnOk P w K mg base (L2.CX P w) 3 T.f_asked_once T.d_asked_once ["names"] (spOf K 0 (sp_dup T.C_Twice)) := by
  refine fn_ok T.F_asked_once sc_asked_once (fun xs M R Rx h => by obtain ⟨_, rfl, _⟩ := h; rfl) (fun cdv A outer s H E B xs M R Rx hr hB h => ?_)
  obtain ⟨zs, rfl, rfl, zl, hR⟩ := h
  have nd := sc_asked_once.nd
  repeat walk_at "s"
  refine we_dnew ?_
  repeat walk_at "s"
  refine ws_for rfl (wi_list ?_)
  repeat walk_at "s"
  refine ⟨fun i ss M => (∀ (j : Nat) y, j < i → zs[j]? = some y → y ∉ zs.take j) ∧ (∃ o, ss = [some (.dat (.lst (zs.map D.str))), some (.cel 0), o]) ∧ M = [.dic (seenD (zs.take i))], ⟨fun j y hj => absurd hj (Nat.not_lt_zero j), ⟨_, rfl⟩, rfl⟩, ?_, ?_⟩
  · rintro i d ss M hd ⟨hz, ⟨o, rfl⟩, rfl⟩
    obtain ⟨z, hi, rfl⟩ := str_get hd
    have hlt := (List.getElem?_eq_some_iff.mp hi).1
    refine wg_name (i := 2) nd rfl (.inl rfl) ?_
    walk_at "s"
    refine ws_if (wt_din (by assumption) rfl ?_)
    repeat walk_at "s"
    by_cases no : z ∈ zs.take i
    · refine it_t (by rw [seen_in no]; rfl) ?_
      repeat walk_at "s"
      rw [dup_at hi hz no] at hR
      exact ⟨rfl, hR⟩
    refine it_f (by rw [valD_none (seen_not no)]; rfl) ?_
    iterate 2 walk_at "s"
    refine ws_dput (by assumption) ?_
    repeat walk_at "s"
    refine ⟨.bl true, Sum.inr z, rfl, rfl, ?_⟩
    refine cdc rfl ⟨?_, ?_⟩
    · show (seenD (zs.take i)).length < sizeLine
      unfold seenD
      rw [List.length_map, List.length_take]
      exact Nat.lt_of_le_of_lt (Nat.min_le_left _ _) (Nat.lt_of_lt_of_le hlt (size_ge (by omega)))
    · repeat walk_at "s"
      refine ⟨fun j y hj hy => ?_, ⟨_, rfl⟩, ?_⟩
      · rcases Nat.lt_succ_iff_lt_or_eq.mp hj with h1 | h1
        · exact hz j y h1 hy
        · subst h1
          rw [hi] at hy
          cases hy
          exact no
      · rw [putD_new (seen_not no)]
        have : seenD (zs.take i) ++ [(Sum.inr z, D.bl true)] = seenD (zs.take (i + 1)) := map_take_succ (fun z => ((Sum.inr z : Key), D.bl true)) hi
        rw [this]
        rfl
  · rintro ss M ⟨hz, ⟨o, rfl⟩, rfl⟩
    rw [dup_no fun j y hj hy => hz j y (by rw [List.length_map]; exact hj) hy] at hR
    repeat walk_at "s"
    exact ⟨rfl, hR⟩
end
theorem cal_dup (T : Tx K mg) : Cal P w K mg base "asked_once" 3 0 (sp_dup T.C_Twice) := ⟨_, _, _, ok_dup T, T.g_asked_once, T.F_asked_once.kp, T.b_asked_once⟩
local macro_rules | `(tactic| walk_at "call") => `(tactic| ((with_reducible refine gF "asked_once" ?_); refine we_own (k := 3) (n := 0) (S := (sp_dup (‹Tx _ _›).C_Twice)) ?_ ?_ rfl ?_; exact cal_dup ‹Tx _ _›; exact room ‹Room _ _› (by decide)))

/-! questions, made or refused -/
theorem ok_BadCount_init (T : Tx K mg) : FnOk P w K mg base CX0 1 T.f_BadCount_init T.d_BadCount_init ["self", "what", "count"] (spX2 K "what" "count") := by
  refine T.F_BadCount_init.ok sc_BadCount_init (fun vs H Q E h => by obtain ⟨a, C, v, u, rfl, _⟩ := h; rfl) (fun cdv A outer s H vs Q E hr h => ?_)
  obtain ⟨a, C, v, u, rfl, hC, hf, ha, k⟩ := h
  refine ⟨_, pss_cons (ps_ost (pv 0) (pv 1)) (pss_one (ps_ost (pv 0) (pv 2))), v, rfl, .ref a, rfl, a, C, rfl, hC, hf.1, .inl ⟨ha, fun dx h1 h2 => ?_⟩⟩
  refine ⟨u, rfl, .ref a, rfl, a, C, rfl, hC, hf.2, .inr ⟨dx, [("what", v)], upd_same, ?_, (by show 1 ≤ 900; decide), k dx h1 h2⟩⟩
  rw [upd_ne h2]
  exact upd_same
theorem rai_BadCount (T : Tx K mg) : Rai2 P w K mg base "BadCount" T.C_BadCount "what" "count" := ⟨_, _, _, _, ⟨T.o_BadCount, T.g_BadCount, T.i_BadCount, T.t_BadCount⟩, ⟨T.n_BadCount_what, T.n_BadCount_count⟩, ok_BadCount_init T, T.b_BadCount_init⟩
local macro_rules | `(tactic| walk_at "raise") => `(tactic| ((with_reducible refine gRa "BadCount" ?_); refine ws_rai2 (x := "BadCount") (C := (‹Tx _ _›).C_BadCount) (f := "what") (g := "count") ?_ ?_ rfl rfl ?_; exact rai_BadCount ‹Tx _ _›; exact room ‹Room _ _› (by decide)))
def bcD (w : Str) (n : Int) : List (Str × D) := [("count", .int n), ("what", .str w)]
def odS : Option Str → D
  | none => .non
  | some z => .str z
def pS (p : Str × Str) : D := .tup [.str p.1, .str p.2]
def quD (C : Addr) (l : Option Str) (fo : List Str) (ho : List (Str × Str)) : D := .ins C [("lead", odS l), ("follows", .tup (fo.map D.str)), ("holds", .tup (ho.map pS))]
def ldL : Option Str → List Str
  | none => []
  | some z => [z]
def allN (l : Option Str) (fo : List Str) (ho : List (Str × Str)) : List Str := ldL l ++ fo ++ ho.flatMap fun p => [p.1, p.2]
/-- what is due -/
inductive QR where
  | told | cnt (n : Nat) | nm (z : Str) | tw (z : Str)
def qDue (l : Option Str) (fo : List Str) (ho : List (Str × Str)) : QR := if 6 < fo.length then .cnt fo.length else match badNm (allN l fo ho) with
  | some z => .nm z
  | none => match dupS (ho.map (·.1)) with
    | some z => .tw z
    | none => .told
def QR.k (CB CN CT : Addr) (R0 : Prop) (Rx : Addr → List (Str × D) → Prop) : QR → Prop
  | .told => R0
  | .cnt n => Rx CB (bcD "follows" n)
  | .nm z => Rx CN [("name", .str z)]
  | .tw z => Rx CT [("name", .str z)]
theorem due_cnt {l : Option Str} {fo : List Str} {ho : List (Str × Str)} (h : 6 < fo.length) : qDue l fo ho = .cnt fo.length := by unfold qDue; rw [if_pos h]
theorem due_nm {l : Option Str} {fo : List Str} {ho : List (Str × Str)} {z : Str} (h : ¬ 6 < fo.length) (h2 : badNm (allN l fo ho) = some z) : qDue l fo ho = .nm z := by unfold qDue; rw [if_neg h, h2]
theorem due_tw {l : Option Str} {fo : List Str} {ho : List (Str × Str)} {z : Str} (h : ¬ 6 < fo.length) (h2 : badNm (allN l fo ho) = none) (h3 : dupS (ho.map (·.1)) = some z) : qDue l fo ho = .tw z := by unfold qDue; rw [if_neg h, h2]; dsimp only; rw [h3]
theorem due_told {l : Option Str} {fo : List Str} {ho : List (Str × Str)} (h : ¬ 6 < fo.length) (h2 : badNm (allN l fo ho) = none) (h3 : dupS (ho.map (·.1)) = none) : qDue l fo ho = .told := by unfold qDue; rw [if_neg h, h2]; dsimp only; rw [h3]
theorem bad_app (a b : List Str) : badNm (a ++ b) = (badNm a).or (badNm b) := by
  unfold badNm
  rw [List.find?_append]
/-- what is handed in for a list -/
def OrNon (d : D) (ds : List D) : Prop := d = .lst ds ∨ (d = .non ∧ ds = [])
theorem pS_get {ho : List (Str × Str)} {i : Nat} {d : D} (h : (ho.map pS)[i]? = some d) : ∃ p, ho[i]? = some p ∧ d = .tup [.str p.1, .str p.2] := map_get h
structure QSm (fo : List Str) (ho : List (Str × Str)) : Prop where
  fl : fo.length ≤ 900
  hl : ho.length ≤ 900
def sp_Q (C CB CN CT : Addr) : SpD := fun xs M R Rx => ∃ l fo ho dF dH, xs = [.cel 0, .dat (odS l), .dat dF, .dat dH] ∧ M = [.ins C []] ∧ (OrNon dF (fo.map D.str) ∧ OrNon dH (ho.map pS)) ∧ QSm fo ho ∧
  (qDue l fo ho).k CB CN CT (R (.dat .non) [.ins C [("lead", .dat (odS l)), ("follows", .xt (fo.map D.str)), ("holds", .dat (.tup (ho.map pS)))]]) (fun D fs => Rx D fs [.ins C []])
theorem hold_take {ho : List (Str × Str)} {i : Nat} {p : Str × Str} (h : ho[i]? = some p) : (ho.take (i + 1)).flatMap (fun p => [p.1, p.2]) = (ho.take i).flatMap (fun p => [p.1, p.2]) ++ ([p.1, p.2] : List Str) := by
  rw [List.take_succ, h, List.flatMap_append]
  rfl
theorem bad_more {a b : List Str} {z : Str} (h : badNm a = none) (h2 : badNm b = some z) (c : List Str) : badNm (a ++ b ++ c) = some z := by
  rw [bad_app, bad_app, h, h2]
  rfl
section
local macro_rules | `(tactic| walk_at "v") => `(tactic| first | ((with_reducible refine gNa "self" ?_); refine we_var (i := 0) rfl (vis rfl) rfl ?_) | ((with_reducible refine gNa "lead" ?_); refine we_var (i := 1) rfl (vis rfl) rfl ?_) | ((with_reducible refine gNa "follows" ?_); refine we_var (i := 2) rfl (vis rfl) rfl ?_) | ((with_reducible refine gNa "holds" ?_); refine we_var (i := 3) rfl (vis rfl) rfl ?_) | ((with_reducible refine gNa "cell" ?_); refine we_var (i := 4) rfl (vis rfl) rfl ?_) | ((with_reducible refine gNa "value" ?_); refine we_var (i := 5) rfl (vis rfl) rfl ?_))
local macro_rules | `(tactic| walk_at "set") => `(tactic| first | ((with_reducible refine gSn "self" ?_); refine ws_set (i := 0) (by assumption) rfl (by first | exact .inl rfl | exact .inr rfl) ?_) | ((with_reducible refine gSn "lead" ?_); refine ws_set (i := 1) (by assumption) rfl (by first | exact .inl rfl | exact .inr rfl) ?_) | ((with_reducible refine gSn "follows" ?_); refine ws_set (i := 2) (by assumption) rfl (by first | exact .inl rfl | exact .inr rfl) ?_) | ((with_reducible refine gSn "holds" ?_); refine ws_set (i := 3) (by assumption) rfl (by first | exact .inl rfl | exact .inr rfl) ?_) | ((with_reducible refine gSn "cell" ?_); refine ws_set (i := 4) (by assumption) rfl (by first | exact .inl rfl | exact .inr rfl) ?_) | ((with_reducible refine gSn "value" ?_); refine ws_set (i := 5) (by assumption) rfl (by first | exact .inl rfl | exact .inr rfl) ?_))
theorem ok_Q (T : Tx K mg) : FnOk P w K mg base (L2.CX P w) 5 T.f_Question_init T.d_Question_init ["self", "lead", "follows", "holds"] (spOf K 1 (sp_Q T.C_Question T.C_BadCount T.C_NoName T.C_Twice)) := by
  refine fn_okD T.F_Question_init sc_Question_init (fun xs M R Rx h => by obtain ⟨_, _, _, _, _, rfl, _⟩ := h; rfl) (fun cdv A outer s0 H E B xs M R Rx hr hB h => ?_)
  obtain ⟨l, fo, ho, dF, dH, rfl, rfl, ⟨hF, hH⟩, sm, hR⟩ := h
  have nd := sc_Question_init.nd
  have hfl := sm.fl
  have hhl := sm.hl
  refine wb_cut (st := .Assign _ _ _) (fun ss M => ss = [some (.cel 0), some (.dat (odS l)), some (.dat (.lst (fo.map D.str))), some (.dat dH), none, none] ∧ M = [.ins T.C_Question []]) ?_ ?_
  · refine ws_set (i := 2) nd rfl (.inl rfl) ?_
    refine we_list T.z_list rfl ?_
    refine wa_cons ?_
    refine we_orD ?_
    rcases hF with rfl | ⟨rfl, hf⟩
    · cases fo with
      | nil =>
        repeat walk_at "s"
        refine ⟨rfl, ?_⟩
        refine we_one ?_
        refine we_lst ?_
        repeat walk_at "s"
        exact ⟨rfl, rfl⟩
      | cons x r =>
        repeat walk_at "s"
        refine ⟨rfl, ?_⟩
        repeat walk_at "s"
        exact ⟨rfl, rfl⟩
    · repeat walk_at "s"
      refine ⟨rfl, ?_⟩
      refine we_one ?_
      refine we_lst ?_
      repeat walk_at "s"
      rw [hf]
      exact ⟨rfl, rfl⟩
  rintro ss M ⟨rfl, rfl⟩
  refine wb_cut (st := .Assign _ _ _) (fun ss M => ss = [some (.cel 0), some (.dat (odS l)), some (.dat (.lst (fo.map D.str))), some (.dat (.lst (ho.map pS))), none, none] ∧ M = [.ins T.C_Question []]) ?_ ?_
  · refine ws_set (i := 3) nd rfl (.inl rfl) ?_
    refine we_list T.z_list rfl ?_
    refine wa_cons ?_
    refine we_orD ?_
    rcases hH with rfl | ⟨rfl, hf⟩
    · cases ho with
      | nil =>
        repeat walk_at "s"
        refine ⟨rfl, ?_⟩
        refine we_one ?_
        refine we_lst ?_
        repeat walk_at "s"
        exact ⟨rfl, rfl⟩
      | cons x r =>
        repeat walk_at "s"
        refine ⟨rfl, ?_⟩
        repeat walk_at "s"
        exact ⟨rfl, rfl⟩
    · repeat walk_at "s"
      refine ⟨rfl, ?_⟩
      refine we_one ?_
      refine we_lst ?_
      repeat walk_at "s"
      rw [hf]
      exact ⟨rfl, rfl⟩
  rintro ss M ⟨rfl, rfl⟩
  repeat walk_at "s"
  rw [List.length_map]
  refine ite_b (fun h6 => ?_) (fun h6 => ?_)
  · have h6 : 6 < fo.length := by omega
    rw [due_cnt h6] at hR
    repeat walk_at "s"
    rw [List.length_map]
    exact hR
  have h6 : ¬ 6 < fo.length := by omega
  iterate 1 walk_at "s"
  refine wb_cut (st := .If _ _ _ _) (fun ss M => badNm (ldL l) = none ∧ ss = [some (.cel 0), some (.dat (odS l)), some (.dat (.lst (fo.map D.str))), some (.dat (.lst (ho.map pS))), none, none] ∧ M = [.ins T.C_Question []]) ?_ ?_
  · cases l with
    | none =>
      refine ws_if ?_
      refine wt_notN ?_
      repeat walk_at "s"
      refine ⟨rfl, ?_⟩
      refine it_f rfl ?_
      repeat walk_at "s"
      exact ⟨rfl, rfl, rfl⟩
    | some z =>
      refine ws_if ?_
      refine wt_notN ?_
      repeat walk_at "s"
      refine ⟨rfl, ?_⟩
      refine it_t rfl ?_
      repeat walk_at "s"
      refine we_lst ?_
      repeat walk_at "s"
      refine cq rfl ⟨[z], rfl, rfl, ?_⟩
      cases e : badNm [z] with
      | some y =>
        have e2 : badNm (allN (some z) fo ho) = some y := by
          have := bad_more (a := []) (b := [z]) (z := y) rfl e (fo ++ ho.flatMap fun p => [p.1, p.2])
          rw [List.nil_append, ← List.append_assoc] at this
          exact this
        rw [due_nm h6 e2] at hR
        exact ⟨rfl, hR⟩
      | none =>
        repeat walk_at "s"
        exact ⟨e, rfl, rfl⟩
  rintro ss M ⟨hb1, rfl, rfl⟩
  repeat walk_at "s"
  refine cq rfl ⟨fo, rfl, rfl, ?_⟩
  cases e : badNm fo with
  | some y =>
    have e2 : badNm (allN l fo ho) = some y := bad_more hb1 e _
    rw [due_nm h6 e2] at hR
    exact ⟨rfl, hR⟩
  | none =>
  have hb2 : badNm (ldL l ++ fo) = none := by rw [bad_app, hb1, e]; rfl
  repeat walk_at "s"
  refine ws_for rfl (wi_list ?_)
  repeat walk_at "s"
  refine ⟨fun i ss M => (∃ o4 o5, ss = [some (.cel 0), some (.dat (odS l)), some (.dat (.lst (fo.map D.str))), some (.dat (.lst (ho.map pS))), o4, o5]) ∧ M = [.ins T.C_Question []] ∧ badNm ((ho.take i).flatMap fun p => [p.1, p.2]) = none, ⟨⟨_, _, rfl⟩, rfl, by rw [List.take_zero]; rfl⟩, ?_, ?_⟩
  · rintro i d ss M hd ⟨⟨o4, o5, rfl⟩, rfl, hb3⟩
    obtain ⟨p, hi, rfl⟩ := pS_get hd
    refine wg_tup2 rfl ?_
    refine wg_name (i := 4) nd rfl (.inl rfl) ?_
    refine wg_name (i := 5) nd rfl (.inl rfl) ?_
    repeat walk_at "s"
    refine we_lst ?_
    repeat walk_at "s"
    refine cq rfl ⟨[p.1, p.2], rfl, rfl, ?_⟩
    cases e4 : badNm [p.1, p.2] with
    | some y =>
      have e2 : badNm (allN l fo ho) = some y := by
        unfold allN
        have h1 : ho.flatMap (fun p => [p.1, p.2]) = (ho.take i).flatMap (fun p => [p.1, p.2]) ++ ([p.1, p.2] : List Str) ++ (ho.drop (i + 1)).flatMap fun p => [p.1, p.2] := by
          rw [← hold_take hi, ← List.flatMap_append, List.take_append_drop]
        rw [h1, bad_app, hb2, bad_more hb3 e4]
        rfl
      rw [due_nm h6 e2] at hR
      exact ⟨rfl, hR⟩
    | none =>
      repeat walk_at "s"
      refine ⟨⟨_, _, rfl⟩, rfl, ?_⟩
      rw [hold_take hi, bad_app, hb3, e4]
      rfl
  · rintro ss M ⟨⟨o4, o5, rfl⟩, rfl, hb3⟩
    rw [List.length_map, List.take_length] at hb3
    have hb4 : badNm (allN l fo ho) = none := by unfold allN; rw [bad_app, hb2, hb3]; rfl
    repeat walk_at "s"
    refine we_lc2 (i := 4) (j := 5) rfl nd (blkOk_by rfl) rfl rfl (by decide) (fun _ _ _ _ _ => .inl rfl) (fun _ _ _ _ _ => .inl rfl) (by decide) (wi_list ?_)
    repeat walk_at "s"
    refine lcq_map2 (fun d => match d with | .tup [a, _] => a | x => x) (size_ge (by rw [List.length_map]; omega)) ?_ ?_
    · intro i d hd
      obtain ⟨p, hi, rfl⟩ := pS_get hd
      refine ⟨_, _, rfl, ?_⟩
      intro s H C cl fp B hB
      repeat walk_at "s"
      exact ⟨rfl, rfl⟩
    · repeat walk_at "s"
      refine cq rfl ⟨ho.map (·.1), ?_, rfl, by rw [List.length_map]; omega, ?_⟩
      · rw [List.map_map, List.map_map]
        rfl
      · cases e5 : dupS (ho.map (·.1)) with
        | some z =>
          rw [due_tw h6 hb4 e5] at hR
          exact ⟨rfl, hR⟩
        | none =>
        rw [due_told h6 hb4 e5] at hR
        refine wb_cut (st := .Assign _ _ _) (fun ss M => ss = [some (.cel 0), some (.dat (odS l)), some (.dat (.lst (fo.map D.str))), some (.dat (.lst (ho.map pS))), o4, o5] ∧ M = [.ins T.C_Question [("lead", .dat (odS l))]]) ?_ ?_
        · repeat walk_at "s"
          exact ⟨rfl, rfl⟩
        rintro ss M ⟨rfl, rfl⟩
        walk_at "s"
        refine ws_fld ?_
        refine we_tupleX T.z_tuple rfl ?_
        repeat walk_at "s"
        exact ⟨rfl, hR⟩
end
theorem mkr_Q (T : Tx K mg) : Mkr P w K mg base "Question" T.C_Question 5 (sp_Q T.C_Question T.C_BadCount T.C_NoName T.C_Twice) := ⟨_, _, _, T.mk_Question, ok_Q T, T.g_Question, T.b_Question_init⟩
local macro_rules | `(tactic| walk_at "call") => `(tactic| ((with_reducible refine gF "Question" ?_); refine we_mkr (mkr_Q ‹Tx _ _›) (room ‹Room _ _› (by decide)) rfl ?_))

/-! questions compared -/
def quF (l : Option Str) (fo : List Str) (ho : List (Str × Str)) : D := .tup [odS l, .tup (fo.map D.str), .tup (ho.map pS)]
theorem strs_pl60 (zs : List Str) : D.pl 60 (.lst (zs.map D.str)) = true := by
  show (zs.map D.str).all (D.pl 59) = true
  rw [List.all_eq_true]
  intro d hd
  obtain ⟨z, _, rfl⟩ := List.mem_map.mp hd
  rfl
theorem strs_plN (k : Nat) (zs : List Str) : (zs.map D.str).all (D.pl (k + 1)) = true := by
  rw [List.all_eq_true]
  intro d hd
  obtain ⟨z, _, rfl⟩ := List.mem_map.mp hd
  rfl
theorem pS_plN (k : Nat) (ho : List (Str × Str)) : (ho.map pS).all (D.pl (k + 2)) = true := by
  rw [List.all_eq_true]
  intro d hd
  obtain ⟨z, _, rfl⟩ := List.mem_map.mp hd
  rfl
theorem quF_plN (k : Nat) (l : Option Str) (fo : List Str) (ho : List (Str × Str)) : D.pl (k + 4) (quF l fo ho) = true := by
  show [odS l, .tup (fo.map D.str), .tup (ho.map pS)].all (D.pl (k + 3)) = true
  have h1 : D.pl (k + 3) (odS l) = true := by cases l <;> rfl
  have h2 : D.pl (k + 3) (.tup (fo.map D.str)) = true := strs_plN (k + 1) fo
  have h3 : D.pl (k + 3) (.tup (ho.map pS)) = true := pS_plN k ho
  simp only [List.all_cons, List.all_nil, h1, h2, h3, Bool.and_self]
theorem quF_pl (l : Option Str) (fo : List Str) (ho : List (Str × Str)) : D.pl 60 (quF l fo ho) = true := quF_plN 56 l fo ho
theorem deqs_strs : ∀ xs ys : List Str, deqs (xs.map D.str) (ys.map D.str) = decide (xs = ys)
  | [], [] => by simp [deqs, pys, PyData.eqvAll]
  | [], y :: ys => by simp [deqs, pys, PyData.eqvAll]
  | x :: xs, [] => by simp [deqs, pys, PyData.eqvAll]
  | x :: xs, y :: ys => by
    have ih := deqs_strs xs ys
    have h1 := deq_str (i := x) (j := y)
    unfold deq at h1
    unfold deqs at ih ⊢
    simp only [List.map_cons, pys, PyData.eqvAll, ih, h1]
    by_cases c : x = y
    · subst c; simp
    · simp [c]
theorem deq_pS (p q : Str × Str) : deq (pS p) (pS q) = decide (p = q) := by
  have h1 := deq_str (i := p.1) (j := q.1)
  have h2 := deq_str (i := p.2) (j := q.2)
  unfold deq at h1 h2 ⊢
  unfold pS
  simp only [py, pys, PyData.eqv, PyData.eqvAll] at h1 h2 ⊢
  rw [h1, h2]
  obtain ⟨a, b⟩ := p
  obtain ⟨c, d⟩ := q
  by_cases e : a = c <;> by_cases f : b = d <;> simp [e, f]
theorem deqs_pS : ∀ xs ys : List (Str × Str), deqs (xs.map pS) (ys.map pS) = decide (xs = ys)
  | [], [] => by simp [deqs, pys, PyData.eqvAll]
  | [], y :: ys => by simp [deqs, pys, PyData.eqvAll]
  | x :: xs, [] => by simp [deqs, pys, PyData.eqvAll]
  | x :: xs, y :: ys => by
    have ih := deqs_pS xs ys
    have h1 := deq_pS x y
    unfold deq at h1
    unfold deqs at ih ⊢
    simp only [List.map_cons, pys, PyData.eqvAll, ih, h1]
    by_cases c : x = y
    · subst c; simp
    · simp [c]
theorem deq_odS (l m : Option Str) : deq (odS l) (odS m) = decide (l = m) := by
  cases l with
  | none => cases m <;> simp [odS, deq, py, PyData.eqv]
  | some x =>
    cases m with
    | none => simp [odS, deq, py, PyData.eqv]
    | some y =>
      show deq (.str x) (.str y) = _
      rw [deq_str]
      simp
theorem deq_tup3 {a b c a' b' c' : D} : deq (.tup [a, b, c]) (.tup [a', b', c']) = (deq a a' && (deq b b' && deq c c')) := by
  unfold deq
  simp [py, pys, PyData.eqv, PyData.eqvAll]
theorem deq_tups (ds es : List D) : deq (.tup ds) (.tup es) = deqs ds es := by
  unfold deq deqs
  simp [py, PyData.eqv]
theorem deq_quF (l l' : Option Str) (fo fo' : List Str) (ho ho' : List (Str × Str)) : deq (quF l fo ho) (quF l' fo' ho') = decide (l = l' ∧ fo = fo' ∧ ho = ho') := by
  unfold quF
  rw [deq_tup3, deq_odS, deq_tups, deqs_strs, deq_tups, deqs_pS]
  by_cases a : l = l' <;> by_cases b : fo = fo' <;> by_cases c : ho = ho' <;> simp [a, b, c]
theorem kit_ty {K : PySem.W.Frag} {C : Addr} {t : String} (c : Cls K C) (ht : PySem.W.typeIn K (.ref C) = some (.type "type")) (hs : ∀ a : Addr, PySem.W.subIn K (.type t) (.ref a) = some false) : PySem.W.kitOne K (.type t) (.ref C) = some false := by
  have hcl : (PySem.W.clsIn K C).isSome = true := by
    have z := c.hd
    unfold PySem.W.hasDictIn at z
    cases e : PySem.W.clsIn K C with
    | none => simp [e] at z
    | some _ => rfl
  unfold PySem.W.kitOne
  rw [if_neg (by show ¬ ((Value.type t == Value.ref C) = true); exact fun h => nomatch (show (false : Bool) = true from h))]
  unfold PySem.W.kitCls
  simp only [hcl, ht, beq_self_eq_true, Bool.and_self, if_true]
  exact hs C

/-! == of questions, either answer -/
def NotQ (e : D) : Prop := ∃ t : String, (∀ K, TyD K e (.type t)) ∧ ∀ (K : PySem.W.Frag) (a : Addr), PySem.W.subIn K (.type t) (.ref a) = some false
def PeQ (CQ : Addr) : D → D → Bool → Prop := fun d e b => ∃ l fo ho, d = quD CQ l fo ho ∧ ((∃ l' fo' ho', e = quD CQ l' fo' ho' ∧ b = decide (l = l' ∧ fo = fo' ∧ ho = ho')) ∨ (NotQ e ∧ b = false))
section
local macro_rules | `(tactic| walk_at "v") => `(tactic| first | ((with_reducible refine gNa "self" ?_); refine we_var (i := 0) rfl (vis rfl) rfl ?_) | ((with_reducible refine gNa "other" ?_); refine we_var (i := 1) rfl (vis rfl) rfl ?_))
local macro_rules | `(tactic| walk_at "set") => `(tactic| first | ((with_reducible refine gSn "self" ?_); refine ws_set (i := 0) (by assumption) rfl (by first | exact .inl rfl | exact .inr rfl) ?_) | ((with_reducible refine gSn "other" ?_); refine ws_set (i := 1) (by assumption) rfl (by first | exact .inl rfl | exact .inr rfl) ?_))
theorem ok_qeq (T : Tx K mg) : FnOk P w K mg base (L2.CX P w) 3 T.f_Question_eq T.d_Question_eq ["self", "other"] (spOf K 0 (sp_eq (PeQ T.C_Question))) := by
  refine fn_ok T.F_Question_eq sc_Question_eq (fun xs M R Rx h => by obtain ⟨_, _, _, rfl, _⟩ := h; rfl) (fun cdv A outer sh H E B xs M R Rx hr hB h => ?_)
  obtain ⟨d, e, b, rfl, rfl, ⟨l, fo, ho, rfl, hc⟩, hR⟩ := h
  have nd := sc_Question_eq.nd
  repeat walk_at "s"
  refine we_isI T.z_isinstance rfl ?_
  repeat walk_at "s"
  refine we_globR rfl T.g_Question ?_
  repeat walk_at "s"
  rcases hc with ⟨l', fo', ho', rfl, rfl⟩ | ⟨⟨t, ht, hs⟩, rfl⟩
  · refine ⟨_, _, _, _, _, rfl, ClsV.own _, ⟨rfl, T.is_Question⟩, T.k_Question_Question, ?_⟩
    refine ⟨true, rfl, it_f rfl ?_⟩
    repeat walk_at "s"
    have hR2 : R (.dat (.bl (deq (quF l fo ho) (quF l' fo' ho')))) [] := by
      rw [deq_quF]
      exact hR
    refine ⟨w1d (w1d ⟨⟨quF_pl l fo ho, quF_pl l' fo' ho'⟩, ?_⟩)⟩
    exact ⟨rfl, hR2⟩
  · refine ⟨_, _, _, _, _, rfl, ClsV.own _, ht _, kit_ty T.cl_Question T.tc_Question (hs _), ?_⟩
    refine ⟨false, rfl, it_t rfl ?_⟩
    repeat walk_at "s"
    exact ⟨rfl, hR⟩
end
theorem looks_d {X : Cx} {H : Hp} {s : Shared} {σ : L2.St} {pins : List (Addr × Obj)} {y : V} {v : Value} {e : D} {t : Value} (ht : TyD X.K e t) (I : Inv X pins σ H s) (ry : RelV y v) (r : Rep X.K H y e) : PySem.W.Looks (model X.prog X.w) s.heap (typeOf v) t := by
  have hx : TyX X.K H y t := TyS.x (x := .dat e) (M := []) (B := ⟨H, [], H⟩) (A := []) (G := H) ⟨fun _ _ e => e, fun _ _ e => e, fun _ _ e _ => e, fun _ _ e => .inl e, List.nodup_nil, ⟨[], rfl⟩, fun _ m => (by cases m), fun _ m => (by cases m), .nil⟩ r ht
  obtain ⟨P, k, hp, _⟩ := kit_of I ry hx
  exact k.ty _ _ I.kIn hp
theorem notFirst_ty {K : PySem.W.Frag} {C : Addr} {t : String} (hs : PySem.W.subIn K (.type t) (.ref C) = some false) : PySem.W.notFirst K C (.type t) = true := by
  unfold PySem.W.notFirst
  rw [hs]
  simp
theorem eqA_q {X : Cx} (T : Tx X.K X.mg) (l l' : Option Str) (fo fo' : List Str) (ho ho' : List (Str × Str)) : RcA X 3 .Eq (quD T.C_Question l fo ho) (quD T.C_Question l' fo' ho') (decide (l = l' ∧ fo = fo' ∧ ho = ho')) :=
  rcA_ins (tb := .ref T.C_Question) (ok_qeq T) T.m_Question_eq.at_ T.m_Question_eq.fn T.b_Question_eq (by simp [PySem.W.notFirst]) (fun H s σ pins y v I ry r => looks_ins I ry r) ⟨l, fo, ho, rfl, .inl ⟨l', fo', ho', rfl, rfl⟩⟩
theorem neA_q {X : Cx} (T : Tx X.K X.mg) (l l' : Option Str) (fo fo' : List Str) (ho ho' : List (Str × Str)) : RcA X 4 .NotEq (quD T.C_Question l fo ho) (quD T.C_Question l' fo' ho') (!decide (l = l' ∧ fo = fo' ∧ ho = ho')) :=
  rcA_insN (tb := .ref T.C_Question) (ok_qeq T) T.m_Question_eq.at_ T.m_Question_eq.fn T.b_Question_eq T.ne_Question T.mk_Question.makes (by simp [PySem.W.notFirst]) (fun H s σ pins y v I ry r => looks_ins I ry r) ⟨l, fo, ho, rfl, .inl ⟨l', fo', ho', rfl, rfl⟩⟩
theorem eqA_o {X : Cx} (T : Tx X.K X.mg) (l : Option Str) (fo : List Str) (ho : List (Str × Str)) {e : D} (h : NotQ e) : RcA X 3 .Eq (quD T.C_Question l fo ho) e false := by
  obtain ⟨t, ht, hs⟩ := id h
  exact rcA_ins (tb := .type t) (ok_qeq T) T.m_Question_eq.at_ T.m_Question_eq.fn T.b_Question_eq (notFirst_ty (hs _ _)) (fun H s σ pins y v I ry r => looks_d (ht _) I ry r) ⟨l, fo, ho, rfl, .inr ⟨h, rfl⟩⟩
theorem neA_o {X : Cx} (T : Tx X.K X.mg) (l : Option Str) (fo : List Str) (ho : List (Str × Str)) {e : D} (h : NotQ e) : RcA X 4 .NotEq (quD T.C_Question l fo ho) e true := by
  obtain ⟨t, ht, hs⟩ := id h
  exact rcA_insN (b := false) (tb := .type t) (ok_qeq T) T.m_Question_eq.at_ T.m_Question_eq.fn T.b_Question_eq T.ne_Question T.mk_Question.makes (notFirst_ty (hs _ _)) (fun H s σ pins y v I ry r => looks_d (ht _) I ry r) ⟨l, fo, ho, rfl, .inr ⟨h, rfl⟩⟩
theorem notQ_non : NotQ .non := ⟨"NoneType", fun _ => rfl, fun _ _ => rfl⟩
theorem notQ_tup (ds : List D) : NotQ (.tup ds) := ⟨"tuple", fun _ => rfl, fun _ _ => rfl⟩
theorem notQ_lst (ds : List D) : NotQ (.lst ds) := ⟨"list", fun _ => rfl, fun _ _ => rfl⟩
theorem notQ_str (z : Str) : NotQ (.str z) := ⟨"str", fun _ => rfl, fun _ _ => rfl⟩
theorem notQ_bl (b : Bool) : NotQ (.bl b) := ⟨"bool", fun _ => rfl, fun _ _ => rfl⟩

/-! what is due, by the law -/
def dueD (l : Option Str) (fo : List Str) (ho : List (Str × Str)) : QR → D
  | .told => .tup [.str "told", quF l fo ho]
  | .cnt n => .tup [.str "count", .tup [.str "follows", .int (n : Int)]]
  | .nm z => .tup [.str "name", .str z]
  | .tw z => .tup [.str "twice", .str z]
theorem zip_strs {zs : List Str} {i : Nat} {d : D} (h : (List.zipWith (fun a b => D.tup [a, b]) (rangeD 0 (zs.map D.str).length) (zs.map D.str))[i]? = some d) : ∃ z, zs[i]? = some z ∧ d = .tup [.int (i : Int), .str z] := by
  rw [List.getElem?_zipWith] at h
  cases e1 : (rangeD 0 (zs.map D.str).length)[i]? with
  | none => rw [e1] at h; simp at h
  | some a =>
    cases e2 : (zs.map D.str)[i]? with
    | none => rw [e1, e2] at h; simp at h
    | some b =>
      rw [e1, e2] at h
      obtain ⟨_, rfl⟩ := rangeD_get e1
      obtain ⟨z, hz, rfl⟩ := str_get e2
      refine ⟨z, hz, ?_⟩
      have := Option.some.inj h
      rw [← this]
      simp
theorem cut_take (zs : List Str) (i : Nat) : cutD (zs.map D.str) none (some (i : Int)) = (zs.take i).map D.str := by
  unfold cutD
  rw [HT.sIx_none, HT.sIx_nat, List.drop_zero, Nat.sub_zero, List.map_take, List.length_map]
  by_cases h : i ≤ zs.length
  · rw [Nat.min_eq_left h]
  · rw [Nat.min_eq_right (by omega), List.take_of_length_le (by rw [List.length_map]; omega), List.take_of_length_le (by rw [List.length_map]; omega)]
def sp_ldue : SpD := fun xs M R _ => ∃ l fo ho, xs = [.dat (odS l), .dat (.lst (fo.map D.str)), .dat (.lst (ho.map pS))] ∧ M = [] ∧ (fo.length ≤ 20 ∧ ho.length ≤ 20) ∧ R (.dat (dueD l fo ho (qDue l fo ho))) []
section
local macro_rules | `(tactic| walk_at "v") => `(tactic| first | ((with_reducible refine gNa "_law_head" ?_); refine we_var (i := 0) rfl (vis rfl) rfl ?_) | ((with_reducible refine gNa "_law_some" ?_); refine we_var (i := 1) rfl (vis rfl) rfl ?_) | ((with_reducible refine gNa "_law_pairs" ?_); refine we_var (i := 2) rfl (vis rfl) rfl ?_) | ((with_reducible refine gNa "_law_names" ?_); refine we_var (i := 3) rfl (vis rfl) rfl ?_) | ((with_reducible refine gNa "_law_cell" ?_); refine we_var (i := 4) rfl (vis rfl) rfl ?_) | ((with_reducible refine gNa "_law_value" ?_); refine we_var (i := 5) rfl (vis rfl) rfl ?_) | ((with_reducible refine gNa "_law_name" ?_); refine we_var (i := 6) rfl (vis rfl) rfl ?_) | ((with_reducible refine gNa "_law_cells" ?_); refine we_var (i := 7) rfl (vis rfl) rfl ?_) | ((with_reducible refine gNa "_law_k" ?_); refine we_var (i := 8) rfl (vis rfl) rfl ?_))
local macro_rules | `(tactic| walk_at "set") => `(tactic| first | ((with_reducible refine gSn "_law_head" ?_); refine ws_set (i := 0) (by assumption) rfl (by first | exact .inl rfl | exact .inr rfl) ?_) | ((with_reducible refine gSn "_law_some" ?_); refine ws_set (i := 1) (by assumption) rfl (by first | exact .inl rfl | exact .inr rfl) ?_) | ((with_reducible refine gSn "_law_pairs" ?_); refine ws_set (i := 2) (by assumption) rfl (by first | exact .inl rfl | exact .inr rfl) ?_) | ((with_reducible refine gSn "_law_names" ?_); refine ws_set (i := 3) (by assumption) rfl (by first | exact .inl rfl | exact .inr rfl) ?_) | ((with_reducible refine gSn "_law_cell" ?_); refine ws_set (i := 4) (by assumption) rfl (by first | exact .inl rfl | exact .inr rfl) ?_) | ((with_reducible refine gSn "_law_value" ?_); refine ws_set (i := 5) (by assumption) rfl (by first | exact .inl rfl | exact .inr rfl) ?_) | ((with_reducible refine gSn "_law_name" ?_); refine ws_set (i := 6) (by assumption) rfl (by first | exact .inl rfl | exact .inr rfl) ?_) | ((with_reducible refine gSn "_law_cells" ?_); refine ws_set (i := 7) (by assumption) rfl (by first | exact .inl rfl | exact .inr rfl) ?_) | ((with_reducible refine gSn "_law_k" ?_); refine ws_set (i := 8) (by assumption) rfl (by first | exact .inl rfl | exact .inr rfl) ?_))
theorem ok_ldue (T : Tx K mg) : FnOk P w K mg base (L2.CX P w) 3 T.f_law_due T.d_law_due ps_law_due (spOf K 0 sp_ldue) := by
  refine fn_ok T.F_law_due sc_law_due (fun xs M R Rx h => by obtain ⟨_, _, _, rfl, _⟩ := h; rfl) (fun cdv A outer s0 H E B xs M R Rx hr hB h => ?_)
  obtain ⟨l, fo, ho, rfl, rfl, ⟨hfl, hhl⟩, hR⟩ := h
  have nd := sc_law_due.nd
  repeat walk_at "s"
  rw [List.length_map]
  refine ite_b (fun h6 => ?_) (fun h6 => ?_)
  · have h6 : 6 < fo.length := by omega
    rw [due_cnt h6] at hR
    repeat walk_at "s"
    rw [List.length_map]
    exact ⟨rfl, hR⟩
  have h6 : ¬ 6 < fo.length := by omega
  walk_at "s"
  refine wb_cut (st := .Assign _ _ _) (fun ss M => ss = [some (.dat (odS l)), some (.dat (.lst (fo.map D.str))), some (.dat (.lst (ho.map pS))), some (.dat (.lst ((ldL l ++ fo).map D.str))), none, none, none, none, none] ∧ M = []) ?_ ?_
  · refine ws_set (i := 3) nd rfl (.inl rfl) ?_
    refine we_add ?_
    refine we_mul ?_
    refine we_lst ?_
    repeat walk_at "s"
    refine we_notN ?_
    repeat walk_at "s"
    cases l with
    | none =>
      refine ⟨rfl, ?_⟩
      refine wa_nil ?_
      refine a1 (w1d ?_)
      refine w1d (w1d ⟨⟨by decide, ?_⟩⟩)
      repeat walk_at "s"
      refine addL (size_ge (by rw [List.length_map]; show 0 + _ ≤ _; omega)) ?_
      exact ⟨rfl, rfl⟩
    | some z =>
      refine ⟨rfl, ?_⟩
      refine wa_nil ?_
      refine a1 (w1d ?_)
      refine w1d (w1d ⟨⟨(show (-(2 : Int) ^ 63 ≤ 1 ∧ (1 : Int) < 2 ^ 63 ∧ 1 * (1 : Int).toNat ≤ sizeLine) from by decide), ?_⟩⟩)
      repeat walk_at "s"
      refine addL (size_ge (by rw [List.length_map]; show 1 + _ ≤ _; omega)) ?_
      exact ⟨rfl, rfl⟩
  rintro ss M ⟨rfl, rfl⟩
  walk_at "s"
  refine ws_for rfl (wi_list ?_)
  repeat walk_at "s"
  refine ⟨fun i ss M => (∃ o4 o5, ss = [some (.dat (odS l)), some (.dat (.lst (fo.map D.str))), some (.dat (.lst (ho.map pS))), some (.dat (.lst ((ldL l ++ fo ++ (ho.take i).flatMap fun p => [p.1, p.2]).map D.str))), o4, o5, none, none, none]) ∧ M = [], ⟨⟨none, none, by rw [List.take_zero]; show _ = [_, _, _, some (SV.dat (D.lst ((ldL l ++ fo ++ []).map D.str))), _, _, _, _, _]; rw [List.append_nil]⟩, rfl⟩, ?_, ?_⟩
  · rintro i d ss M hd ⟨⟨o4, o5, rfl⟩, rfl⟩
    obtain ⟨p, hi, rfl⟩ := pS_get hd
    have hlt := (List.getElem?_eq_some_iff.mp hi).1
    refine wg_tup2 rfl ?_
    refine wg_name (i := 4) nd rfl (.inl rfl) ?_
    refine wg_name (i := 5) nd rfl (.inl rfl) ?_
    repeat walk_at "s"
    refine we_lst ?_
    repeat walk_at "s"
    have hl2 : ((ho.take i).flatMap fun p => [p.1, p.2]).length = 2 * (ho.take i).length := by
      generalize ho.take i = q
      induction q with
      | nil => rfl
      | cons x r ih => rw [List.flatMap_cons, List.length_append, ih]; simp; omega
    have hl1 : (ldL l).length ≤ 1 := by cases l <;> simp [ldL]
    refine addL (size_ge (by rw [List.length_map, List.length_append, List.length_append, hl2, List.length_take]; show _ + 2 ≤ _; omega)) ?_
    repeat walk_at "s"
    refine ⟨⟨some (.dat (.str p.1)), some (.dat (.str p.2)), ?_⟩, rfl⟩
    rw [hold_take hi, ← List.append_assoc, List.map_append (l₁ := ldL l ++ fo ++ _)]
    rfl
  rintro ss M ⟨⟨o4, o5, rfl⟩, rfl⟩
  rw [List.length_map, List.take_length]
  show WB _ _ _ _ _ (_ :: _ :: _ :: some (.dat (.lst ((allN l fo ho).map D.str))) :: _) _
  walk_at "s"
  refine ws_for rfl (wi_list ?_)
  repeat walk_at "s"
  refine ⟨fun i ss M => (∀ (j : Nat) y, j < i → (allN l fo ho)[j]? = some y → isNm y = true) ∧ (∃ o6, ss = [some (.dat (odS l)), some (.dat (.lst (fo.map D.str))), some (.dat (.lst (ho.map pS))), some (.dat (.lst ((allN l fo ho).map D.str))), o4, o5, o6, none, none]) ∧ M = [], ⟨fun j y hj => absurd hj (Nat.not_lt_zero j), ⟨_, rfl⟩, rfl⟩, ?_, ?_⟩
  · rintro i d ss M hd ⟨hz, ⟨o6, rfl⟩, rfl⟩
    obtain ⟨z, hi, rfl⟩ := str_get hd
    refine wg_name (i := 6) nd rfl (.inl rfl) ?_
    repeat walk_at "s"
    refine cq rfl ⟨z, rfl, rfl, ?_⟩
    repeat walk_at "s"
    refine ite_v (fun h => ?_) (fun h => ?_)
    · have hb : badNm (allN l fo ho) = some z := find_at hi (fun j y hj hy => by rw [hz j y hj hy]; rfl) h
      rw [due_nm h6 hb] at hR
      repeat walk_at "s"
      exact ⟨rfl, hR⟩
    · repeat walk_at "s"
      refine ⟨fun j y hj hy => ?_, ⟨_, rfl⟩, rfl⟩
      rcases Nat.lt_succ_iff_lt_or_eq.mp hj with h1 | h1
      · exact hz j y h1 hy
      · subst h1
        rw [hi] at hy
        cases hy
        simpa using h
  rintro ss M ⟨hz, ⟨o6, rfl⟩, rfl⟩
  have hb : badNm (allN l fo ho) = none := find_no fun j y hj hy => by rw [hz j y (by rw [List.length_map]; exact hj) hy]; rfl
  walk_at "s"
  refine ws_lc2 (n := 7) (i := 4) (j := 5) rfl nd rfl rfl (sw_true rfl rfl rfl (by decide +kernel)) (blkOk_by rfl) rfl rfl (by decide) (fun _ _ _ _ _ => .inl rfl) (fun _ _ _ _ _ => .inl rfl) (by decide) (wi_list ?_)
  repeat walk_at "s"
  refine lcq_map2 (fun d => match d with | .tup [a, _] => a | x => x) (size_ge (by rw [List.length_map]; omega)) ?_ ?_
  · intro i d hd
    obtain ⟨p, hi, rfl⟩ := pS_get hd
    refine ⟨_, _, rfl, ?_⟩
    intro s H C cl fp B hB
    repeat walk_at "s"
    exact ⟨rfl, rfl⟩
  have hcs : (ho.map pS).map (fun d => match d with | .tup [a, _] => a | x => x) = (ho.map (·.1)).map D.str := by rw [List.map_map, List.map_map]; rfl
  rw [hcs]
  generalize hzs : ho.map (·.1) = zs
  have hzl : zs.length ≤ 20 := by rw [← hzs, List.length_map]; exact hhl
  walk_at "s"
  refine ws_for rfl (wi_enum T.z_enumerate rfl ?_)
  repeat walk_at "s"
  refine ⟨fun i ss M => (∀ (j : Nat) y, j < i → zs[j]? = some y → y ∉ zs.take j) ∧ (∃ o4 o8, ss = [some (.dat (odS l)), some (.dat (.lst (fo.map D.str))), some (.dat (.lst (ho.map pS))), some (.dat (.lst ((allN l fo ho).map D.str))), o4, o5, o6, some (.dat (.lst (zs.map D.str))), o8]) ∧ M = [], ⟨fun j y hj => absurd hj (Nat.not_lt_zero j), ⟨_, _, rfl⟩, rfl⟩, ?_, ?_⟩
  · rintro i d ss M hd ⟨hz2, ⟨o4, o8, rfl⟩, rfl⟩
    obtain ⟨z, hi, rfl⟩ := zip_strs hd
    refine wg_tup2 rfl ?_
    refine wg_name (i := 8) nd rfl (.inl rfl) ?_
    refine wg_name (i := 4) nd rfl (.inl rfl) ?_
    repeat walk_at "s"
    dsimp only [slD]
    rw [cut_take]
    refine inLs rfl (strs_pl _) ?_
    rw [strs_any]
    refine ite_b (fun hm => ?_) (fun hm => ?_)
    · have hd2 : dupS (ho.map (·.1)) = some z := by rw [hzs]; exact dup_at hi hz2 hm
      rw [due_tw h6 hb hd2] at hR
      repeat walk_at "s"
      exact ⟨rfl, hR⟩
    · repeat walk_at "s"
      refine ⟨fun j y hj hy => ?_, ⟨_, _, rfl⟩, rfl⟩
      rcases Nat.lt_succ_iff_lt_or_eq.mp hj with h1 | h1
      · exact hz2 j y h1 hy
      · subst h1
        rw [hi] at hy
        cases hy
        exact hm
  · rintro ss M ⟨hz2, ⟨o4, o8, rfl⟩, rfl⟩
    have hlz : (List.zipWith (fun a b => D.tup [a, b]) (rangeD 0 (zs.map D.str).length) (zs.map D.str)).length = zs.length := by
      rw [List.length_zipWith, rangeD_len, List.length_map, Nat.min_self]
    rw [hlz] at hz2
    have hd2 : dupS (ho.map (·.1)) = none := by rw [hzs]; exact dup_no hz2
    rw [due_told h6 hb hd2] at hR
    repeat walk_at "s"
    exact ⟨rfl, hR⟩
end
theorem cal_ldue (T : Tx K mg) : Cal P w K mg base "_law_due" 3 0 sp_ldue := ⟨_, _, _, ok_ldue T, T.g_law_due, T.F_law_due.kp, T.b_law_due⟩
local macro_rules | `(tactic| walk_at "call") => `(tactic| ((with_reducible refine gF "_law_due" ?_); refine we_own (k := 3) (n := 0) (S := sp_ldue) ?_ ?_ rfl ?_; exact cal_ldue ‹Tx _ _›; exact room ‹Room _ _› (by decide)))

/-! questions handed in in several ways -/
 local macro_rules | `(tactic| walk_at "x") => `(tactic| (with_reducible first | refine wk_cons ?_ | refine wk_nil ?_))
theorem QR.imp {CB CN CT : Addr} {R0 R1 : Prop} {Rx Ry : Addr → List (Str × D) → Prop} (h0 : R0 → R1) (hx : ∀ D fs, Rx D fs → Ry D fs) : ∀ q : QR, q.k CB CN CT R0 Rx → q.k CB CN CT R1 Ry
  | .told, h => h0 h
  | .cnt _, h => hx _ _ h
  | .nm _, h => hx _ _ h
  | .tw _, h => hx _ _ h
section
variable (T : Tx K mg)
abbrev spQ := sp_Q T.C_Question T.C_BadCount T.C_NoName T.C_Twice
theorem mkq_hlf : MkrK P w K mg base "Question" T.C_Question 5 (spQ T) 1 ["holds", "lead", "follows"] [0, 2, 3, 1] [.dat .non, .dat .non, .dat .non] := by
  obtain ⟨ds, hd, kb⟩ := fun_kbD T.F_Question_init ["self", "lead", "follows", "holds"] 1 ["holds", "lead", "follows"] [0, 2, 3, 1] (by simp) (fun _ _ _ _ _ _ _ us its ws h1 h2 h3 => match us, its, ws, h1, h2, h3 with | [_], [_, _, _], [_, _, _], _, _, _ => ⟨_, rfl, rfl⟩)
  exact ⟨_, _, _, ds, _, T.mk_Question, ok_Q T, T.g_Question, kb, hd, fun _ _ => .cons .non (.cons .non (.cons .non .nil))⟩
theorem mkq_2 : MkrK P w K mg base "Question" T.C_Question 5 (spQ T) 3 [] [0, 1, 2, 5] [.dat .non, .dat .non, .dat .non] := by
  obtain ⟨ds, hd, kb⟩ := fun_kbD T.F_Question_init ["self", "lead", "follows", "holds"] 3 [] [0, 1, 2, 5] (by simp) (fun _ _ _ _ _ _ _ us its ws h1 h2 h3 => match us, its, ws, h1, h2, h3 with | [_, _, _], [_, _, _], [], _, _, _ => ⟨_, rfl, rfl⟩)
  exact ⟨_, _, _, ds, _, T.mk_Question, ok_Q T, T.g_Question, kb, hd, fun _ _ => .cons .non (.cons .non (.cons .non .nil))⟩
theorem mkq_h : MkrK P w K mg base "Question" T.C_Question 5 (spQ T) 2 ["holds"] [0, 1, 4, 2] [.dat .non, .dat .non, .dat .non] := by
  obtain ⟨ds, hd, kb⟩ := fun_kbD T.F_Question_init ["self", "lead", "follows", "holds"] 2 ["holds"] [0, 1, 4, 2] (by simp) (fun _ _ _ _ _ _ _ us its ws h1 h2 h3 => match us, its, ws, h1, h2, h3 with | [_, _], [_, _, _], [_], _, _, _ => ⟨_, rfl, rfl⟩)
  exact ⟨_, _, _, ds, _, T.mk_Question, ok_Q T, T.g_Question, kb, hd, fun _ _ => .cons .non (.cons .non (.cons .non .nil))⟩
theorem mkq_fh : MkrK P w K mg base "Question" T.C_Question 5 (spQ T) 1 ["follows", "holds"] [0, 3, 1, 2] [.dat .non, .dat .non, .dat .non] := by
  obtain ⟨ds, hd, kb⟩ := fun_kbD T.F_Question_init ["self", "lead", "follows", "holds"] 1 ["follows", "holds"] [0, 3, 1, 2] (by simp) (fun _ _ _ _ _ _ _ us its ws h1 h2 h3 => match us, its, ws, h1, h2, h3 with | [_], [_, _, _], [_, _], _, _, _ => ⟨_, rfl, rfl⟩)
  exact ⟨_, _, _, ds, _, T.mk_Question, ok_Q T, T.g_Question, kb, hd, fun _ _ => .cons .non (.cons .non (.cons .non .nil))⟩
end
theorem nil_str {fo : List Str} : deq (.lst (fo.map D.str)) (.lst []) = decide (fo = []) := by
  have := deqs_strs fo []
  cases fo <;> rfl
theorem nil_pS {ho : List (Str × Str)} : deq (.lst (ho.map pS)) (.lst []) = decide (ho = []) := by
  cases ho <;> rfl
theorem pS_pl60 (ho : List (Str × Str)) : D.pl 60 (.lst (ho.map pS)) = true := pS_plN 57 ho
def sp_lmade (C CB CN CT : Addr) : SpD := fun xs M R Rx => ∃ (door : Int) (l : Option Str) (fo : List Str) (ho : List (Str × Str)), xs = [.dat (.int door), .dat (odS l), .dat (.lst (fo.map D.str)), .dat (.lst (ho.map pS))] ∧ M = [] ∧ QSm fo ho ∧
  (qDue l fo ho).k CB CN CT (R (.dat (quD C l fo ho)) []) (fun D fs => Rx D fs [])
section
local macro_rules | `(tactic| walk_at "v") => `(tactic| first | ((with_reducible refine gNa "_law_door" ?_); refine we_var (i := 0) rfl (vis rfl) rfl ?_) | ((with_reducible refine gNa "_law_head" ?_); refine we_var (i := 1) rfl (vis rfl) rfl ?_) | ((with_reducible refine gNa "_law_some" ?_); refine we_var (i := 2) rfl (vis rfl) rfl ?_) | ((with_reducible refine gNa "_law_pairs" ?_); refine we_var (i := 3) rfl (vis rfl) rfl ?_))
local macro_rules | `(tactic| walk_at "set") => `(tactic| first | ((with_reducible refine gSn "_law_door" ?_); refine ws_set (i := 0) (by assumption) rfl (by first | exact .inl rfl | exact .inr rfl) ?_) | ((with_reducible refine gSn "_law_head" ?_); refine ws_set (i := 1) (by assumption) rfl (by first | exact .inl rfl | exact .inr rfl) ?_) | ((with_reducible refine gSn "_law_some" ?_); refine ws_set (i := 2) (by assumption) rfl (by first | exact .inl rfl | exact .inr rfl) ?_) | ((with_reducible refine gSn "_law_pairs" ?_); refine ws_set (i := 3) (by assumption) rfl (by first | exact .inl rfl | exact .inr rfl) ?_))
theorem ok_lmade (T : Tx K mg) : FnOk P w K mg base (L2.CX P w) 9 T.f_law_made T.d_law_made ps_law_made (spOf K 0 (sp_lmade T.C_Question T.C_BadCount T.C_NoName T.C_Twice)) := by
  refine fn_ok T.F_law_made sc_law_made (fun xs M R Rx h => by obtain ⟨_, _, _, _, rfl, _⟩ := h; rfl) (fun cdv A outer s0 H E B xs M R Rx hr hB h => ?_)
  obtain ⟨door, l, fo, ho, rfl, rfl, sm, hR⟩ := h
  have nd := sc_law_made.nd
  have hol : OrNon (.lst (fo.map D.str)) (fo.map D.str) := .inl rfl
  have hol2 : OrNon (.lst (ho.map pS)) (ho.map pS) := .inl rfl
  refine wb_cut (st := .If _ _ _ _) (fun ss M => ss = [some (.dat (.int door)), some (.dat (odS l)), some (.dat (.lst (fo.map D.str))), some (.dat (.lst (ho.map pS)))] ∧ M = []) ?_ ?_
  · repeat walk_at "s"
    refine ite_b (fun _ => ?_) (fun _ => ?_)
    · walk_at "s"
      refine ws_ret ?_
      refine we_mkrK0 (mkq_hlf T) (room hr (by decide)) rfl [1, 2, 0] rfl ?_
      repeat walk_at "s"
      refine ⟨rfl, rfl, ?_⟩
      refine mq rfl ⟨l, fo, ho, _, _, rfl, rfl, ⟨hol, hol2⟩, sm, ?_⟩
      exact QR.imp (fun hR => ⟨rfl, _, _, rfl, rfl, ⟨rfl, hR⟩⟩) (fun D fs h => ⟨rfl, h⟩) _ hR
    · repeat walk_at "s"
      exact ⟨rfl, rfl⟩
  rintro ss M ⟨rfl, rfl⟩
  refine wb_cut (st := .If _ _ _ _) (fun ss M => ss = [some (.dat (.int door)), some (.dat (odS l)), some (.dat (.lst (fo.map D.str))), some (.dat (.lst (ho.map pS)))] ∧ M = []) ?_ ?_
  · refine ws_if ?_
    refine wt_w ?_
    refine ww_and ?_
    repeat walk_at "s"
    refine ite_b (fun _ => ?_) (fun _ => ?_)
    · refine ww_and1 ?_
      refine wt_eq (by assumption) ?_
      repeat walk_at "s"
      refine we_lst ?_
      repeat walk_at "s"
      refine eqD (pS_pl60 _) rfl ?_
      rw [nil_pS]
      refine ite_b (fun he => ?_) (fun _ => ?_)
      · subst he
        walk_at "s"
        refine ws_ret ?_
        refine we_mkrK (mkq_2 T) (room hr (by decide)) rfl [0, 1, 4] rfl ?_
        repeat walk_at "s"
        refine ⟨rfl, rfl, ?_⟩
        refine mq rfl ⟨l, fo, [], _, _, rfl, rfl, ⟨hol, .inr ⟨rfl, rfl⟩⟩, sm, ?_⟩
        exact QR.imp (fun hR => ⟨rfl, _, _, rfl, rfl, ⟨rfl, hR⟩⟩) (fun D fs h => ⟨rfl, h⟩) _ hR
      · repeat walk_at "s"
        exact ⟨rfl, rfl⟩
    · refine it_f rfl ?_
      repeat walk_at "s"
      exact ⟨rfl, rfl⟩
  rintro ss M ⟨rfl, rfl⟩
  refine wb_cut (st := .If _ _ _ _) (fun ss M => ss = [some (.dat (.int door)), some (.dat (odS l)), some (.dat (.lst (fo.map D.str))), some (.dat (.lst (ho.map pS)))] ∧ M = []) ?_ ?_
  · refine ws_if ?_
    refine wt_w ?_
    refine ww_and ?_
    repeat walk_at "s"
    refine ite_b (fun _ => ?_) (fun _ => ?_)
    · refine ww_and1 ?_
      refine wt_eq (by assumption) ?_
      repeat walk_at "s"
      refine we_lst ?_
      repeat walk_at "s"
      refine eqD (strs_pl60 _) rfl ?_
      rw [nil_str]
      refine ite_b (fun he => ?_) (fun _ => ?_)
      · subst he
        walk_at "s"
        refine ws_ret ?_
        refine we_mkrK (mkq_h T) (room hr (by decide)) rfl [0, 3, 1] rfl ?_
        repeat walk_at "s"
        refine ⟨rfl, rfl, ?_⟩
        refine mq rfl ⟨l, [], ho, _, _, rfl, rfl, ⟨.inr ⟨rfl, rfl⟩, hol2⟩, sm, ?_⟩
        exact QR.imp (fun hR => ⟨rfl, _, _, rfl, rfl, ⟨rfl, hR⟩⟩) (fun D fs h => ⟨rfl, h⟩) _ hR
      · repeat walk_at "s"
        exact ⟨rfl, rfl⟩
    · refine it_f rfl ?_
      repeat walk_at "s"
      exact ⟨rfl, rfl⟩
  rintro ss M ⟨rfl, rfl⟩
  refine wb_cut (st := .If _ _ _ _) (fun ss M => ss = [some (.dat (.int door)), some (.dat (odS l)), some (.dat (.lst (fo.map D.str))), some (.dat (.lst (ho.map pS)))] ∧ M = []) ?_ ?_
  · refine ws_if ?_
    refine wt_w ?_
    refine ww_and ?_
    repeat walk_at "s"
    refine ite_b (fun _ => ?_) (fun _ => ?_)
    · refine ww_and1 ?_
      refine wt_isN ?_
      repeat walk_at "s"
      cases l with
      | none =>
        refine ⟨rfl, ?_⟩
        refine it_t rfl ?_
        walk_at "s"
        refine ws_ret ?_
        refine we_mkrK0 (mkq_fh T) (room hr (by decide)) rfl [2, 0, 1] rfl ?_
        repeat walk_at "s"
        refine ⟨rfl, rfl, ?_⟩
        refine mq rfl ⟨none, fo, ho, _, _, rfl, rfl, ⟨hol, hol2⟩, sm, ?_⟩
        exact QR.imp (fun hR => ⟨rfl, _, _, rfl, rfl, ⟨rfl, hR⟩⟩) (fun D fs h => ⟨rfl, h⟩) _ hR
      | some z =>
        refine ⟨rfl, ?_⟩
        refine it_f rfl ?_
        repeat walk_at "s"
        exact ⟨rfl, rfl⟩
    · refine it_f rfl ?_
      repeat walk_at "s"
      exact ⟨rfl, rfl⟩
  rintro ss M ⟨rfl, rfl⟩
  refine wb_cut (st := .If _ _ _ _) (fun ss M => ss = [some (.dat (.int door)), some (.dat (odS l)), some (.dat (.lst (fo.map D.str))), some (.dat (.lst (ho.map pS)))] ∧ M = []) ?_ ?_
  · refine ws_if ?_
    refine wt_w ?_
    refine ww_and ?_
    repeat walk_at "s"
    refine ite_b (fun _ => ?_) (fun _ => ?_)
    · refine ww_and ?_
      refine wt_eq (by assumption) ?_
      repeat walk_at "s"
      refine we_lst ?_
      repeat walk_at "s"
      refine eqD (strs_pl60 _) rfl ?_
      rw [nil_str]
      refine ite_b (fun he => ?_) (fun _ => ?_)
      · refine ww_and1 ?_
        refine wt_eq (by assumption) ?_
        repeat walk_at "s"
        refine we_lst ?_
        repeat walk_at "s"
        refine eqD (pS_pl60 _) rfl ?_
        rw [nil_pS]
        refine ite_b (fun he2 => ?_) (fun _ => ?_)
        · subst he
          subst he2
          repeat walk_at "s"
          refine mq rfl ⟨l, [], [], _, _, rfl, rfl, ⟨.inr ⟨rfl, rfl⟩, .inr ⟨rfl, rfl⟩⟩, sm, ?_⟩
          exact QR.imp (fun hR => ⟨rfl, _, _, rfl, rfl, ⟨rfl, hR⟩⟩) (fun D fs h => ⟨rfl, h⟩) _ hR
        · repeat walk_at "s"
          exact ⟨rfl, rfl⟩
      · refine it_f rfl ?_
        repeat walk_at "s"
        exact ⟨rfl, rfl⟩
    · refine it_f rfl ?_
      repeat walk_at "s"
      exact ⟨rfl, rfl⟩
  rintro ss M ⟨rfl, rfl⟩
  repeat walk_at "s"
  refine mq rfl ⟨l, fo, ho, _, _, rfl, rfl, ⟨hol, hol2⟩, sm, ?_⟩
  exact QR.imp (fun hR => ⟨rfl, _, _, rfl, rfl, ⟨rfl, hR⟩⟩) (fun D fs h => ⟨rfl, h⟩) _ hR
end
theorem cal_lmade (T : Tx K mg) : Cal P w K mg base "_law_made" 9 0 (sp_lmade T.C_Question T.C_BadCount T.C_NoName T.C_Twice) := ⟨_, _, _, ok_lmade T, T.g_law_made, T.F_law_made.kp, T.b_law_made⟩
local macro_rules | `(tactic| walk_at "call") => `(tactic| ((with_reducible refine gF "_law_made" ?_); refine we_own (k := 9) (n := 0) (S := (sp_lmade (‹Tx _ _›).C_Question (‹Tx _ _›).C_BadCount (‹Tx _ _›).C_NoName (‹Tx _ _›).C_Twice)) ?_ ?_ rfl ?_; exact cal_lmade ‹Tx _ _›; exact room ‹Room _ _› (by decide)))

/-! what is said, by the package -/
def sp_lsaid : SpD := fun xs M R Rx => ∃ (door : Int) (l : Option Str) (fo : List Str) (ho : List (Str × Str)), xs = [.dat (.int door), .dat (odS l), .dat (.lst (fo.map D.str)), .dat (.lst (ho.map pS))] ∧ M = [] ∧ QSm fo ho ∧ R (.dat (dueD l fo ho (qDue l fo ho))) []
section
local macro_rules | `(tactic| walk_at "v") => `(tactic| first | ((with_reducible refine gNa "_law_door" ?_); refine we_var (i := 0) rfl (vis rfl) rfl ?_) | ((with_reducible refine gNa "_law_head" ?_); refine we_var (i := 1) rfl (vis rfl) rfl ?_) | ((with_reducible refine gNa "_law_some" ?_); refine we_var (i := 2) rfl (vis rfl) rfl ?_) | ((with_reducible refine gNa "_law_pairs" ?_); refine we_var (i := 3) rfl (vis rfl) rfl ?_) | ((with_reducible refine gNa "_law_found" ?_); refine we_var (i := 4) rfl (vis rfl) rfl ?_) | ((with_reducible refine gNa "e" ?_); refine we_var (i := 5) rfl (vis rfl) rfl ?_) | ((with_reducible refine gNa "_law_kinds" ?_); refine we_var (i := 6) rfl (vis rfl) rfl ?_))
local macro_rules | `(tactic| walk_at "set") => `(tactic| first | ((with_reducible refine gSn "_law_door" ?_); refine ws_set (i := 0) (by assumption) rfl (by first | exact .inl rfl | exact .inr rfl) ?_) | ((with_reducible refine gSn "_law_head" ?_); refine ws_set (i := 1) (by assumption) rfl (by first | exact .inl rfl | exact .inr rfl) ?_) | ((with_reducible refine gSn "_law_some" ?_); refine ws_set (i := 2) (by assumption) rfl (by first | exact .inl rfl | exact .inr rfl) ?_) | ((with_reducible refine gSn "_law_pairs" ?_); refine ws_set (i := 3) (by assumption) rfl (by first | exact .inl rfl | exact .inr rfl) ?_) | ((with_reducible refine gSn "_law_found" ?_); refine ws_set (i := 4) (by assumption) rfl (by first | exact .inl rfl | exact .inr rfl) ?_) | ((with_reducible refine gSn "e" ?_); refine ws_set (i := 5) (by assumption) rfl (by first | exact .inl rfl | exact .inr rfl) ?_) | ((with_reducible refine gSn "_law_kinds" ?_); refine ws_set (i := 6) (by assumption) rfl (by first | exact .inl rfl | exact .inr rfl) ?_))
theorem ok_lsaid (T : Tx K mg) : FnOk P w K mg base (L2.CX P w) 12 T.f_law_said T.d_law_said ps_law_said (spOf K 0 sp_lsaid) := by
  refine fn_ok T.F_law_said sc_law_said (fun xs M R Rx h => by obtain ⟨_, _, _, _, rfl, _⟩ := h; rfl) (fun cdv A outer s0 H E B xs M R Rx hr hB h => ?_)
  obtain ⟨door, l, fo, ho, rfl, rfl, sm, hR⟩ := h
  have nd := sc_law_said.nd
  have hu : (A.deeper (envOfC "_law_said" (defScope s_law_said) s0.heap.objs.size T.f_law_said cdv)).units + 65 < cLine := by have := hr.un; omega
  walk_at "s"
  refine ws_tryAs (i := 5) (C0 := .ref T.C_BoardError) nd rfl rfl ⟨rfl, by decide, .inl T.g_BoardError⟩ (fun pn xe B' hB' => ?_)
  repeat walk_at "s"
  refine cq rfl ⟨door, l, fo, ho, rfl, rfl, sm, ?_⟩
  cases e : qDue l fo ho with
  | told =>
    rw [e] at hR
    repeat walk_at "s"
    exact ⟨rfl, hR⟩
  | cnt n =>
    rw [e] at hR
    refine ⟨true, T.y_BadCount_BoardError, it_t rfl ?_⟩
    intro a oe d pn hz hf hd
    cases d with
    | none => cases hd rfl
    | some dd =>
    show WB _ _ _ _ _ _ _
    walk_at "s"
    refine ws_set (i := 6) nd rfl (.inl rfl) ?_
    refine we_lst ?_
    refine wa_cons ?_
    refine we_isX T.e_BadCount hz hf T.z_isinstance rfl ?_
    repeat walk_at "s"
    refine we_globR rfl T.g_BadCount ?_
    repeat walk_at "s"
    refine ⟨_, _, _, _, rfl, ClsV.own _, T.k_BadCount_BadCount, ?_⟩
    refine wa_cons ?_
    refine we_isX T.e_BadCount hz hf T.z_isinstance rfl ?_
    repeat walk_at "s"
    refine we_globR rfl T.g_NoName ?_
    repeat walk_at "s"
    refine ⟨_, _, _, _, rfl, ClsV.own _, T.k_BadCount_NoName, ?_⟩
    refine wa_cons ?_
    refine we_isX T.e_BadCount hz hf T.z_isinstance rfl ?_
    repeat walk_at "s"
    refine we_globR rfl T.g_Twice ?_
    repeat walk_at "s"
    refine ⟨_, _, _, _, rfl, ClsV.own _, T.k_BadCount_Twice, ?_⟩
    repeat walk_at "s"
    refine wt_eqU hr.units ?_
    repeat walk_at "s"
    refine we_lst ?_
    repeat walk_at "s"
    refine eqD rfl rfl ?_
    refine it_t rfl ?_
    walk_at "s"
    refine ws_ret ?_
    refine we_tup ?_
    refine wa_cons ?_
    walk_at "s"
    refine wa_cons ?_
    refine we_tup ?_
    refine wa_cons ?_
    refine we_xf T.x_BadCount T.n_BadCount_what hz hf ?_
    walk_at "v"
    refine ⟨_, _, rfl, rfl, ?_⟩
    refine wa_cons ?_
    refine we_xf T.x_BadCount T.n_BadCount_count hz hf ?_
    walk_at "v"
    refine ⟨_, _, rfl, rfl, ?_⟩
    repeat walk_at "s"
    exact ⟨rfl, hR⟩
  | nm z =>
    rw [e] at hR
    refine ⟨true, T.y_NoName_BoardError, it_t rfl ?_⟩
    intro a oe d pn hz hf hd
    cases d with
    | none => cases hd rfl
    | some dd =>
    show WB _ _ _ _ _ _ _
    walk_at "s"
    refine ws_set (i := 6) nd rfl (.inl rfl) ?_
    refine we_lst ?_
    refine wa_cons ?_
    refine we_isX T.e_NoName hz hf T.z_isinstance rfl ?_
    repeat walk_at "s"
    refine we_globR rfl T.g_BadCount ?_
    repeat walk_at "s"
    refine ⟨_, _, _, _, rfl, ClsV.own _, T.k_NoName_BadCount, ?_⟩
    refine wa_cons ?_
    refine we_isX T.e_NoName hz hf T.z_isinstance rfl ?_
    repeat walk_at "s"
    refine we_globR rfl T.g_NoName ?_
    repeat walk_at "s"
    refine ⟨_, _, _, _, rfl, ClsV.own _, T.k_NoName_NoName, ?_⟩
    refine wa_cons ?_
    refine we_isX T.e_NoName hz hf T.z_isinstance rfl ?_
    repeat walk_at "s"
    refine we_globR rfl T.g_Twice ?_
    repeat walk_at "s"
    refine ⟨_, _, _, _, rfl, ClsV.own _, T.k_NoName_Twice, ?_⟩
    repeat walk_at "s"
    refine wt_eqU hr.units ?_
    repeat walk_at "s"
    refine we_lst ?_
    repeat walk_at "s"
    refine eqD rfl rfl ?_
    refine it_f rfl ?_
    iterate 2 walk_at "s"
    refine ws_if ?_
    refine wt_neU hr.units ?_
    refine we_lcount hu ?_
    walk_at "v"
    refine ⟨_, rfl, rfl, ?_⟩
    repeat walk_at "s"
    refine ⟨rfl, ?_⟩
    repeat walk_at "s"
    refine we_lst ?_
    repeat walk_at "s"
    refine we_lindexD hu ?_
    walk_at "v"
    refine ⟨_, rfl, rfl, ?_⟩
    repeat walk_at "s"
    refine ⟨_, 1, .bl true, rfl, rfl, ⟨rfl, by decide +kernel⟩, ?_, ?_⟩
    · intro m y hm hy
      match m, hm, hy with
      | 0, _, hy => cases hy; decide +kernel
    refine w1d (w1d (ixL rfl ?_))
    refine wa_cons ?_
    refine we_xf T.x_NoName T.n_NoName_name hz hf ?_
    walk_at "v"
    refine ⟨_, _, rfl, rfl, ?_⟩
    repeat walk_at "s"
    exact ⟨rfl, hR⟩
  | tw z =>
    rw [e] at hR
    refine ⟨true, T.y_Twice_BoardError, it_t rfl ?_⟩
    intro a oe d pn hz hf hd
    cases d with
    | none => cases hd rfl
    | some dd =>
    show WB _ _ _ _ _ _ _
    walk_at "s"
    refine ws_set (i := 6) nd rfl (.inl rfl) ?_
    refine we_lst ?_
    refine wa_cons ?_
    refine we_isX T.e_Twice hz hf T.z_isinstance rfl ?_
    repeat walk_at "s"
    refine we_globR rfl T.g_BadCount ?_
    repeat walk_at "s"
    refine ⟨_, _, _, _, rfl, ClsV.own _, T.k_Twice_BadCount, ?_⟩
    refine wa_cons ?_
    refine we_isX T.e_Twice hz hf T.z_isinstance rfl ?_
    repeat walk_at "s"
    refine we_globR rfl T.g_NoName ?_
    repeat walk_at "s"
    refine ⟨_, _, _, _, rfl, ClsV.own _, T.k_Twice_NoName, ?_⟩
    refine wa_cons ?_
    refine we_isX T.e_Twice hz hf T.z_isinstance rfl ?_
    repeat walk_at "s"
    refine we_globR rfl T.g_Twice ?_
    repeat walk_at "s"
    refine ⟨_, _, _, _, rfl, ClsV.own _, T.k_Twice_Twice, ?_⟩
    repeat walk_at "s"
    refine wt_eqU hr.units ?_
    repeat walk_at "s"
    refine we_lst ?_
    repeat walk_at "s"
    refine eqD rfl rfl ?_
    refine it_f rfl ?_
    iterate 2 walk_at "s"
    refine ws_if ?_
    refine wt_neU hr.units ?_
    refine we_lcount hu ?_
    walk_at "v"
    refine ⟨_, rfl, rfl, ?_⟩
    repeat walk_at "s"
    refine ⟨rfl, ?_⟩
    repeat walk_at "s"
    refine we_lst ?_
    repeat walk_at "s"
    refine we_lindexD hu ?_
    walk_at "v"
    refine ⟨_, rfl, rfl, ?_⟩
    repeat walk_at "s"
    refine ⟨_, 2, .bl true, rfl, rfl, ⟨rfl, by decide +kernel⟩, ?_, ?_⟩
    · intro m y hm hy
      match m, hm, hy with
      | 0, _, hy => cases hy; decide +kernel
      | 1, _, hy => cases hy; decide +kernel
    refine w1d (w1d (ixL rfl ?_))
    refine wa_cons ?_
    refine we_xf T.x_Twice T.n_Twice_name hz hf ?_
    walk_at "v"
    refine ⟨_, _, rfl, rfl, ?_⟩
    repeat walk_at "s"
    exact ⟨rfl, hR⟩
end
theorem cal_lsaid (T : Tx K mg) : Cal P w K mg base "_law_said" 12 0 sp_lsaid := ⟨_, _, _, ok_lsaid T, T.g_law_said, T.F_law_said.kp, T.b_law_said⟩
local macro_rules | `(tactic| walk_at "call") => `(tactic| ((with_reducible refine gF "_law_said" ?_); refine we_own (k := 12) (n := 0) (S := sp_lsaid) ?_ ?_ rfl ?_; exact cal_lsaid ‹Tx _ _›; exact room ‹Room _ _› (by decide)))

/-! questions that differ -/
 local macro_rules | `(tactic| walk_at "e") => `(tactic| (refine gRev ?_; refine we_rev ?_))
 local macro_rules | `(tactic| walk_at "e") => `(tactic| refine we_neg ?_)
theorem dupF_none : ∀ (s r : List Str), dupF s r = none ↔ (∀ z ∈ r, z ∉ s) ∧ r.Nodup
  | s, [] => by simp [dupF]
  | s, z :: r => by
    show (if z ∈ s then some z else dupF (s ++ [z]) r) = none ↔ _
    by_cases h : z ∈ s
    · rw [if_pos h]
      exact ⟨fun e => (by cases e), fun e => absurd h (e.1 z (List.mem_cons_self ..))⟩
    · rw [if_neg h, dupF_none (s ++ [z]) r, List.nodup_cons]
      constructor
      · rintro ⟨h1, h2⟩
        refine ⟨fun y hy => ?_, fun hm => ?_, h2⟩
        · rcases List.mem_cons.mp hy with rfl | hy
          · exact h
          · exact fun hs => h1 y hy (List.mem_append_left _ hs)
        · exact h1 z hm (List.mem_append_right _ (List.mem_singleton.mpr rfl))
      · rintro ⟨h1, h2, h3⟩
        refine ⟨fun y hy hs => ?_, h3⟩
        rcases List.mem_append.mp hs with hs | hs
        · exact h1 y (List.mem_cons_of_mem _ hy) hs
        · rw [List.mem_singleton.mp hs] at hy; exact h2 hy
theorem dupS_none {zs : List Str} : dupS zs = none ↔ zs.Nodup := by
  unfold dupS
  rw [dupF_none]
  exact ⟨fun h => h.2, fun h => ⟨fun _ _ h => (by cases h), h⟩⟩
structure QOk (l : Option Str) (fo : List Str) (ho : List (Str × Str)) : Prop where
  fl : fo.length ≤ 6
  nm : ∀ z ∈ allN l fo ho, isNm z = true
  nd : (ho.map (·.1)).Nodup
theorem bad_iff {zs : List Str} : badNm zs = none ↔ ∀ z ∈ zs, isNm z = true := by
  unfold badNm
  rw [List.find?_eq_none]
  simp
theorem told_iff {l : Option Str} {fo : List Str} {ho : List (Str × Str)} : qDue l fo ho = .told ↔ QOk l fo ho := by
  constructor
  · intro h
    by_cases h6 : 6 < fo.length
    · rw [due_cnt h6] at h; cases h
    cases e : badNm (allN l fo ho) with
    | some z => rw [due_nm h6 e] at h; cases h
    | none =>
      cases e2 : dupS (ho.map (·.1)) with
      | some z => rw [due_tw h6 e e2] at h; cases h
      | none => exact ⟨by omega, bad_iff.mp e, dupS_none.mp e2⟩
  · rintro ⟨h1, h2, h3⟩
    exact due_told (by omega) (bad_iff.mpr h2) (dupS_none.mpr h3)
theorem all_mem {l : Option Str} {fo : List Str} {ho : List (Str × Str)} {z : Str} : z ∈ allN l fo ho ↔ l = some z ∨ z ∈ fo ∨ ∃ p ∈ ho, z = p.1 ∨ z = p.2 := by
  unfold allN
  rw [List.mem_append, List.mem_append, List.mem_flatMap]
  constructor
  · rintro ((h | h) | ⟨p, hp, h⟩)
    · cases l with
      | none => cases h
      | some y => rw [List.mem_singleton.mp h]; exact .inl rfl
    · exact .inr (.inl h)
    · exact .inr (.inr ⟨p, hp, by simpa using h⟩)
  · rintro (rfl | h | ⟨p, hp, h⟩)
    · exact .inl (.inl (List.mem_singleton.mpr rfl))
    · exact .inl (.inr h)
    · exact .inr ⟨p, hp, by simpa using h⟩
theorem QOk.of {l l' : Option Str} {fo fo' : List Str} {ho ho' : List (Str × Str)} (h : QOk l fo ho) (h1 : ∀ z, l' = some z → isNm z = true) (h2 : fo'.length ≤ 6) (h3 : ∀ z ∈ fo', isNm z = true) (h4 : ∀ p ∈ ho', isNm p.1 = true ∧ isNm p.2 = true) (h5 : (ho'.map (·.1)).Nodup) : QOk l' fo' ho' :=
  ⟨h2, fun z hz => by
    rcases all_mem.mp hz with rfl | hz | ⟨p, hp, rfl | rfl⟩
    · exact h1 z rfl
    · exact h3 z hz
    · exact (h4 p hp).1
    · exact (h4 p hp).2, h5⟩
theorem QOk.ld {l : Option Str} {fo : List Str} {ho : List (Str × Str)} (h : QOk l fo ho) : ∀ z, l = some z → isNm z = true := fun z e => h.nm z (all_mem.mpr (.inl e))
theorem QOk.fn {l : Option Str} {fo : List Str} {ho : List (Str × Str)} (h : QOk l fo ho) : ∀ z ∈ fo, isNm z = true := fun z e => h.nm z (all_mem.mpr (.inr (.inl e)))
theorem QOk.hn {l : Option Str} {fo : List Str} {ho : List (Str × Str)} (h : QOk l fo ho) : ∀ p ∈ ho, isNm p.1 = true ∧ isNm p.2 = true := fun p e => ⟨h.nm _ (all_mem.mpr (.inr (.inr ⟨p, e, .inl rfl⟩))), h.nm _ (all_mem.mpr (.inr (.inr ⟨p, e, .inr rfl⟩)))⟩
theorem told_k {CB CN CT : Addr} {R0 : Prop} {Rx : Addr → List (Str × D) → Prop} {l : Option Str} {fo : List Str} {ho : List (Str × Str)} (h : QOk l fo ho) (h0 : R0) : (qDue l fo ho).k CB CN CT R0 Rx := by
  rw [told_iff.mpr h]
  exact h0
/-- another question -/
def Othr (C : Addr) (l : Option Str) (fo : List Str) (ho : List (Str × Str)) (d : D) : Prop := ∃ l' fo' ho', d = quD C l' fo' ho' ∧ ¬ (l = l' ∧ fo = fo' ∧ ho = ho')
def sp_loth (C : Addr) : SpD := fun xs M R _ => ∃ l fo ho, xs = [.dat (odS l), .dat (.lst (fo.map D.str)), .dat (.lst (ho.map pS))] ∧ M = [] ∧ (QOk l fo ho ∧ ho.length ≤ 3 ∧ ("c3c3c3c3c" : Str) ∉ ho.map (·.1)) ∧ ∀ ds, (∀ d ∈ ds, Othr C l fo ho d) → ds.length ≤ 5 → R (.dat (.lst ds)) []
section
local macro_rules | `(tactic| walk_at "v") => `(tactic| first | ((with_reducible refine gNa "_law_head" ?_); refine we_var (i := 0) rfl (vis rfl) rfl ?_) | ((with_reducible refine gNa "_law_some" ?_); refine we_var (i := 1) rfl (vis rfl) rfl ?_) | ((with_reducible refine gNa "_law_pairs" ?_); refine we_var (i := 2) rfl (vis rfl) rfl ?_) | ((with_reducible refine gNa "_law_found" ?_); refine we_var (i := 3) rfl (vis rfl) rfl ?_))
local macro_rules | `(tactic| walk_at "set") => `(tactic| first | ((with_reducible refine gSn "_law_head" ?_); refine ws_set (i := 0) (by assumption) rfl (by first | exact .inl rfl | exact .inr rfl) ?_) | ((with_reducible refine gSn "_law_some" ?_); refine ws_set (i := 1) (by assumption) rfl (by first | exact .inl rfl | exact .inr rfl) ?_) | ((with_reducible refine gSn "_law_pairs" ?_); refine ws_set (i := 2) (by assumption) rfl (by first | exact .inl rfl | exact .inr rfl) ?_) | ((with_reducible refine gSn "_law_found" ?_); refine ws_set (i := 3) (by assumption) rfl (by first | exact .inl rfl | exact .inr rfl) ?_))
theorem ok_loth (T : Tx K mg) : FnOk P w K mg base (L2.CX P w) 9 T.f_law_others T.d_law_others ps_law_others (spOf K 0 (sp_loth T.C_Question)) := by
  refine fn_ok T.F_law_others sc_law_others (fun xs M R Rx h => by obtain ⟨_, _, _, rfl, _⟩ := h; rfl) (fun cdv A outer s0 H E B xs M R Rx hr hB h => ?_)
  obtain ⟨l, fo, ho, rfl, rfl, ⟨ok, hhl, hc3⟩, hR⟩ := h
  have nd := sc_law_others.nd
  have hfl := ok.fl
  have nb2 : isNm "b2" = true := by decide +kernel
  have nc3 : isNm "c3c3c3c3c" = true ∧ isNm "d" = true ∧ isNm "z" = true := by decide +kernel
  refine wb_cut (st := .Assign _ _ _) (fun ss M => ∃ ds, (∀ d ∈ ds, Othr T.C_Question l fo ho d) ∧ ds.length ≤ 2 ∧ ss = [some (.dat (odS l)), some (.dat (.lst (fo.map D.str))), some (.dat (.lst (ho.map pS))), some (.cel 0)] ∧ M = [.lst ds]) ?_ ?_
  · refine ws_set (i := 3) nd rfl (.inl rfl) ?_
    refine we_lstC ?_
    refine wa_cons ?_
    refine gF "Question" ?_
    refine we_mkr (mkr_Q T) (room hr (by decide)) rfl ?_
    refine wa_cons ?_
    refine we_ix ?_
    refine we_lst ?_
    repeat walk_at "s"
    refine we_isN ?_
    repeat walk_at "s"
    obtain ⟨l2, hl2, hl3, hl4⟩ : ∃ l2 : Option Str, (∀ z, l2 = some z → isNm z = true) ∧ l ≠ l2 ∧ atI [D.non, D.str "b2"] (if isN (.dat (odS l)) = true then 1 else 0) = some (odS l2) := by
      cases l with
      | none => exact ⟨some "b2", fun z e => (by cases e; exact nb2), (by simp), rfl⟩
      | some z => exact ⟨none, fun z e => (by cases e), (by simp), rfl⟩
    refine ⟨by cases l <;> rfl, ?_⟩
    refine wa_nil ?_
    refine a1 (w1d ?_)
    refine w1d (w1d (ixL hl4 ?_))
    repeat walk_at "s"
    refine mq rfl ⟨l2, fo, ho, _, _, rfl, rfl, ⟨.inl rfl, .inl rfl⟩, ⟨by omega, by omega⟩, told_k (ok.of hl2 hfl ok.fn ok.hn ok.nd) ?_⟩
    refine ⟨rfl, _, _, rfl, rfl, ?_⟩
    repeat walk_at "s"
    refine we_lst ?_
    repeat walk_at "s"
    refine addL (size_ge (by rw [List.length_map]; show _ + 1 ≤ _; omega)) ?_
    repeat walk_at "s"
    have ok2 : QOk l fo (ho ++ [(("c3c3c3c3c" : Str), ("d" : Str))]) := ok.of ok.ld hfl ok.fn (fun p hp => by
      rcases List.mem_append.mp hp with h | h
      · exact ok.hn p h
      · rw [List.mem_singleton.mp h]; exact ⟨nc3.1, nc3.2.1⟩) (by
      rw [List.map_append, List.nodup_append]
      exact ⟨ok.nd, by simp, fun a ha b hb e => by
        have : b = "c3c3c3c3c" := by simpa using hb
        exact hc3 (this ▸ e ▸ ha)⟩)
    refine mq rfl ⟨l, fo, ho ++ [(("c3c3c3c3c" : Str), ("d" : Str))], _, _, rfl, rfl, ⟨.inl rfl, .inl (congrArg D.lst (by rw [List.map_append]; rfl))⟩, ⟨by omega, by rw [List.length_append]; show _ + 1 ≤ _; omega⟩, told_k ok2 ?_⟩
    refine ⟨rfl, _, _, rfl, rfl, ?_⟩
    repeat walk_at "s"
    refine ⟨_, fun d hd => ?_, ?_, rfl, rfl⟩
    · simp only [List.mem_cons, List.not_mem_nil, or_false] at hd
      rcases hd with rfl | rfl
      · exact ⟨l2, fo, ho, rfl, fun e => hl3 e.1⟩
      · refine ⟨l, fo, ho ++ [(("c3c3c3c3c" : Str), ("d" : Str))], rfl, fun e => ?_⟩
        have := congrArg List.length e.2.2
        rw [List.length_append] at this
        simp at this
    · exact Nat.le_refl 2
  rintro ss M ⟨ds, hds, hdl, rfl, rfl⟩
  refine wb_cut (st := .If _ _ _ _) (fun ss M => ∃ ds, (∀ d ∈ ds, Othr T.C_Question l fo ho d) ∧ ds.length ≤ 3 ∧ ss = [some (.dat (odS l)), some (.dat (.lst (fo.map D.str))), some (.dat (.lst (ho.map pS))), some (.cel 0)] ∧ M = [.lst ds]) ?_ ?_
  · repeat walk_at "s"
    rw [List.length_map]
    refine ite_b (fun h6 => ?_) (fun h6 => ?_)
    · walk_at "s"
      refine ws_expr ?_
      refine we_append ?_
      walk_at "v"
      refine cl1 rfl ?_
      repeat walk_at "s"
      refine we_lst ?_
      repeat walk_at "s"
      refine addL (size_ge (by rw [List.length_map]; show _ + 1 ≤ _; omega)) ?_
      repeat walk_at "s"
      have ok2 : QOk l (fo ++ (["z"] : List Str)) ho := ok.of ok.ld (by rw [List.length_append]; show _ + 1 ≤ _; omega) (fun z hz => by
        rcases List.mem_append.mp hz with h | h
        · exact ok.fn z h
        · rw [List.mem_singleton.mp h]; exact nc3.2.2) ok.hn ok.nd
      refine mq rfl ⟨l, fo ++ (["z"] : List Str), ho, _, _, rfl, rfl, ⟨.inl (congrArg D.lst (by rw [List.map_append]; rfl)), .inl rfl⟩, ⟨by rw [List.length_append]; show _ + 1 ≤ _; omega, by omega⟩, told_k ok2 ?_⟩
      refine ⟨rfl, _, _, rfl, rfl, ?_⟩
      repeat walk_at "s"
      refine ⟨size_ge (by omega), ?_⟩
      repeat walk_at "s"
      refine ⟨ds ++ [_], fun d hd => ?_, ?_, rfl, rfl⟩
      · rcases List.mem_append.mp hd with h | h
        · exact hds d h
        · rw [List.mem_singleton.mp h]
          refine ⟨_, _, _, rfl, fun e => ?_⟩
          have := congrArg List.length e.2.1
          rw [List.length_append] at this
          simp at this
      · rw [List.length_append]; show _ + 1 ≤ _; omega
    · repeat walk_at "s"
      exact ⟨ds, hds, by omega, rfl, rfl⟩
  rintro ss M ⟨ds, hds, hdl, rfl, rfl⟩
  refine wb_cut (st := .If _ _ _ _) (fun ss M => ∃ ds, (∀ d ∈ ds, Othr T.C_Question l fo ho d) ∧ ds.length ≤ 4 ∧ ss = [some (.dat (odS l)), some (.dat (.lst (fo.map D.str))), some (.dat (.lst (ho.map pS))), some (.cel 0)] ∧ M = [.lst ds]) ?_ ?_
  · walk_at "s"
    refine wt_ne (by assumption) ?_
    walk_at "s"
    refine we_rev ?_
    repeat walk_at "s"
    have hrp : D.pl 60 (.lst (fo.map D.str).reverse) = true := by rw [← List.map_reverse]; exact strs_pl60 _
    refine ⟨rfl, ?_⟩
    repeat walk_at "s"
    refine neD (strs_pl60 _) hrp ?_
    have hne : (!deq (.lst (fo.map D.str)) (.lst (fo.map D.str).reverse)) = !decide (fo = fo.reverse) := by
      rw [← List.map_reverse]
      exact congrArg not (deqs_strs fo fo.reverse)
    rw [hne]
    refine ite_n (fun h6 => ?_) (fun h6 => ?_)
    · skip
      walk_at "s"
      refine ws_expr ?_
      refine we_append ?_
      walk_at "v"
      refine cl1 rfl ?_
      refine wa_cons ?_
      refine gF "Question" ?_
      refine we_mkr (mkr_Q T) (room hr (by decide)) rfl ?_
      refine wa_cons ?_
      walk_at "v"
      refine wa_cons ?_
      refine we_rev ?_
      repeat walk_at "s"
      refine ⟨rfl, ?_⟩
      repeat walk_at "s"
      refine mq rfl ⟨l, fo.reverse, ho, _, _, rfl, rfl, ⟨.inl (congrArg D.lst (by rw [List.map_reverse])), .inl rfl⟩, ⟨by first | omega | (rw [List.length_reverse]; omega), by first | omega | (rw [List.length_reverse]; omega)⟩, told_k (ok.of ok.ld (by rw [List.length_reverse]; exact hfl) (fun z hz => ok.fn z (List.mem_reverse.mp hz)) ok.hn ok.nd) ?_⟩
      refine ⟨rfl, _, _, rfl, rfl, ?_⟩
      repeat walk_at "s"
      refine ⟨size_ge (by omega), ?_⟩
      repeat walk_at "s"
      refine ⟨ds ++ [_], fun d hd => ?_, ?_, rfl, rfl⟩
      · rcases List.mem_append.mp hd with h | h
        · exact hds d h
        · rw [List.mem_singleton.mp h]
          refine ⟨_, _, _, rfl, fun e => ?_⟩
          exact h6 e.2.1
      · rw [List.length_append]; show _ + 1 ≤ _; omega
    · repeat walk_at "s"
      exact ⟨ds, hds, by omega, rfl, rfl⟩
  rintro ss M ⟨ds, hds, hdl, rfl, rfl⟩
  refine wb_cut (st := .If _ _ _ _) (fun ss M => ∃ ds, (∀ d ∈ ds, Othr T.C_Question l fo ho d) ∧ ds.length ≤ 5 ∧ ss = [some (.dat (odS l)), some (.dat (.lst (fo.map D.str))), some (.dat (.lst (ho.map pS))), some (.cel 0)] ∧ M = [.lst ds]) ?_ ?_
  · repeat walk_at "s"
    rw [List.length_map]
    refine ite_b (fun h6 => ?_) (fun h6 => ?_)
    · skip
      walk_at "s"
      refine ws_expr ?_
      refine we_append ?_
      walk_at "v"
      refine cl1 rfl ?_
      refine wa_cons ?_
      refine gF "Question" ?_
      refine we_mkr (mkr_Q T) (room hr (by decide)) rfl ?_
      refine wa_cons ?_
      walk_at "v"
      refine wa_cons ?_
      walk_at "v"
      refine wa_cons ?_
      refine we_rev ?_
      repeat walk_at "s"
      refine ⟨rfl, ?_⟩
      repeat walk_at "s"
      refine mq rfl ⟨l, fo, ho.reverse, _, _, rfl, rfl, ⟨.inl rfl, .inl (congrArg D.lst (by rw [List.map_reverse]))⟩, ⟨by first | omega | (rw [List.length_reverse]; omega), by first | omega | (rw [List.length_reverse]; omega)⟩, told_k (ok.of ok.ld hfl ok.fn (fun p hp => ok.hn p (List.mem_reverse.mp hp)) (by rw [List.map_reverse]; exact (List.reverse_perm _).nodup_iff.mpr ok.nd)) ?_⟩
      refine ⟨rfl, _, _, rfl, rfl, ?_⟩
      repeat walk_at "s"
      refine ⟨size_ge (by omega), ?_⟩
      repeat walk_at "s"
      refine ⟨ds ++ [_], fun d hd => ?_, ?_, rfl, rfl⟩
      · rcases List.mem_append.mp hd with h | h
        · exact hds d h
        · rw [List.mem_singleton.mp h]
          refine ⟨_, _, _, rfl, fun e => ?_⟩
          have h7 := e.2.2
          match ho, h6, ok.nd, h7 with
          | p :: q :: r, _, hn, h7 =>
            have hl := congrArg List.getLast? h7
            rw [List.getLast?_reverse] at hl
            have hm : p ∈ q :: r := by
              have h8 : (q :: r).getLast? = some p := by
                have h9 : (p :: q :: r).getLast? = (q :: r).getLast? := List.getLast?_cons_cons
                rw [← h9, hl]
                rfl
              exact List.mem_of_getLast? h8
            rw [List.map_cons, List.nodup_cons] at hn
            exact hn.1 (List.mem_map_of_mem hm)
          | [], h6, _, _ => simp at h6
          | [_], h6, _, _ => simp at h6
      · rw [List.length_append]; show _ + 1 ≤ _; omega
    · repeat walk_at "s"
      exact ⟨ds, hds, by omega, rfl, rfl⟩
  rintro ss M ⟨ds, hds, hdl, rfl, rfl⟩
  refine wb_freeze 0 (Nat.le_of_eq hB) rfl rfl ?_
  repeat walk_at "s"
  exact ⟨rfl, hR ds hds hdl⟩
end
theorem cal_loth (T : Tx K mg) : Cal P w K mg base "_law_others" 9 0 (sp_loth T.C_Question) := ⟨_, _, _, ok_loth T, T.g_law_others, T.F_law_others.kp, T.b_law_others⟩
local macro_rules | `(tactic| walk_at "call") => `(tactic| ((with_reducible refine gF "_law_others" ?_); refine we_own (k := 9) (n := 0) (S := (sp_loth (‹Tx _ _›).C_Question)) ?_ ?_ rfl ?_; exact cal_loth ‹Tx _ _›; exact room ‹Room _ _› (by decide)))

/-! a question is like itself alone -/
def sp_llike : SpD := fun xs M R _ => ∃ l fo ho, xs = [.dat (odS l), .dat (.lst (fo.map D.str)), .dat (.lst (ho.map pS))] ∧ M = [] ∧ (QOk l fo ho ∧ ho.length ≤ 3 ∧ ("c3c3c3c3c" : Str) ∉ ho.map (·.1)) ∧ R (.dat (.bl true)) []
section
local macro_rules | `(tactic| walk_at "v") => `(tactic| first | ((with_reducible refine gNa "_law_head" ?_); refine we_var (i := 0) rfl (vis rfl) rfl ?_) | ((with_reducible refine gNa "_law_some" ?_); refine we_var (i := 1) rfl (vis rfl) rfl ?_) | ((with_reducible refine gNa "_law_pairs" ?_); refine we_var (i := 2) rfl (vis rfl) rfl ?_) | ((with_reducible refine gNa "_law_here" ?_); refine we_var (i := 3) rfl (vis rfl) rfl ?_) | ((with_reducible refine gNa "_law_other" ?_); refine we_var (i := 4) rfl (vis rfl) rfl ?_) | ((with_reducible refine gNa "_law_things" ?_); refine we_var (i := 5) rfl (vis rfl) rfl ?_) | ((with_reducible refine gNa "_law_thing" ?_); refine we_var (i := 6) rfl (vis rfl) rfl ?_))
local macro_rules | `(tactic| walk_at "set") => `(tactic| first | ((with_reducible refine gSn "_law_head" ?_); refine ws_set (i := 0) (by assumption) rfl (by first | exact .inl rfl | exact .inr rfl) ?_) | ((with_reducible refine gSn "_law_some" ?_); refine ws_set (i := 1) (by assumption) rfl (by first | exact .inl rfl | exact .inr rfl) ?_) | ((with_reducible refine gSn "_law_pairs" ?_); refine ws_set (i := 2) (by assumption) rfl (by first | exact .inl rfl | exact .inr rfl) ?_) | ((with_reducible refine gSn "_law_here" ?_); refine ws_set (i := 3) (by assumption) rfl (by first | exact .inl rfl | exact .inr rfl) ?_) | ((with_reducible refine gSn "_law_other" ?_); refine ws_set (i := 4) (by assumption) rfl (by first | exact .inl rfl | exact .inr rfl) ?_) | ((with_reducible refine gSn "_law_things" ?_); refine ws_set (i := 5) (by assumption) rfl (by first | exact .inl rfl | exact .inr rfl) ?_) | ((with_reducible refine gSn "_law_thing" ?_); refine ws_set (i := 6) (by assumption) rfl (by first | exact .inl rfl | exact .inr rfl) ?_))
theorem ok_llike (T : Tx K mg) : FnOk P w K mg base (L2.CX P w) 14 T.f_law_like_itself T.d_law_like_itself ps_law_like_itself (spOf K 0 sp_llike) := by
  refine fn_ok T.F_law_like_itself sc_law_like_itself (fun xs M R Rx h => by obtain ⟨_, _, _, rfl, _⟩ := h; rfl) (fun cdv A outer s0 H E B xs M R Rx hr hB h => ?_)
  obtain ⟨l, fo, ho, rfl, rfl, ⟨ok, hhl, hc3⟩, hR⟩ := h
  have nd := sc_law_like_itself.nd
  have hfl := ok.fl
  have sm : QSm fo ho := ⟨by omega, by omega⟩
  walk_at "s"
  refine ws_set (i := 3) nd rfl (by first | exact .inl rfl | exact .inr rfl) ?_
  repeat walk_at "s"
  refine cq rfl ⟨0, l, fo, ho, rfl, rfl, sm, told_k ok ?_⟩
  walk_at "s"
  refine ws_if ?_
  refine wt_w ?_
  refine ww_or ?_
  refine wt_not ?_
  refine wt_eqA (n := 3) (room hr (by decide)) ?_
  repeat walk_at "s"
  refine cq rfl ⟨1, l, fo, ho, rfl, rfl, sm, told_k ok ?_⟩
  refine ⟨⟨_, _, _, rfl, rfl, eqA_q (X := cxOf (L2.CX P w) P w K mg base _ _ _ _ _ _ _ _ _ _) T l l fo fo ho ho, _, rfl, ?_⟩⟩
  refine it_f (by simp) ?_
  refine ww_or1 ?_
  refine wt_neA (n := 4) (room hr (by decide)) ?_
  repeat walk_at "s"
  refine cq rfl ⟨0, l, fo, ho, rfl, rfl, sm, told_k ok ?_⟩
  refine ⟨⟨_, _, _, rfl, rfl, neA_q (X := cxOf (L2.CX P w) P w K mg base _ _ _ _ _ _ _ _ _ _) T l l fo fo ho ho, _, rfl, ?_⟩⟩
  refine it_f (by simp) ?_
  iterate 2 walk_at "s"
  refine ws_for rfl (wi_list ?_)
  repeat walk_at "s"
  refine cq rfl ⟨l, fo, ho, rfl, rfl, ⟨ok, hhl, hc3⟩, fun ds hds hdl => ?_⟩
  repeat walk_at "s"
  refine ⟨fun i ss M => (∃ o4, ss = [some (.dat (odS l)), some (.dat (.lst (fo.map D.str))), some (.dat (.lst (ho.map pS))), some (.dat (quD T.C_Question l fo ho)), o4, none, none]) ∧ M = [], ⟨⟨_, rfl⟩, rfl⟩, ?_, ?_⟩
  · rintro i d ss M hd ⟨⟨o4, rfl⟩, rfl⟩
    obtain ⟨l', fo', ho', rfl, hne⟩ := hds d (List.mem_of_getElem? hd)
    refine wg_name (i := 4) nd rfl (.inl rfl) ?_
    walk_at "s"
    refine ws_if ?_
    refine wt_w ?_
    refine ww_or ?_
    refine wt_eqA (n := 3) (room hr (by decide)) ?_
    repeat walk_at "s"
    refine ⟨⟨_, _, _, rfl, rfl, eqA_q (X := cxOf (L2.CX P w) P w K mg base _ _ _ _ _ _ _ _ _ _) T l l' fo fo' ho ho', _, rfl, ?_⟩⟩
    refine it_f (decide_eq_false hne) ?_
    refine ww_or1 ?_
    refine wt_eqA (n := 3) (room hr (by decide)) ?_
    repeat walk_at "s"
    refine ⟨⟨_, _, _, rfl, rfl, eqA_q (X := cxOf (L2.CX P w) P w K mg base _ _ _ _ _ _ _ _ _ _) T l' l fo' fo ho' ho, _, rfl, ?_⟩⟩
    refine it_f (decide_eq_false fun e => hne ⟨e.1.symm, e.2.1.symm, e.2.2.symm⟩) ?_
    repeat walk_at "s"
    exact ⟨⟨_, rfl⟩, rfl⟩
  rintro ss M ⟨⟨o4, rfl⟩, rfl⟩
  walk_at "s"
  refine ws_set (i := 5) nd rfl (by first | exact .inl rfl | exact .inr rfl) ?_
  refine we_lst ?_
  repeat walk_at "s"
  refine we_lst ?_
  repeat walk_at "s"
  have hnq : ∀ (i : Nat) (d : D), ([D.non, quF l fo ho, .str "any", .bl true, .lst []] : List D)[i]? = some d → NotQ d := fun i d hd => by
    have := List.mem_of_getElem? hd
    simp only [List.mem_cons, List.not_mem_nil, or_false] at this
    rcases this with rfl | rfl | rfl | rfl | rfl
    · exact notQ_non
    · exact notQ_tup _
    · exact notQ_str _
    · exact notQ_bl _
    · exact notQ_lst _
  refine we_lc1 (j := 6) rfl nd (blkOk_by rfl) rfl (fun _ _ _ _ _ => .inl rfl) (by decide) (wi_list ?_)
  repeat walk_at "s"
  refine lcq_map (fun _ => .bl false) (size_ge (by show 5 ≤ _; decide)) ?_ ?_
  · intro i d hd s H C cl fp B hB
    have hq := hnq i d hd
    refine we_eqA (n := 3) (room hr (by decide)) ?_
    repeat walk_at "s"
    exact ⟨⟨_, _, _, rfl, rfl, eqA_o (X := Blk (cxOf (L2.CX P w) P w K mg base _ _ _ _ _ _ _ _ _ _) _ _ _ _ _ _) T l fo ho hq, rfl, rfl⟩⟩
  have hin : ∀ b : Bool, ([D.bl b, .bl b, .bl b, .bl b, .bl b] : List D).any (fun z => deq z (.bl (!b))) = false := by
    intro b
    cases b <;> decide +kernel
  show in2 true [] (SV.dat (.bl true)) (SV.dat (.lst [.bl false, .bl false, .bl false, .bl false, .bl false])) _
  refine ⟨w1d (w1d ⟨?_⟩)⟩
  refine ⟨⟨rfl, rfl⟩, ?_⟩
  refine ⟨_, rfl, ?_⟩
  refine it_t (congrArg not (hin false)) ?_
  refine we_one ?_
  refine we_ni (by assumption) rfl ?_
  walk_at "s"
  refine we_lc1 (j := 6) rfl nd (blkOk_by rfl) rfl (fun _ _ _ _ _ => .inl rfl) (by decide) (wi_list ?_)
  repeat walk_at "s"
  refine lcq_map (fun _ => .bl true) (size_ge (by show 5 ≤ _; decide)) ?_ ?_
  · intro i d hd s H C cl fp B hB
    have hq := hnq i d hd
    refine we_neA (n := 4) (room hr (by decide)) ?_
    repeat walk_at "s"
    exact ⟨⟨_, _, _, rfl, rfl, neA_o (X := Blk (cxOf (L2.CX P w) P w K mg base _ _ _ _ _ _ _ _ _ _) _ _ _ _ _ _) T l fo ho hq, rfl, rfl⟩⟩
  show in2 true [] (SV.dat (.bl false)) (SV.dat (.lst [.bl true, .bl true, .bl true, .bl true, .bl true])) _
  refine ⟨w1d (w1d ⟨?_⟩)⟩
  refine ⟨⟨rfl, rfl⟩, ?_⟩
  have hv : (!([D.bl true, .bl true, .bl true, .bl true, .bl true] : List D).any (fun z => deq z (.bl false))) = true := congrArg not (hin true)
  refine ⟨rfl, ?_⟩
  show R (.dat (.bl (!([D.bl true, .bl true, .bl true, .bl true, .bl true] : List D).any (fun z => deq z (.bl false))))) _
  rw [hv]
  exact hR
end
theorem cal_llike (T : Tx K mg) : Cal P w K mg base "_law_like_itself" 14 0 sp_llike := ⟨_, _, _, ok_llike T, T.g_law_like_itself, T.F_law_like_itself.kp, T.b_law_like_itself⟩
local macro_rules | `(tactic| walk_at "call") => `(tactic| ((with_reducible refine gF "_law_like_itself" ?_); refine we_own (k := 14) (n := 0) (S := sp_llike) ?_ ?_ rfl ?_; exact cal_llike ‹Tx _ _›; exact room ‹Room _ _› (by decide)))

def sp_cellat (K : PySem.W.Frag) : SpD := fun xs M R _ => ∃ x ns k, xs = [x, .dat (.int k)] ∧ Scr K x ns ∧ M = [] ∧ 0 ≤ k ∧ ∀ n, R (.dat (.int n)) []
section
local macro_rules | `(tactic| walk_at "v") => `(tactic| first | ((with_reducible refine gNa "_law_script" ?_); refine we_var (i := 0) rfl (vis rfl) rfl ?_) | ((with_reducible refine gNa "_law_k" ?_); refine we_var (i := 1) rfl (vis rfl) rfl ?_))
local macro_rules | `(tactic| walk_at "set") => `(tactic| first | ((with_reducible refine gSn "_law_script" ?_); refine ws_set (i := 0) (by assumption) rfl (by first | exact .inl rfl | exact .inr rfl) ?_) | ((with_reducible refine gSn "_law_k" ?_); refine ws_set (i := 1) (by assumption) rfl (by first | exact .inl rfl | exact .inr rfl) ?_))
theorem ok_cellat (T : Tx K mg) : FnOk P w K mg base (L2.CX P w) 1 T.f_law_cell_at T.d_law_cell_at ps_law_cell_at (spOf K 0 (sp_cellat K)) := by
  refine fn_ok T.F_law_cell_at sc_law_cell_at (fun xs M R Rx h => by obtain ⟨_, _, _, rfl, _⟩ := h; rfl) (fun cdv A outer s H E B xs M R Rx hr hB h => ?_)
  obtain ⟨x, ns, k, rfl, hx, rfl, hk, hR⟩ := h
  have nd := sc_law_cell_at.nd
  walk_at "s"
  refine ws_if (wt_lt ?_)
  walk_at "s"
  refine we_slen T.z_len rfl ?_
  iterate 3 walk_at "s"
  refine ⟨x, ns, rfl, hx, ?_⟩
  repeat walk_at "s"
  refine ite_b (fun c => ?_) (fun c => ?_)
  · walk_at "s"
    refine ws_ret ?_
    refine we_six ?_
    iterate 2 walk_at "s"
    obtain ⟨n, hn⟩ := atI_lt (l := ns) hk c
    exact ⟨ns, k, n, hx, rfl, hn, rfl, hR n⟩
  · repeat walk_at "s"
    exact ⟨rfl, hR 0⟩
end
theorem cal_cellat (T : Tx K mg) : Cal P w K mg base "_law_cell_at" 1 0 (sp_cellat K) := ⟨_, _, _, ok_cellat T, T.g_law_cell_at, T.F_law_cell_at.kp, T.b_law_cell_at⟩
local macro_rules | `(tactic| walk_at "call") => `(tactic| ((with_reducible refine gF "_law_cell_at" ?_); refine we_own (k := 1) (n := 0) (S := (sp_cellat K)) ?_ ?_ rfl ?_; exact cal_cellat ‹Tx _ _›; exact room ‹Room _ _› (by decide)))

/-! the law -/
 local macro_rules | `(tactic| walk_at "e") => `(tactic| refine we_neg ?_)
section
variable {X : Cx} {scope : Scope} {elt : Expr} {Q : SV → Mem → Prop} {ss : Sst} {M : Mem}
theorem lcq_drawI {j : Nat} {ds : List D} (J : Nat → List D → Mem → Prop) (hl : ds.length ≤ sizeLine) (h0 : J 0 [] M)
    (ht : ∀ (i : Nat) (d : D) (acc : List D) (M : Mem), ds[i]? = some d → J i acc M → acc.length = i → ∀ (s : Shared) (H : Hp) (C : Addr) (cl : List (Str × Addr)) (fp : List Addr) (B : Base), B.A.length = M.length → WE (Blk X scope s H C cl fp) B exF elt (fun y M4 => ∃ d, y = .dat d ∧ J (i + 1) (acc ++ [d]) M4) ((wipeD ss [j]).set j (some (.dat d))) M)
    (q : ∀ acc M, acc.length = ds.length → J ds.length acc M → Q (.dat (.lst acc)) M) : ∃ I, I 0 [] M ∧ LcQ X scope elt [] (tg1 j) [j] ds I Q ss := by
  refine ⟨fun i acc M' => acc.length = i ∧ J i acc M', ⟨rfl, h0⟩, ?_, ?_⟩
  · rintro i d acc M' hd ⟨hi, hI⟩
    intro s H C cl fp B hB
    have hlt := (List.getElem?_eq_some_iff.mp hd).1
    refine (ht i d acc M' hd hI hi s H C cl fp B hB).mono ?_
    rintro y M4 ⟨z, rfl, hI2⟩
    refine ⟨z, rfl, by omega, ?_, hI2⟩
    rw [List.length_append]; simp; omega
  · rintro acc M' ⟨h1, h3⟩
    exact q acc M' h1 h3
end
theorem dueD_pl (l : Option Str) (fo : List Str) (ho : List (Str × Str)) (q : QR) : D.pl 60 (dueD l fo ho q) = true := by
  cases q with
  | told =>
    show ([D.str "told", quF l fo ho] : List D).all (D.pl 59) = true
    simp only [List.all_cons, List.all_nil, show D.pl 59 (D.str "told") = true from rfl, show D.pl 59 (quF l fo ho) = true from quF_plN 55 l fo ho, Bool.and_self]
  | cnt n => rfl
  | nm z => rfl
  | tw z => rfl
theorem hand_pl (fo : List Str) (ho : List (Str × Str)) : D.pl 60 (.tup [.lst (fo.map D.str), .lst (ho.map pS)]) = true := by
  show ([D.lst (fo.map D.str), D.lst (ho.map pS)] : List D).all (D.pl 59) = true
  have h2 : D.pl 59 (.lst (fo.map D.str)) = true := strs_plN 57 fo
  have h3 : D.pl 59 (.lst (ho.map pS)) = true := pS_plN 56 ho
  simp only [List.all_cons, List.all_nil, h2, h3, Bool.and_self]
theorem ne_refl60 {d : D} (h : D.pl 60 d = true) : (!deq d d) = false := by rw [deq_refl h]; rfl
section
local macro_rules | `(tactic| walk_at "v") => `(tactic| first | ((with_reducible refine gNa "_law_script" ?_); refine we_var (i := 0) rfl (vis rfl) rfl ?_) | ((with_reducible refine gNa "_law_cell" ?_); refine we_var (i := 1) rfl (vis rfl) rfl ?_) | ((with_reducible refine gNa "_law_well_here" ?_); refine we_var (i := 2) rfl (vis rfl) rfl ?_) | ((with_reducible refine gNa "_law_door" ?_); refine we_var (i := 3) rfl (vis rfl) rfl ?_) | ((with_reducible refine gNa "_law_spoilt" ?_); refine we_var (i := 4) rfl (vis rfl) rfl ?_) | ((with_reducible refine gNa "_law_many" ?_); refine we_var (i := 5) rfl (vis rfl) rfl ?_) | ((with_reducible refine gNa "_law_wide" ?_); refine we_var (i := 6) rfl (vis rfl) rfl ?_) | ((with_reducible refine gNa "_law_head" ?_); refine we_var (i := 7) rfl (vis rfl) rfl ?_) | ((with_reducible refine gNa "_law_some" ?_); refine we_var (i := 8) rfl (vis rfl) rfl ?_) | ((with_reducible refine gNa "_law_pairs" ?_); refine we_var (i := 9) rfl (vis rfl) rfl ?_) | ((with_reducible refine gNa "_law_due_here" ?_); refine we_var (i := 10) rfl (vis rfl) rfl ?_) | ((with_reducible refine gNa "_law_handed" ?_); refine we_var (i := 11) rfl (vis rfl) rfl ?_) | ((with_reducible refine gNa "_law_found" ?_); refine we_var (i := 12) rfl (vis rfl) rfl ?_) | ((with_reducible refine gNa "_law_k" ?_); refine we_var (i := 13) rfl (vis rfl) rfl ?_))
local macro_rules | `(tactic| walk_at "set") => `(tactic| first | ((with_reducible refine gSn "_law_script" ?_); refine ws_set (i := 0) (by assumption) rfl (by first | exact .inl rfl | exact .inr rfl) ?_) | ((with_reducible refine gSn "_law_cell" ?_); refine ws_set (i := 1) (by assumption) rfl (by first | exact .inl rfl | exact .inr rfl) ?_) | ((with_reducible refine gSn "_law_well_here" ?_); refine ws_set (i := 2) (by assumption) rfl (by first | exact .inl rfl | exact .inr rfl) ?_) | ((with_reducible refine gSn "_law_door" ?_); refine ws_set (i := 3) (by assumption) rfl (by first | exact .inl rfl | exact .inr rfl) ?_) | ((with_reducible refine gSn "_law_spoilt" ?_); refine ws_set (i := 4) (by assumption) rfl (by first | exact .inl rfl | exact .inr rfl) ?_) | ((with_reducible refine gSn "_law_many" ?_); refine ws_set (i := 5) (by assumption) rfl (by first | exact .inl rfl | exact .inr rfl) ?_) | ((with_reducible refine gSn "_law_wide" ?_); refine ws_set (i := 6) (by assumption) rfl (by first | exact .inl rfl | exact .inr rfl) ?_) | ((with_reducible refine gSn "_law_head" ?_); refine ws_set (i := 7) (by assumption) rfl (by first | exact .inl rfl | exact .inr rfl) ?_) | ((with_reducible refine gSn "_law_some" ?_); refine ws_set (i := 8) (by assumption) rfl (by first | exact .inl rfl | exact .inr rfl) ?_) | ((with_reducible refine gSn "_law_pairs" ?_); refine ws_set (i := 9) (by assumption) rfl (by first | exact .inl rfl | exact .inr rfl) ?_) | ((with_reducible refine gSn "_law_due_here" ?_); refine ws_set (i := 10) (by assumption) rfl (by first | exact .inl rfl | exact .inr rfl) ?_) | ((with_reducible refine gSn "_law_handed" ?_); refine ws_set (i := 11) (by assumption) rfl (by first | exact .inl rfl | exact .inr rfl) ?_) | ((with_reducible refine gSn "_law_found" ?_); refine ws_set (i := 12) (by assumption) rfl (by first | exact .inl rfl | exact .inr rfl) ?_) | ((with_reducible refine gSn "_law_k" ?_); refine ws_set (i := 13) (by assumption) rfl (by first | exact .inl rfl | exact .inr rfl) ?_))
theorem ok_law (T : Tx K mg) : FnOk P w K mg base (L2.CX P w) 60 T.f_law T.d_law ["_law_script"] (spOf K 0 (sp_law K)) := by
  refine fn_ok T.F_law sc_law (fun xs M R Rx h => by obtain ⟨_, _, rfl, _⟩ := h; rfl) (fun cdv A outer s0 H E B xs M R Rx hr hB h => ?_)
  obtain ⟨x, ns, rfl, hx, hl, rfl, hR⟩ := h
  have nd := sc_law.nd
  have x0 : SV.lt 0 x = true := by
    rcases hx with rfl | ⟨a, rfl, _⟩ <;> rfl
  have x1 : SV.lt 1 x = true := by
    rcases hx with rfl | ⟨a, rfl, _⟩ <;> rfl
  walk_at "s"
  refine ws_for rfl (wi_list ?_)
  refine we_add ?_
  refine we_lst ?_
  repeat walk_at "s"
  refine cq (by rw [List.all_cons, x0]; rfl) ⟨x, ns, 0, rfl, hx, rfl, by omega, fun n0 => ?_⟩
  iterate 2 walk_at "s"
  first | refine we_ssl ?_ | (walk_at "s"; refine we_ssl ?_) | (walk_at "s"; walk_at "s"; refine we_ssl ?_) | (walk_at "s"; walk_at "s"; walk_at "s"; refine we_ssl ?_)
  repeat walk_at "s"
  refine ⟨ns, hx, ?_⟩
  obtain ⟨xs, hxs, hxl⟩ : ∃ xs : List Int, cutD (ns.map D.int) (some 1) (some 12) = xs.map D.int ∧ xs.length ≤ 63 := by
    refine ⟨(ns.drop (min 1 ns.length)).take (min 12 ns.length - min 1 ns.length), ?_, ?_⟩
    · unfold cutD
      rw [show (some (1 : Int)) = some ((1 : Nat) : Int) from rfl, show (some (12 : Int)) = some ((12 : Nat) : Int) from rfl, HT.sIx_nat, HT.sIx_nat, List.length_map, List.map_take, List.map_drop]
    · rw [List.length_take, List.length_drop]; omega
  rw [hxs]
  refine w1d (w1d (addL (size_ge (by rw [List.length_map]; show 1 + _ ≤ _; omega)) ?_))
  show ∃ ds, SV.dat (D.lst ((n0 :: xs).map D.int)) = SV.dat (D.lst ds) ∧ _
  refine ⟨_, rfl, ?_⟩
  refine ⟨fun i ss M => (∃ o1 o2 o3 o4 o5 o6 o7 o8 o9 o10 o11 o12 o13, ss = [some x, o1, o2, o3, o4, o5, o6, o7, o8, o9, o10, o11, o12, o13]), ⟨_, _, _, _, _, _, _, _, _, _, _, _, _, rfl⟩, ?_, ?_⟩
  · rintro i d ss M hd ⟨o1, o2, o3, o4, o5, o6, o7, o8, o9, o10, o11, o12, o13, rfl⟩
    obtain ⟨num, _, rfl⟩ := map_get hd
    refine wg_name (i := 1) nd rfl (.inl rfl) ?_
    refine wb_forgetE (k := 0) (M' := []) (ss' := [some x, some (.dat (.int num)), none, none, none, none, none, none, none, none, none, none, none, none]) rfl (.keep (.keep (.drop (.drop (.drop (.drop (.drop (.drop (.drop (.drop (.drop (.drop (.drop (.drop .nil)))))))))))))) (Nat.le_of_eq hB) rfl (by show (SV.lt 0 x && true) = true; rw [x0]; rfl) rfl ?_
    repeat walk_at "s"
    refine cq rfl ⟨num, rfl, rfl, fun st ok => ?_⟩
    repeat walk_at "s"
    walk_at "dig"
    rename_i st1 door ok1 dr0 dr1
    repeat walk_at "s"
    walk_at "dig"
    rename_i st2 v2 ok2 v20 v21
    repeat walk_at "s"
    refine ⟨w1d (w1d ⟨⟨rfl, rfl⟩, ?_⟩)⟩
    show WB _ _ _ _ _ (List.set _ _ (some (.dat (.bl (deq (.int v2) (.int 1)))))) _
    generalize deq (.int v2) (.int 1) = sp
    repeat walk_at "s"
    refine we_lst ?_
    repeat walk_at "s"
    walk_at "dig"
    rename_i st3 v3 ok3 v30 v31
    refine w1d (w1d (ix_lst v30 v31 (fun d hd => ?_)))
    obtain ⟨many, rfl, hmany⟩ : ∃ m : Nat, d = .int (m : Int) ∧ m ≤ 7 := by
      simp only [List.mem_cons, List.not_mem_nil, or_false] at hd
      rcases hd with rfl | rfl | rfl | rfl | rfl | rfl | rfl
      · exact ⟨0, rfl, by decide⟩
      · exact ⟨0, rfl, by decide⟩
      · exact ⟨1, rfl, by decide⟩
      · exact ⟨2, rfl, by decide⟩
      · exact ⟨3, rfl, by decide⟩
      · exact ⟨6, rfl, by decide⟩
      · exact ⟨7, rfl, by decide⟩
    repeat walk_at "s"
    walk_at "dig"
    rename_i st4 wide ok4 w0 w1
    refine wb_forgetE (k := 1) (M' := [dC st4]) (ss' := [some x, some (.dat (.int num)), some (.cel 0), some (.dat (.int door)), some (.dat (.bl sp)), some (.dat (.int (many : Int))), some (.dat (.int wide)), none, none, none, none, none, none, none]) rfl (.keep (.keep (.keep (.keep (.keep (.keep (.keep (.keep (.keep (.keep (.keep (.keep (.keep (.keep .nil)))))))))))))) (by rw [hB]; omega) rfl (by show (SV.lt 1 x && true) = true; rw [x1]; rfl) rfl ?_
    repeat walk_at "s"
    refine we_lst ?_
    repeat walk_at "s"
    refine cq rfl ⟨st4, 4, sp, rfl, rfl, ⟨ok4, by omega⟩, fun st5 z5 ok5 tx5 => ?_⟩
    repeat walk_at "s"
    walk_at "dig"
    rename_i st6 v6 ok6 v60 v61
    refine w1d (w1d (ix_lst v60 v61 (fun d hd => ?_)))
    obtain ⟨l, rfl, hl5⟩ : ∃ l : Option Str, d = odS l ∧ ∀ z, l = some z → TxOk z := by
      simp only [List.mem_cons, List.not_mem_nil, or_false] at hd
      rcases hd with rfl | rfl
      · exact ⟨none, rfl, fun _ h => (by cases h)⟩
      · exact ⟨some z5, rfl, fun z h => (by cases h; exact tx5)⟩
    refine wb_forgetE (k := 1) (M' := [dC st6]) (ss' := [some x, some (.dat (.int num)), some (.cel 0), some (.dat (.int door)), some (.dat (.bl sp)), some (.dat (.int (many : Int))), some (.dat (.int wide)), some (.dat (odS l)), none, none, none, none, none, none]) rfl (.keep (.keep (.keep (.keep (.keep (.keep (.keep (.keep (.keep (.keep (.keep (.keep (.keep (.keep .nil)))))))))))))) (by rw [hB]; omega) rfl (by show (SV.lt 1 x && true) = true; rw [x1]; rfl) rfl ?_
    walk_at "s"
    refine ws_lc1 (i := 8) (j := 13) rfl nd rfl rfl (sw_true rfl rfl rfl (by decide +kernel)) (blkOk_by rfl) rfl (fun _ _ _ _ _ => .inl rfl) (by decide) (wi_range1 T.z_range rfl ?_)
    repeat walk_at "s"
    refine ⟨⟨by omega, by omega⟩, ?_⟩
    refine lcq_drawI (fun i acc M => ∃ st zs, WOk (17 + 12 * i) st ∧ M = [dC st] ∧ acc = List.map D.str zs ∧ ∀ z ∈ zs, TxOk z) (by rw [rangeD_len]; exact size_ge (by omega)) ⟨st6, [], ok6, rfl, rfl, fun _ h => (by cases h)⟩ ?_ ?_
    · rintro i5 d5 acc M hd5 ⟨st7, zs, ok7, rfl, rfl, hzs⟩ hal
      obtain ⟨hi5, rfl⟩ := rangeD_get hd5
      intro s H C cl fp B2 hB2
      repeat walk_at "s"
      refine cq rfl ⟨st7, 17 + 12 * i5, sp, rfl, rfl, ⟨ok7, by omega⟩, fun st8 z8 ok8 tx8 => ?_⟩
      refine ⟨_, rfl, st8, zs ++ [z8], ok8.mono (by omega), rfl, by rw [List.map_append]; rfl, fun z hz => ?_⟩
      rcases List.mem_append.mp hz with h | h
      · exact hzs z h
      · rw [List.mem_singleton.mp h]; exact tx8
    rintro acc M hal ⟨st7, fo, ok7, rfl, rfl, hfo⟩
    rw [rangeD_len] at hal ok7
    rw [List.length_map] at hal
    have hfl : fo.length ≤ 7 := by omega
    have ok7 : WOk 101 st7 := ok7.mono (by omega)
    obtain ⟨wn, rfl⟩ := Int.eq_ofNat_of_zero_le w0
    refine wb_forgetE (k := 1) (M' := [dC st7]) (ss' := [some x, some (.dat (.int num)), some (.cel 0), some (.dat (.int door)), some (.dat (.bl sp)), none, some (.dat (.int (wn : Int))), some (.dat (odS l)), some (.dat (.lst (fo.map D.str))), none, none, none, none, none]) rfl (.keep (.keep (.keep (.keep (.keep (.drop (.keep (.keep (.keep (.keep (.keep (.keep (.keep (.keep .nil)))))))))))))) (by rw [hB]; omega) rfl (by show (SV.lt 1 x && true) = true; rw [x1]; rfl) rfl ?_
    refine wb_cut (st := .Assign _ _ _) (fun ss M => ∃ (st : Int × Int × Int) (ho : List (Str × Str)), WOk 173 st ∧ ho.length ≤ 3 ∧ (∀ p ∈ ho, TxOk p.1 ∧ TxOk p.2) ∧ ss = [some x, some (.dat (.int num)), some (.cel 0), some (.dat (.int door)), some (.dat (.bl sp)), none, some (.dat (.int (wn : Int))), some (.dat (odS l)), some (.dat (.lst (fo.map D.str))), some (.cel 1), none, none, none, none] ∧ M = [dC st, .lst (ho.map pS)]) ?_ ?_
    · refine ws_lc1C (i := 9) (j := 13) rfl nd rfl rfl (sw_true rfl rfl rfl (by decide +kernel)) (blkOk_by rfl) rfl (fun _ _ _ _ _ => .inl rfl) (by decide) (wi_range1 T.z_range rfl ?_)
      repeat walk_at "s"
      refine ⟨⟨by omega, by omega⟩, ?_⟩
      refine lcq_drawI (fun i acc M => ∃ (st : Int × Int × Int) (ho : List (Str × Str)), WOk (101 + 24 * i) st ∧ M = [dC st] ∧ acc = List.map pS ho ∧ ∀ p ∈ ho, TxOk p.1 ∧ TxOk p.2) (by rw [rangeD_len]; exact size_ge (by omega)) ⟨st7, [], ok7, rfl, rfl, fun _ h => (by cases h)⟩ ?_ ?_
      · rintro i5 d5 acc M hd5 ⟨st8, ho, ok8, rfl, rfl, hho⟩ hal
        obtain ⟨hi5, rfl⟩ := rangeD_get hd5
        intro s H C cl fp B2 hB2
        repeat walk_at "s"
        refine cq rfl ⟨st8, 101 + 24 * i5, sp, rfl, rfl, ⟨ok8, by omega⟩, fun st9 z9 ok9 tx9 => ?_⟩
        repeat walk_at "s"
        refine cq rfl ⟨st9, 101 + 24 * i5 + 12, sp, rfl, rfl, ⟨ok9, by omega⟩, fun st10 z10 ok10 tx10 => ?_⟩
        repeat walk_at "s"
        refine ⟨st10, ho ++ [(z9, z10)], ok10.mono (by omega), rfl, by rw [List.map_append]; rfl, fun p hp => ?_⟩
        rcases List.mem_append.mp hp with h | h
        · exact hho p h
        · rw [List.mem_singleton.mp h]; exact ⟨tx9, tx10⟩
      rintro acc M hal2 ⟨st8, ho, ok8, rfl, rfl, hho⟩
      rw [rangeD_len] at hal2 ok8
      rw [List.length_map] at hal2
      refine ⟨_, rfl, ?_⟩
      exact ⟨st8, ho, ok8.mono (by omega), by omega, hho, rfl, rfl⟩
    rintro ss M ⟨st8, ho, ok8, hhl, hho, rfl, rfl⟩
    refine wb_cut (st := .If _ _ _ _) (fun ss M => ∃ (st : Int × Int × Int) (ho : List (Str × Str)), WOk 175 st ∧ ho.length ≤ 3 ∧ (∀ p ∈ ho, TxOk p.1 ∧ TxOk p.2) ∧ ss = [some x, some (.dat (.int num)), some (.cel 0), some (.dat (.int door)), some (.dat (.bl sp)), none, some (.dat (.int (wn : Int))), some (.dat (odS l)), some (.dat (.lst (fo.map D.str))), some (.cel 1), none, none, none, none] ∧ M = [dC st, .lst (ho.map pS)]) ?_ ?_
    · refine ws_if ?_
      refine wt_w ?_
      refine ww_and ?_
      refine wt_val ?_
      walk_at "s"
      refine ⟨_, rfl, ?_⟩
      cases sp with
      | false =>
        refine it_f rfl ?_
        refine it_f rfl ?_
        repeat walk_at "s"
        exact ⟨st8, ho, ok8.mono (by omega), hhl, hho, rfl, rfl⟩
      | true =>
        refine it_t rfl ?_
        refine ww_and ?_
        repeat walk_at "s"
        rw [List.length_map]
        refine ite_b (fun hlen => ?_) (fun _ => ?_)
        · refine ww_and1 ?_
          repeat walk_at "s"
          refine cq rfl ⟨_, _, 173, rfl, rfl, ⟨ok8, by omega⟩, ⟨by omega, by omega⟩, fun st9 v9 ok9 v90 v91 => ?_⟩
          repeat walk_at "s"
          refine ite_b (fun hv => ?_) (fun _ => ?_)
          · repeat walk_at "s"
            refine cq rfl ⟨_, _, 174, rfl, rfl, ⟨ok9, by omega⟩, ⟨by rw [List.length_map]; omega, by rw [List.length_map]; omega⟩, fun st10 v10 ok10 v100 v101 => ?_⟩
            rw [List.length_map] at v101
            refine w1c rfl (w1d (ix_lst v100 (by rw [List.length_map]; omega) (fun d hd => ?_)))
            obtain ⟨p, hp, rfl⟩ := List.mem_map.mp hd
            have hix : ixN (ho.map pS).length (-1) = some (ho.length - 1) := by
              unfold ixN
              rw [List.length_map, if_neg (by omega), if_pos (by omega)]
              congr 1
              omega
            obtain ⟨q, hq⟩ : ∃ q, ho[ho.length - 1]? = some q := ⟨_, List.getElem?_eq_getElem (show ho.length - 1 < ho.length by omega)⟩
            have hlast : atI (ho.map pS) (-1) = some (pS q) := by
              unfold atI
              rw [hix]
              show (ho.map pS)[ho.length - 1]? = _
              rw [List.getElem?_map, hq]
              rfl
            have hqm := List.mem_of_getElem? hq
            repeat walk_at "s"
            refine ixL hlast ?_
            repeat walk_at "s"
            refine ⟨1, ho.map pS, -1, ho.length - 1, _, rfl, rfl, rfl, rfl, hix, ?_⟩
            repeat walk_at "s"
            refine ⟨st10, ho.set (ho.length - 1) (p.1, q.2), ok10, by rw [List.length_set]; exact hhl, fun r hr => ?_, rfl, ?_⟩
            · rcases List.mem_or_eq_of_mem_set hr with h | h
              · exact hho r h
              · subst h
                exact ⟨(hho p hp).1, (hho q hqm).2⟩
            · rw [List.map_set]
              rfl
          · repeat walk_at "s"
            exact ⟨st9, ho, ok9.mono (by omega), hhl, hho, rfl, rfl⟩
        · refine it_f rfl ?_
          repeat walk_at "s"
          exact ⟨st8, ho, ok8.mono (by omega), hhl, hho, rfl, rfl⟩
    rintro ss M ⟨st9, ho, ok9, hhl, hho, rfl, rfl⟩
    refine wb_freeze 1 (by rw [hB]; omega) rfl rfl ?_
    refine wb_forgetE (k := 0) (M' := []) (ss' := [some x, some (.dat (.int num)), none, some (.dat (.int door)), none, none, none, some (.dat (odS l)), some (.dat (.lst (fo.map D.str))), some (.dat (.lst (ho.map pS))), none, none, none, none]) (by rcases hx with rfl | ⟨a, rfl, _⟩ <;> rfl) (.keep (.keep (.drop (.keep (.drop (.keep (.drop (.keep (.keep (.keep (.keep (.keep (.keep (.keep .nil)))))))))))))) (Nat.le_of_eq hB) rfl (by show (SV.lt 0 x && true) = true; rw [x0]; rfl) rfl ?_
    walk_at "s"
    refine ws_set (i := 10) nd rfl (.inl rfl) ?_
    repeat walk_at "s"
    refine cq rfl ⟨l, fo, ho, rfl, rfl, ⟨by omega, by omega⟩, ?_⟩
    walk_at "s"
    refine ws_set (i := 11) nd rfl (.inl rfl) ?_
    refine we_tupS ?_
    refine wa_cons ?_
    refine we_listC T.z_list rfl ?_
    refine wa_cons ?_
    walk_at "v"
    refine wa_nil ?_
    refine a1 (w1d ?_)
    refine wa_cons ?_
    refine we_listC T.z_list rfl ?_
    refine wa_cons ?_
    walk_at "v"
    refine wa_nil ?_
    refine a1 (w1d ?_)
    refine wa_nil ?_
    refine ⟨_, rfl, Nat.le_of_ble_eq_true rfl, ?_⟩
    show WB _ _ _ _ _ [some x, some (.dat (.int num)), none, some (.dat (.int door)), none, none, none, some (.dat (odS l)), some (.dat (.lst (fo.map D.str))), some (.dat (.lst (ho.map pS))), some (.dat (dueD l fo ho (qDue l fo ho))), some (.tup [.cel 0, .cel 1]), none, none] [.lst (fo.map D.str), .lst (ho.map pS)]
    have sm : QSm fo ho := ⟨by omega, by omega⟩
    walk_at "s"
    refine ws_if ?_
    refine wt_lend (ss' := [none, none, none, some (.dat (.int door)), none, none, none, some (.dat (odS l)), some (.dat (.lst (fo.map D.str))), some (.dat (.lst (ho.map pS))), some (.dat (dueD l fo ho (qDue l fo ho))), some (.dat (.tup [.lst (fo.map D.str), .lst (ho.map pS)])), none, none]) (.drop (.drop (.drop (.dat (.drop (.drop (.drop (.dat (.dat (.dat (.dat (.see rfl (.drop (.drop .nil)))))))))))))) (fun B' hB' => ?_)
    refine wt_w ?_
    refine ww_or ?_
    refine wt_ne (by assumption) ?_
    repeat walk_at "s"
    refine cq rfl ⟨door, l, fo, ho, rfl, rfl, sm, ?_⟩
    repeat walk_at "s"
    refine neD (dueD_pl l fo ho _) (dueD_pl l fo ho _) ?_
    refine it_f (ne_refl60 (dueD_pl l fo ho _)) ?_
    refine ww_or1 ?_
    refine wt_ne (by assumption) ?_
    repeat walk_at "s"
    refine neD (hand_pl fo ho) (hand_pl fo ho) ?_
    refine it_f (ne_refl60 (hand_pl fo ho)) ?_
    iterate 2 walk_at "s"
    cases e : qDue l fo ho with
    | told =>
      have ok := told_iff.mp e
      have hc3 : ("c3c3c3c3c" : Str) ∉ ho.map (·.1) := fun hm => by
        obtain ⟨p, hp, e2⟩ := List.mem_map.mp hm
        exact (hho p hp).1.ne e2
      have hnl : (quD T.C_Question l fo ho).noL = true := by
        show noLf [("lead", odS l), ("follows", .tup (fo.map D.str)), ("holds", .tup (ho.map pS))] = true
        have h1 : (odS l).noL = true := by cases l <;> rfl
        have h2 : ∀ zs : List Str, noLs (zs.map D.str) = true := fun zs => by
          induction zs with
          | nil => rfl
          | cons z r ih => rw [List.map_cons]; show ((D.str z).noL && noLs (r.map D.str)) = true; rw [ih]; rfl
        have h3 : ∀ zs : List (Str × Str), noLs (zs.map pS) = true := fun zs => by
          induction zs with
          | nil => rfl
          | cons z r ih => rw [List.map_cons]; show ((pS z).noL && noLs (r.map pS)) = true; rw [ih]; rfl
        show ((odS l).noL && (noLs (fo.map D.str) && (noLs (ho.map pS) && true))) = true
        rw [h1, h2, h3]
        rfl
      refine ws_if ?_
      refine wt_eq (by assumption) ?_
      refine we_ix ?_
      walk_at "v"
      walk_at "s"
      refine w1d (w1d (ixT rfl ?_))
      walk_at "s"
      refine eqS ?_
      refine it_t (by decide +kernel) ?_
      walk_at "s"
      refine ws_set (i := 12) nd rfl (.inl rfl) ?_
      refine we_lendN (ss' := [none, none, none, some (.dat (.int door)), none, none, none, some (.dat (odS l)), none, none, none, some (.dat (.tup [.lst (fo.map D.str), .lst (ho.map pS)])), none, none]) (.drop (.drop (.drop (.see rfl (.drop (.drop (.drop (.see rfl (.drop (.drop (.drop (.see rfl (.drop (.drop .nil)))))))))))))) (fun B' hB' => ?_)
      refine we_own (cal_lmade T) (room hr (by decide)) rfl ?_
      repeat walk_at "s"
      refine cq rfl ⟨door, l, fo, ho, rfl, rfl, sm, told_k ok ?_⟩
      refine ⟨_, rfl, hnl, ?_⟩
      walk_at "s"
      refine ws_expr ?_
      refine we_append ?_
      refine we_ixS ?_
      iterate 2 walk_at "s"
      refine ⟨0, _, rfl, rfl, ?_⟩
      refine cl1 rfl ?_
      repeat walk_at "s"
      refine ⟨Nat.lt_of_lt_of_le (m := 100) (by rw [List.length_map]; omega) (size_ge (by decide)), ?_⟩
      walk_at "s"
      refine ws_expr ?_
      refine we_clear ?_
      refine we_ixS ?_
      iterate 2 walk_at "s"
      refine ⟨1, _, rfl, rfl, ?_⟩
      refine ⟨1, _, rfl, rfl, .inl ⟨_, rfl⟩, ?_⟩
      walk_at "s"
      refine ws_if ?_
      refine wt_w ?_
      refine ww_or ?_
      refine wt_ne (by assumption) ?_
      repeat walk_at "s"
      refine neD (quF_pl l fo ho) (quF_pl l fo ho) ?_
      refine it_f (ne_refl60 (quF_pl l fo ho)) ?_
      refine ww_or1 ?_
      refine wt_not ?_
      refine wt_val ?_
      repeat walk_at "s"
      refine cq rfl ⟨l, fo, ho, rfl, rfl, ⟨ok, hhl, hc3⟩, ?_⟩
      refine ⟨_, rfl, ?_⟩
      refine it_f rfl ?_
      repeat walk_at "s"
      exact ⟨_, _, _, _, _, _, _, _, _, _, _, _, _, rfl⟩
    | cnt n =>
      refine ws_if ?_
      refine wt_eq (by assumption) ?_
      repeat walk_at "s"
      repeat walk_at "s"
      exact ⟨_, _, _, _, _, _, _, _, _, _, _, _, _, rfl⟩
    | nm n =>
      refine ws_if ?_
      refine wt_eq (by assumption) ?_
      repeat walk_at "s"
      repeat walk_at "s"
      exact ⟨_, _, _, _, _, _, _, _, _, _, _, _, _, rfl⟩
    | tw n =>
      refine ws_if ?_
      refine wt_eq (by assumption) ?_
      repeat walk_at "s"
      repeat walk_at "s"
      exact ⟨_, _, _, _, _, _, _, _, _, _, _, _, _, rfl⟩
  · rintro ss M ⟨o1, o2, o3, o4, o5, o6, o7, o8, o9, o10, o11, o12, o13, rfl⟩
    repeat walk_at "s"
    exact ⟨by simp [SV.lt], hR⟩

end
end
end Mb
open PySem PySem.W PySem.Calls PyProof.Rows
set_option maxRecDepth 100000 in
set_option maxHeartbeats 0 in
theorem PySem.Challenge.cw_manyboard_k37_questions_made_holds : PySem.Challenge.rw_manyboard_k37_questions_made.Holds := by
  w_on; o_law
  refine HandSHeadRun.head_any (r := OpenLaw.row PySem.Challenge.rw_manyboard_k37_questions_made) (q := view (OpenLaw.row PySem.Challenge.rw_manyboard_k37_questions_made).prog [27]) (H := Mb.hookZ Mb.nmsSeen Mb.facts Mb.fnsL Mb.tabsL Mb.dfsL) (ob := Mb.obZ Mb.nmsSeen Mb.facts Mb.fnsL Mb.tabsL Mb.dfsL) (M := 16000) (loose := Mb.nmsAll) (d := HandSHeadRun.topDef (OpenLaw.row PySem.Challenge.rw_manyboard_k37_questions_made).prog 27) (kwd := []) (Mb.obZ_eq _ _ _ _ _)
    (by kernel_rfl) (fun s => by kernel_rfl) Mb.runX (by kernel_rfl) (by kernel_rfl) (by kernel_rfl)
    (by rfl) (by first | assumption | decide +kernel) (by decide +kernel)
    ⟨rfl, rfl, rfl, rfl, rfl, by decide +kernel⟩ ?hw ?hc
  case hw => w_witness2
  case hc =>
    refine Mb.walkZ (l := PySem.Challenge.rw_manyboard_k37_questions_made) (k := 60) rfl (by kernel_rfl) (by kernel_rfl) ⟨rfl, by decide, by decide⟩ ?F
    intro w mg h K KX G c
    have T : Mb.Tx K mg := ⟨⟨h, KX, G⟩, c.heldY.held, c.heldD⟩
    refine ⟨T.f_law, T.d_law, T.g_law, (fun s v => ?_), fun base => Mb.ok_law T⟩
    obtain ⟨oc, od, kV, doc, pm, an, cdv, ct, osl, e, _⟩ := T.F_law.ex
    rw [e]
    exact .of_eq rfl
