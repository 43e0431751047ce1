import PyProof.Rows.All
import Wide.All
import OpenK.AllK
import Wide.FinOn
import HandS.ForMost
import HandS.ForExc
import HandS.ExcInit
import HandS.ExcField
import HandS.CallSlots
import HandS.TupAny
import HandS.Deep
import HandS.Walk
import KE.KExcIs
import HandS.ExcIs
import HandS.IsInst
import HandS.ClsMeth
import HandS.OwnEq
import HandS.DictEq
import KE.GoesMore
import PyProof.EnumMake
import KE.KStateDown
import HandS.Head0
import HandS.Head1
import HandS.Head2
import HandS.HeadEnd
import HandS.HeadHook1
import HandS.HeadHook2
import PySem.Challenge.RW_manyboard_k23_fullest_programs
set_option Elab.async false
set_option linter.all false
set_option maxRecDepth 100000
set_option maxHeartbeats 4000000
/-! Mb, part 0: plain data D, symbolic values SV, cells, what represents what, the world, the judgements. -/
namespace Mb
open PySem L2

/-- plain data that is never changed -/
inductive D where
  | non | bl (b : Bool) | int (i : Int) | str (x : Str)
  | lst (xs : List D) | tup (xs : List D) | ins (C : Addr) (fs : List (Str × D)) | dic (kvs : List (Key × D))
/-- what a tuple that is not data holds: data, a cell -/
inductive FV where
  | dat (d : D) | cel (i : Nat)
/-- a symbolic value: data, a cell (by its number), a bare value, an exception that is held (its dict at dd, its fields, its own address) -/
inductive SV where
  | dat (d : D) | cel (i : Nat) | raw (v : V) | exc (dd : Addr) (fs : List (Str × D)) (a : Addr) | tup (xs : List FV)
/-- what a cell holds: a thing that this code owns and may change -/
inductive Cell where
  | dead | lst (xs : List D) | dic (kvs : List (Key × D)) | ins (C : Addr) (fs : List (Str × SV)) | mix (xs : List SV)

/-- a text of a size and with signs that the machine bears -/
def SOk (x : Str) : Prop := x.length ≤ sizeLine ∧ PyData.strOk x = true
mutual
inductive Rep (K : PySem.W.Frag) (G : Hp) : V → D → Prop
  | non : Rep K G .non .non
  | bl (b : Bool) : Rep K G (.bl b) (.bl b)
  | int (i : Int) : Rep K G (.int i) (.int i)
  | str (x : Str) (h : SOk x) : Rep K G (.str x) (.str x)
  | lst {a : Addr} {vs : List V} {ds : List D} : Rd G a (.lst vs) → Reps K G vs ds → Rep K G (.ref a) (.lst ds)
  | tup {a : Addr} {vs : List V} {ds : List D} : SqT K G a vs → Reps K G vs ds → Rep K G (.ref a) (.tup ds)
  | ins {a C dx : Addr} {fv : List (Str × V)} {fs : List (Str × D)} : G a = some (.ins C dx fv) → RepF K G fv fs → Rep K G (.ref a) (.ins C fs)
  | dic {a : Addr} {kv : List (Key × V)} {kvs : List (Key × D)} : G a = some (.dK kv) → RepK K G kv kvs → Rep K G (.ref a) (.dic kvs)
inductive Reps (K : PySem.W.Frag) (G : Hp) : List V → List D → Prop
  | nil : Reps K G [] []
  | cons {v : V} {vs : List V} {d : D} {ds : List D} : Rep K G v d → Reps K G vs ds → Reps K G (v :: vs) (d :: ds)
inductive RepF (K : PySem.W.Frag) (G : Hp) : List (Str × V) → List (Str × D) → Prop
  | nil : RepF K G [] []
  | cons {f : Str} {v : V} {d : D} {fv : List (Str × V)} {fs : List (Str × D)} : Rep K G v d → RepF K G fv fs → RepF K G ((f, v) :: fv) ((f, d) :: fs)
inductive RepK (K : PySem.W.Frag) (G : Hp) : List (Key × V) → List (Key × D) → Prop
  | nil : RepK K G [] []
  | cons {k : Key} {v : V} {d : D} {kv : List (Key × V)} {kvs : List (Key × D)} : Rep K G v d → RepK K G kv kvs → RepK K G ((k, v) :: kv) ((k, d) :: kvs)
end

theorem rdM {H H' : Hp} {a : Addr} {u : HO} (e : Same H H') (h : Rd H a u) : Rd H' a u := by
  rcases h with h | ⟨o, h⟩
  · exact .inl (e _ _ h)
  · exact .inr ⟨o, e _ _ h⟩

theorem sqtM {K : PySem.W.Frag} {H H' : Hp} {a : Addr} {xs : List V} (e : Same H H') (h : SqT K H a xs) : SqT K H' a xs := h.elim (fun h => .inl (rdM e h)) .inr
mutual
theorem Rep.mono {K : PySem.W.Frag} {G G' : Hp} (e : Same G G') : ∀ {v : V} {d : D}, Rep K G v d → Rep K G' v d
  | _, _, .non => .non
  | _, _, .bl b => .bl b
  | _, _, .int i => .int i
  | _, _, .str x h => .str x h
  | _, _, .lst h r => .lst (rdM e h) (Reps.mono e r)
  | _, _, .tup h r => .tup (sqtM e h) (Reps.mono e r)
  | _, _, .ins h r => .ins (e _ _ h) (RepF.mono e r)
  | _, _, .dic h r => .dic (e _ _ h) (RepK.mono e r)
theorem Reps.mono {K : PySem.W.Frag} {G G' : Hp} (e : Same G G') : ∀ {v : List V} {d : List D}, Reps K G v d → Reps K G' v d
  | _, _, .nil => .nil
  | _, _, .cons h r => .cons (Rep.mono e h) (Reps.mono e r)
theorem RepF.mono {K : PySem.W.Frag} {G G' : Hp} (e : Same G G') : ∀ {v : List (Str × V)} {d : List (Str × D)}, RepF K G v d → RepF K G' v d
  | _, _, .nil => .nil
  | _, _, .cons h r => .cons (Rep.mono e h) (RepF.mono e r)
theorem RepK.mono {K : PySem.W.Frag} {G G' : Hp} (e : Same G G') : ∀ {v : List (Key × V)} {d : List (Key × D)}, RepK K G v d → RepK K G' v d
  | _, _, .nil => .nil
  | _, _, .cons h r => .cons (Rep.mono e h) (RepK.mono e r)
end

theorem Reps.length {K : PySem.W.Frag} {G : Hp} : ∀ {vs : List V} {ds : List D}, Reps K G vs ds → vs.length = ds.length
  | _, _, .nil => rfl
  | _, _, .cons _ r => congrArg (· + 1) r.length
theorem Reps.append {K : PySem.W.Frag} {G : Hp} : ∀ {vs ws : List V} {ds es : List D}, Reps K G vs ds → Reps K G ws es → Reps K G (vs ++ ws) (ds ++ es)
  | _, _, _, _, .nil, r => r
  | _, _, _, _, .cons h r, q => .cons h (r.append q)
theorem Reps.get {K : PySem.W.Frag} {G : Hp} : ∀ {vs : List V} {ds : List D} {i : Nat} {d : D}, Reps K G vs ds → ds[i]? = some d → ∃ v, vs[i]? = some v ∧ Rep K G v d
  | _, _, _, _, .nil, e => by simp at e
  | _, _, 0, _, .cons h _, e => by
    simp at e
    subst e
    exact ⟨_, rfl, h⟩
  | _, _, i + 1, d, .cons _ r, e => by
    obtain ⟨v, h1, h2⟩ := Reps.get (i := i) (d := d) r (by simpa using e)
    exact ⟨v, by simpa using h1, h2⟩
theorem Reps.at {K : PySem.W.Frag} {G : Hp} : ∀ {vs : List V} {ds : List D} {i : Nat} {v : V}, Reps K G vs ds → vs[i]? = some v → ∃ d, ds[i]? = some d ∧ Rep K G v d
  | _, _, _, _, .nil, e => by simp at e
  | _, _, 0, _, .cons h _, e => by
    simp at e
    subst e
    exact ⟨_, rfl, h⟩
  | _, _, i + 1, d, .cons _ r, e => by
    obtain ⟨v, h1, h2⟩ := Reps.at (i := i) (v := d) r (by simpa using e)
    exact ⟨v, by simpa using h1, h2⟩
theorem Reps.take {K : PySem.W.Frag} {G : Hp} : ∀ {vs : List V} {ds : List D} (n : Nat), Reps K G vs ds → Reps K G (vs.take n) (ds.take n)
  | _, _, 0, _ => .nil
  | _, _, _ + 1, .nil => .nil
  | _, _, n + 1, .cons h r => .cons h (r.take n)
theorem Reps.drop {K : PySem.W.Frag} {G : Hp} : ∀ {vs : List V} {ds : List D} (n : Nat), Reps K G vs ds → Reps K G (vs.drop n) (ds.drop n)
  | _, _, 0, r => r
  | _, _, _ + 1, .nil => .nil
  | _, _, n + 1, .cons _ r => r.drop n
theorem Reps.set {K : PySem.W.Frag} {G : Hp} {v : V} {d : D} (q : Rep K G v d) : ∀ {vs : List V} {ds : List D} (n : Nat), Reps K G vs ds → Reps K G (vs.set n v) (ds.set n d)
  | _, _, _, .nil => .nil
  | _, _, 0, .cons _ r => .cons q r
  | _, _, n + 1, .cons h r => .cons h (r.set q n)
theorem RepF.look {K : PySem.W.Frag} {G : Hp} {f : Str} {d : D} : ∀ {fv : List (Str × V)} {fs : List (Str × D)}, RepF K G fv fs → fs.lookup f = some d → ∃ v, fv.lookup f = some v ∧ Rep K G v d
  | _, _, .nil, e => by simp at e
  | (g, v) :: fv, (_, x) :: fs, .cons h r, e => by
    by_cases c : f = g
    · subst c
      simp [List.lookup] at e
      subst e
      exact ⟨v, by simp [List.lookup], h⟩
    · have cb : (f == g) = false := by simpa using c
      simp only [List.lookup, cb] at e
      obtain ⟨w, h1, h2⟩ := RepF.look r e
      exact ⟨w, by simp only [List.lookup, cb]; exact h1, h2⟩
theorem RepF.lookN {K : PySem.W.Frag} {G : Hp} {f : Str} : ∀ {fv : List (Str × V)} {fs : List (Str × D)}, RepF K G fv fs → fs.lookup f = none → fv.lookup f = none
  | _, _, .nil, _ => rfl
  | (g, v) :: fv, (_, x) :: fs, .cons h r, e => by
    by_cases c : f = g
    · subst c
      simp [List.lookup] at e
    · have cb : (f == g) = false := by simpa using c
      simp only [List.lookup, cb] at e ⊢
      exact RepF.lookN r e

/-! ### symbolic values in a state -/
def FvOk (K : PySem.W.Frag) (G : Hp) (A : List Addr) (v : V) : FV → Prop
  | .dat d => Rep K G v d
  | .cel i => ∃ a, v = .ref a ∧ A[i]? = some a
inductive Fvs (K : PySem.W.Frag) (G : Hp) (A : List Addr) : List V → List FV → Prop
  | nil : Fvs K G A [] []
  | cons {v : V} {vs : List V} {x : FV} {xs : List FV} : FvOk K G A v x → Fvs K G A vs xs → Fvs K G A (v :: vs) (x :: xs)
def SvOk (K : PySem.W.Frag) (G : Hp) (A : List Addr) (v : V) : SV → Prop
  | .dat d => Rep K G v d
  | .cel i => ∃ a, v = .ref a ∧ A[i]? = some a
  | .raw u => v = u
  | .exc dd fs a => v = .ref a ∧ ∃ fv, G dd = some (.xd fv) ∧ RepF K G fv fs
  | .tup xs => ∃ a vs, v = .ref a ∧ SqT K G a vs ∧ Fvs K G A vs xs
inductive Svs (K : PySem.W.Frag) (G : Hp) (A : List Addr) : List V → List SV → Prop
  | nil : Svs K G A [] []
  | cons {v : V} {vs : List V} {x : SV} {xs : List SV} : SvOk K G A v x → Svs K G A vs xs → Svs K G A (v :: vs) (x :: xs)
inductive Sl (K : PySem.W.Frag) (G : Hp) (A : List Addr) : List (Option V) → List (Option SV) → Prop
  | nil : Sl K G A [] []
  | skip {o : Option V} {σ : List (Option V)} {ss : List (Option SV)} : Sl K G A σ ss → Sl K G A (o :: σ) (none :: ss)
  | cons {v : V} {x : SV} {σ : List (Option V)} {ss : List (Option SV)} : SvOk K G A v x → Sl K G A σ ss → Sl K G A (some v :: σ) (some x :: ss)
/-- the world grows -/
def Ext (G : Hp) (A : List Addr) (G' : Hp) (A' : List Addr) : Prop := Same G G' ∧ ∃ more, A' = A ++ more
theorem Ext.refl {G : Hp} {A : List Addr} : Ext G A G A := ⟨fun _ _ e => e, [], by simp⟩
theorem Ext.trans {G G1 G2 : Hp} {A A1 A2 : List Addr} (a : Ext G A G1 A1) (b : Ext G1 A1 G2 A2) : Ext G A G2 A2 := by
  obtain ⟨s1, m1, rfl⟩ := a
  obtain ⟨s2, m2, rfl⟩ := b
  exact ⟨s1.trans s2, m1 ++ m2, by simp⟩
theorem pre_get {A A' : List Addr} {i : Nat} {a : Addr} (p : ∃ more, A' = A ++ more) (h : A[i]? = some a) : A'[i]? = some a := by
  obtain ⟨more, rfl⟩ := p
  have := (List.getElem?_eq_some_iff.mp h).1
  rw [List.getElem?_append_left this]
  exact h
theorem FvOk.mono {K : PySem.W.Frag} {G G' : Hp} {A A' : List Addr} (e : Ext G A G' A') {v : V} : ∀ {x : FV}, FvOk K G A v x → FvOk K G' A' v x
  | .dat _, h => Rep.mono e.1 h
  | .cel _, ⟨a, h1, h2⟩ => ⟨a, h1, pre_get e.2 h2⟩
theorem Fvs.mono {K : PySem.W.Frag} {G G' : Hp} {A A' : List Addr} (e : Ext G A G' A') : ∀ {v : List V} {x : List FV}, Fvs K G A v x → Fvs K G' A' v x
  | _, _, .nil => .nil
  | _, _, .cons h r => .cons (h.mono e) (r.mono e)
theorem SvOk.mono {K : PySem.W.Frag} {G G' : Hp} {A A' : List Addr} (e : Ext G A G' A') {v : V} : ∀ {x : SV}, SvOk K G A v x → SvOk K G' A' v x
  | .dat _, h => Rep.mono e.1 h
  | .cel _, ⟨a, h1, h2⟩ => ⟨a, h1, pre_get e.2 h2⟩
  | .raw _, h => h
  | .exc _ _ _, ⟨h1, fv, h2, h3⟩ => ⟨h1, fv, e.1 _ _ h2, RepF.mono e.1 h3⟩
  | .tup _, ⟨a, vs, h1, h2, h3⟩ => ⟨a, vs, h1, sqtM e.1 h2, h3.mono e⟩
theorem Svs.mono {K : PySem.W.Frag} {G G' : Hp} {A A' : List Addr} (e : Ext G A G' A') : ∀ {v : List V} {x : List SV}, Svs K G A v x → Svs K G' A' v x
  | _, _, .nil => .nil
  | _, _, .cons h r => .cons (h.mono e) (r.mono e)
theorem Sl.mono {K : PySem.W.Frag} {G G' : Hp} {A A' : List Addr} (e : Ext G A G' A') : ∀ {v : List (Option V)} {x : List (Option SV)}, Sl K G A v x → Sl K G' A' v x
  | _, _, .nil => .nil
  | _, _, .skip r => .skip (r.mono e)
  | _, _, .cons h r => .cons (h.mono e) (r.mono e)
theorem Svs.length {K : PySem.W.Frag} {G : Hp} {A : List Addr} : ∀ {vs : List V} {xs : List SV}, Svs K G A vs xs → vs.length = xs.length
  | _, _, .nil => rfl
  | _, _, .cons _ r => congrArg (· + 1) r.length
theorem Sl.get {K : PySem.W.Frag} {G : Hp} {A : List Addr} : ∀ {σ : List (Option V)} {ss : List (Option SV)} {i : Nat} {x : SV}, Sl K G A σ ss → ss[i]? = some (some x) → ∃ v, σ[i]? = some (some v) ∧ SvOk K G A v x
  | _, _, _, _, .nil, e => by simp at e
  | _, _, 0, _, .skip _, e => by simp at e
  | _, _, 0, _, .cons h _, e => by
    simp at e
    subst e
    exact ⟨_, rfl, h⟩
  | _, _, i + 1, x, .skip r, e => by
    obtain ⟨v, h1, h2⟩ := Sl.get (i := i) (x := x) r (by simpa using e)
    exact ⟨v, by simpa using h1, h2⟩
  | _, _, i + 1, x, .cons _ r, e => by
    obtain ⟨v, h1, h2⟩ := Sl.get (i := i) (x := x) r (by simpa using e)
    exact ⟨v, by simpa using h1, h2⟩
theorem Sl.set {K : PySem.W.Frag} {G : Hp} {A : List Addr} {v : V} {x : SV} (q : SvOk K G A v x) : ∀ {σ : List (Option V)} {ss : List (Option SV)} (i : Nat), Sl K G A σ ss → Sl K G A (σ.set i (some v)) (ss.set i (some x))
  | _, _, _, .nil => .nil
  | _, _, 0, .skip r => .cons q r
  | _, _, 0, .cons _ r => .cons q r
  | _, _, i + 1, .skip r => .skip (r.set q i)
  | _, _, i + 1, .cons h r => .cons h (r.set q i)
theorem Sl.setN {K : PySem.W.Frag} {G : Hp} {A : List Addr} {o : Option V} : ∀ {σ : List (Option V)} {ss : List (Option SV)} (i : Nat), Sl K G A σ ss → Sl K G A (σ.set i o) (ss.set i none)
  | _, _, _, .nil => .nil
  | _, _, 0, .skip r => .skip r
  | _, _, 0, .cons _ r => .skip r
  | _, _, i + 1, .skip r => .skip (r.setN i)
  | _, _, i + 1, .cons h r => .cons h (r.setN i)
/-- slots forgotten -/
inductive Fgt : List (Option SV) → List (Option SV) → Prop
  | nil : Fgt [] []
  | keep {o : Option SV} {ss ss' : List (Option SV)} : Fgt ss ss' → Fgt (o :: ss) (o :: ss')
  | drop {o : Option SV} {ss ss' : List (Option SV)} : Fgt ss ss' → Fgt (o :: ss) (none :: ss')
theorem Sl.fgt {K : PySem.W.Frag} {G : Hp} {A : List Addr} : ∀ {σ : List (Option V)} {ss ss' : List (Option SV)}, Sl K G A σ ss → Fgt ss ss' → Sl K G A σ ss'
  | _, _, _, .nil, .nil => .nil
  | _, _, _, .skip r, .keep f => .skip (r.fgt f)
  | _, _, _, .skip r, .drop f => .skip (r.fgt f)
  | _, _, _, .cons h r, .keep f => .cons h (r.fgt f)
  | _, _, _, .cons _ r, .drop f => .skip (r.fgt f)
theorem Fgt.refl : ∀ (ss : List (Option SV)), Fgt ss ss
  | [] => .nil
  | _ :: r => .keep (Fgt.refl r)

/-! ### the world: what stands since the entry, the frozen part G, the cells -/
inductive FldsOk (K : PySem.W.Frag) (G : Hp) (A : List Addr) : List (Str × V) → List (Str × SV) → Prop
  | nil : FldsOk K G A [] []
  | cons {f : Str} {v : V} {x : SV} {fv : List (Str × V)} {fs : List (Str × SV)} : SvOk K G A v x → FldsOk K G A fv fs → FldsOk K G A ((f, v) :: fv) ((f, x) :: fs)
theorem FldsOk.mono {K : PySem.W.Frag} {G G' : Hp} {A A' : List Addr} (e : Ext G A G' A') : ∀ {v : List (Str × V)} {x : List (Str × SV)}, FldsOk K G A v x → FldsOk K G' A' v x
  | _, _, .nil => .nil
  | _, _, .cons h r => .cons (h.mono e) (r.mono e)
def CellOk (K : PySem.W.Frag) (G : Hp) (A : List Addr) (H : Hp) (a : Addr) : Cell → Prop
  | .dead => True
  | .lst ds => G a = none ∧ ∃ vs, H a = some (.lst vs) ∧ Reps K G vs ds
  | .dic kvs => G a = none ∧ ∃ kv, H a = some (.dK kv) ∧ RepK K G kv kvs
  | .ins C fs => G a = none ∧ ∃ dx fv, H a = some (.ins C dx fv) ∧ FldsOk K G A fv fs
  | .mix xs => G a = none ∧ ∃ vs, H a = some (.lst vs) ∧ Svs K G A vs xs
inductive Cells (K : PySem.W.Frag) (G : Hp) (A : List Addr) (H : Hp) : List Addr → List Cell → Prop
  | nil : Cells K G A H [] []
  | cons {a : Addr} {as : List Addr} {c : Cell} {cs : List Cell} : CellOk K G A H a c → Cells K G A H as cs → Cells K G A H (a :: as) (c :: cs)
structure Base where
  G : Hp
  A : List Addr
  H : Hp
structure Wd (K : PySem.W.Frag) (B : Base) (G : Hp) (A : List Addr) (M : List Cell) (H : Hp) : Prop where
  gg : Same B.G G
  gh : Same G H
  fr : ∀ b o, B.H b = some o → b ∉ B.A → H b = some o
  fresh : ∀ b o, G b = some o → B.G b = some o ∨ B.H b = none
  nd : A.Nodup
  pre : ∃ more, A = B.A ++ more
  there : ∀ b ∈ A, ∃ o, H b = some o
  an : ∀ b ∈ A, b ∈ B.A ∨ B.H b = none
  cl : Cells K G A H A M
theorem Cells.length {K : PySem.W.Frag} {G : Hp} {A : List Addr} {H : Hp} : ∀ {as : List Addr} {cs : List Cell}, Cells K G A H as cs → as.length = cs.length
  | _, _, .nil => rfl
  | _, _, .cons _ r => congrArg (· + 1) r.length
theorem Cells.get {K : PySem.W.Frag} {G : Hp} {A : List Addr} {H : Hp} : ∀ {as : List Addr} {cs : List Cell} {i : Nat} {a : Addr} {c : Cell}, Cells K G A H as cs → as[i]? = some a → cs[i]? = some c → CellOk K G A H a c
  | _, _, _, _, _, .nil, e, _ => by simp at e
  | _, _, 0, _, _, .cons h _, e, e' => by
    simp at e e'
    subst e; subst e'
    exact h
  | _, _, i + 1, a, c, .cons _ r, e, e' => Cells.get (i := i) r (by simpa using e) (by simpa using e')
theorem Cells.imp {K : PySem.W.Frag} {G G' : Hp} {A A' : List Addr} {H H' : Hp} : ∀ {as : List Addr} {cs : List Cell}, Cells K G A H as cs → (∀ a c, a ∈ as → CellOk K G A H a c → CellOk K G' A' H' a c) → Cells K G' A' H' as cs
  | _, _, .nil, _ => .nil
  | _, _, .cons h r, f => .cons (f _ _ List.mem_cons_self h) (r.imp fun a c m => f a c (List.mem_cons_of_mem _ m))
theorem Cells.append {K : PySem.W.Frag} {G : Hp} {A : List Addr} {H : Hp} : ∀ {as bs : List Addr} {cs ds : List Cell}, Cells K G A H as cs → Cells K G A H bs ds → Cells K G A H (as ++ bs) (cs ++ ds)
  | _, _, _, _, .nil, r => r
  | _, _, _, _, .cons h r, q => .cons h (r.append q)
theorem Cells.take {K : PySem.W.Frag} {G : Hp} {A : List Addr} {H : Hp} : ∀ {as : List Addr} {cs : List Cell} (n : Nat), Cells K G A H as cs → Cells K G A H (as.take n) (cs.take n)
  | _, _, 0, _ => .nil
  | _, _, _ + 1, .nil => .nil
  | _, _, n + 1, .cons h r => .cons h (r.take n)
theorem Cells.drop {K : PySem.W.Frag} {G : Hp} {A : List Addr} {H : Hp} : ∀ {as : List Addr} {cs : List Cell} (n : Nat), Cells K G A H as cs → Cells K G A H (as.drop n) (cs.drop n)
  | _, _, 0, r => r
  | _, _, _ + 1, .nil => .nil
  | _, _, n + 1, .cons _ r => r.drop n
/-- what stands at a live cell's address -/
theorem CellOk.keep {K : PySem.W.Frag} {G G' : Hp} {A A' : List Addr} {H H' : Hp} {a : Addr} {c : Cell} (e : Ext G A G' A') (hg : G a = none → G' a = none) (hh : ∀ o, H a = some o → H' a = some o) (h : CellOk K G A H a c) : CellOk K G' A' H' a c := by
  cases c with
  | dead => trivial
  | lst ds =>
    obtain ⟨g, vs, h1, r⟩ := h
    exact ⟨hg g, vs, hh _ h1, r.mono e.1⟩
  | dic kvs =>
    obtain ⟨g, vs, h1, r⟩ := h
    exact ⟨hg g, vs, hh _ h1, r.mono e.1⟩
  | ins C fs =>
    obtain ⟨g, dx, fv, h1, r⟩ := h
    exact ⟨hg g, dx, fv, hh _ h1, r.mono e⟩
  | mix xs =>
    obtain ⟨g, vs, h1, r⟩ := h
    exact ⟨hg g, vs, hh _ h1, r.mono e⟩
section
variable {K : PySem.W.Frag} {B : Base} {G : Hp} {A : List Addr} {M : List Cell} {H : Hp}
theorem Wd.start {G : Hp} {A : List Addr} (gh : Same G H) (nd : A.Nodup) (th : ∀ b ∈ A, ∃ o, H b = some o) (cl : Cells K G A H A M) : Wd K ⟨G, A, H⟩ G A M H :=
  ⟨fun _ _ e => e, gh, fun _ _ e _ => e, fun _ _ e => .inl e, nd, ⟨[], by simp⟩, th, fun _ m => .inl m, cl⟩
theorem Wd.len (w : Wd K B G A M H) : A.length = M.length := w.cl.length
/-- what is new now was not there at the entry -/
theorem Wd.none (w : Wd K B G A M H) {p : Addr} (hp : H p = none) : B.H p = none ∧ p ∉ A ∧ G p = none := by
  have hA : p ∉ A := fun m => by
    obtain ⟨o, e⟩ := w.there p m
    rw [hp] at e; cases e
  refine ⟨?_, hA, ?_⟩
  · cases e : B.H p with
    | none => rfl
    | some o =>
      have hb : p ∉ B.A := fun m => by
        obtain ⟨more, e⟩ := w.pre
        exact hA (by rw [e]; exact List.mem_append_left _ m)
      rw [w.fr p o e hb] at hp; cases hp
  · cases e : G p with
    | none => rfl
    | some o => rw [w.gh p o e] at hp; cases hp
theorem same_upd {G : Hp} {p : Addr} {o : HO} (h : G p = Option.none) : Same G (upd G p o) := fun b u e => by
  rw [upd_ne (fun z => by subst z; rw [h] at e; cases e)]; exact e
/-- a new object, frozen at once -/
theorem Wd.newD (w : Wd K B G A M H) {p : Addr} {o : HO} (hp : H p = Option.none) : Wd K B (upd G p o) A M (upd H p o) ∧ Ext G A (upd G p o) A := by
  obtain ⟨hb, hA, hg⟩ := w.none hp
  have s1 := same_upd (o := o) hg
  have s2 := same_upd (o := o) hp
  have ex : Ext G A (upd G p o) A := ⟨s1, [], by simp⟩
  refine ⟨⟨w.gg.trans s1, ?_, fun b u e n => s2 _ _ (w.fr b u e n), ?_, w.nd, w.pre, ?_, w.an, ?_⟩, ex⟩
  · intro b u e
    by_cases c : b = p
    · subst c; rw [upd_same] at e ⊢; exact e
    · rw [upd_ne c] at e ⊢; exact w.gh b u e
  · intro b u e
    by_cases c : b = p
    · subst c; exact .inr hb
    · rw [upd_ne c] at e; exact w.fresh b u e
  · intro b m
    obtain ⟨u, e⟩ := w.there b m
    exact ⟨u, s2 _ _ e⟩
  · refine w.cl.imp fun a c m h => h.keep ex (fun g => ?_) (fun u e => s2 _ _ e)
    rw [upd_ne (show a ≠ p from fun z => hA (z ▸ m))]; exact g
/-- the heap grows beside -/
theorem Wd.grow (w : Wd K B G A M H) {p : Addr} {o : HO} (hp : H p = Option.none) : Wd K B G A M (upd H p o) := by
  have s2 := same_upd (o := o) hp
  refine ⟨w.gg, w.gh.trans s2, fun b u e n => s2 _ _ (w.fr b u e n), w.fresh, w.nd, w.pre, fun b m => ?_, w.an, w.cl.imp fun a c m h => h.keep .refl (fun g => g) fun u e => s2 _ _ e⟩
  obtain ⟨u, e⟩ := w.there b m
  exact ⟨u, s2 _ _ e⟩
/-- a new object, a cell of ours -/
theorem Wd.newC (w : Wd K B G A M H) {p : Addr} {o : HO} {c : Cell} (hp : H p = Option.none) (hc : CellOk K G (A ++ [p]) (upd H p o) p c) : Wd K B G (A ++ [p]) (M ++ [c]) (upd H p o) ∧ Ext G A G (A ++ [p]) := by
  obtain ⟨hb, hA, hg⟩ := w.none hp
  have w2 := w.grow (o := o) hp
  have ex : Ext G A G (A ++ [p]) := ⟨fun _ _ e => e, [p], rfl⟩
  refine ⟨⟨w2.gg, w2.gh, w2.fr, w2.fresh, ?_, ?_, ?_, ?_, ?_⟩, ex⟩
  · refine List.nodup_append.mpr ⟨w.nd, by simp, ?_⟩
    intro a ha b hb'
    rw [List.mem_singleton] at hb'
    subst hb'
    exact fun z => hA (z ▸ ha)
  · obtain ⟨more, e⟩ := w.pre
    exact ⟨more ++ [p], by rw [e]; simp⟩
  · intro b m
    rcases List.mem_append.mp m with m | m
    · exact w2.there b m
    · rw [List.mem_singleton] at m; subst m; exact ⟨o, upd_same⟩
  · intro b m
    rcases List.mem_append.mp m with m | m
    · exact w.an b m
    · rw [List.mem_singleton] at m; subst m; exact .inr hb
  · exact (w2.cl.imp fun a c m h => h.keep ex (fun g => g) fun u e => e).append (.cons hc .nil)
theorem Cells.put {K : PySem.W.Frag} {G : Hp} {A : List Addr} {H : Hp} {p : Addr} {o : HO} {c' : Cell} (hc : CellOk K G A (upd H p o) p c') : ∀ {as : List Addr} {cs : List Cell} {i : Nat}, as.Nodup → Cells K G A H as cs → as[i]? = some p → Cells K G A (upd H p o) as (cs.set i c')
  | _, _, _, _, .nil, e => by simp at e
  | a :: as, c :: cs, 0, nd, .cons h r, e => by
    simp at e
    subst e
    refine .cons hc (r.imp fun b u m h => h.keep .refl (fun g => g) fun v e => ?_)
    rw [upd_ne (show b ≠ a from fun z => (List.nodup_cons.mp nd).1 (z ▸ m))]; exact e
  | a :: as, c :: cs, i + 1, nd, .cons h r, e => by
    have e' : as[i]? = some p := by simpa using e
    have hp : p ∈ as := List.mem_of_getElem? e'
    refine .cons (h.keep .refl (fun g => g) fun v e => ?_) (Cells.put hc (List.nodup_cons.mp nd).2 r e')
    rw [upd_ne (show a ≠ p from fun z => (List.nodup_cons.mp nd).1 (z ▸ hp))]; exact e
/-- a cell is written -/
theorem Wd.setC (w : Wd K B G A M H) {p : Addr} {o : HO} {i : Nat} {c' : Cell} (hi : A[i]? = some p) (hg : G p = Option.none) (hc : CellOk K G A (upd H p o) p c') : Wd K B G A (M.set i c') (upd H p o) := by
  have hp : p ∈ A := List.mem_of_getElem? hi
  refine ⟨w.gg, fun b u e => ?_, fun b u e n => ?_, w.fresh, w.nd, w.pre, fun b m => ?_, w.an, Cells.put hc w.nd w.cl hi⟩
  · rw [upd_ne (fun z => by subst z; rw [hg] at e; cases e)]; exact w.gh b u e
  · rw [upd_ne (fun z => ?_)]
    · exact w.fr b u e n
    · subst z
      rcases w.an b hp with q | q
      · exact n q
      · rw [q] at e; cases e
  · by_cases c : b = p
    · subst c; exact ⟨o, upd_same⟩
    · rw [upd_ne c]; exact w.there b m
/-- it names no cell from the k-th on -/
def FV.lt (k : Nat) : FV → Bool
  | .cel j => decide (j < k)
  | _ => true
def SV.lt (k : Nat) : SV → Bool
  | .cel j => decide (j < k)
  | .tup xs => xs.all (FV.lt k)
  | _ => true
def Cell.lt (k : Nat) : Cell → Bool
  | .ins _ fs => fs.all fun p => p.2.lt k
  | .mix xs => xs.all (SV.lt k)
  | _ => true
theorem FvOk.cut {v : V} {x : FV} {k : Nat} (hx : x.lt k = true) (h : FvOk K G A v x) : FvOk K G (A.take k) v x := by
  cases x with
  | dat d => exact h
  | cel j =>
    obtain ⟨a, h1, h2⟩ := h
    have hj : j < k := of_decide_eq_true hx
    exact ⟨a, h1, by rw [List.getElem?_take, if_pos hj]; exact h2⟩
theorem Fvs.cut {k : Nat} : ∀ {vs : List V} {xs : List FV}, xs.all (FV.lt k) = true → Fvs K G A vs xs → Fvs K G (A.take k) vs xs
  | _, _, _, .nil => .nil
  | _, _, hx, .cons h r => by
    rw [List.all_cons, Bool.and_eq_true] at hx
    exact .cons (h.cut hx.1) (r.cut hx.2)
theorem SvOk.cut {v : V} {x : SV} {k : Nat} (hx : x.lt k = true) (h : SvOk K G A v x) : SvOk K G (A.take k) v x := by
  cases x with
  | dat d => exact h
  | raw u => exact h
  | exc u v w => exact h
  | tup xs =>
    obtain ⟨a, vs, h1, h2, h3⟩ := h
    exact ⟨a, vs, h1, h2, h3.cut hx⟩
  | cel j =>
    obtain ⟨a, h1, h2⟩ := h
    have hj : j < k := of_decide_eq_true hx
    exact ⟨a, h1, by rw [List.getElem?_take, if_pos hj]; exact h2⟩
theorem Svs.cut {k : Nat} : ∀ {vs : List V} {xs : List SV}, xs.all (SV.lt k) = true → Svs K G A vs xs → Svs K G (A.take k) vs xs
  | _, _, _, .nil => .nil
  | _, _, hx, .cons h r => by
    rw [List.all_cons, Bool.and_eq_true] at hx
    exact .cons (h.cut hx.1) (r.cut hx.2)
theorem FldsOk.cut {k : Nat} : ∀ {fv : List (Str × V)} {fs : List (Str × SV)}, (fs.all fun p => p.2.lt k) = true → FldsOk K G A fv fs → FldsOk K G (A.take k) fv fs
  | _, _, _, .nil => .nil
  | _, _, hx, .cons h r => by
    rw [List.all_cons, Bool.and_eq_true] at hx
    exact .cons (h.cut hx.1) (r.cut hx.2)
theorem CellOk.cut {a : Addr} {c : Cell} {k : Nat} (hc : c.lt k = true) (h : CellOk K G A H a c) : CellOk K G (A.take k) H a c := by
  cases c with
  | dead => trivial
  | lst ds => exact h
  | dic ds => exact h
  | ins C fs =>
    obtain ⟨g, dx, fv, h1, r⟩ := h
    exact ⟨g, dx, fv, h1, r.cut hc⟩
  | mix xs =>
    obtain ⟨g, vs, h1, r⟩ := h
    exact ⟨g, vs, h1, r.cut hc⟩
theorem Cells.cut {k : Nat} : ∀ {as : List Addr} {cs : List Cell}, cs.all (Cell.lt k) = true → Cells K G A H as cs → Cells K G (A.take k) H as cs
  | _, _, _, .nil => .nil
  | _, _, hx, .cons h r => by
    rw [List.all_cons, Bool.and_eq_true] at hx
    exact .cons (h.cut hx.1) (r.cut hx.2)
/-- the last cells are forgotten -/
theorem Wd.drop (w : Wd K B G A M H) (k : Nat) (hk : B.A.length ≤ k) (hM : (M.take k).all (Cell.lt k) = true) : Wd K B G (A.take k) (M.take k) H := by
  refine ⟨w.gg, w.gh, w.fr, w.fresh, ?_, ?_, fun b m => w.there b (List.mem_of_mem_take m), fun b m => w.an b (List.mem_of_mem_take m), (w.cl.take k).cut hM⟩
  · exact w.nd.sublist (List.take_sublist k A)
  · obtain ⟨more, e⟩ := w.pre
    exact ⟨more.take (k - B.A.length), by rw [e, List.take_append, List.take_of_length_le hk]⟩
end
end Mb

/-! Mb, part 1: the judgements. -/
namespace Mb
open PySem L2

abbrev Sst := List (Option SV)
abbrev Mem := List Cell
/-- what is wished of an exception: its class, its fields, the slots, the cells -/
abbrev XD := Addr → List (Str × D) → Sst → Mem → Prop

/-! ### the weakest readings -/
def teW (X : Cx) (e : Expr) : TE := fun σ H Q => ∀ pins s, Inv X pins σ H s → wpAny (model X.prog X.w) X.A (eval e X.env) (EP X pins σ Q) X.xe s
def ttW (X : Cx) (e : Expr) : TT := fun σ H Q => ∀ pins s, Inv X pins σ H s → wpAny (model X.prog X.w) X.A (isTrue e X.env (eval e X.env)) (TP X pins σ Q) X.xe s
def twW (X : Cx) (e : Expr) : TT := fun σ H Q => ∀ (whole : Sem Value) pins s, Inv X pins σ H s → wpAny (model X.prog X.w) X.A (isTrue e X.env whole) (TP X pins σ Q) X.xe s
def taW (X : Cx) (es : List Expr) : TA := fun σ H Q => ∀ pos pins s, Inv X pins σ H s → wpAny (model X.prog X.w) X.A (spliced (backTo pos (starEach es X.env))) (AP X pins σ Q) X.xe s
def tsW (X : Cx) (st : Stmt) : TS := fun N σ H => ∀ pins s, Inv X pins σ H s → wpAny (model X.prog X.w) X.A (exec st X.env) (SP X pins N) X.xe s
def tbW (X : Cx) (st : List Stmt) : TS := fun N σ H => ∀ pins s, Inv X pins σ H s → wpAny (model X.prog X.w) X.A (execs st X.env) (SP X pins N) X.xe s
def tgW (X : Cx) (tg : Expr) : TG := fun v σ H Q => ∀ pins s u, Inv X pins σ H s → RelV v u → wpAny (model X.prog X.w) X.A (assign tg X.env u) (fun _ s' => ∃ σ' H', Inv X pins σ' H' s' ∧ Q σ' H') X.xe s
section
variable {X : Cx} {e : Expr} {es : List Expr} {st : Stmt} {sts : List Stmt} {σ : St} {H : Hp}
theorem pe_self : PE X e (teW X e) := ⟨fun pins s _ _ _ I h => h pins s I⟩
theorem pt_self : PT X e (ttW X e) := ⟨fun pins s _ _ _ I h => h pins s I⟩
theorem pw_self : PW X e (twW X e) := ⟨fun w pins s _ _ _ I h => h w pins s I⟩
theorem pa_self : PA X es (taW X es) := ⟨fun p pins s _ _ _ I h => h p pins s I⟩
theorem ps_self : PS X st (tsW X st) := ⟨fun pins s _ _ _ I h => h pins s I⟩
theorem pb_self : PSs X sts (tbW X sts) := ⟨fun pins s _ _ _ I h => h pins s I⟩
theorem pg_self : PG X e (tgW X e) := ⟨fun pins s _ _ _ u _ I r h => h pins s u I r⟩
theorem te_of {t : TE} {Q : VK} (h : PE X e t) (q : t σ H Q) : teW X e σ H Q := fun pins s I => h.run pins s σ H Q I q
theorem tt_of {t : TT} {Q : Bool → Hp → Prop} (h : PT X e t) (q : t σ H Q) : ttW X e σ H Q := fun pins s I => h.run pins s σ H Q I q
theorem tw_of {t : TT} {Q : Bool → Hp → Prop} (h : PW X e t) (q : t σ H Q) : twW X e σ H Q := fun w pins s I => h.run w pins s σ H Q I q
theorem ta_of {t : TA} {Q : List V → Hp → Prop} (h : PA X es t) (q : t σ H Q) : taW X es σ H Q := fun p pins s I => h.run p pins s σ H Q I q
theorem ts_of {t : TS} {N : Ends} (h : PS X st t) (q : t N σ H) : tsW X st N σ H := fun pins s I => h.run pins s σ H N I q
theorem tb_of {t : TS} {N : Ends} (h : PSs X sts t) (q : t N σ H) : tbW X sts N σ H := fun pins s I => h.run pins s σ H N I q
theorem tg_of {t : TG} {v : V} {Q : St → Hp → Prop} (h : PG X e t) (q : t v σ H Q) : tgW X e v σ H Q := fun pins s u I r => h.run pins s σ H v u Q I r q
end

/-! ### exceptions -/
def XdOk (K : PySem.W.Frag) (G : Hp) (d : Option Addr) (fs : List (Str × D)) : Prop := (d = none ∧ fs = []) ∨ ∃ dd fv, d = some dd ∧ G dd = some (.xd fv) ∧ RepF K G fv fs
def XW (K : PySem.W.Frag) (B : Base) (ex : XD) : WX := fun cls d σ H => ∃ C fs ss G A M, cls = .ref C ∧ XdOk K G d fs ∧ Wd K B G A M H ∧ Sl K G A σ ss ∧ ex C fs ss M
structure Cok (X : Cx) (B : Base) (ex : XD) : Prop where
  tk : Takes X (XW X.K B ex)
  ps : PassesOwn (model X.prog X.w) X.A X.env X.xe

/-! ### the judgements -/
/-- what is wanted behind a statement -/
structure Nd where
  nx : Sst → Mem → Prop
  rt : SV → Mem → Prop
  bk : Sst → Mem → Prop := fun _ _ => False
  ct : Sst → Mem → Prop := fun _ _ => False
structure NdOk (K : PySem.W.Frag) (B : Base) (G : Hp) (N : Nd) (E : Ends) : Prop where
  nx : ∀ σ ss G' A M H, Same G G' → Wd K B G' A M H → Sl K G' A σ ss → N.nx ss M → E.nx σ H
  rt : ∀ v x G' A M H, Same G G' → Wd K B G' A M H → SvOk K G' A v x → N.rt x M → E.rt v H
  bk : ∀ σ ss G' A M H, Same G G' → Wd K B G' A M H → Sl K G' A σ ss → N.bk ss M → E.bk σ H
  ct : ∀ σ ss G' A M H, Same G G' → Wd K B G' A M H → Sl K G' A σ ss → N.ct ss M → E.ct σ H
theorem NdOk.mono {K : PySem.W.Frag} {B : Base} {G G1 : Hp} {N : Nd} {E : Ends} (k : NdOk K B G N E) (e : Same G G1) : NdOk K B G1 N E :=
  ⟨fun σ ss G' A M H s => k.nx σ ss G' A M H (e.trans s), fun v x G' A M H s => k.rt v x G' A M H (e.trans s), fun σ ss G' A M H s => k.bk σ ss G' A M H (e.trans s), fun σ ss G' A M H s => k.ct σ ss G' A M H (e.trans s)⟩
def VPost (K : PySem.W.Frag) (B : Base) (G : Hp) (A : List Addr) (Q : SV → Mem → Prop) (Kq : VK) : Prop :=
  ∀ v x G' A' M' H', Ext G A G' A' → Wd K B G' A' M' H' → SvOk K G' A' v x → Q x M' → Kq v H'
def WE0 (X : Cx) (B : Base) (ex : XD) (e : Expr) (Q : SV → Mem → Prop) (ss : Sst) (M : Mem) : Prop :=
  Cok X B ex → ∀ G A H σ, Wd X.K B G A M H → Sl X.K G A σ ss → ∀ Kq : VK, VPost X.K B G A Q Kq → teW X e σ H Kq
structure WE (X : Cx) (B : Base) (ex : XD) (e : Expr) (Q : SV → Mem → Prop) (ss : Sst) (M : Mem) : Prop where
  run : WE0 X B ex e Q ss M
instance {X : Cx} {B : Base} {ex : XD} {e : Expr} {Q : SV → Mem → Prop} {ss : Sst} {M : Mem} : CoeFun (WE X B ex e Q ss M) fun _ => Cok X B ex → ∀ G A H σ, Wd X.K B G A M H → Sl X.K G A σ ss → ∀ Kq : VK, VPost X.K B G A Q Kq → teW X e σ H Kq := ⟨WE.run⟩
def BPost (K : PySem.W.Frag) (B : Base) (G : Hp) (A : List Addr) (Q : Bool → Mem → Prop) (Kq : Bool → Hp → Prop) : Prop :=
  ∀ b G' A' M' H', Ext G A G' A' → Wd K B G' A' M' H' → Q b M' → Kq b H'
def WT0 (X : Cx) (B : Base) (ex : XD) (e : Expr) (Q : Bool → Mem → Prop) (ss : Sst) (M : Mem) : Prop :=
  Cok X B ex → ∀ G A H σ, Wd X.K B G A M H → Sl X.K G A σ ss → ∀ Kq, BPost X.K B G A Q Kq → ttW X e σ H Kq
structure WT (X : Cx) (B : Base) (ex : XD) (e : Expr) (Q : Bool → Mem → Prop) (ss : Sst) (M : Mem) : Prop where
  run : WT0 X B ex e Q ss M
instance {X : Cx} {B : Base} {ex : XD} {e : Expr} {Q : Bool → Mem → Prop} {ss : Sst} {M : Mem} : CoeFun (WT X B ex e Q ss M) fun _ => Cok X B ex → ∀ G A H σ, Wd X.K B G A M H → Sl X.K G A σ ss → ∀ Kq, BPost X.K B G A Q Kq → ttW X e σ H Kq := ⟨WT.run⟩
def WW0 (X : Cx) (B : Base) (ex : XD) (e : Expr) (Q : Bool → Mem → Prop) (ss : Sst) (M : Mem) : Prop :=
  Cok X B ex → ∀ G A H σ, Wd X.K B G A M H → Sl X.K G A σ ss → ∀ Kq, BPost X.K B G A Q Kq → twW X e σ H Kq
structure WW (X : Cx) (B : Base) (ex : XD) (e : Expr) (Q : Bool → Mem → Prop) (ss : Sst) (M : Mem) : Prop where
  run : WW0 X B ex e Q ss M
instance {X : Cx} {B : Base} {ex : XD} {e : Expr} {Q : Bool → Mem → Prop} {ss : Sst} {M : Mem} : CoeFun (WW X B ex e Q ss M) fun _ => Cok X B ex → ∀ G A H σ, Wd X.K B G A M H → Sl X.K G A σ ss → ∀ Kq, BPost X.K B G A Q Kq → twW X e σ H Kq := ⟨WW.run⟩
def APost (K : PySem.W.Frag) (B : Base) (G : Hp) (A : List Addr) (Q : List SV → Mem → Prop) (Kq : List V → Hp → Prop) : Prop :=
  ∀ vs xs G' A' M' H', Ext G A G' A' → Wd K B G' A' M' H' → Svs K G' A' vs xs → Q xs M' → Kq vs H'
def WA0 (X : Cx) (B : Base) (ex : XD) (es : List Expr) (Q : List SV → Mem → Prop) (ss : Sst) (M : Mem) : Prop :=
  Cok X B ex → ∀ G A H σ, Wd X.K B G A M H → Sl X.K G A σ ss → ∀ Kq, APost X.K B G A Q Kq → taW X es σ H Kq
structure WA (X : Cx) (B : Base) (ex : XD) (es : List Expr) (Q : List SV → Mem → Prop) (ss : Sst) (M : Mem) : Prop where
  run : WA0 X B ex es Q ss M
instance {X : Cx} {B : Base} {ex : XD} {es : List Expr} {Q : List SV → Mem → Prop} {ss : Sst} {M : Mem} : CoeFun (WA X B ex es Q ss M) fun _ => Cok X B ex → ∀ G A H σ, Wd X.K B G A M H → Sl X.K G A σ ss → ∀ Kq, APost X.K B G A Q Kq → taW X es σ H Kq := ⟨WA.run⟩
def WS0 (X : Cx) (B : Base) (ex : XD) (st : Stmt) (N : Nd) (ss : Sst) (M : Mem) : Prop :=
  Cok X B ex → ∀ G A H σ, Wd X.K B G A M H → Sl X.K G A σ ss → ∀ E, NdOk X.K B G N E → tsW X st E σ H
structure WS (X : Cx) (B : Base) (ex : XD) (st : Stmt) (N : Nd) (ss : Sst) (M : Mem) : Prop where
  run : WS0 X B ex st N ss M
instance {X : Cx} {B : Base} {ex : XD} {st : Stmt} {N : Nd} {ss : Sst} {M : Mem} : CoeFun (WS X B ex st N ss M) fun _ => Cok X B ex → ∀ G A H σ, Wd X.K B G A M H → Sl X.K G A σ ss → ∀ E, NdOk X.K B G N E → tsW X st E σ H := ⟨WS.run⟩
def WB0 (X : Cx) (B : Base) (ex : XD) (st : List Stmt) (N : Nd) (ss : Sst) (M : Mem) : Prop :=
  Cok X B ex → ∀ G A H σ, Wd X.K B G A M H → Sl X.K G A σ ss → ∀ E, NdOk X.K B G N E → tbW X st E σ H
structure WB (X : Cx) (B : Base) (ex : XD) (st : List Stmt) (N : Nd) (ss : Sst) (M : Mem) : Prop where
  run : WB0 X B ex st N ss M
instance {X : Cx} {B : Base} {ex : XD} {st : List Stmt} {N : Nd} {ss : Sst} {M : Mem} : CoeFun (WB X B ex st N ss M) fun _ => Cok X B ex → ∀ G A H σ, Wd X.K B G A M H → Sl X.K G A σ ss → ∀ E, NdOk X.K B G N E → tbW X st E σ H := ⟨WB.run⟩
def WG0 (X : Cx) (B : Base) (ex : XD) (tg : Expr) (x : SV) (Q : Sst → Mem → Prop) (ss : Sst) (M : Mem) : Prop :=
  Cok X B ex → ∀ G A H σ v, Wd X.K B G A M H → Sl X.K G A σ ss → SvOk X.K G A v x → ∀ Kq : St → Hp → Prop, (∀ σ' ss' G' A' M' H', Same G G' → Wd X.K B G' A' M' H' → Sl X.K G' A' σ' ss' → Q ss' M' → Kq σ' H') → tgW X tg v σ H Kq
structure WG (X : Cx) (B : Base) (ex : XD) (tg : Expr) (x : SV) (Q : Sst → Mem → Prop) (ss : Sst) (M : Mem) : Prop where
  run : WG0 X B ex tg x Q ss M
instance {X : Cx} {B : Base} {ex : XD} {tg : Expr} {x : SV} {Q : Sst → Mem → Prop} {ss : Sst} {M : Mem} : CoeFun (WG X B ex tg x Q ss M) fun _ => Cok X B ex → ∀ G A H σ v, Wd X.K B G A M H → Sl X.K G A σ ss → SvOk X.K G A v x → ∀ Kq : St → Hp → Prop, (∀ σ' ss' G' A' M' H', Same G G' → Wd X.K B G' A' M' H' → Sl X.K G' A' σ' ss' → Q ss' M' → Kq σ' H') → tgW X tg v σ H Kq := ⟨WG.run⟩

/-! ### values looked through -/
def SV.get (M : Mem) : SV → Option D
  | .dat d => some d
  | .cel i => match M[i]? with
    | some (.lst ds) => some (.lst ds)
    | some (.dic kvs) => some (.dic kvs)
    | _ => none
  | .raw _ => none
  | .exc _ _ _ => none
  | .tup _ => none
/-- shallow in H, deep in G -/
def RepS (K : PySem.W.Frag) (G H : Hp) (v : V) : D → Prop
  | .lst ds => ∃ a vs, v = .ref a ∧ Rd H a (.lst vs) ∧ Reps K G vs ds
  | .tup ds => ∃ a vs, v = .ref a ∧ SqT K H a vs ∧ Reps K G vs ds
  | .ins C fs => ∃ a dx fv, v = .ref a ∧ H a = some (.ins C dx fv) ∧ RepF K G fv fs
  | .dic kvs => ∃ a kv, v = .ref a ∧ H a = some (.dK kv) ∧ RepK K G kv kvs
  | .non => v = .non
  | .bl b => v = .bl b
  | .int i => v = .int i
  | .str x => v = .str x ∧ SOk x
theorem Rep.s {K : PySem.W.Frag} {G H : Hp} {v : V} {d : D} (e : Same G H) (h : Rep K G v d) : RepS K G H v d := by
  cases h with
  | non => rfl
  | bl b => rfl
  | int i => rfl
  | str x h => exact ⟨rfl, h⟩
  | lst h r => exact ⟨_, _, rfl, rdM e h, r⟩
  | tup h r => exact ⟨_, _, rfl, sqtM e h, r⟩
  | ins h r => exact ⟨_, _, _, rfl, e _ _ h, r⟩
  | dic h r => exact ⟨_, _, rfl, e _ _ h, r⟩
theorem SvOk.s {K : PySem.W.Frag} {B : Base} {G : Hp} {A : List Addr} {M : Mem} {H : Hp} {v : V} {x : SV} {d : D} (w : Wd K B G A M H) (h : SvOk K G A v x) (hx : x.get M = some d) : RepS K G H v d := by
  cases x with
  | dat d' => simp only [SV.get, Option.some.injEq] at hx; subst hx; exact Rep.s w.gh h
  | raw u => simp [SV.get] at hx
  | exc u v w => simp [SV.get] at hx
  | tup xs => simp [SV.get] at hx
  | cel i =>
    obtain ⟨a, rfl, ha⟩ := h
    simp only [SV.get] at hx
    cases hM : M[i]? with
    | none => simp [hM] at hx
    | some c =>
      have q := w.cl.get ha hM
      cases c with
      | dead => simp [hM] at hx
      | ins C fs => simp [hM] at hx
      | mix xs => simp [hM] at hx
      | lst ds =>
        simp only [hM, Option.some.injEq] at hx; subst hx
        obtain ⟨_, vs, h1, r⟩ := q
        exact ⟨a, vs, rfl, .inl h1, r⟩
      | dic ds =>
        simp only [hM, Option.some.injEq] at hx; subst hx
        obtain ⟨_, vs, h1, r⟩ := q
        exact ⟨a, vs, rfl, h1, r⟩
/-- k of the data that x is -/
def with10 (M : Mem) (x : SV) (k : D → Prop) : Prop := match x.get M with
  | some d => k d
  | none => False
structure with1 (M : Mem) (x : SV) (k : D → Prop) : Prop where
  run : with10 M x k
theorem with1_get {M : Mem} {x : SV} {k : D → Prop} (h : with1 M x k) : ∃ d, x.get M = some d ∧ k d := by
  have h := h.run
  unfold with10 at h
  cases e : x.get M with
  | none => simp [e] at h
  | some d => simp [e] at h; exact ⟨d, rfl, h⟩
theorem with1_mk {M : Mem} {x : SV} {k : D → Prop} {d : D} (e : x.get M = some d) (h : k d) : with1 M x k := ⟨by unfold with10; rw [e]; exact h⟩
section
variable {K : PySem.W.Frag} {B : Base} {G : Hp} {A : List Addr} {M : Mem} {H : Hp} {Q : SV → Mem → Prop} {Kq : VK}
/-- the end of an expression whose value is flat -/
theorem VPost.flat (k : VPost K B G A Q Kq) {G' : Hp} {A' : List Addr} {v : V} {d : D} (e : Ext G A G' A') (w : Wd K B G' A' M H) (r : Rep K G' v d) (q : Q (.dat d) M) : Kq v H := k v (.dat d) G' A' M H e w r q
/-- .. a new object, frozen -/
theorem VPost.new (k : VPost K B G A Q Kq) {G' : Hp} {A' : List Addr} {d : D} {o : HO} (e : Ext G A G' A') (w : Wd K B G' A' M H) (q : Q (.dat d) M) (r : ∀ p, H p = none → Rep K (upd G' p o) (.ref p) d) : ∀ p, H p = none → Kq (.ref p) (upd H p o) := fun p hp => by
  obtain ⟨w2, e2⟩ := w.newD (o := o) hp
  exact k _ (.dat d) _ _ _ _ (e.trans e2) w2 (r p hp) q
end
end Mb

/-! Mb, part 2: expressions. -/
namespace Mb
open PySem L2
section
variable {X : Cx} {B : Base} {ex : XD} {ss : Sst} {M : Mem} {a b c e : Expr} {es : List Expr} {pos p : Pos} {Q : SV → Mem → Prop}

theorem WE.mono {Q' : SV → Mem → Prop} (h : WE X B ex e Q ss M) (m : ∀ x M', Q x M' → Q' x M') : WE X B ex e Q' ss M := .mk fun ck G A H σ w sl Kq k =>
  h ck G A H σ w sl Kq fun v x G' A' M' H' e w' s q => k v x G' A' M' H' e w' s (m _ _ q)

/-! ### names, constants -/
theorem we_var {x : Str} {i : Nat} {v : SV} (hN : X.N[i]? = some x) (hv : Vis X.env.scope x) (hs : ss[i]? = some (some v)) (q : Q v M) (hd : (x == ("__debug__" : Str)) = false := by decide) (hcd : (x == ("__classdict__" : Str)) = false := by decide) : WE X B ex (.Name x pos) Q ss M := by
  refine .mk fun ck G A H σ w sl Kq k => ?_
  obtain ⟨u, h1, h2⟩ := sl.get hs
  exact te_of (pe_var hN hv hd hcd) ⟨u, h1, k u v G A M H .refl w h2 q⟩
theorem we_c {v : V} {d : D} (he : PE X e (tC v)) (r : ∀ G, Rep X.K G v d) (q : Q (.dat d) M) : WE X B ex e Q ss M := by
  refine .mk fun ck G A H σ w sl Kq k => ?_
  exact te_of he (k v (.dat d) G A M H .refl w (r G) q)
theorem we_int {i : Int} {j : Nat} (q : Q (.dat (.int i)) M) : WE X B ex (.Constant (.int i) j pos) Q ss M := we_c pe_int (fun _ => .int i) q
theorem we_bl {i : Bool} {j : Nat} (q : Q (.dat (.bl i)) M) : WE X B ex (.Constant (.bool i) j pos) Q ss M := we_c pe_bl (fun _ => .bl i) q
theorem we_non {j : Nat} (q : Q (.dat .non) M) : WE X B ex (.Constant .none j pos) Q ss M := we_c pe_non (fun _ => .non) q
theorem we_str {x : Str} {j : Nat} (hz : SOk x) (q : Q (.dat (.str x)) M) : WE X B ex (.Constant (.str x) j pos) Q ss M := we_c pe_str (fun _ => .str x hz) q
/-- a module's constant -/
theorem we_globI {x : Str} {i : Int} {t : Tok} (hg : Gl X x) (hm : X.mg x = some (.int i t)) (q : Q (.dat (.int i)) M) (hd : (x == ("__debug__" : Str)) = false := by decide) : WE X B ex (.Name x pos) Q ss M :=
  we_c (pe_glob (v := .int i) hg hm ⟨_, rfl⟩ hd) (fun _ => .int i) q
theorem we_globS {x y : Str} {t : Tok} (hg : Gl X x) (hm : X.mg x = some (.str y t)) (hz : SOk y) (q : Q (.dat (.str y)) M) (hd : (x == ("__debug__" : Str)) = false := by decide) : WE X B ex (.Name x pos) Q ss M :=
  we_c (pe_glob (v := .str y) hg hm ⟨_, rfl⟩ hd) (fun _ => .str y hz) q
/-- a class or a def of the module as a bare value -/
theorem we_globR {x : Str} {a : Addr} (hg : Gl X x) (hm : X.mg x = some (.ref a)) (q : Q (.raw (.ref a)) M) (hd : (x == ("__debug__" : Str)) = false := by decide) : WE X B ex (.Name x pos) Q ss M := by
  refine .mk fun ck G A H σ w sl Kq k => ?_
  exact te_of (pe_glob (v := .ref a) hg hm rfl hd) (k (.ref a) (.raw (.ref a)) G A M H .refl w rfl q)
theorem we_bltn {x : Str} {n : String} (hg : Gl X x) (hm : X.mg x = none) (hv : bootBuiltins x = some (.type n)) (q : Q (.raw (.ty n)) M) (hn : x ≠ "__name__" := by decide) (hd : (x == ("__debug__" : Str)) = false := by decide) : WE X B ex (.Name x pos) Q ss M := by
  refine .mk fun ck G A H σ w sl Kq k => ?_
  exact te_of (pe_bltn (v := .ty n) hg hm hv rfl hn hd) (k (.ty n) (.raw (.ty n)) G A M H .refl w rfl q)

/-! ### two operands -/
/-- the general form: r's reading from what the two values are -/
theorem we_op2 {op : Operator} {r : R2} {f : Mem → SV → SV → (SV → Mem → Prop) → Prop} (ho : OpR X (binaryOp op) r)
    (hf : ∀ G A H M x y u v Q Kq, Wd X.K B G A M H → SvOk X.K G A u x → SvOk X.K G A v y → f M x y Q → VPost X.K B G A Q Kq → r u v H Kq)
    (h : WE X B ex a (fun x M1 => WE X B ex b (fun y M2 => f M2 x y Q) ss M1) ss M) : WE X B ex (.BinOp a op b pos) Q ss M := by
  refine .mk fun ck G A H σ w sl Kq k => ?_
  refine te_of (pe_op ho pe_self pe_self) ?_
  refine h ck G A H σ w sl _ fun u x G1 A1 M1 H1 e1 w1 s1 h1 => ?_
  refine h1 ck G1 A1 H1 σ w1 (sl.mono e1) _ fun v y G2 A2 M2 H2 e2 w2 s2 h2 => ?_
  exact hf G2 A2 H2 M2 x y u v Q Kq w2 (s1.mono e2) s2 h2 fun v x G' A' M' H' e => k v x G' A' M' H' ((e1.trans e2).trans e)
theorem we_cmp2 {op : CmpOp} {r : R2} {f : Mem → SV → SV → (SV → Mem → Prop) → Prop} (ho : OpR X (compareOp op) r) (hm : behindInMarks op b = false)
    (hf : ∀ G A H M x y u v Q Kq, Wd X.K B G A M H → SvOk X.K G A u x → SvOk X.K G A v y → f M x y Q → VPost X.K B G A Q Kq → r u v H Kq)
    (h : WE X B ex a (fun x M1 => WE X B ex b (fun y M2 => f M2 x y Q) ss M1) ss M) : WE X B ex (.Compare a [op] [b] pos) Q ss M := by
  refine .mk fun ck G A H σ w sl Kq k => ?_
  refine te_of (pe_cmpR ho pe_self pe_self hm) ?_
  refine h ck G A H σ w sl _ fun u x G1 A1 M1 H1 e1 w1 s1 h1 => ?_
  refine h1 ck G1 A1 H1 σ w1 (sl.mono e1) _ fun v y G2 A2 M2 H2 e2 w2 s2 h2 => ?_
  exact hf G2 A2 H2 M2 x y u v Q Kq w2 (s1.mono e2) s2 h2 fun v x G' A' M' H' e => k v x G' A' M' H' ((e1.trans e2).trans e)
/-- the same as a test -/
theorem wt_cmp2 {op : CmpOp} {r : R2} {f : Mem → SV → SV → (SV → Mem → Prop) → Prop} {Q : Bool → Mem → Prop} (ho : OpR X (compareOp op) r) (hm : behindInMarks op b = false)
    (hf : ∀ G A H M x y u v Q Kq, Wd X.K B G A M H → SvOk X.K G A u x → SvOk X.K G A v y → f M x y Q → VPost X.K B G A Q Kq → r u v H Kq)
    (h : WE X B ex a (fun x M1 => WE X B ex b (fun y M2 => f M2 x y fun z M3 => ∃ k, z = .dat (.bl k) ∧ Q k M3) ss M1) ss M) : WT X B ex (.Compare a [op] [b] pos) Q ss M := by
  refine .mk fun ck G A H σ w sl Kq k => ?_
  refine tt_of (pt_cmpR ho pe_self pe_self hm) ?_
  refine h ck G A H σ w sl _ fun u x G1 A1 M1 H1 e1 w1 s1 h1 => ?_
  refine h1 ck G1 A1 H1 σ w1 (sl.mono e1) _ fun v y G2 A2 M2 H2 e2 w2 s2 h2 => ?_
  refine hf G2 A2 H2 M2 x y u v _ _ w2 (s1.mono e2) s2 h2 fun v x G' A' M' H' e w' s' q => ?_
  obtain ⟨i, rfl, q⟩ := q
  cases s'
  exact ⟨i, rfl, k i G' A' M' H' ((e1.trans e2).trans e) w' q⟩

/-! ### sums, products -/
/-- a + b of two lists, whatever bears them -/
def rCatL : R2 := fun x y H Q => ∃ l b xs zs, x = .ref l ∧ y = .ref b ∧ Rd H l (.lst xs) ∧ Rd H b (.lst zs) ∧ xs.length + zs.length ≤ sizeLine ∧ ∀ p, H p = none → Q (.ref p) (upd H p (.lst (xs ++ zs)))
theorem op_catL : OpR X (binaryOp .Add) rCatL := by
  intro pins s σ H x y v u Q I rx ry h
  obtain ⟨l, b, xs, zs, rfl, rfl, hH, hB, hz, q⟩ := h
  cases rx
  cases ry
  obtain ⟨_, i1, n1, r1, e1⟩ := hH.ok I.hok
  obtain ⟨_, i2, n2, r2, e2⟩ := hB.ok I.hok
  have l1 := r1.length
  have l2 := r2.length
  refine PySem.P.add_list e1 e2 ?_ (by rw [List.size_toArray, List.size_toArray]; omega)
  have ea : i1.toArray ++ i2.toArray = (i1 ++ i2).toArray := by simp
  rw [ea]
  exact ⟨.ref _, _, I.lnew (t' := s.toks) (r1.append r2) (by rw [List.length_append]; omega), rfl, q _ I.fresh⟩
def addD0 (a b : D) (k : D → Prop) : Prop := match a, b with
  | .int i, .int j => k (.int (i + j))
  | .str x, .str y => x.length + y.length ≤ sizeLine ∧ k (.str (x ++ y))
  | .lst x, .lst y => x.length + y.length ≤ sizeLine ∧ k (.lst (x ++ y))
  | .tup x, .tup y => x.length + y.length ≤ sizeLine ∧ k (.tup (x ++ y))
  | _, _ => False
structure addD (a b : D) (k : D → Prop) : Prop where
  run : addD0 a b k
def add2 (M : Mem) (x y : SV) (Q : SV → Mem → Prop) : Prop := with1 M x fun a => with1 M y fun b => addD a b fun d => Q (.dat d) M
theorem str_len_app (x y : Str) : (x ++ y).length = x.length + y.length := by
  show (x.cps ++ y.cps).size = x.cps.size + y.cps.size
  exact Array.size_append
theorem SOk.app {x y : Str} (hx : SOk x) (hy : SOk y) (h : x.length + y.length ≤ sizeLine) : SOk (x ++ y) := by
  refine ⟨by rw [str_len_app]; exact h, ?_⟩
  have a := hx.2
  have b := hy.2
  unfold PyData.strOk at a b ⊢
  show (x.cps ++ y.cps).all _ = true
  rw [Array.all_append, a, b]
  rfl
theorem we_add (h : WE X B ex a (fun x M1 => WE X B ex b (fun y M2 => add2 M2 x y Q) ss M1) ss M) : WE X B ex (.BinOp a .Add b pos) Q ss M := by
  refine we_op2 (f := add2) (OpR.or op_add (OpR.or op_add_str (OpR.or op_catL op_catA))) (fun G A H M x y u v Q Kq w sx sy hh k => ?_) h
  obtain ⟨d1, g1, hh⟩ := with1_get hh
  obtain ⟨d2, g2, hh⟩ := with1_get hh
  have q1 := sx.s w g1
  have q2 := sy.s w g2
  have hh := hh.run
  cases d1 <;> cases d2 <;> try exact hh.elim
  · obtain rfl := q1
    obtain rfl := q2
    exact .inl ⟨_, _, rfl, rfl, k.flat .refl w (.int _) hh⟩
  · obtain ⟨rfl, z1⟩ := q1
    obtain ⟨rfl, z2⟩ := q2
    exact .inr (.inl ⟨_, _, rfl, rfl, hh.1, k.flat .refl w (.str _ (z1.app z2 hh.1)) hh.2⟩)
  · obtain ⟨a1, v1, rfl, h1, r1⟩ := q1
    obtain ⟨a2, v2, rfl, h2, r2⟩ := q2
    refine .inr (.inr (.inl ⟨_, _, v1, v2, rfl, rfl, h1, h2, by rw [r1.length, r2.length]; exact hh.1, k.new .refl w hh.2 fun p hp => ?_⟩))
    exact .lst (.inl upd_same) ((r1.append r2).mono (same_upd (w.none hp).2.2))
  · obtain ⟨a1, v1, rfl, h1, r1⟩ := q1
    obtain ⟨a2, v2, rfl, h2, r2⟩ := q2
    refine .inr (.inr (.inr ⟨_, _, v1, v2, rfl, rfl, h1, h2, by rw [r1.length, r2.length]; exact hh.1, fun e => ?_, fun n e => ?_, fun n1 n2 => k.new .refl w hh.2 fun p hp => ?_⟩))
    · subst e
      cases r1
      exact k _ (.dat _) G A M H .refl w (by cases sy' : y with
        | dat d => rw [sy'] at sy g2; simp only [SV.get, Option.some.injEq] at g2; subst g2; exact sy
        | raw u => rw [sy'] at g2; simp [SV.get] at g2
        | exc u v w => rw [sy'] at g2; simp [SV.get] at g2
        | tup xs => rw [sy'] at g2; simp [SV.get] at g2
        | cel i => rw [sy'] at g2; simp only [SV.get] at g2; split at g2 <;> cases g2) hh.2
    · subst e
      cases r2
      have hh2 := hh.2
      rw [List.append_nil] at hh2
      exact k _ (.dat _) G A M H .refl w (by cases sy' : x with
        | dat d => rw [sy'] at sx g1; simp only [SV.get, Option.some.injEq] at g1; subst g1; exact sx
        | raw u => rw [sy'] at g1; simp [SV.get] at g1
        | exc u v w => rw [sy'] at g1; simp [SV.get] at g1
        | tup xs => rw [sy'] at g1; simp [SV.get] at g1
        | cel i => rw [sy'] at g1; simp only [SV.get] at g1; split at g1 <;> cases g1) hh2
    · exact .tup (.of upd_same) ((r1.append r2).mono (same_upd (w.none hp).2.2))
/-- an operation of two ints -/
theorem we_opI {op : Operator} {C : Int → Int → Prop} {g : Int → Int → Int} (ho : OpR X (binaryOp op) (rI C fun i j => .int (g i j)))
    (h : WE X B ex a (fun x M1 => WE X B ex b (fun y M2 => with1 M2 x fun p => with1 M2 y fun q => match p, q with
      | .int i, .int j => C i j ∧ Q (.dat (.int (g i j))) M2
      | _, _ => False) ss M1) ss M) : WE X B ex (.BinOp a op b pos) Q ss M := by
  refine we_op2 (f := fun M2 x y Q => with1 M2 x fun p => with1 M2 y fun q => match p, q with
      | .int i, .int j => C i j ∧ Q (.dat (.int (g i j))) M2
      | _, _ => False) ho (fun G A H M x y u v Q Kq w sx sy hh k => ?_) h
  obtain ⟨d1, g1, hh⟩ := with1_get hh
  obtain ⟨d2, g2, hh⟩ := with1_get hh
  have q1 := sx.s w g1
  have q2 := sy.s w g2
  cases d1 <;> cases d2 <;> try exact hh.elim
  obtain rfl := q1
  obtain rfl := q2
  exact ⟨_, _, rfl, rfl, hh.1, k.flat .refl w (.int _) hh.2⟩
theorem we_opI0 {op : Operator} {g : Int → Int → Int} (ho : OpR X (binaryOp op) (rI0 fun i j => .int (g i j)))
    (h : WE X B ex a (fun x M1 => WE X B ex b (fun y M2 => with1 M2 x fun p => with1 M2 y fun q => match p, q with
      | .int i, .int j => Q (.dat (.int (g i j))) M2
      | _, _ => False) ss M1) ss M) : WE X B ex (.BinOp a op b pos) Q ss M := by
  refine we_op2 (f := fun M2 x y Q => with1 M2 x fun p => with1 M2 y fun q => match p, q with
      | .int i, .int j => Q (.dat (.int (g i j))) M2
      | _, _ => False) ho (fun G A H M x y u v Q Kq w sx sy hh k => ?_) h
  obtain ⟨d1, g1, hh⟩ := with1_get hh
  obtain ⟨d2, g2, hh⟩ := with1_get hh
  have q1 := sx.s w g1
  have q2 := sy.s w g2
  cases d1 <;> cases d2 <;> try exact hh.elim
  obtain rfl := q1
  obtain rfl := q2
  exact ⟨_, _, rfl, rfl, k.flat .refl w (.int _) hh⟩

theorem we_sub (h : WE X B ex a (fun x M1 => WE X B ex b (fun y M2 => with1 M2 x fun p => with1 M2 y fun q => match p, q with
      | .int i, .int j => Q (.dat (.int (i - j))) M2
      | _, _ => False) ss M1) ss M) : WE X B ex (.BinOp a .Sub b pos) Q ss M := we_opI0 op_sub h
theorem we_fdiv (h : WE X B ex a (fun x M1 => WE X B ex b (fun y M2 => with1 M2 x fun p => with1 M2 y fun q => match p, q with
      | .int i, .int j => CDiv i j ∧ Q (.dat (.int (i / j))) M2
      | _, _ => False) ss M1) ss M) : WE X B ex (.BinOp a .FloorDiv b pos) Q ss M := we_opI op_fdiv h
theorem we_mod (h : WE X B ex a (fun x M1 => WE X B ex b (fun y M2 => with1 M2 x fun p => with1 M2 y fun q => match p, q with
      | .int i, .int j => 0 < j ∧ Q (.dat (.int (i % j))) M2
      | _, _ => False) ss M1) ss M) : WE X B ex (.BinOp a .Mod b pos) Q ss M := we_opI op_mod h
theorem we_pow (h : WE X B ex a (fun x M1 => WE X B ex b (fun y M2 => with1 M2 x fun p => with1 M2 y fun q => match p, q with
      | .int i, .int j => CPow i j ∧ Q (.dat (.int (i ^ j.toNat))) M2
      | _, _ => False) ss M1) ss M) : WE X B ex (.BinOp a .Pow b pos) Q ss M := we_opI op_pow h
/-- a list n times -/
def mulD0 (a b : D) (k : D → Prop) : Prop := match a, b with
  | .int i, .int j => CMul i j ∧ k (.int (i * j))
  | .lst x, .int n => (-(2 ^ 63) ≤ n ∧ n < 2 ^ 63 ∧ x.length * n.toNat ≤ sizeLine) ∧ k (.lst (List.replicate n.toNat x).flatten)
  | _, _ => False
structure mulD (a b : D) (k : D → Prop) : Prop where
  run : mulD0 a b k
def mul2 (M : Mem) (x y : SV) (Q : SV → Mem → Prop) : Prop := with1 M x fun a => with1 M y fun b => mulD a b fun d => Q (.dat d) M
theorem Reps.flat {K : PySem.W.Frag} {G : Hp} {vs : List V} {ds : List D} (r : Reps K G vs ds) : ∀ n : Nat, Reps K G (List.replicate n vs).flatten (List.replicate n ds).flatten
  | 0 => .nil
  | n + 1 => by
    rw [List.replicate_succ, List.replicate_succ, List.flatten_cons, List.flatten_cons]
    exact r.append (Reps.flat r n)
def rRepT : R2 := fun x y H Q => ∃ l k xs, x = .ref l ∧ y = .int k ∧ Rd H l (.lst xs) ∧ -(2 ^ 63) ≤ k ∧ k < 2 ^ 63 ∧ xs.length * k.toNat ≤ sizeLine ∧
  ∀ p, H p = none → Q (.ref p) (upd H p (.lst (List.replicate k.toNat xs).flatten))
theorem op_repT : OpR X (binaryOp .Mult) rRepT := by
  intro pins s σ H x y v u Q I rx ry hh
  obtain ⟨l, k, xs, rfl, rfl, hH, h1, h2, hz, q⟩ := hh
  cases rx
  obtain ⟨t, rfl⟩ := ry
  obtain ⟨z, its, n, r, e⟩ := hH.ok I.hok
  have hl := r.length
  have n1 : its.toArray.size * k.toNat ≤ sizeLine := by rw [List.size_toArray, ← hl]; exact hz
  have n2 : ¬ its.toArray.size * k.toNat > (2 ^ 63 - 1) / 8 := by
    have z8 : (sizeLine : Nat) ≤ (2 ^ 63 - 1) / 8 := by decide
    omega
  have n3 : ¬ (!Builtin.List.listFitsIndex k) = true := by
    rw [fitsIndex_both h1 h2]; simp
  have n4 : ¬ Builtin.List.listTooLong (its.toArray.size * k.toNat) = true := by
    rw [notLongL n1]; simp
  have f0 : ∀ m : Nat, List.foldl (fun x1 x2 => x1 ++ x2) #[] (List.replicate m its.toArray) = (List.replicate m its).flatten.toArray := fun m => by
    have z := foldl_rep its m []
    rwa [List.nil_append] at z
  have n5 : List.foldl (fun x1 x2 => x1 ++ x2) #[] (List.replicate (if its.toArray.isEmpty = true then 0 else k.toNat) its.toArray) = (List.replicate k.toNat its).flatten.toArray := by
    rw [f0]
    cases its with
    | nil => simp
    | cons a r' => rw [if_neg (by simp)]
  refine wpAny_binaryOp_repeat_ref (T := "list") (U := "int") (by decide) ⟨_, e, rfl⟩ (fun s' => typeIs_int s' k t) noFill_list_mul F.fills_int_mul F.slot_int_rmul repeat_list F.slot_int_index.lookup ?_
  refine call_meets F.slot_int_rmul (typeIs_int s k t) F.entry_int_rmul (F.args_int_rmul_2 _ _) (int___rmul___int_list k t l its.toArray n) ⟨e, rfl, ⟨_, e, rfl⟩, ?_⟩
  refine call_meets F.slot_list_mul ⟨_, e, rfl⟩ F.entry_list_mul (F.args_list_mul_2 _ _) (AutoListH.list___mul___list_int_3 l its.toArray n k t n3 n2 n4) ⟨e, ?_⟩
  rw [n5]
  exact ⟨.ref _, _, I.lnew (t' := s.toks) (r.rep k.toNat) (by rw [PyProof.Rows.lm_len_rep_flat, Nat.mul_comm]; exact hz), rfl, q _ I.fresh⟩
theorem we_mul (h : WE X B ex a (fun x M1 => WE X B ex b (fun y M2 => mul2 M2 x y Q) ss M1) ss M) : WE X B ex (.BinOp a .Mult b pos) Q ss M := by
  refine we_op2 (f := mul2) (OpR.or op_mul op_repT) (fun G A H M x y u v Q Kq w sx sy hh k => ?_) h
  obtain ⟨d1, g1, hh⟩ := with1_get hh
  obtain ⟨d2, g2, hh⟩ := with1_get hh
  have q1 := sx.s w g1
  have q2 := sy.s w g2
  have hh := hh.run
  cases d1 <;> cases d2 <;> try exact hh.elim
  · obtain rfl := q1
    obtain rfl := q2
    exact .inl ⟨_, _, rfl, rfl, hh.1, k.flat .refl w (.int _) hh.2⟩
  · obtain ⟨a1, v1, rfl, h1, r1⟩ := q1
    obtain rfl := q2
    refine .inr ⟨_, _, v1, rfl, rfl, h1, hh.1.1, hh.1.2.1, by rw [r1.length]; exact hh.1.2.2, k.new .refl w hh.2 fun p hp => ?_⟩
    exact .lst (.inl upd_same) ((r1.flat _).mono (same_upd (w.none hp).2.2))

/-! ### comparisons of ints -/
theorem we_cmpI {op : CmpOp} {g : Int → Int → Bool} (ho : OpR X (compareOp op) (rI0 fun i j => .bl (g i j))) (hm : behindInMarks op b = false)
    (h : WE X B ex a (fun x M1 => WE X B ex b (fun y M2 => with1 M2 x fun p => with1 M2 y fun q => match p, q with
      | .int i, .int j => Q (.dat (.bl (g i j))) M2
      | _, _ => False) ss M1) ss M) : WE X B ex (.Compare a [op] [b] pos) Q ss M := by
  refine we_cmp2 (f := fun M2 x y Q => with1 M2 x fun p => with1 M2 y fun q => match p, q with
      | .int i, .int j => Q (.dat (.bl (g i j))) M2
      | _, _ => False) ho hm (fun G A H M x y u v Q Kq w sx sy hh k => ?_) h
  obtain ⟨d1, g1, hh⟩ := with1_get hh
  obtain ⟨d2, g2, hh⟩ := with1_get hh
  have q1 := sx.s w g1
  have q2 := sy.s w g2
  cases d1 <;> cases d2 <;> try exact hh.elim
  obtain rfl := q1
  obtain rfl := q2
  exact ⟨_, _, rfl, rfl, k.flat .refl w (.bl _) hh⟩
theorem wt_cmpI {op : CmpOp} {g : Int → Int → Bool} {Q : Bool → Mem → Prop} (ho : OpR X (compareOp op) (rI0 fun i j => .bl (g i j))) (hm : behindInMarks op b = false)
    (h : WE X B ex a (fun x M1 => WE X B ex b (fun y M2 => with1 M2 x fun p => with1 M2 y fun q => match p, q with
      | .int i, .int j => Q (g i j) M2
      | _, _ => False) ss M1) ss M) : WT X B ex (.Compare a [op] [b] pos) Q ss M := by
  refine wt_cmp2 (f := fun M2 x y Q => with1 M2 x fun p => with1 M2 y fun q => match p, q with
      | .int i, .int j => Q (.dat (.bl (g i j))) M2
      | _, _ => False) ho hm (fun G A H M x y u v Q Kq w sx sy hh k => ?_) (h.mono fun x M1 h1 => h1.mono fun y M2 hh => ?_)
  · obtain ⟨d1, g1, hh⟩ := with1_get hh
    obtain ⟨d2, g2, hh⟩ := with1_get hh
    have q1 := sx.s w g1
    have q2 := sy.s w g2
    cases d1 <;> cases d2 <;> try exact hh.elim
    obtain rfl := q1
    obtain rfl := q2
    exact ⟨_, _, rfl, rfl, k.flat .refl w (.bl _) hh⟩
  · obtain ⟨d1, g1, hh⟩ := with1_get hh
    obtain ⟨d2, g2, hh⟩ := with1_get hh
    cases d1 <;> cases d2 <;> try exact hh.elim
    exact with1_mk g1 (with1_mk g2 ⟨_, rfl, hh⟩)
end
end Mb

/-! Mb, part 3: statements, defs. -/
namespace Mb
open PySem L2 PyProof.Rows
section
variable {X : Cx} {B : Base} {ex : XD} {ss : Sst} {M : Mem} {a b c e tg : Expr} {es : List Expr} {pos p p' : Pos} {N : Nd} {st : Stmt} {sts sts' : List Stmt}

/-! ### blocks -/
theorem wb_nil (q : N.nx ss M) : WB X B ex [] N ss M := .mk fun ck G A H σ w sl E k => tb_of pss_nil (k.nx σ ss G A M H (Same.refl _) w sl q)
theorem wb_cons (h : WS X B ex st { N with nx := fun ss' M' => WB X B ex sts N ss' M' } ss M) : WB X B ex (st :: sts) N ss M := .mk fun ck G A H σ w sl E k => by
  refine tb_of (pss_cons ps_self pb_self) ?_
  refine h ck G A H σ w sl _ ⟨fun σ' ss' G' A' M' H' s' w' sl' q => ?_, k.rt, k.bk, k.ct⟩
  exact q ck G' A' H' σ' w' sl' E (k.mono s')
theorem wb_one (h : WS X B ex st N ss M) : WB X B ex [st] N ss M := .mk fun ck G A H σ w sl E k => tb_of (pss_one ps_self) (h ck G A H σ w sl E k)
/-- slots and cells forgotten -/
theorem wb_forget {ss' : Sst} {k : Nat} (hf : Fgt ss ss') (hk : B.A.length ≤ k) (hM : (M.take k).all (Cell.lt k) = true) (hs : (ss'.all fun o => match o with | some x => x.lt k | none => true) = true) (h : WB X B ex sts N ss' (M.take k)) : WB X B ex sts N ss M := .mk fun ck G A H σ w sl E q => by
  refine h ck G (A.take k) H σ (w.drop k hk hM) ?_ E q
  have s2 := sl.fgt hf
  clear sl hf h
  induction s2 with
  | nil => exact .nil
  | skip r ih => exact .skip (ih (by simpa using hs))
  | cons h1 r ih =>
    rw [List.all_cons, Bool.and_eq_true] at hs
    exact .cons (h1.cut hs.1) (ih hs.2)
theorem ws_pass (q : N.nx ss M) : WS X B ex (.Pass pos) N ss M := .mk fun ck G A H σ w sl E k => ts_of ps_pass (k.nx σ ss G A M H (Same.refl _) w sl q)
theorem ws_break (q : N.bk ss M) : WS X B ex (.Break pos) N ss M := .mk fun ck G A H σ w sl E k => ts_of ps_break (k.bk σ ss G A M H (Same.refl _) w sl q)
theorem ws_continue (q : N.ct ss M) : WS X B ex (.Continue pos) N ss M := .mk fun ck G A H σ w sl E k => ts_of ps_continue (k.ct σ ss G A M H (Same.refl _) w sl q)
theorem ws_expr (h : WE X B ex e (fun _ M' => N.nx ss M') ss M) (hs : swapsWith e none pos.line X.env = pure false := by rfl) : WS X B ex (.Expr e pos) N ss M := .mk fun ck G A H σ w sl E k => by
  refine ts_of (ps_expr pe_self hs) ?_
  exact h ck G A H σ w sl _ fun v x G' A' M' H' e' w' s q => k.nx σ ss G' A' M' H' e'.1 w' (sl.mono e') q
theorem ws_ret (h : WE X B ex e N.rt ss M) : WS X B ex (.Return (some e) pos) N ss M := .mk fun ck G A H σ w sl E k => by
  refine ts_of (ps_ret pe_self) ?_
  exact h ck G A H σ w sl _ fun v x G' A' M' H' e' w' s q => k.rt v x G' A' M' H' e'.1 w' s q
theorem ws_if (h : WT X B ex c (fun b M' => if b = true then WB X B ex sts N ss M' else WB X B ex sts' N ss M') ss M) : WS X B ex (.If c sts sts' pos) N ss M := .mk fun ck G A H σ w sl E k => by
  refine ts_of (ps_if pt_self pb_self pb_self) ?_
  refine h ck G A H σ w sl _ fun b G' A' M' H' e' w' q => ?_
  cases b with
  | true => rw [if_pos rfl] at q ⊢; exact q ck G' A' H' σ w' (sl.mono e') E (k.mono e'.1)
  | false => rw [if_neg Bool.false_ne_true] at q ⊢; exact q ck G' A' H' σ w' (sl.mono e') E (k.mono e'.1)
/-! ### assignments -/
theorem ws_set {i : Nat} {x : Str} (hN : X.N.Nodup) (hi : X.N[i]? = some x) (hx : Loc X.env.scope x) (h : WE X B ex e (fun v M' => N.nx (ss.set i (some v)) M') ss M)
    (hs : swapsWith e (some (.Name x p')) pos.line X.env = pure false := by rfl) (hf : X.fn x = true ∨ X.env.scope.names.lookup x = some .local := by first | exact .inl rfl | exact .inr rfl | assumption) : WS X B ex (.Assign [.Name x p'] e pos) N ss M := .mk fun ck G A H σ w sl E k => by
  refine ts_of (ps_set hN hi hx pe_self hs hf) ?_
  exact h ck G A H σ w sl _ fun v y G' A' M' H' e' w' s q => k.nx _ _ G' A' M' H' e'.1 w' ((sl.mono e').set s i) q
/-- target = value, any target -/
theorem ws_asg (h : WE X B ex e (fun v M' => WG X B ex tg v N.nx ss M') ss M) (hs : swapsWithSole [tg] e pos.line X.env = pure false := by rfl) (hw : swappedStores [tg] e X.env = pure none := by rfl) (h1 : (assignEach [tg] X.env).map (·.2) = [assign tg X.env] := by rfl) :
    WS X B ex (.Assign [tg] e pos) N ss M := .mk fun ck G A H σ w sl E k => by
  refine ts_of (ps_asg pe_self pg_self hs hw h1) ?_
  refine h ck G A H σ w sl _ fun v y G' A' M' H' e' w' s q => ?_
  exact q ck G' A' H' σ v w' (sl.mono e') s _ fun σ' ss' G2 A2 M2 H2 s2 w2 sl2 q2 => k.nx σ' ss' G2 A2 M2 H2 (e'.1.trans s2) w2 sl2 q2
theorem wg_name {i : Nat} {x : Str} {v : SV} {Q : Sst → Mem → Prop} (hN : X.N.Nodup) (hi : X.N[i]? = some x) (hx : Loc X.env.scope x) (q : Q (ss.set i (some v)) M) (hf : X.fn x = true ∨ X.env.scope.names.lookup x = some .local := by first | exact .inl rfl | exact .inr rfl | assumption) :
    WG X B ex (.Name x pos) v Q ss M := .mk fun ck G A H σ u w sl s Kq k => tg_of (pg_name hN hi hx hf) (k _ _ G A M H (Same.refl _) w (sl.set s i) q)
/-- xs[i] = v, xs a list of ours -/
theorem wg_item {v : SV} {Q : Sst → Mem → Prop} (h : WE X B ex a (fun x M1 => WE X B ex b (fun y M2 => ∃ (i : Nat) (ds : List D) (n : Int) (j : Nat) (d : D), x = .cel i ∧ y = .dat (.int n) ∧ v = .dat d ∧ M2[i]? = some (.lst ds) ∧ ixN ds.length n = some j ∧ Q ss (M2.set i (.lst (ds.set j d)))) ss M1) ss M)
    (ha : ∀ v, assign (.Subscript a b pos) X.env v = (do
      let ov ← holding [v] (eval a X.env)
      let iv ← holding [v, ov] (eval b X.env)
      standAt pos
      holding [v, ov, iv] (setItem ov iv v)
      release [v, ov, iv] []) := by intro _; rfl) : WG X B ex (.Subscript a b pos) v Q ss M := .mk fun ck G A H σ u w sl s Kq k => by
  refine tg_of (pg_sub pe_self pe_self set_list ha) ?_
  refine h ck G A H σ w sl _ fun u1 x G1 A1 M1 H1 e1 w1 s1 h1 => ?_
  refine h1 ck G1 A1 H1 σ w1 (sl.mono e1) _ fun u2 y G2 A2 M2 H2 e2 w2 s2 h2 => ?_
  obtain ⟨i, ds, n, j, d, rfl, rfl, rfl, hM, hj, q⟩ := h2
  obtain ⟨l, rfl, hl⟩ := s1.mono e2
  obtain ⟨gn, vs, hv, r⟩ := w2.cl.get hl hM
  cases s2
  have s' : Rep X.K G2 u d := (SvOk.mono (e1.trans e2) s : SvOk X.K G2 A2 u (.dat d))
  refine ⟨l, vs, n, j, rfl, rfl, hv, by rw [r.length]; exact hj, ?_⟩
  exact k σ ss G2 A2 _ _ (e1.trans e2).1 (w2.setC (c' := .lst (ds.set j d)) hl gn ⟨gn, _, upd_same, r.set s' j⟩) (sl.mono (e1.trans e2)) q
end
/-! ### a def's promise -/
abbrev SpD := List SV → Mem → (SV → Mem → Prop) → (Addr → List (Str × D) → Mem → Prop) → Prop
/-- n cells are handed in -/
def spOf (K : PySem.W.Frag) (n : Nat) (S : SpD) : Sp := fun vs H Q E => ∃ xs M G A, A.length = n ∧ Wd K ⟨G, A, H⟩ G A M H ∧ Svs K G A vs xs ∧ ∃ R Rx, S xs M R Rx ∧
  (∀ v x G' A' M' H', Wd K ⟨G, A, H⟩ G' A' M' H' → SvOk K G' A' v x → M'.all (Cell.lt n) = true → R x M' → Q v H') ∧
  (∀ C fs d G' A' M' H', Wd K ⟨G, A, H⟩ G' A' M' H' → XdOk K G' d fs → M'.all (Cell.lt n) = true → Rx C fs M' → E (.ref C) d H')
/-- the end of a def that leaves its n cells alone -/
def Ret (n : Nat) (R : SV → Mem → Prop) (x : SV) (M : Mem) : Prop := (x.lt n && (M.take n).all (Cell.lt n)) = true ∧ R x (M.take n)
/-- .. that leaves a new cell too -/
def RetC (n : Nat) (R : SV → Mem → Prop) (x : SV) (M : Mem) : Prop := M.all (Cell.lt n) = true ∧ R x M
def RetX (n : Nat) (Rx : Addr → List (Str × D) → Mem → Prop) (C : Addr) (fs : List (Str × D)) (M : Mem) : Prop := (M.take n).all (Cell.lt n) = true ∧ Rx C fs (M.take n)
def startD (N : List Str) (xs : List SV) : Sst := xs.map some ++ List.replicate (N.length - xs.length) none
theorem sl_rep {K : PySem.W.Frag} {G : Hp} {A : List Addr} : ∀ n : Nat, Sl K G A (List.replicate n none) (List.replicate n none)
  | 0 => .nil
  | n + 1 => .skip (sl_rep n)
theorem sl_start {K : PySem.W.Frag} {G : Hp} {A : List Addr} {vs : List V} {xs : List SV} (r : Svs K G A vs xs) (N : List Str) : Sl K G A (L2.start N vs) (startD N xs) := by
  unfold L2.start startD
  rw [r.length]
  generalize N.length - xs.length = n
  induction r with
  | nil => exact sl_rep n
  | cons h r ih => exact .cons h ih
section
variable {P : Program} {w : World} {K : PySem.W.Frag} {mg : Str → Option Value} {base : Heap}
/-- THE RULE for a def: its body, walked -/
theorem fn_any {x qual : Str} {st : Stmt} {f : Addr} {fd : FuncData} {N ps : List Str} {k n : Nat} {S : SpD} {RT : (SV → Mem → Prop) → SV → Mem → Prop} (F : Fun K x qual st f fd) (Sc : FnScope N ps (defScope st)) (len : ∀ xs M R Rx, S xs M R Rx → xs.length = ps.length)
    (hRT : ∀ {B : Base} {G A M H v x R}, B.A.length = n → Wd K B G A M H → SvOk K G A v x → RT R x M → ∃ A' M', Wd K B G A' M' H ∧ SvOk K G A' v x ∧ M'.all (Cell.lt n) = true ∧ R x M')
    (hb : ∀ (cdv : Value) (A : Around) (outer : List Env) (s : Shared) (H : Hp) (E : XK) (B : Base) (xs : List SV) (M : Mem) (R : SV → Mem → Prop) (Rx : Addr → List (Str × D) → Mem → Prop), Room k (A.deeper (envOfC qual (defScope st) s.heap.objs.size f cdv)) → B.A.length = n → S xs M R Rx →
      WB (cxOf (L2.CX P w) P w K mg base N qual (defScope st) f cdv A outer s H E) B (fun C fs _ M => RetX n Rx C fs M) (defBody st) { nx := fun _ M => RT R (.dat .non) M, rt := RT R } (startD N xs) M) :
    FnOk P w K mg base (L2.CX P w) (k + 1) f fd ps (spOf K n S) := by
  refine F.okX Sc (fun vs H Q E h => ?_) (fun cdv A outer s H vs Q E hr h => ?_)
  · obtain ⟨xs, M, G, A, hn, hw, hv, R, Rx, hS, _⟩ := h
    rw [hv.length]; exact len _ _ _ _ hS
  · obtain ⟨xs, M, G, A0, hn, hw, hv, R, Rx, hS, hR, hX⟩ := h
    refine ⟨tbW _ _, pb_self, ?_⟩
    have ck : Cok (cxOf (L2.CX P w) P w K mg base N qual (defScope st) f cdv A outer s H E) ⟨G, A0, H⟩ (fun C fs _ M => RetX n Rx C fs M) :=
      ⟨(takes_of (E := E) rfl rfl rfl rfl).imp fun cls d σ H' ⟨C, fs, ss, G', A', M', ec, xd, w', sl', q1, q2⟩ => by
        subst ec; exact hX C fs d G' (A'.take n) (M'.take n) H' (w'.drop n (by exact Nat.le_of_eq hn) q1) xd q1 q2, passes_of rfl⟩
    refine hb cdv A outer s H E ⟨G, A0, H⟩ xs M R Rx hr hn hS ck G A0 H _ hw (sl_start hv N) _ ⟨fun σ ss G' A' M' H' _ w' sl' q => ?_, fun v y G' A' M' H' _ w' s' q => ?_, fun _ _ _ _ _ _ _ _ _ q => q.elim, fun _ _ _ _ _ _ _ _ _ q => q.elim⟩
    · obtain ⟨A2, M2, w2, s2, hl, q⟩ := hRT hn w' (v := .non) (x := .dat .non) .non q
      exact hR .non (.dat .non) G' A2 M2 H' w2 s2 hl q
    · obtain ⟨A2, M2, w2, s2, hl, q⟩ := hRT hn w' s' q
      exact hR v y G' A2 M2 H' w2 s2 hl q
theorem fn_ok {x qual : Str} {st : Stmt} {f : Addr} {fd : FuncData} {N ps : List Str} {k n : Nat} {S : SpD} (F : Fun K x qual st f fd) (Sc : FnScope N ps (defScope st)) (len : ∀ xs M R Rx, S xs M R Rx → xs.length = ps.length)
    (hb : ∀ (cdv : Value) (A : Around) (outer : List Env) (s : Shared) (H : Hp) (E : XK) (B : Base) (xs : List SV) (M : Mem) (R : SV → Mem → Prop) (Rx : Addr → List (Str × D) → Mem → Prop), Room k (A.deeper (envOfC qual (defScope st) s.heap.objs.size f cdv)) → B.A.length = n → S xs M R Rx →
      WB (cxOf (L2.CX P w) P w K mg base N qual (defScope st) f cdv A outer s H E) B (fun C fs _ M => RetX n Rx C fs M) (defBody st) { nx := fun _ M => Ret n R (.dat .non) M, rt := Ret n R } (startD N xs) M) :
    FnOk P w K mg base (L2.CX P w) (k + 1) f fd ps (spOf K n S) := by
  refine fn_any (RT := Ret n) F Sc len (fun {B G A M H v x R} hB w' s' q => ?_) hb
  obtain ⟨h1, h2⟩ := q
  rw [Bool.and_eq_true] at h1
  exact ⟨A.take n, M.take n, w'.drop n (Nat.le_of_eq hB) h1.2, s'.cut h1.1, h1.2, h2⟩
theorem fn_okC {x qual : Str} {st : Stmt} {f : Addr} {fd : FuncData} {N ps : List Str} {k n : Nat} {S : SpD} (F : Fun K x qual st f fd) (Sc : FnScope N ps (defScope st)) (len : ∀ xs M R Rx, S xs M R Rx → xs.length = ps.length)
    (hb : ∀ (cdv : Value) (A : Around) (outer : List Env) (s : Shared) (H : Hp) (E : XK) (B : Base) (xs : List SV) (M : Mem) (R : SV → Mem → Prop) (Rx : Addr → List (Str × D) → Mem → Prop), Room k (A.deeper (envOfC qual (defScope st) s.heap.objs.size f cdv)) → B.A.length = n → S xs M R Rx →
      WB (cxOf (L2.CX P w) P w K mg base N qual (defScope st) f cdv A outer s H E) B (fun C fs _ M => RetX n Rx C fs M) (defBody st) { nx := fun _ M => RetC n R (.dat .non) M, rt := RetC n R } (startD N xs) M) :
    FnOk P w K mg base (L2.CX P w) (k + 1) f fd ps (spOf K n S) :=
  fn_any (RT := RetC n) F Sc len (fun {B G A M H v x R} hB w' s' q => ⟨A, M, w', s', q.1, q.2⟩) hb
end
end Mb

/-! Mb, part 4: subscripts, tests. -/
namespace Mb
open PySem L2 PyProof.Rows
section
variable {X : Cx} {B : Base} {ex : XD} {ss : Sst} {M : Mem} {a b c e tg : Expr} {es : List Expr} {pos p p' : Pos} {Q : SV → Mem → Prop}
theorem atI_rep {K : PySem.W.Frag} {G : Hp} {vs : List V} {ds : List D} {n : Int} {d : D} (r : Reps K G vs ds) (h : atI ds n = some d) : ∃ v, atI vs n = some v ∧ Rep K G v d := by
  unfold atI at h ⊢
  rw [r.length]
  cases e : ixN ds.length n with
  | none => simp [e] at h
  | some j =>
    simp only [e, Option.bind_some] at h ⊢
    exact r.get h
theorem SOk.sign {z : Str} {n : Int} {c : Nat} (h : SOk z) (hc : atI z.cps.toList n = some c) : SOk ⟨#[c]⟩ := by
  refine ⟨by show 1 ≤ sizeLine; decide, ?_⟩
  obtain ⟨j, _, hj, _⟩ := atI_get hc
  have a := h.2
  unfold PyData.strOk at a ⊢
  rw [Array.all_eq_true'] at a
  have m : c ∈ z.cps := by
    have := List.mem_of_getElem? hj
    exact Array.mem_def.mpr this
  have := a c m
  simpa using this
def ixD0 (a b : D) (k : D → Prop) : Prop := match a, b with
  | .lst ds, .int n => ∃ d, atI ds n = some d ∧ k d
  | .tup ds, .int n => ∃ d, atI ds n = some d ∧ k d
  | .str z, .int n => ∃ c, atI z.cps.toList n = some c ∧ k (.str ⟨#[c]⟩)
  | _, _ => False
structure ixD (a b : D) (k : D → Prop) : Prop where
  run : ixD0 a b k
theorem we_ix (h : WE X B ex a (fun x M1 => WE X B ex b (fun y M2 => with1 M2 x fun p => with1 M2 y fun q => ixD p q fun d => Q (.dat d) M2) ss M1) ss M) (hs : PlainIx b := by intro _ _; rfl) : WE X B ex (.Subscript a b pos) Q ss M := by
  refine .mk fun ck G A H σ w sl Kq k => ?_
  refine te_of (pe_ix ix_seq pe_self pe_self hs) ?_
  refine h ck G A H σ w sl _ fun u x G1 A1 M1 H1 e1 w1 s1 h1 => ?_
  refine h1 ck G1 A1 H1 σ w1 (sl.mono e1) _ fun v y G2 A2 M2 H2 e2 w2 s2 h2 => ?_
  obtain ⟨d1, g1, hh⟩ := with1_get h2
  obtain ⟨d2, g2, hh⟩ := with1_get hh
  have q1 := (s1.mono e2).s w2 g1
  have q2 := s2.s w2 g2
  have hh := hh.run
  cases d1 <;> cases d2 <;> try exact hh.elim
  · obtain ⟨rfl, hz⟩ := q1
    obtain rfl := q2
    obtain ⟨c, hc, q⟩ := hh
    refine .inr (.inr ⟨_, _, c, rfl, rfl, hz.1, hc, ?_⟩)
    exact k _ (.dat _) G2 A2 M2 H2 (e1.trans e2) w2 (Rep.str _ (hz.sign hc)) q
  · obtain ⟨l, vs, rfl, hl, r⟩ := q1
    obtain rfl := q2
    obtain ⟨d, hd, q⟩ := hh
    obtain ⟨z, hz, rz⟩ := atI_rep r hd
    exact .inl ⟨_, vs, _, z, rfl, rfl, .inl hl, hz, k _ (.dat _) G2 A2 M2 H2 (e1.trans e2) w2 rz q⟩
  · obtain ⟨l, vs, rfl, hl, r⟩ := q1
    obtain rfl := q2
    obtain ⟨d, hd, q⟩ := hh
    obtain ⟨z, hz, rz⟩ := atI_rep r hd
    exact .inr (.inl ⟨_, vs, _, z, rfl, rfl, hl, hz, k _ (.dat _) G2 A2 M2 H2 (e1.trans e2) w2 rz q⟩)
end
end Mb

/-! Mb, part 5: equality, in, is, and, or, not, chains. -/
namespace Mb
open PySem L2 PyProof.Rows
/-! ### data as the library's data -/
mutual
def py : D → PyData
  | .non => .none
  | .bl b => .bool b
  | .int i => .int i
  | .str x => .str x
  | .lst xs => .list (pys xs)
  | .tup xs => .tuple (pys xs)
  | .ins _ _ => .dict []
  | .dic _ => .dict []
def pys : List D → List PyData
  | [] => []
  | d :: ds => py d :: pys ds
end
/-- plain data, nested at most n deep -/
def D.pl : Nat → D → Bool
  | _, .non => true
  | _, .bl _ => true
  | _, .int _ => true
  | _, .str _ => true
  | n + 1, .lst xs => xs.all (D.pl n)
  | n + 1, .tup xs => xs.all (D.pl n)
  | _, _ => false
def deq (a b : D) : Bool := PyData.eqv (py a) (py b)
def deqs (a b : List D) : Bool := PyData.eqvAll (pys a) (pys b)
mutual
theorem Rep.lay {K : PySem.W.Frag} {G : Hp} : ∀ {v : V} {d : D} {n : Nat}, Rep K G v d → D.pl n d = true → (py d).canLay0 = true ∧ (py d).depth ≤ n
  | _, _, _, .non, _ => ⟨by simp [py, PyData.canLay0], by simp [py, PyData.depth]⟩
  | _, _, _, .bl b, _ => ⟨by simp [py, PyData.canLay0], by simp [py, PyData.depth]⟩
  | _, _, _, .int i, _ => ⟨by simp [py, PyData.canLay0], by simp [py, PyData.depth]⟩
  | _, _, _, .str x h, _ => ⟨by simp [py, PyData.canLay0, h.2], by simp [py, PyData.depth]⟩
  | _, _, 0, .lst _ _, h => by simp [D.pl] at h
  | _, _, n + 1, .lst h r, hp => by
    have z := Reps.lay (n := n) r (by simpa [D.pl] using hp)
    exact ⟨by simp [py, PyData.canLay0, z.1], by simp only [py, PyData.depth]; omega⟩
  | _, _, 0, .tup _ _, h => by simp [D.pl] at h
  | _, _, n + 1, .tup h r, hp => by
    have z := Reps.lay (n := n) r (by simpa [D.pl] using hp)
    exact ⟨by simp [py, PyData.canLay0, z.1], by simp only [py, PyData.depth]; omega⟩
  | _, _, n, .ins _ _, h => by cases n <;> simp [D.pl] at h
  | _, _, n, .dic _ _, h => by cases n <;> simp [D.pl] at h
theorem Reps.lay {K : PySem.W.Frag} {G : Hp} : ∀ {vs : List V} {ds : List D} {n : Nat}, Reps K G vs ds → (∀ x ∈ ds, D.pl n x = true) → PyData.canLayAll0 (pys ds) = true ∧ PyData.depthAll (pys ds) ≤ n
  | _, _, _, .nil, _ => ⟨by simp [pys, PyData.canLayAll0], by simp [pys, PyData.depthAll]⟩
  | _, _, n, .cons h r, hp => by
    have a := h.lay (hp _ List.mem_cons_self)
    have b := Reps.lay (n := n) r fun x m => hp x (List.mem_cons_of_mem _ m)
    exact ⟨by simp [pys, PyData.canLayAll0, a.1, b.1], by simp only [pys, PyData.depthAll]; omega⟩
end
theorem Rep.shaped {K : PySem.W.Frag} {G : Hp} {v : V} {d : D} {n : Nat} (r : Rep K G v d) (h : D.pl n d = true) (hn : n ≤ 64) : SeqAt.shaped (py d) = true := by
  obtain ⟨a, b⟩ := r.lay h
  unfold SeqAt.shaped
  rw [a, Bool.true_and]
  exact decide_eq_true (by omega)
theorem deq_refl : ∀ {n : Nat} {d : D}, D.pl n d = true → deq d d = true
  | _, .non, _ => by simp [deq, py, PyData.eqv]
  | _, .bl _, _ => by simp [deq, py, PyData.eqv]
  | _, .int _, _ => by simp [deq, py, PyData.eqv]
  | _, .str _, _ => by simp [deq, py, PyData.eqv]
  | 0, .lst _, h => by simp [D.pl] at h
  | 0, .tup _, h => by simp [D.pl] at h
  | n, .ins _ _, h => by cases n <;> simp [D.pl] at h
  | n, .dic _, h => by cases n <;> simp [D.pl] at h
  | n + 1, .lst xs, h => by
    have q : ∀ ys : List D, ys.all (D.pl n) = true → PyData.eqvAll (pys ys) (pys ys) = true := by
      intro ys
      induction ys with
      | nil => intro _; simp [pys, PyData.eqvAll]
      | cons y ys ih =>
        intro hy
        rw [List.all_cons, Bool.and_eq_true] at hy
        have a : PyData.eqv (py y) (py y) = true := deq_refl hy.1
        simp [pys, PyData.eqvAll, a, ih hy.2]
    simp only [deq, py, PyData.eqv]
    exact q xs (by simpa [D.pl] using h)
  | n + 1, .tup xs, h => by
    have q : ∀ ys : List D, ys.all (D.pl n) = true → PyData.eqvAll (pys ys) (pys ys) = true := by
      intro ys
      induction ys with
      | nil => intro _; simp [pys, PyData.eqvAll]
      | cons y ys ih =>
        intro hy
        rw [List.all_cons, Bool.and_eq_true] at hy
        have a : PyData.eqv (py y) (py y) = true := deq_refl hy.1
        simp [pys, PyData.eqvAll, a, ih hy.2]
    simp only [deq, py, PyData.eqv]
    exact q xs (by simpa [D.pl] using h)
mutual
theorem Rep.dp {K : PySem.W.Frag} {G : Hp} : ∀ {v : V} {d : D} {n : Nat}, Rep K G v d → D.pl n d = true → Dp K G v (py d)
  | _, _, _, .non, _ => .non
  | _, _, _, .bl b, _ => .bl b
  | _, _, _, .int i, _ => .int i
  | _, _, _, .str x _, _ => .str x
  | _, _, 0, .lst _ _, h => by simp [D.pl] at h
  | _, _, n + 1, .lst h r, hp => .lst (.inl h) (Reps.dp (n := n) r (by simpa [D.pl] using hp))
  | _, _, 0, .tup _ _, h => by simp [D.pl] at h
  | _, _, n + 1, .tup h r, hp => .tup h (Reps.dp (n := n) r (by simpa [D.pl] using hp))
  | _, _, n, .ins _ _, h => by cases n <;> simp [D.pl] at h
  | _, _, n, .dic _ _, h => by cases n <;> simp [D.pl] at h
theorem Reps.dp {K : PySem.W.Frag} {G : Hp} : ∀ {vs : List V} {ds : List D} {n : Nat}, Reps K G vs ds → (∀ x ∈ ds, D.pl n x = true) → DpAll K G vs (pys ds)
  | _, _, _, .nil, _ => .nil
  | _, _, n, .cons h r, hp => .cons (h.dp (hp _ List.mem_cons_self)) (r.dp (n := n) fun x m => hp x (List.mem_cons_of_mem _ m))
end
theorem RepS.rep {K : PySem.W.Frag} {G H : Hp} {v : V} {d : D} (e : Same G H) (h : RepS K G H v d) : Rep K H v d := by
  cases d with
  | non => cases h; exact .non
  | bl b => cases h; exact .bl b
  | int i => cases h; exact .int i
  | str x => obtain ⟨rfl, q⟩ := h; exact .str x q
  | lst ds => obtain ⟨a, vs, rfl, q, r⟩ := h; exact .lst q (r.mono e)
  | tup ds => obtain ⟨a, vs, rfl, q, r⟩ := h; exact .tup q (r.mono e)
  | ins C fs => obtain ⟨a, dx, vs, rfl, q, r⟩ := h; exact .ins q (r.mono e)
  | dic kvs => obtain ⟨a, vs, rfl, q, r⟩ := h; exact .dic q (r.mono e)
section
variable {X : Cx} {B : Base} {ex : XD} {ss : Sst} {M : Mem} {a b c e tg : Expr} {es : List Expr} {pos p p' : Pos} {Q : SV → Mem → Prop} {QB : Bool → Mem → Prop}
/-! ### ==, != -/
def eq20 (neg : Bool) (M : Mem) (x y : SV) (Q : SV → Mem → Prop) : Prop := with1 M x fun a => with1 M y fun b => (D.pl 60 a = true ∧ D.pl 60 b = true) ∧ Q (.dat (.bl (if neg then !deq a b else deq a b))) M
structure eq2 (neg : Bool) (M : Mem) (x y : SV) (Q : SV → Mem → Prop) : Prop where
  run : eq20 neg M x y Q
def eq2t0 (neg : Bool) (M : Mem) (x y : SV) (Q : Bool → Mem → Prop) : Prop := with1 M x fun a => with1 M y fun b => (D.pl 60 a = true ∧ D.pl 60 b = true) ∧ Q (if neg then !deq a b else deq a b) M
structure eq2t (neg : Bool) (M : Mem) (x y : SV) (Q : Bool → Mem → Prop) : Prop where
  run : eq2t0 neg M x y Q
theorem eq2_run {neg : Bool} {G : Hp} {A : List Addr} {H : Hp} {M : Mem} {x y : SV} {u v : V} {Q : SV → Mem → Prop} {Kq : VK} (w : Wd X.K B G A M H) (sx : SvOk X.K G A u x) (sy : SvOk X.K G A v y) (h : eq2 neg M x y Q) (k : VPost X.K B G A Q Kq) :
    ∃ d e, Dp X.K H u d ∧ Dp X.K H v e ∧ SeqAt.shaped d = true ∧ SeqAt.shaped e = true ∧ Kq (.bl (if neg then !PyData.eqv d e else PyData.eqv d e)) H := by
  obtain ⟨d1, g1, h⟩ := with1_get h.run
  obtain ⟨d2, g2, h⟩ := with1_get h
  have q1 := (sx.s w g1).rep w.gh
  have q2 := (sy.s w g2).rep w.gh
  exact ⟨py d1, py d2, q1.dp h.1.1, q2.dp h.1.2, q1.shaped h.1.1 (by omega), q2.shaped h.1.2 (by omega), k.flat .refl w (.bl _) h.2⟩
theorem eq2_t {neg : Bool} {M : Mem} {x y : SV} {Q : Bool → Mem → Prop} (h : eq2t neg M x y Q) : eq2 neg M x y fun z M3 => ∃ k, z = .dat (.bl k) ∧ Q k M3 := by
  obtain ⟨d1, g1, h⟩ := with1_get h.run
  obtain ⟨d2, g2, h⟩ := with1_get h
  exact ⟨with1_mk g1 (with1_mk g2 ⟨h.1, _, rfl, h.2⟩)⟩
theorem we_eq {k : Nat} (hr : Room k X.A) (h : WE X B ex a (fun x M1 => WE X B ex b (fun y M2 => eq2 false M2 x y Q) ss M1) ss M) : WE X B ex (.Compare a [.Eq] [b] pos) Q ss M :=
  we_cmp2 (f := eq2 false) (op_eqD hr.units) (nomark _) (fun G A H M x y u v Q Kq w sx sy h k => eq2_run w sx sy h k) h
theorem we_ne {k : Nat} (hr : Room k X.A) (h : WE X B ex a (fun x M1 => WE X B ex b (fun y M2 => eq2 true M2 x y Q) ss M1) ss M) : WE X B ex (.Compare a [.NotEq] [b] pos) Q ss M :=
  we_cmp2 (f := eq2 true) (op_neD hr.units) (nomark _) (fun G A H M x y u v Q Kq w sx sy h k => eq2_run w sx sy h k) h
theorem wt_eq {k : Nat} (hr : Room k X.A) (h : WE X B ex a (fun x M1 => WE X B ex b (fun y M2 => eq2t false M2 x y QB) ss M1) ss M) : WT X B ex (.Compare a [.Eq] [b] pos) QB ss M :=
  wt_cmp2 (f := eq2 false) (op_eqD hr.units) (nomark _) (fun G A H M x y u v Q Kq w sx sy h k => eq2_run w sx sy h k) (h.mono fun x M1 h1 => h1.mono fun y M2 h2 => eq2_t h2)
theorem wt_ne {k : Nat} (hr : Room k X.A) (h : WE X B ex a (fun x M1 => WE X B ex b (fun y M2 => eq2t true M2 x y QB) ss M1) ss M) : WT X B ex (.Compare a [.NotEq] [b] pos) QB ss M :=
  wt_cmp2 (f := eq2 true) (op_neD hr.units) (nomark _) (fun G A H M x y u v Q Kq w sx sy h k => eq2_run w sx sy h k) (h.mono fun x M1 h1 => h1.mono fun y M2 h2 => eq2_t h2)
/-! ### in -/
/-- what «x in y» answers -/
def inD0 (a b : D) (k : Bool → Prop) : Prop := match a, b with
  | .str x, .str z => k (!(Builtin.Str.occurrences z x 0 z.length 1).isEmpty)
  | a, .lst ds => (D.pl 60 a = true ∧ (ds.all (D.pl 60)) = true) ∧ k (ds.any fun z => deq z a)
  | a, .tup ds => (D.pl 0 a = true ∧ (ds.all (D.pl 0)) = true) ∧ k (ds.any fun z => deq z a)
  | _, _ => False
structure inD (a b : D) (k : Bool → Prop) : Prop where
  run : inD0 a b k
theorem inD_sign {c : Nat} {z : Str} {k : Bool → Prop} (h : k (decide (c ∈ z.cps.toList))) : inD (.str ⟨#[c]⟩) (.str z) k := by
  refine ⟨?_⟩
  show k (!(Builtin.Str.occurrences z ⟨#[c]⟩ 0 z.length 1).isEmpty)
  rw [PySem.StrLaws.found_one z c]
  exact h
theorem pl0_flat {K : PySem.W.Frag} {G : Hp} {v : V} {d : D} (r : Rep K G v d) (h : D.pl 0 d = true) : flatV v = true := by
  cases r <;> first | rfl | simp [D.pl] at h
theorem pl0_flats {K : PySem.W.Frag} {G : Hp} : ∀ {vs : List V} {ds : List D}, Reps K G vs ds → ds.all (D.pl 0) = true → vs.all flatV = true
  | _, _, .nil, _ => rfl
  | _, _, .cons h r, q => by
    rw [List.all_cons, Bool.and_eq_true] at q ⊢
    exact ⟨pl0_flat h q.1, pl0_flats r q.2⟩
theorem eqV_deq {K : PySem.W.Frag} {G : Hp} {u v : V} {d e : D} (r : Rep K G u d) (q : Rep K G v e) (h : D.pl 0 d = true) (h' : D.pl 0 e = true) : eqV u v = deq d e := by
  cases r <;> cases q <;> first | rfl | simp [D.pl] at h | simp [D.pl] at h' | (simp [eqV, deq, py, PyData.eqv])
theorem inV_deq {K : PySem.W.Frag} {G : Hp} {v : V} {e : D} (q : Rep K G v e) (h' : D.pl 0 e = true) : ∀ {vs : List V} {ds : List D}, Reps K G vs ds → ds.all (D.pl 0) = true → inV v vs = ds.any fun z => deq z e
  | _, _, .nil, _ => rfl
  | _, _, .cons h r, p => by
    rw [List.all_cons, Bool.and_eq_true] at p
    unfold inV
    rw [List.any_cons, List.any_cons, eqV_deq h q p.1 h']
    exact congrArg _ (inV_deq q h' r p.2)
theorem pys_any (a : D) : ∀ ds : List D, ((pys ds).any fun z => PyData.eqv z (py a)) = ds.any fun z => deq z a
  | [] => rfl
  | d :: ds => by
    show (PyData.eqv (py d) (py a) || _) = _
    rw [pys_any a ds]
    rfl
def in20 (neg : Bool) (M : Mem) (x y : SV) (Q : SV → Mem → Prop) : Prop := with1 M x fun a => with1 M y fun b => inD a b fun k => Q (.dat (.bl (if neg then !k else k))) M
structure in2 (neg : Bool) (M : Mem) (x y : SV) (Q : SV → Mem → Prop) : Prop where
  run : in20 neg M x y Q
def in2t0 (neg : Bool) (M : Mem) (x y : SV) (Q : Bool → Mem → Prop) : Prop := with1 M x fun a => with1 M y fun b => inD a b fun k => Q (if neg then !k else k) M
structure in2t (neg : Bool) (M : Mem) (x y : SV) (Q : Bool → Mem → Prop) : Prop where
  run : in2t0 neg M x y Q
theorem in2_t {neg : Bool} {M : Mem} {x y : SV} {Q : Bool → Mem → Prop} (h : in2t neg M x y Q) : in2 neg M x y fun z M3 => ∃ k, z = .dat (.bl k) ∧ Q k M3 := by
  obtain ⟨d1, g1, h⟩ := with1_get h.run
  obtain ⟨d2, g2, h⟩ := with1_get h
  refine ⟨with1_mk g1 (with1_mk g2 ⟨?_⟩)⟩
  have h := h.run
  cases d1 <;> cases d2 <;> first | exact h.elim | exact ⟨_, rfl, h⟩ | exact ⟨h.1, _, rfl, h.2⟩
theorem op_inAll (hu : X.A.units + 65 < cLine) : OpR X (compareOp .In) (fun x y H Q => (rInD X.K x y H Q ∨ rIn X.K false x y H Q) ∨ ∃ i j, x = .str i ∧ y = .str j ∧ Q (.bl (!(Builtin.Str.occurrences j i 0 j.length 1).isEmpty)) H) := OpR.or (OpR.or (op_inD hu) op_in_seq) op_in_str
theorem op_niAll (hu : X.A.units + 65 < cLine) : OpR X (compareOp .NotIn) (fun x y H Q => (rNotInD X.K x y H Q ∨ rIn X.K true x y H Q) ∨ ∃ i j, x = .str i ∧ y = .str j ∧ Q (.bl (!(!(Builtin.Str.occurrences j i 0 j.length 1).isEmpty))) H) := OpR.or (OpR.or (op_notInD hu) op_notIn_seq) op_notin_str
theorem in2_run {neg : Bool} {G : Hp} {A : List Addr} {H : Hp} {M : Mem} {x y : SV} {u v : V} {Q : SV → Mem → Prop} {Kq : VK} (w : Wd X.K B G A M H) (sx : SvOk X.K G A u x) (sy : SvOk X.K G A v y) (h : in2 neg M x y Q) (k : VPost X.K B G A Q Kq) :
    ((∃ d ds, Dp X.K H u d ∧ Dp X.K H v (.list ds) ∧ SeqAt.shaped d = true ∧ SeqAt.shaped (.list ds) = true ∧ Kq (.bl (if neg then !ds.any fun z => PyData.eqv z d else ds.any fun z => PyData.eqv z d)) H) ∨ rIn X.K neg u v H Kq) ∨
      ∃ i j, u = .str i ∧ v = .str j ∧ Kq (.bl (if neg then !(!(Builtin.Str.occurrences j i 0 j.length 1).isEmpty) else !(Builtin.Str.occurrences j i 0 j.length 1).isEmpty)) H := by
  obtain ⟨d1, g1, h⟩ := with1_get h.run
  obtain ⟨d2, g2, h⟩ := with1_get h
  have q1 := sx.s w g1
  have q2 := sy.s w g2
  have h := h.run
  cases d2 with
  | str z =>
    cases d1 <;> try exact h.elim
    obtain ⟨rfl, _⟩ := q1
    obtain ⟨rfl, _⟩ := q2
    exact .inr ⟨_, _, rfl, rfl, k.flat .refl w (.bl _) h⟩
  | lst ds =>
    have h' : (D.pl 60 d1 = true ∧ ds.all (D.pl 60) = true) ∧ Q (.dat (.bl (if neg then !(ds.any fun z => deq z d1) else ds.any fun z => deq z d1))) M := by cases d1 <;> exact h
    have r2 := q2.rep w.gh
    refine .inl (.inl ⟨py d1, pys ds, (q1.rep w.gh).dp h'.1.1, r2.dp (n := 61) h'.1.2, (q1.rep w.gh).shaped h'.1.1 (by omega), r2.shaped (n := 61) h'.1.2 (by omega), ?_⟩)
    rw [pys_any]
    exact k.flat .refl w (.bl _) h'.2
  | tup ds =>
    have h' : (D.pl 0 d1 = true ∧ ds.all (D.pl 0) = true) ∧ Q (.dat (.bl (if neg then !(ds.any fun z => deq z d1) else ds.any fun z => deq z d1))) M := by cases d1 <;> exact h
    obtain ⟨t, vs, rfl, ht, r⟩ := q2
    have r1 := q1.rep w.gh
    refine .inl (.inr ⟨t, vs, rfl, .inr ht, pl0_flat r1 h'.1.1, pl0_flats r h'.1.2, ?_⟩)
    rw [inV_deq r1 h'.1.1 (r.mono w.gh) h'.1.2]
    exact k.flat .refl w (.bl _) h'.2
  | _ => cases d1 <;> exact h.elim
theorem we_in {k : Nat} (hr : Room k X.A) (hm : behindInMarks .In b = false) (h : WE X B ex a (fun x M1 => WE X B ex b (fun y M2 => in2 false M2 x y Q) ss M1) ss M) : WE X B ex (.Compare a [.In] [b] pos) Q ss M :=
  we_cmp2 (f := in2 false) (op_inAll (by have := hr.un; omega)) hm (fun G A H M x y u v Q Kq w sx sy h k => in2_run w sx sy h k) h
theorem we_ni {k : Nat} (hr : Room k X.A) (hm : behindInMarks .NotIn b = false) (h : WE X B ex a (fun x M1 => WE X B ex b (fun y M2 => in2 true M2 x y Q) ss M1) ss M) : WE X B ex (.Compare a [.NotIn] [b] pos) Q ss M :=
  we_cmp2 (f := in2 true) (op_niAll (by have := hr.un; omega)) hm (fun G A H M x y u v Q Kq w sx sy h k => in2_run w sx sy h k) h
theorem wt_in {k : Nat} (hr : Room k X.A) (hm : behindInMarks .In b = false) (h : WE X B ex a (fun x M1 => WE X B ex b (fun y M2 => in2t false M2 x y QB) ss M1) ss M) : WT X B ex (.Compare a [.In] [b] pos) QB ss M :=
  wt_cmp2 (f := in2 false) (op_inAll (by have := hr.un; omega)) hm (fun G A H M x y u v Q Kq w sx sy h k => in2_run w sx sy h k) (h.mono fun x M1 h1 => h1.mono fun y M2 h2 => in2_t h2)
theorem wt_ni {k : Nat} (hr : Room k X.A) (hm : behindInMarks .NotIn b = false) (h : WE X B ex a (fun x M1 => WE X B ex b (fun y M2 => in2t true M2 x y QB) ss M1) ss M) : WT X B ex (.Compare a [.NotIn] [b] pos) QB ss M :=
  wt_cmp2 (f := in2 true) (op_niAll (by have := hr.un; omega)) hm (fun G A H M x y u v Q Kq w sx sy h k => in2_run w sx sy h k) (h.mono fun x M1 h1 => h1.mono fun y M2 h2 => in2_t h2)
/-! ### is None -/
def isN (x : SV) : Bool := match x with
  | .dat .non => true
  | _ => false
/-- known to be None or known not to be -/
def SV.told : SV → Bool
  | .dat _ => true
  | .cel _ => true
  | .raw _ => false
  | .exc _ _ _ => false
  | .tup _ => false
theorem isN_dec {K : PySem.W.Frag} {G : Hp} {A : List Addr} {v : V} {x : SV} (h : SvOk K G A v x) (ht : x.told = true) : decide (v = .non) = isN x := by
  cases x with
  | raw u => simp [SV.told] at ht
  | exc u v w => simp [SV.told] at ht
  | tup xs => simp [SV.told] at ht
  | cel i => obtain ⟨a, rfl, _⟩ := h; rfl
  | dat d => cases h <;> rfl
theorem we_isN {j : Nat} (h : WE X B ex a (fun x M1 => x.told = true ∧ Q (.dat (.bl (isN x))) M1) ss M) : WE X B ex (.Compare a [.Is] [.Constant .none j p] pos) Q ss M := .mk fun ck G A H σ w sl Kq k => by
  refine te_of (pe_cmpR op_isN pe_self pe_non (nomark _)) ?_
  refine h ck G A H σ w sl _ fun u x G1 A1 M1 H1 e1 w1 s1 h1 => ⟨rfl, ?_⟩
  rw [isN_dec s1 h1.1]
  exact k _ (.dat _) G1 A1 M1 H1 e1 w1 (Rep.bl _) h1.2
theorem we_notN {j : Nat} (h : WE X B ex a (fun x M1 => x.told = true ∧ Q (.dat (.bl (!isN x))) M1) ss M) : WE X B ex (.Compare a [.IsNot] [.Constant .none j p] pos) Q ss M := .mk fun ck G A H σ w sl Kq k => by
  refine te_of (pe_cmpR op_notN pe_self pe_non (nomark _)) ?_
  refine h ck G A H σ w sl _ fun u x G1 A1 M1 H1 e1 w1 s1 h1 => ⟨rfl, ?_⟩
  rw [isN_dec s1 h1.1]
  exact k _ (.dat _) G1 A1 M1 H1 e1 w1 (Rep.bl _) h1.2
/-! ### tests -/
theorem WT.mono {Q' : Bool → Mem → Prop} (h : WT X B ex e QB ss M) (m : ∀ b M', QB b M' → Q' b M') : WT X B ex e Q' ss M := .mk fun ck G A H σ w sl Kq k =>
  h ck G A H σ w sl Kq fun b G' A' M' H' e w' q => k b G' A' M' H' e w' (m _ _ q)
/-- a value that is a bool, as a test (a call, a comparison, a name ..) -/
theorem wt_val (h : WE X B ex e (fun x M1 => ∃ k, x = .dat (.bl k) ∧ QB k M1) ss M) (he : ∀ whole, isTrue e X.env whole = (do let v ← whole; standAt e.pos; holding [v] (truthy v)) := by intro _; rfl) : WT X B ex e QB ss M := .mk fun ck G A H σ w sl Kq k => by
  refine tt_of (pt_val pe_self he) ?_
  refine h ck G A H σ w sl _ fun u x G1 A1 M1 H1 e1 w1 s1 h1 => ?_
  obtain ⟨i, rfl, q⟩ := h1
  cases s1
  exact ⟨i, rfl, k i G1 A1 M1 H1 e1 w1 q⟩
/-- a value's truth -/
def truD : D → Bool
  | .non => false
  | .bl b => b
  | .int i => i != 0
  | .str y => (y.length : Int) != 0
  | .lst ds => !ds.isEmpty
  | .tup ds => !ds.isEmpty
  | .dic kvs => !kvs.isEmpty
  | .ins _ _ => true
def D.isIns : D → Bool
  | .ins _ _ => true
  | _ => false
theorem isEmpty_reps {K : PySem.W.Frag} {G : Hp} {vs : List V} {ds : List D} (r : Reps K G vs ds) : (!ds.isEmpty) = !vs.isEmpty := by cases r <;> rfl
theorem isEmpty_repk {K : PySem.W.Frag} {G : Hp} {vs : List (Key × V)} {ds : List (Key × D)} (r : RepK K G vs ds) : (!ds.isEmpty) = !vs.isEmpty := by cases r <;> rfl
theorem tru_run {G : Hp} {A : List Addr} {H : Hp} {x : SV} {v : V} {d : D} (w : Wd X.K B G A M H) (s : SvOk X.K G A v x) (g : x.get M = some d) (hi : d.isIns = false) : TruV X.K v H (truD d) := by
  have q := s.s w g
  cases d with
  | non => cases q; rfl
  | bl b => cases q; rfl
  | int i => cases q; rfl
  | str y => obtain ⟨rfl, z⟩ := q; exact ⟨z.1, rfl⟩
  | lst ds => obtain ⟨a, vs, rfl, q, r⟩ := q; exact .inl ⟨vs, .inl q, isEmpty_reps r⟩
  | tup ds => obtain ⟨a, vs, rfl, q, r⟩ := q; exact .inr (.inl ⟨vs, q, isEmpty_reps r⟩)
  | dic ds => obtain ⟨a, vs, rfl, q, r⟩ := q; exact .inr (.inr ⟨vs, q, isEmpty_repk r⟩)
  | ins C fs => simp [D.isIns] at hi
theorem wt_truth (h : WE X B ex e (fun x M1 => with1 M1 x fun d => d.isIns = false ∧ QB (truD d) M1) ss M) (he : ∀ whole, isTrue e X.env whole = (do let v ← whole; standAt e.pos; holding [v] (truthy v)) := by intro _; rfl) : WT X B ex e QB ss M := .mk fun ck G A H σ w sl Kq k => by
  refine tt_of (pt_truth pe_self he) ?_
  refine h ck G A H σ w sl _ fun u x G1 A1 M1 H1 e1 w1 s1 h1 => ?_
  obtain ⟨d, g, h1⟩ := with1_get h1
  exact ⟨_, tru_run w1 s1 g h1.1, k _ G1 A1 M1 H1 e1 w1 h1.2⟩
theorem wt_not (h : WT X B ex e (fun b M1 => QB (!b) M1) ss M) : WT X B ex (.UnaryOp .Not e pos) QB ss M := .mk fun ck G A H σ w sl Kq k => by
  refine tt_of (pt_not pt_self) ?_
  exact h ck G A H σ w sl _ fun b G1 A1 M1 H1 e1 w1 h1 => k _ G1 A1 M1 H1 e1 w1 h1
theorem wt_w (h : WW X B ex e QB ss M) : WT X B ex e QB ss M := .mk fun ck G A H σ w sl Kq k => tt_of pw_self.pt (h ck G A H σ w sl Kq k)
theorem ww_and1 (h : WT X B ex e QB ss M) : WW X B ex (.BoolOp .And [e] pos) QB ss M := .mk fun ck G A H σ w sl Kq k => tw_of (pw_and1 pt_self) (h ck G A H σ w sl Kq k)
theorem ww_or1 (h : WT X B ex e QB ss M) : WW X B ex (.BoolOp .Or [e] pos) QB ss M := .mk fun ck G A H σ w sl Kq k => tw_of (pw_or1 pt_self) (h ck G A H σ w sl Kq k)
theorem ww_and (h : WT X B ex a (fun x M1 => if x = true then WW X B ex (.BoolOp .And (b :: es) pos) QB ss M1 else QB false M1) ss M) : WW X B ex (.BoolOp .And (a :: b :: es) pos) QB ss M := .mk fun ck G A H σ w sl Kq k => by
  refine tw_of (pw_and pt_self pw_self) ?_
  refine h ck G A H σ w sl _ fun x G1 A1 M1 H1 e1 w1 h1 => ?_
  cases x with
  | true => rw [if_pos rfl] at h1 ⊢; exact h1 ck G1 A1 H1 σ w1 (sl.mono e1) _ fun y G2 A2 M2 H2 e2 w2 h2 => k y G2 A2 M2 H2 (e1.trans e2) w2 h2
  | false => rw [if_neg Bool.false_ne_true] at h1 ⊢; exact k _ G1 A1 M1 H1 e1 w1 h1
theorem ww_or (h : WT X B ex a (fun x M1 => if x = true then QB true M1 else WW X B ex (.BoolOp .Or (b :: es) pos) QB ss M1) ss M) : WW X B ex (.BoolOp .Or (a :: b :: es) pos) QB ss M := .mk fun ck G A H σ w sl Kq k => by
  refine tw_of (pw_or pt_self pw_self) ?_
  refine h ck G A H σ w sl _ fun x G1 A1 M1 H1 e1 w1 h1 => ?_
  cases x with
  | false => rw [if_neg Bool.false_ne_true] at h1 ⊢; exact h1 ck G1 A1 H1 σ w1 (sl.mono e1) _ fun y G2 A2 M2 H2 e2 w2 h2 => k y G2 A2 M2 H2 (e1.trans e2) w2 h2
  | true => rw [if_pos rfl] at h1 ⊢; exact k _ G1 A1 M1 H1 e1 w1 h1
/-! ### .. as values (bools) -/
theorem we_one {op} (h : WE X B ex e Q ss M) : WE X B ex (.BoolOp op [e] pos) Q ss M := .mk fun ck G A H σ w sl Kq k => te_of (pe_one pe_self) (h ck G A H σ w sl Kq k)
theorem we_and (h : WE X B ex a (fun x M1 => ∃ k, x = .dat (.bl k) ∧ if k = true then WE X B ex (.BoolOp .And (b :: es) pos) Q ss M1 else Q (.dat (.bl false)) M1) ss M) : WE X B ex (.BoolOp .And (a :: b :: es) pos) Q ss M := .mk fun ck G A H σ w sl Kq k => by
  refine te_of (pe_and pe_self pe_self) ?_
  refine h ck G A H σ w sl _ fun u x G1 A1 M1 H1 e1 w1 s1 h1 => ?_
  obtain ⟨i, rfl, h1⟩ := h1
  cases s1
  refine ⟨i, rfl, ?_⟩
  cases i with
  | true => rw [if_pos rfl] at h1 ⊢; exact h1 ck G1 A1 H1 σ w1 (sl.mono e1) _ fun v y G2 A2 M2 H2 e2 w2 s2 h2 => k v y G2 A2 M2 H2 (e1.trans e2) w2 s2 h2
  | false => rw [if_neg Bool.false_ne_true] at h1 ⊢; exact k _ (.dat _) G1 A1 M1 H1 e1 w1 (Rep.bl _) h1
theorem we_or (h : WE X B ex a (fun x M1 => ∃ k, x = .dat (.bl k) ∧ if k = true then Q (.dat (.bl true)) M1 else WE X B ex (.BoolOp .Or (b :: es) pos) Q ss M1) ss M) : WE X B ex (.BoolOp .Or (a :: b :: es) pos) Q ss M := .mk fun ck G A H σ w sl Kq k => by
  refine te_of (pe_or pe_self pe_self) ?_
  refine h ck G A H σ w sl _ fun u x G1 A1 M1 H1 e1 w1 s1 h1 => ?_
  obtain ⟨i, rfl, h1⟩ := h1
  cases s1
  refine ⟨i, rfl, ?_⟩
  cases i with
  | false => rw [if_neg Bool.false_ne_true] at h1 ⊢; exact h1 ck G1 A1 H1 σ w1 (sl.mono e1) _ fun v y G2 A2 M2 H2 e2 w2 s2 h2 => k v y G2 A2 M2 H2 (e1.trans e2) w2 s2 h2
  | true => rw [if_pos rfl] at h1 ⊢; exact k _ (.dat _) G1 A1 M1 H1 e1 w1 (Rep.bl _) h1
theorem we_not (h : WE X B ex e (fun x M1 => ∃ k, x = .dat (.bl k) ∧ Q (.dat (.bl (!k))) M1) ss M) : WE X B ex (.UnaryOp .Not e pos) Q ss M := .mk fun ck G A H σ w sl Kq k => by
  refine te_of (pe_not pe_self) ?_
  refine h ck G A H σ w sl _ fun u x G1 A1 M1 H1 e1 w1 s1 h1 => ?_
  obtain ⟨i, rfl, h1⟩ := h1
  cases s1
  exact ⟨i, rfl, k _ (.dat _) G1 A1 M1 H1 e1 w1 (Rep.bl _) h1⟩
theorem we_ifx (h : WT X B ex c (fun x M1 => if x = true then WE X B ex a Q ss M1 else WE X B ex b Q ss M1) ss M) : WE X B ex (.IfExp c a b pos) Q ss M := .mk fun ck G A H σ w sl Kq k => by
  refine te_of (pe_ifExp pt_self pe_self pe_self) ?_
  refine h ck G A H σ w sl _ fun x G1 A1 M1 H1 e1 w1 h1 => ?_
  cases x with
  | true => rw [if_pos rfl] at h1 ⊢; exact h1 ck G1 A1 H1 σ w1 (sl.mono e1) _ fun v y G2 A2 M2 H2 e2 w2 s2 h2 => k v y G2 A2 M2 H2 (e1.trans e2) w2 s2 h2
  | false => rw [if_neg Bool.false_ne_true] at h1 ⊢; exact h1 ck G1 A1 H1 σ w1 (sl.mono e1) _ fun v y G2 A2 M2 H2 e2 w2 s2 h2 => k v y G2 A2 M2 H2 (e1.trans e2) w2 s2 h2
/-! ### a <= b <= c, ints -/
theorem wt_chain {op op' : CmpOp} {g g' : Int → Int → Bool} (ho : OpR X (compareOp op) (rI0 fun i j => .bl (g i j))) (ho' : OpR X (compareOp op') (rI0 fun i j => .bl (g' i j)))
    (h : WE X B ex a (fun x M1 => WE X B ex b (fun y M2 => ∃ i j, x = .dat (.int i) ∧ y = .dat (.int j) ∧ if g i j = true then WE X B ex c (fun z M3 => ∃ n, z = .dat (.int n) ∧ QB (g' j n) M3) ss M2 else QB false M2) ss M1) ss M)
    (hm : lastMarks [op, op'] [b, c] = false := by with_unfolding_all rfl) : WT X B ex (.Compare a [op, op'] [b, c] pos) QB ss M := .mk fun ck G A H σ w sl Kq k => by
  refine tt_of (pt_chain ho ho' pe_self pe_self pe_self hm) ?_
  refine h ck G A H σ w sl _ fun u x G1 A1 M1 H1 e1 w1 s1 h1 => ?_
  refine h1 ck G1 A1 H1 σ w1 (sl.mono e1) _ fun v y G2 A2 M2 H2 e2 w2 s2 h2 => ?_
  obtain ⟨i, j, rfl, rfl, h2⟩ := h2
  cases s1
  cases s2
  refine ⟨i, j, rfl, rfl, _, rfl, ?_⟩
  by_cases hc : g i j = true
  · rw [if_pos hc] at h2 ⊢
    refine h2 ck G2 A2 H2 σ w2 ((sl.mono e1).mono e2) _ fun v z G3 A3 M3 H3 e3 w3 s3 h3 => ?_
    obtain ⟨n, rfl, h3⟩ := h3
    cases s3
    exact ⟨j, n, rfl, rfl, _, rfl, k _ G3 A3 M3 H3 ((e1.trans e2).trans e3) w3 h3⟩
  · rw [if_neg hc] at h2 ⊢
    exact ⟨false, rfl, k _ G2 A2 M2 H2 (e1.trans e2) w2 h2⟩
end
end Mb

/-! Mb, part 6: arguments, displays, calls. -/
namespace Mb
open PySem L2 PyProof.Rows
/-- all are data -/
def datsOf : List SV → Option (List D)
  | [] => some []
  | .dat d :: r => (datsOf r).map (d :: ·)
  | _ :: _ => none
def withs0 (xs : List SV) (k : List D → Prop) : Prop := match datsOf xs with
  | some ds => k ds
  | none => False
structure withs (xs : List SV) (k : List D → Prop) : Prop where
  run : withs0 xs k
theorem withs_get {xs : List SV} {k : List D → Prop} (h : withs xs k) : ∃ ds, datsOf xs = some ds ∧ k ds := by
  have h := h.run
  unfold withs0 at h
  cases e : datsOf xs with
  | none => simp [e] at h
  | some d => simp [e] at h; exact ⟨d, rfl, h⟩
theorem Svs.reps {K : PySem.W.Frag} {G : Hp} {A : List Addr} : ∀ {vs : List V} {xs : List SV} {ds : List D}, Svs K G A vs xs → datsOf xs = some ds → Reps K G vs ds
  | _, _, _, .nil, e => by simp [datsOf] at e; subst e; exact .nil
  | _, _, ds, .cons (x := x) h r, e => by
    cases x with
    | cel i => simp [datsOf] at e
    | raw u => simp [datsOf] at e
    | exc u v w => simp [datsOf] at e
    | tup xs => simp [datsOf] at e
    | dat d =>
      simp only [datsOf, Option.map_eq_some_iff] at e
      obtain ⟨rs, e1, rfl⟩ := e
      exact .cons h (r.reps e1)
section
variable {K : PySem.W.Frag} {B : Base} {G : Hp} {A : List Addr} {M : List Cell} {H : Hp}
/-- a list of ours is never changed again -/
theorem Wd.freeze (w : Wd K B G A M H) {i : Nat} {a : Addr} {ds : List D} (hi : A[i]? = some a) (hb : B.A.length ≤ i) (hM : M[i]? = some (.lst ds)) :
    ∃ G', Wd K B G' A (M.set i .dead) H ∧ Ext G A G' A ∧ Rep K G' (.ref a) (.lst ds) := by
  obtain ⟨gn, vs, hv, r⟩ := w.cl.get hi hM
  have s1 : Same G (upd G a (.lst vs)) := same_upd gn
  have ex : Ext G A (upd G a (.lst vs)) A := ⟨s1, [], by simp⟩
  have hA : a ∈ A := List.mem_of_getElem? hi
  have hnB : B.H a = Option.none := by
    rcases w.an a hA with q | q
    · exfalso
      obtain ⟨more, e⟩ := w.pre
      obtain ⟨j, hj, ej⟩ := List.mem_iff_getElem.mp q
      have h1 : A[j]? = some a := by rw [e, List.getElem?_append_left hj, List.getElem?_eq_getElem hj, ej]
      have := nd_ix w.nd hi h1
      omega
    · exact q
  refine ⟨upd G a (.lst vs), ⟨w.gg.trans s1, fun b u e => ?_, w.fr, fun b u e => ?_, w.nd, w.pre, w.there, w.an, ?_⟩, ex, .lst (.inl upd_same) (r.mono s1)⟩
  · by_cases c : b = a
    · subst c; rw [upd_same] at e; rw [← e]; exact hv
    · rw [upd_ne c] at e; exact w.gh b u e
  · by_cases c : b = a
    · subst c; exact .inr hnB
    · rw [upd_ne c] at e; exact w.fresh b u e
  · have go : ∀ {as : List Addr} {cs : List Cell} {i : Nat}, as.Nodup → Cells K G A H as cs → as[i]? = some a → Cells K (upd G a (.lst vs)) A H as (cs.set i .dead) := by
      intro as cs i nd q
      induction q generalizing i with
      | nil => intro e; simp at e
      | @cons b as c cs h r ih =>
        intro e
        cases i with
        | zero =>
          simp at e
          subst e
          refine .cons trivial (r.imp fun x y m q => q.keep ex (fun g => ?_) fun _ e => e)
          rw [upd_ne (show x ≠ b from fun z => (List.nodup_cons.mp nd).1 (z ▸ m))]; exact g
        | succ j =>
          have e' : as[j]? = some a := by simpa using e
          have hp : a ∈ as := List.mem_of_getElem? e'
          refine .cons (h.keep ex (fun g => ?_) fun _ e => e) (ih (List.nodup_cons.mp nd).2 e')
          rw [upd_ne (show b ≠ a from fun z => (List.nodup_cons.mp nd).1 (z ▸ hp))]; exact g
    exact go w.nd w.cl hi
end
/-! ### cells of a caller and a callee -/
def FV.sh (n m : Nat) : FV → FV
  | .cel j => if j < n then .cel j else .cel (j - n + m)
  | x => x
def SV.sh (n m : Nat) : SV → SV
  | .cel j => if j < n then .cel j else .cel (j - n + m)
  | .tup xs => .tup (xs.map (FV.sh n m))
  | x => x
theorem FvOk.sh {K : PySem.W.Frag} {G : Hp} {A more : List Addr} {v : V} {x : FV} {n : Nat} (hn : n ≤ A.length) (h : FvOk K G (A.take n ++ more) v x) : FvOk K G (A ++ more) v (x.sh n A.length) := by
  cases x with
  | dat d => exact h
  | cel j =>
    obtain ⟨a, h1, h2⟩ := h
    have hl : (A.take n).length = n := by rw [List.length_take]; omega
    unfold FV.sh
    by_cases c : j < n
    · simp only [c, if_true]
      refine ⟨a, h1, ?_⟩
      rw [List.getElem?_append_left (by omega)] at h2
      rw [List.getElem?_append_left (by omega)]
      rw [List.getElem?_take, if_pos c] at h2
      exact h2
    · simp only [c, if_false]
      refine ⟨a, h1, ?_⟩
      rw [List.getElem?_append_right (by omega), hl] at h2
      rw [List.getElem?_append_right (by omega)]
      rw [show j - n + A.length - A.length = j - n by omega]
      exact h2
theorem Fvs.sh {K : PySem.W.Frag} {G : Hp} {A more : List Addr} {n : Nat} (hn : n ≤ A.length) : ∀ {vs : List V} {xs : List FV}, Fvs K G (A.take n ++ more) vs xs → Fvs K G (A ++ more) vs (xs.map (FV.sh n A.length))
  | _, _, .nil => .nil
  | _, _, .cons h r => .cons (h.sh hn) (r.sh hn)
theorem SvOk.sh {K : PySem.W.Frag} {G : Hp} {A more : List Addr} {v : V} {x : SV} {n : Nat} (hn : n ≤ A.length) (h : SvOk K G (A.take n ++ more) v x) : SvOk K G (A ++ more) v (x.sh n A.length) := by
  cases x with
  | dat d => exact h
  | raw u => exact h
  | exc u v w => exact h
  | tup xs =>
    obtain ⟨a, vs, h1, h2, h3⟩ := h
    exact ⟨a, vs, h1, h2, h3.sh hn⟩
  | cel j =>
    obtain ⟨a, h1, h2⟩ := h
    have hl : (A.take n).length = n := by rw [List.length_take]; omega
    unfold SV.sh
    by_cases c : j < n
    · simp only [c, if_true]
      refine ⟨a, h1, ?_⟩
      rw [List.getElem?_append_left (by omega)] at h2
      rw [List.getElem?_append_left (by omega)]
      rw [List.getElem?_take, if_pos c] at h2
      exact h2
    · simp only [c, if_false]
      refine ⟨a, h1, ?_⟩
      rw [List.getElem?_append_right (by omega), hl] at h2
      rw [List.getElem?_append_right (by omega)]
      rw [show j - n + A.length - A.length = j - n by omega]
      exact h2
/-- what the call's end leaves the caller -/
theorem Wd.back {K : PySem.W.Frag} {B : Base} {G : Hp} {A : List Addr} {M : List Cell} {H : Hp} (w : Wd K B G A M H) {n : Nat} (hn : n ≤ M.length) {G' : Hp} {A' : List Addr} {M' : List Cell} {H' : Hp} (w' : Wd K ⟨G, A.take n, H⟩ G' A' M' H') (hl : M'.all (Cell.lt n) = true) :
    ∃ more, A' = A.take n ++ more ∧ Wd K B G' (A ++ more) (M'.take n ++ M.drop n ++ M'.drop n) H' ∧ Ext G A G' (A ++ more) := by
  obtain ⟨more, e⟩ := w'.pre
  have e : A' = A.take n ++ more := e
  subst e
  have hA := w.len
  have hlen : (A.take n).length = n := by rw [List.length_take]; omega
  have ex : Ext G A G' (A ++ more) := ⟨w'.gg, more, rfl⟩
  have hnew : ∀ b ∈ more, H b = Option.none := fun b m => by
    rcases w'.an b (List.mem_append_right _ m) with q | q
    · exfalso
      exact (List.nodup_append.mp w'.nd).2.2 b q b m rfl
    · exact q
  have hold : ∀ b, b ∈ A → b ∉ A.take n → ∀ o, H b = some o → H' b = some o := fun b m nm o e => w'.fr b o e nm
  refine ⟨more, rfl, ⟨w.gg.trans w'.gg, w'.gh, fun b o e nb => ?_, fun b o e => ?_, ?_, ?_, fun b m => ?_, fun b m => ?_, ?_⟩, ex⟩
  · have e1 := w.fr b o e nb
    by_cases c : b ∈ A.take n
    · exfalso
      rcases w.an b (List.mem_of_mem_take c) with q | q
      · exact nb q
      · rw [q] at e; cases e
    · exact w'.fr b o e1 c
  · rcases w'.fresh b o e with q | q
    · exact w.fresh b o q
    · exact .inr (w.none q).1
  · refine List.nodup_append.mpr ⟨w.nd, (List.nodup_append.mp w'.nd).2.1, fun x hx y hy z => ?_⟩
    subst z
    obtain ⟨o, e⟩ := w.there x hx
    rw [hnew x hy] at e; cases e
  · obtain ⟨m0, e⟩ := w.pre
    exact ⟨m0 ++ more, by rw [e]; simp⟩
  · rcases List.mem_append.mp m with m | m
    · by_cases c : b ∈ A.take n
      · exact w'.there b (List.mem_append_left _ c)
      · obtain ⟨o, e⟩ := w.there b m
        exact ⟨o, hold b m c o e⟩
    · exact w'.there b (List.mem_append_right _ m)
  · rcases List.mem_append.mp m with m | m
    · exact w.an b m
    · exact .inr (w.none (hnew b m)).1
  · have c1 : Cells K G' (A ++ more) H' (A.take n) (M'.take n) := by
      have q := (w'.cl.take n)
      rw [List.take_append_of_le_length (by omega), List.take_take, Nat.min_self] at q
      have q2 := Cells.cut (k := n) (by
        have := hl
        rw [← List.take_append_drop n M', List.all_append, Bool.and_eq_true] at this
        exact this.1) q
      rw [List.take_append_of_le_length (by omega), List.take_take, Nat.min_self] at q2
      refine q2.imp fun a c m h => h.keep ⟨fun _ _ e => e, ?_⟩ (fun g => g) fun _ e => e
      exact ⟨A.drop n ++ more, by rw [← List.append_assoc, List.take_append_drop]⟩
    have c2 : Cells K G' (A ++ more) H' (A.drop n) (M.drop n) := by
      refine (w.cl.drop n).imp fun a c m h => h.keep ex (fun g => ?_) fun o e => ?_
      · cases e : G' a with
        | none => rfl
        | some o =>
          rcases w'.fresh a o e with q | q
          · have q : G a = some o := q
            rw [g] at q; cases q
          · obtain ⟨o', e'⟩ := w.there a (List.mem_of_mem_drop m)
            have q : H a = Option.none := q
            rw [q] at e'; cases e'
      · refine hold a (List.mem_of_mem_drop m) (fun z => ?_) o e
        have nd := w.nd
        rw [← List.take_append_drop n A] at nd
        exact (List.nodup_append.mp nd).2.2 a z a m rfl
    have c3 : Cells K G' (A ++ more) H' more (M'.drop n) := by
      have q := (w'.cl.drop n)
      rw [List.drop_append_of_le_length (by omega), List.drop_take, Nat.sub_self, List.take_zero, List.nil_append] at q
      have q2 := Cells.cut (k := n) (by
        have := hl
        rw [← List.take_append_drop n M', List.all_append, Bool.and_eq_true] at this
        exact this.2) q
      rw [List.take_append_of_le_length (by omega), List.take_take, Nat.min_self] at q2
      refine q2.imp fun a c m h => h.keep ⟨fun _ _ e => e, ?_⟩ (fun g => g) fun _ e => e
      exact ⟨A.drop n ++ more, by rw [← List.append_assoc, List.take_append_drop]⟩
    have := (c1.append c2).append c3
    rw [List.take_append_drop] at this
    exact this
section
variable {X : Cx} {B : Base} {ex : XD} {ss : Sst} {M : Mem} {a b c e tg o : Expr} {es : List Expr} {pos p p' apos : Pos} {Q : SV → Mem → Prop} {QB : Bool → Mem → Prop}
/-- a list of ours, handed on as data -/
theorem WE.frz (h : WE X B ex e (fun x M1 => ∃ i ds, x = .cel i ∧ B.A.length ≤ i ∧ M1[i]? = some (.lst ds) ∧ Q (.dat (.lst ds)) (M1.set i .dead)) ss M) : WE X B ex e Q ss M := .mk fun ck G A H σ w sl Kq k =>
  h ck G A H σ w sl Kq fun v x G1 A1 M1 H1 e1 w1 s1 h1 => by
    obtain ⟨i, ds, rfl, hb, hM, q⟩ := h1
    obtain ⟨l, rfl, hl⟩ := s1
    obtain ⟨G2, w2, e2, r⟩ := w1.freeze hl hb hM
    exact k _ (.dat _) G2 A1 _ H1 (e1.trans e2) w2 r q
/-! ### arguments -/
theorem wa_nil {Q : List SV → Mem → Prop} (q : Q [] M) : WA X B ex [] Q ss M := .mk fun ck G A H σ w sl Kq k => ta_of pa_nil (k [] [] G A M H .refl w .nil q)
theorem wa_cons {Q : List SV → Mem → Prop} (h : WE X B ex e (fun x M1 => WA X B ex es (fun xs M2 => Q (x :: xs) M2) ss M1) ss M) (hs : starEach (e :: es) X.env = (false, eval e X.env) :: starEach es X.env := by rfl) : WA X B ex (e :: es) Q ss M := .mk fun ck G A H σ w sl Kq k => by
  refine ta_of (pa_cons pe_self pa_self hs) ?_
  refine h ck G A H σ w sl _ fun v x G1 A1 M1 H1 e1 w1 s1 h1 => ?_
  refine h1 ck G1 A1 H1 σ w1 (sl.mono e1) _ fun vs xs G2 A2 M2 H2 e2 w2 s2 h2 => ?_
  exact k (v :: vs) (x :: xs) G2 A2 M2 H2 (e1.trans e2) w2 (.cons (s1.mono e2) s2) h2
/-! ### displays -/
theorem we_tup {j : Nat} (h : WA X B ex es (fun xs M1 => withs xs fun ds => ds.length ≤ sizeLine ∧ Q (.dat (.tup ds)) M1) ss M) : WE X B ex (.Tuple es j pos) Q ss M := .mk fun ck G A H σ w sl Kq k => by
  refine te_of (pe_tup pa_self) ?_
  refine h ck G A H σ w sl _ fun vs xs G1 A1 M1 H1 e1 w1 s1 h1 => ?_
  obtain ⟨ds, hd, hz, q⟩ := withs_get h1
  have r := s1.reps hd
  exact ⟨by rw [r.length]; exact hz, k.new e1 w1 q fun p hp => .tup (.of upd_same) (r.mono (same_upd (w1.none hp).2.2))⟩
theorem we_lst (h : WA X B ex es (fun xs M1 => withs xs fun ds => ds.length ≤ sizeLine ∧ Q (.dat (.lst ds)) M1) ss M) : WE X B ex (.List es pos) Q ss M := .mk fun ck G A H σ w sl Kq k => by
  refine te_of (pe_lst pa_self) ?_
  refine h ck G A H σ w sl _ fun vs xs G1 A1 M1 H1 e1 w1 s1 h1 => ?_
  obtain ⟨ds, hd, hz, q⟩ := withs_get h1
  have r := s1.reps hd
  exact ⟨by rw [r.length]; exact hz, k.new e1 w1 q fun p hp => .lst (.inl upd_same) (r.mono (same_upd (w1.none hp).2.2))⟩
/-- .. a list that will be changed -/
theorem we_lstC (h : WA X B ex es (fun xs M1 => withs xs fun ds => ds.length ≤ sizeLine ∧ Q (.cel M1.length) (M1 ++ [.lst ds])) ss M) : WE X B ex (.List es pos) Q ss M := .mk fun ck G A H σ w sl Kq k => by
  refine te_of (pe_lst pa_self) ?_
  refine h ck G A H σ w sl _ fun vs xs G1 A1 M1 H1 e1 w1 s1 h1 => ?_
  obtain ⟨ds, hd, hz, q⟩ := withs_get h1
  have r := s1.reps hd
  refine ⟨by rw [r.length]; exact hz, fun p hp => ?_⟩
  obtain ⟨w2, e2⟩ := w1.newC (c := .lst ds) (o := .lst vs) hp ⟨(w1.none hp).2.2, vs, upd_same, r⟩
  refine k _ (.cel M1.length) _ _ _ _ (e1.trans e2) w2 ⟨p, rfl, ?_⟩ q
  rw [← w1.len, List.getElem?_append_right (Nat.le_refl _), Nat.sub_self]
  rfl
/-! ### calls of the text's defs -/
/-- what the callee asks and leaves: n cells are handed in -/
def CallQ0 (n : Nat) (S : SpD) (xs : List SV) (M : Mem) (Q : SV → Mem → Prop) (ex : XD) (ss : Sst) : Prop :=
  (xs.all (SV.lt n) && (M.take n).all (Cell.lt n) && decide (n ≤ M.length)) = true ∧ S xs (M.take n) (fun x M' => Q (x.sh n M.length) (M'.take n ++ M.drop n ++ M'.drop n)) (fun C fs M' => ex C fs ss (M'.take n ++ M.drop n ++ M'.drop n))
structure CallQ (n : Nat) (S : SpD) (xs : List SV) (M : Mem) (Q : SV → Mem → Prop) (ex : XD) (ss : Sst) : Prop where
  run : CallQ0 n S xs M Q ex ss
theorem call_sp {n : Nat} {S : SpD} {xs : List SV} {G : Hp} {A : List Addr} {H : Hp} {vs : List V} {σ : L2.St} {Kq : VK} (w : Wd X.K B G A M H) (sl : Sl X.K G A σ ss) (r : Svs X.K G A vs xs) (h : CallQ n S xs M Q ex ss) (k : VPost X.K B G A Q Kq) :
    spOf X.K n S vs H Kq (fun cls d H' => XW X.K B ex cls d σ H') := by
  obtain ⟨hc, hS⟩ := h.run
  rw [Bool.and_eq_true, Bool.and_eq_true] at hc
  obtain ⟨⟨hx, hM⟩, hn⟩ := hc
  have hn : n ≤ M.length := of_decide_eq_true hn
  have hA := w.len
  refine ⟨xs, M.take n, G, A.take n, by rw [List.length_take]; omega, Wd.start w.gh (w.nd.sublist (List.take_sublist n A)) (fun b m => w.there b (List.mem_of_mem_take m)) ((w.cl.take n).cut hM), r.cut hx, _, _, hS, ?_, ?_⟩
  · intro v x G' A' M' H' w' s' hl q
    obtain ⟨more, rfl, w2, e2⟩ := w.back hn w' hl
    rw [← hA] at q
    exact k v _ G' _ _ H' e2 w2 (s'.sh (by omega)) q
  · intro C fs d G' A' M' H' w' xd hl q
    obtain ⟨more, rfl, w2, e2⟩ := w.back hn w' hl
    exact ⟨C, fs, ss, G', _, _, rfl, xd, w2, sl.mono e2, q⟩
theorem Cok.at (ck : Cok X B ex) (σ : L2.St) : PassesAt (L2.CX X.prog X.w) X σ (fun cls d H' => XW X.K B ex cls d σ H') := passAt ck.tk σ
/-- f(e, ..); the last parameters by their defaults -/
theorem we_call {x : Str} {f : Addr} {fd : FuncData} {ps : List Str} {k n : Nat} {S : SpD} {dvs : List V} {ds : List Value} {dxs : List SV} (F : FnOk X.prog X.w X.K X.mg X.base (L2.CX X.prog X.w) k f fd ps (spOf X.K n S)) (hr : Room k X.A) (hm : X.mg x = some (.ref f)) (hk : PySem.W.keepIn X.K (.ref f) = true)
    (hb : Binds X.K fd ps ds) (hd : Vals dvs ds) (hD : ∀ G A, Svs X.K G A dvs dxs) (hg : Gl X x)
    (h : WA X B ex (e :: es) (fun xs M1 => CallQ n S (xs ++ dxs) M1 Q ex ss) ss M) (hdb : (x == ("__debug__" : Str)) = false := by decide) (he : starEach (e :: es) X.env = (false, eval e X.env) :: starEach es X.env := by rfl) (hpl : (backTo pos (starEach es X.env)).any (·.1) = false := by rfl) :
    WE X B ex (.Call (.Name x p) (e :: es) [] pos) Q ss M := .mk fun ck G A H σ w sl Kq kk => by
  refine te_of (pe_callSD (E := fun σ cls d H' => XW X.K B ex cls d σ H') F hr hg hm hk hb hd ck.at pa_self hdb he hpl) ?_
  refine h ck G A H σ w sl _ fun vs xs G1 A1 M1 H1 e1 w1 s1 h1 => ?_
  refine call_sp w1 (sl.mono e1) ?_ h1 fun v x G' A' M' H' e' => kk v x G' A' M' H' (e1.trans e')
  have go : ∀ {vs xs}, Svs X.K G1 A1 vs xs → Svs X.K G1 A1 (vs ++ dvs) (xs ++ dxs) := by
    intro vs xs r
    induction r with
    | nil => exact hD G1 A1
    | cons h r ih => exact .cons h ih
  exact go s1
end
end Mb

/-! Mb, part 7: methods, new instances, attributes. -/
namespace Mb
open PySem L2 PyProof.Rows
/-- fields that are all data -/
def fdats : List (Str × SV) → Option (List (Str × D))
  | [] => some []
  | (f, .dat d) :: r => (fdats r).map ((f, d) :: ·)
  | _ :: _ => none
theorem FldsOk.repF {K : PySem.W.Frag} {G : Hp} {A : List Addr} : ∀ {fv : List (Str × V)} {fs : List (Str × SV)} {ds : List (Str × D)}, FldsOk K G A fv fs → fdats fs = some ds → RepF K G fv ds
  | _, _, _, .nil, e => by simp [fdats] at e; subst e; exact .nil
  | _, _, ds, .cons (x := x) h r, e => by
    cases x with
    | cel i => simp [fdats] at e
    | raw u => simp [fdats] at e
    | exc u v w => simp [fdats] at e
    | tup xs => simp [fdats] at e
    | dat d =>
      simp only [fdats, Option.map_eq_some_iff] at e
      obtain ⟨rs, e1, rfl⟩ := e
      exact .cons h (r.repF e1)
theorem FldsOk.look {K : PySem.W.Frag} {G : Hp} {A : List Addr} {f : Str} {x : SV} : ∀ {fv : List (Str × V)} {fs : List (Str × SV)}, FldsOk K G A fv fs → fs.lookup f = some x → ∃ v, fv.lookup f = some v ∧ SvOk K G A v x
  | _, _, .nil, e => by simp at e
  | (g, v) :: fv, (_, y) :: fs, .cons h r, e => by
    by_cases c : f = g
    · subst c
      simp [List.lookup] at e
      subst e
      exact ⟨v, by simp [List.lookup], h⟩
    · have cb : (f == g) = false := by simpa using c
      simp only [List.lookup, cb] at e
      obtain ⟨w, h1, h2⟩ := FldsOk.look r e
      exact ⟨w, by simp only [List.lookup, cb]; exact h1, h2⟩
theorem FldsOk.lookN {K : PySem.W.Frag} {G : Hp} {A : List Addr} {f : Str} : ∀ {fv : List (Str × V)} {fs : List (Str × SV)}, FldsOk K G A fv fs → fs.lookup f = none → fv.lookup f = none
  | _, _, .nil, _ => rfl
  | (g, v) :: fv, (_, y) :: fs, .cons h r, e => by
    by_cases c : f = g
    · subst c
      simp [List.lookup] at e
    · have cb : (f == g) = false := by simpa using c
      simp only [List.lookup, cb] at e ⊢
      exact FldsOk.lookN r e
def putS (f : Str) (v : SV) : List (Str × SV) → List (Str × SV)
  | [] => [(f, v)]
  | (g, x) :: r => if g = f then (g, v) :: r else (g, x) :: putS f v r
theorem FldsOk.put {K : PySem.W.Frag} {G : Hp} {A : List Addr} {f : Str} {v : V} {x : SV} (q : SvOk K G A v x) : ∀ {fv : List (Str × V)} {fs : List (Str × SV)}, FldsOk K G A fv fs → FldsOk K G A (putF f v fv) (putS f x fs)
  | _, _, .nil => .cons q .nil
  | (g, u) :: fv, (_, y) :: fs, .cons h r => by
    by_cases c : g = f
    · simp only [putF, putS, c, if_true]; exact .cons q r
    · simp only [putF, putS, c, if_false]; exact .cons h (r.put q)
theorem FldsOk.length {K : PySem.W.Frag} {G : Hp} {A : List Addr} : ∀ {fv : List (Str × V)} {fs : List (Str × SV)}, FldsOk K G A fv fs → fv.length = fs.length
  | _, _, .nil => rfl
  | _, _, .cons _ r => congrArg (· + 1) r.length
section
variable {K : PySem.W.Frag} {B : Base} {G : Hp} {A : List Addr} {M : List Cell} {H : Hp}
/-- behind an __init__: the new instance is a cell of ours -/
theorem Wd.made (w : Wd K B G A M H) {x : Addr} {H2 : Hp} (hx : H x = Option.none) (s2 : Same H H2) {G' : Hp} {A' : List Addr} {M' : List Cell} {H' : Hp} {c : Cell} (w' : Wd K ⟨G, [x], H2⟩ G' A' M' H') (hc : c = .dead ∨ (M'[0]? = some c ∧ c.lt 0 = true)) :
    Wd K B G' (A ++ [x]) (M ++ [c]) H' ∧ Ext G A G' (A ++ [x]) := by
  obtain ⟨hb, hA, hg⟩ := w.none hx
  obtain ⟨more, e⟩ := w'.pre
  have e : A' = [x] ++ more := e
  subst e
  have ex : Ext G A G' (A ++ [x]) := ⟨w'.gg, [x], rfl⟩
  have keep : ∀ b o, H b = some o → H' b = some o := fun b o e => w'.fr b o (s2 b o e) (by
    show b ∉ [x]
    rw [List.mem_singleton]
    intro z; subst z; rename_i e0; rw [hx] at e0; cases e0)
  refine ⟨⟨w.gg.trans w'.gg, w'.gh, fun b o e nb => keep b o (w.fr b o e nb), fun b o e => ?_, ?_, ?_, fun b m => ?_, fun b m => ?_, ?_⟩, ex⟩
  · rcases w'.fresh b o e with q | q
    · exact w.fresh b o q
    · have q : H2 b = Option.none := q
      exact .inr (w.none (s2.free q)).1
  · refine List.nodup_append.mpr ⟨w.nd, by simp, fun a ha b hb z => ?_⟩
    rw [List.mem_singleton] at hb
    subst z; subst hb; exact hA ha
  · obtain ⟨m0, e⟩ := w.pre
    exact ⟨m0 ++ [x], by rw [e]; simp⟩
  · rcases List.mem_append.mp m with m | m
    · obtain ⟨o, e⟩ := w.there b m
      exact ⟨o, keep b o e⟩
    · exact w'.there b (List.mem_append_left _ m)
  · rcases List.mem_append.mp m with m | m
    · exact w.an b m
    · rw [List.mem_singleton] at m; subst m; exact .inr hb
  · have c1 : Cells K G' (A ++ [x]) H' A M := by
      refine w.cl.imp fun a c m h => h.keep ex (fun g => ?_) fun o e => keep a o e
      cases e : G' a with
      | none => rfl
      | some o =>
        rcases w'.fresh a o e with q | q
        · have q : G a = some o := q
          rw [g] at q; cases q
        · obtain ⟨o', e'⟩ := w.there a m
          have q : H2 a = Option.none := q
          rw [s2 _ _ e'] at q; cases q
    have q2 : CellOk K G' (A ++ [x]) H' x c := by
      rcases hc with rfl | ⟨hc, hd⟩
      · trivial
      · have q := w'.cl.get (i := 0) (a := x) (by rfl) hc
        have q3 := q.cut (k := 0) hd
        exact q3.keep ⟨fun _ _ e => e, A ++ [x], by simp⟩ (fun g => g) fun _ e => e
    exact c1.append (.cons q2 .nil)
/-- the last cell, an instance, is never changed again -/
theorem Wd.freezeI {x : Addr} {C : Addr} {fs : List (Str × SV)} {ds : List (Str × D)} (w : Wd K B G (A ++ [x]) (M ++ [.ins C fs]) H) (hb : B.A.length ≤ A.length) (hf : fdats fs = some ds) (hl : M.all (Cell.lt A.length) = true) :
    ∃ G', Wd K B G' A M H ∧ Same G G' ∧ Rep K G' (.ref x) (.ins C ds) := by
  have hlen := w.len
  have hl1 : A.length = M.length := by
    rw [List.length_append, List.length_append] at hlen
    simpa using hlen
  have gx : (A ++ [x])[A.length]? = some x := by rw [List.getElem?_append_right (Nat.le_refl _), Nat.sub_self]; rfl
  have gm : (M ++ [Cell.ins C fs])[A.length]? = some (.ins C fs) := by rw [hl1, List.getElem?_append_right (Nat.le_refl _), Nat.sub_self]; rfl
  obtain ⟨gn, dx, fv, hv, r⟩ := w.cl.get gx gm
  have hxA : x ∉ A := fun m => (List.nodup_append.mp w.nd).2.2 x m x List.mem_cons_self rfl
  have s1 : Same G (upd G x (.ins C dx fv)) := same_upd gn
  have hnB : B.H x = Option.none := by
    rcases w.an x (List.mem_append_right _ List.mem_cons_self) with q | q
    · exfalso
      obtain ⟨more, e⟩ := w.pre
      obtain ⟨j, hj, ej⟩ := List.mem_iff_getElem.mp q
      have h1 : (A ++ [x])[j]? = some x := by rw [e, List.getElem?_append_left hj, List.getElem?_eq_getElem hj, ej]
      have := nd_ix w.nd gx h1
      omega
    · exact q
  have w0 := w.drop A.length hb (by rw [hl1, List.take_append_of_le_length (Nat.le_refl _), List.take_length, ← hl1]; exact hl)
  rw [List.take_append_of_le_length (Nat.le_refl _), List.take_length] at w0
  rw [hl1, List.take_append_of_le_length (Nat.le_refl _), List.take_length] at w0
  have ex : Ext G A (upd G x (.ins C dx fv)) A := ⟨s1, [], by simp⟩
  refine ⟨upd G x (.ins C dx fv), ⟨w0.gg.trans s1, fun b u e => ?_, w0.fr, fun b u e => ?_, w0.nd, w0.pre, w0.there, w0.an, ?_⟩, s1, .ins upd_same ((r.repF hf).mono s1)⟩
  · by_cases c : b = x
    · subst c; rw [upd_same] at e; rw [← e]; exact hv
    · rw [upd_ne c] at e; exact w0.gh b u e
  · by_cases c : b = x
    · subst c; exact .inr hnB
    · rw [upd_ne c] at e; exact w0.fresh b u e
  · refine w0.cl.imp fun a c m h => h.keep ex (fun g => ?_) fun _ e => e
    rw [upd_ne (show a ≠ x from fun z => hxA (z ▸ m))]; exact g
end
section
variable {X : Cx} {B : Base} {ex : XD} {ss : Sst} {M : Mem} {a b c e tg o : Expr} {es : List Expr} {pos p p' apos : Pos} {Q : SV → Mem → Prop} {QB : Bool → Mem → Prop}
/-! ### attributes -/
/-- the field f of what x is -/
def fldS (M : Mem) (x : SV) (f : Str) (k : Addr → SV → Prop) : Prop := match x with
  | .dat (.ins C fs) => ∃ d, fs.lookup f = some d ∧ k C (.dat d)
  | .cel i => ∃ C fs y, M[i]? = some (.ins C fs) ∧ fs.lookup f = some y ∧ k C y
  | _ => False
theorem we_fld {f : Str} (h : WE X B ex e (fun x M1 => fldS M1 x f fun C y => (Cls X.K C ∧ NoAttr X.K C f) ∧ Q y M1) ss M) (hb : attributeBase e f X.env (eval e X.env) = eval e X.env := by rfl) : WE X B ex (.Attribute e f pos) Q ss M := .mk fun ck G A H σ w sl Kq k => by
  refine te_of (pe_fld pe_self hb) ?_
  refine h ck G A H σ w sl _ fun v x G1 A1 M1 H1 e1 w1 s1 h1 => ?_
  cases x with
  | raw u => exact h1.elim
  | exc u v w => exact h1.elim
  | tup xs => exact h1.elim
  | dat d =>
    cases d <;> try exact h1.elim
    obtain ⟨d, hd, hc, q⟩ := h1
    have s1 : Rep X.K G1 v (.ins _ _) := s1
    cases s1 with
    | ins ha r =>
      obtain ⟨y, hy, ry⟩ := r.look hd
      exact ⟨_, _, _, _, y, rfl, w1.gh _ _ ha, hc.1, hc.2, hy, k _ (.dat d) G1 A1 M1 H1 e1 w1 ry q⟩
  | cel i =>
    obtain ⟨C, fs, y, hM, hy, hc, q⟩ := h1
    obtain ⟨l, rfl, hl⟩ := s1
    obtain ⟨_, dx, fv, hv, r⟩ := w1.cl.get hl hM
    obtain ⟨u, hu, su⟩ := r.look hy
    exact ⟨_, _, _, _, u, rfl, hv, hc.1, hc.2, hu, k _ y G1 A1 M1 H1 e1 w1 su q⟩
/-- self.f = e, self an instance of ours -/
theorem ws_fld {f : Str} {N : Nd} (h : WE X B ex e (fun y M1 => WE X B ex o (fun x M2 => ∃ i C fs, x = .cel i ∧ M2[i]? = some (.ins C fs) ∧ Cls X.K C ∧ NoAttr X.K C f ∧ fs.length < 1000 ∧ N.nx ss (M2.set i (.ins C (putS f y fs)))) ss M1) ss M) (hs : swapsWith e (some (.Attribute o f p')) pos.line X.env = pure false := by rfl) :
    WS X B ex (.Assign [.Attribute o f p'] e pos) N ss M := .mk fun ck G A H σ w sl E k => by
  refine ts_of (ps_fld pe_self pe_self hs) ?_
  refine h ck G A H σ w sl _ fun v y G1 A1 M1 H1 e1 w1 s1 h1 => ?_
  refine h1 ck G1 A1 H1 σ w1 (sl.mono e1) _ fun u x G2 A2 M2 H2 e2 w2 s2 h2 => ?_
  obtain ⟨i, C, fs, rfl, hM, hc, hn, hz, q⟩ := h2
  obtain ⟨l, rfl, hl⟩ := s2
  obtain ⟨gn, dx, fv, hv, r⟩ := w2.cl.get hl hM
  refine ⟨l, C, dx, fv, rfl, hv, hc, hn, by rw [r.length]; exact hz, ?_⟩
  exact k.nx σ ss G2 A2 _ _ (e1.trans e2).1 (w2.setC (c' := .ins C (putS f y fs)) hl gn ⟨gn, dx, _, upd_same, r.put (s1.mono e2)⟩) (sl.mono (e1.trans e2)) q
/-! ### methods -/
def insS (M : Mem) (x : SV) (C : Addr) (m : Str) : Prop := match x with
  | .dat (.ins C' fs) => C' = C ∧ fs.lookup m = none
  | .cel i => ∃ fs, M[i]? = some (.ins C fs) ∧ fs.lookup m = none
  | _ => False
theorem insS_at {G : Hp} {A : List Addr} {H : Hp} {v : V} {x : SV} {C : Addr} {m : Str} (w : Wd X.K B G A M H) (s : SvOk X.K G A v x) (h : insS M x C m) : ∃ a dx fs, v = .ref a ∧ H a = some (.ins C dx fs) ∧ fs.lookup m = none := by
  cases x with
  | raw u => exact h.elim
  | exc u v w => exact h.elim
  | tup xs => exact h.elim
  | dat d =>
    cases d <;> try exact h.elim
    obtain ⟨rfl, hn⟩ := h
    have s : Rep X.K G v (.ins _ _) := s
    cases s with
    | ins ha r => exact ⟨_, _, _, rfl, w.gh _ _ ha, r.lookN hn⟩
  | cel i =>
    obtain ⟨fs, hM, hn⟩ := h
    obtain ⟨l, rfl, hl⟩ := s
    obtain ⟨_, dx, fv, hv, r⟩ := w.cl.get hl hM
    exact ⟨l, dx, fv, rfl, hv, r.lookN hn⟩
theorem we_meth {C f : Addr} {m : Str} {fd : FuncData} {ps : List Str} {k n : Nat} {S : SpD} {pl : Sem Bool} (cl : Cls X.K C) (hm : Meth X.K C m f) (F : FnOk X.prog X.w X.K X.mg X.base (L2.CX X.prog X.w) k f fd ps (spOf X.K n S)) (hr : Room k X.A) (hb : Binds X.K fd ps [])
    (h : WE X B ex o (fun x M1 => insS M1 x C m ∧ WA X B ex (e :: es) (fun xs M2 => CallQ n S (x :: xs) M2 Q ex ss) ss M1) ss M)
    (hst : starEach (e :: es) X.env = (false, eval e X.env) :: starEach es X.env := by rfl) (hpl : (backTo pos (starEach es X.env)).any (·.1) = false := by rfl)
    (ht : eval (.Call (.Attribute o m apos) (e :: es) [] pos) X.env = (do
      let ov ← eval o X.env
      standAt apos.atName
      let (f, first) ← holding [ov] (getMethod ov m pl)
      callWith pos f first (backTo pos (starEach (e :: es) X.env)) (backToKw pos (keywordEach [] X.env))) := by rfl) :
    WE X B ex (.Call (.Attribute o m apos) (e :: es) [] pos) Q ss M := .mk fun ck G A H σ w sl Kq kk pins s I => by
  have hO : teW X o σ H (fun v H1 => ∃ a dx fs, v = .ref a ∧ H1 a = some (.ins C dx fs) ∧ fs.lookup m = none ∧ taW X (e :: es) σ H1 fun vs H2 => spOf X.K n S (v :: vs) H2 Kq (fun cls d H' => XW X.K B ex cls d σ H')) := by
    refine h ck G A H σ w sl _ fun v x G1 A1 M1 H1 e1 w1 s1 h1 => ?_
    obtain ⟨l, dx, fs, e, hl, hn⟩ := insS_at w1 s1 h1.1
    refine ⟨l, dx, fs, e, hl, hn, ?_⟩
    refine h1.2 ck G1 A1 H1 σ w1 (sl.mono e1) _ fun vs xs G2 A2 M2 H2 e2 w2 s2 h2 => ?_
    exact call_sp w2 (sl.mono (e1.trans e2)) (.cons (s1.mono e2) s2) h2 fun v x G' A' M' H' e' => kk v x G' A' M' H' ((e1.trans e2).trans e')
  refine PySem.W.methodCall_KW (pl := pl) (thn (hO pins s I) fun u s1 ⟨x, H1, I1, rx, l, dx, fs, ex1, ea, ln, q⟩ => ?_) ht
  subst ex1
  obtain rfl : u = .ref l := rx
  refine getmeth_ok I1 ea cl hm ln ?_
  refine PySem.W.callWith_K (first := [.ref l]) (h₀ := X.base) I.ok.mod.kin hm.kp (thn (q pos pins s1 I1) fun us s2 ⟨vs, H2, I2, r, q2⟩ => ⟨I2.kIn, ?_⟩) hst hpl
  exact run_fnSD (E := fun σ cls d H' => XW X.K B ex cls d σ H') (dvs := []) (us := .ref l :: us) (vs := .ref l :: vs) F hr hb .nil (ck.at σ) I2 (.cons rfl r) (by rw [List.append_nil]; exact q2)
theorem we_meth0 {C f : Addr} {m : Str} {fd : FuncData} {ps : List Str} {k n : Nat} {S : SpD} {pl : Sem Bool} (cl : Cls X.K C) (hm : Meth X.K C m f) (F : FnOk X.prog X.w X.K X.mg X.base (L2.CX X.prog X.w) k f fd ps (spOf X.K n S)) (hr : Room k X.A) (hb : Binds X.K fd ps [])
    (h : WE X B ex o (fun x M1 => insS M1 x C m ∧ CallQ n S [x] M1 Q ex ss) ss M)
    (ht : eval (.Call (.Attribute o m apos) [] [] pos) X.env = (do
      let ov ← eval o X.env
      standAt apos.atName
      let (f, first) ← holding [ov] (getMethod ov m pl)
      callWith pos f first (backTo pos (starEach [] X.env)) (backToKw pos (keywordEach [] X.env))) := by rfl) :
    WE X B ex (.Call (.Attribute o m apos) [] [] pos) Q ss M := .mk fun ck G A H σ w sl Kq kk pins s I => by
  have hO : teW X o σ H (fun v H1 => ∃ a dx fs, v = .ref a ∧ H1 a = some (.ins C dx fs) ∧ fs.lookup m = none ∧ spOf X.K n S [v] H1 Kq (fun cls d H' => XW X.K B ex cls d σ H')) := by
    refine h ck G A H σ w sl _ fun v x G1 A1 M1 H1 e1 w1 s1 h1 => ?_
    obtain ⟨l, dx, fs, e, hl, hn⟩ := insS_at w1 s1 h1.1
    refine ⟨l, dx, fs, e, hl, hn, ?_⟩
    exact call_sp w1 (sl.mono e1) (.cons s1 .nil) h1.2 fun v x G' A' M' H' e' => kk v x G' A' M' H' (e1.trans e')
  refine PySem.W.methodCall_KW (pl := pl) (thn (hO pins s I) fun u s1 ⟨x, H1, I1, rx, l, dx, fs, ex1, ea, ln, q⟩ => ?_) ht
  subst ex1
  obtain rfl : u = .ref l := rx
  refine getmeth_ok I1 ea cl hm ln ?_
  refine PySem.W.callWith_K0 (first := [.ref l]) I1.kIn hm.kp ?_
  exact run_fnSD (E := fun σ cls d H' => XW X.K B ex cls d σ H') (dvs := []) (us := [.ref l]) (vs := [.ref l]) F hr hb .nil (ck.at σ) I1 (.cons rfl .nil) (by rw [List.append_nil]; exact q)
/-! ### new instances -/
theorem run_makeS {CX : CXT} {C f : Addr} {fd : FuncData} {ps : List Str} {k : Nat} {sp : Sp} {dvs : List V} {ds : List Value} {E : XK} {pins : List (Addr × Obj)} {σ : L2.St} {H : Hp} {s : Shared} {Q : VK} {us : List Value} {vs : List V} (Mk0 : Mk X.K C f) (F : FnOk X.prog X.w X.K X.mg X.base CX k f fd ps sp) (hr : Room (k + 1) X.A)
    (hb : Binds X.K fd ps ds) (hd : Vals dvs ds) (hx : PassesAt CX X σ E) (I : Inv X pins σ H s) (r : Vals vs us)
    (h : ∀ x dx, H x = none → H dx = none → dx ≠ x → sp (.ref x :: (vs ++ dvs)) (upd (upd H dx (.own x)) x (.ins C dx [])) (fun v H2 => v = .non ∧ Q (.ref x) H2) E) :
    wpAny (model X.prog X.w) X.A (call (.ref C) us) (EP X pins σ Q) X.xe s := by
  have q0 := h (s.heap.objs.size + 1) s.heap.objs.size (I.hok.fresh (Nat.le_succ _)) (I.hok.fresh (Nat.le_refl _)) (Nat.ne_of_lt (Nat.lt_succ_self _))
  have I2 := Inv.made (C := C) I
  have r2 : Vals (V.ref (s.heap.objs.size + 1) :: (vs ++ dvs)) (Value.ref (s.heap.objs.size + 1) :: (us ++ ds)) := .cons rfl (r.append hd)
  have hl : (Value.ref (s.heap.objs.size + 1) :: us ++ ds).length = ps.length := by
    have e0 := r2.length
    rw [F.len _ _ _ _ q0] at e0
    exact e0.symm
  refine wpAny_call (make_map (f := f) I.kIn Mk0.makes Mk0.init (beq_iff_eq.mp Mk0.fn) ?_)
  refine codeAny_mono (F.run _ X.stack _ _ ⟨.ref (s.heap.objs.size + 1) :: us, []⟩ (.ref (s.heap.objs.size + 1) :: (us ++ ds)) _ _ E (hr.make C us []) (I2.env0.make C us []) (hb _ (.ref (s.heap.objs.size + 1) :: us) I2.kIn hl) r2 q0) fun r s' q1 => ?_
  cases r with
  | error e => exact hx pins _ _ e s' I2 q1
  | ok fl =>
    cases fl with
    | ret u =>
      obtain ⟨v, H', I3, rv, ev, q3⟩ := I2.after q1
      subst ev
      exact ⟨rv, ⟨.ref (s.heap.objs.size + 1), H', I3, rfl, q3⟩⟩
    | next => exact q1.elim
    | brk => exact q1.elim
    | cont => exact q1.elim
/-- C(..) by its __init__, that gets the new instance as its one cell; the instance is frozen behind -/
def MakeQ0 (S : SpD) (C : Addr) (xs : List SV) (M : Mem) (Q : SV → Mem → Prop) (ex : XD) (ss : Sst) : Prop :=
  (xs.all (SV.lt 0) && M.all (Cell.lt M.length)) = true ∧ S (.cel 0 :: xs) [.ins C []] (fun y M' => y = .dat .non ∧ ∃ fs ds, M'[0]? = some (.ins C fs) ∧ fdats fs = some ds ∧ Q (.dat (.ins C ds)) M) (fun D fs _ => ex D fs ss M)
structure MakeQ (S : SpD) (C : Addr) (xs : List SV) (M : Mem) (Q : SV → Mem → Prop) (ex : XD) (ss : Sst) : Prop where
  run : MakeQ0 S C xs M Q ex ss
theorem lt0_of {fs : List (Str × SV)} {ds : List (Str × D)} (h : fdats fs = some ds) : (fs.all fun p => p.2.lt 0) = true := by
  induction fs generalizing ds with
  | nil => rfl
  | cons p fs ih =>
    obtain ⟨f, x⟩ := p
    cases x with
    | cel i => simp [fdats] at h
    | raw u => simp [fdats] at h
    | exc u v w => simp [fdats] at h
    | tup xs => simp [fdats] at h
    | dat d =>
      simp only [fdats, Option.map_eq_some_iff] at h
      obtain ⟨rs, e1, rfl⟩ := h
      rw [List.all_cons, ih e1]
      rfl
theorem Svs.cut0 {K : PySem.W.Frag} {G : Hp} {A A' : List Addr} {vs : List V} {xs : List SV} (h : xs.all (SV.lt 0) = true) (r : Svs K G A vs xs) : Svs K G A' vs xs := by
  have r2 : Svs K G [] vs xs := by
    have q := r.cut h
    rwa [List.take_zero] at q
  exact r2.mono ⟨fun _ _ e => e, A', by simp⟩
theorem make_sp {S : SpD} {C : Addr} {xs : List SV} {G : Hp} {A : List Addr} {H : Hp} {vs : List V} {σ : L2.St} {Kq : VK} (w : Wd X.K B G A M H) (sl : Sl X.K G A σ ss) (r : Svs X.K G A vs xs) (h : MakeQ S C xs M Q ex ss) (k : VPost X.K B G A Q Kq) :
    ∀ x dx, H x = none → H dx = none → dx ≠ x → spOf X.K 1 S (.ref x :: vs) (upd (upd H dx (.own x)) x (.ins C dx [])) (fun v H2 => v = .non ∧ Kq (.ref x) H2) (fun cls d H' => XW X.K B ex cls d σ H') := fun x dx hx hdx ne => by
  obtain ⟨hc, hS⟩ := h.run
  rw [Bool.and_eq_true] at hc
  have hA := w.len
  have hx2 : (upd H dx (.own x)) x = none := by rw [upd_ne (Ne.symm ne)]; exact hx
  have s2 : Same H (upd (upd H dx (.own x)) x (.ins C dx [])) := (same_upd hdx).trans (same_upd hx2)
  have hg := (w.none hx).2.2
  have hpre := w.pre
  have hbl : B.A.length ≤ A.length := by obtain ⟨more, e⟩ := hpre; rw [e, List.length_append]; omega
  refine ⟨.cel 0 :: xs, [.ins C []], G, [x], rfl, Wd.start (w.gh.trans s2) (by simp) (fun b m => ?_) (.cons ⟨hg, dx, [], upd_same, .nil⟩ .nil), .cons ⟨x, rfl, rfl⟩ (r.cut0 hc.1), _, _, hS, ?_, ?_⟩
  · rw [List.mem_singleton] at m; subst m; exact ⟨_, upd_same⟩
  · intro v y G' A' M' H' w' s' hl q
    obtain ⟨rfl, fs, ds, hM, hf, q⟩ := q
    cases s'
    refine ⟨rfl, ?_⟩
    obtain ⟨w2, e2⟩ := w.made hx s2 w' (.inr ⟨hM, lt0_of hf⟩)
    obtain ⟨G2, w3, s3, r3⟩ := w2.freezeI hbl hf (by rw [hA]; exact hc.2)
    exact k _ (.dat _) G2 A M H' ⟨e2.1.trans s3, [], by simp⟩ w3 r3 q
  · intro D fs d G' A' M' H' w' xd hl q
    obtain ⟨w2, e2⟩ := w.made (c := .dead) hx s2 w' (.inl rfl)
    have w3 := w2.drop A.length hbl (by rw [hA, List.take_append_of_le_length (Nat.le_refl _), List.take_length]; exact hc.2)
    rw [List.take_append_of_le_length (Nat.le_refl _), List.take_length, hA, List.take_append_of_le_length (Nat.le_refl _), List.take_length] at w3
    exact ⟨D, fs, ss, G', A, M, rfl, xd, w3, sl.mono ⟨e2.1, [], by simp⟩, q⟩
theorem we_make {x : Str} {C f : Addr} {fd : FuncData} {ps : List Str} {k : Nat} {S : SpD} {dvs : List V} {ds : List Value} {dxs : List SV} (Mk0 : Mk X.K C f) (F : FnOk X.prog X.w X.K X.mg X.base (L2.CX X.prog X.w) k f fd ps (spOf X.K 1 S)) (hr : Room (k + 1) X.A) (hm : X.mg x = some (.ref C))
    (hb : Binds X.K fd ps ds) (hd : Vals dvs ds) (hD : ∀ G A, Svs X.K G A dvs dxs) (hg : Gl X x)
    (h : WA X B ex (e :: es) (fun xs M1 => MakeQ S C (xs ++ dxs) M1 Q ex ss) ss M) (hdb : (x == ("__debug__" : Str)) = false := by decide) (he : starEach (e :: es) X.env = (false, eval e X.env) :: starEach es X.env := by rfl) (hpl : (backTo pos (starEach es X.env)).any (·.1) = false := by rfl) :
    WE X B ex (.Call (.Name x p) (e :: es) [] pos) Q ss M := .mk fun ck G A H σ w sl Kq kk pins s I => by
  refine wpAny_Call_Name_kw (ld_glob I hg hm ?_ hdb)
  have hO : taW X (e :: es) σ H (fun vs H1 => ∀ x dx, H1 x = none → H1 dx = none → dx ≠ x → spOf X.K 1 S (.ref x :: (vs ++ dvs)) (upd (upd H1 dx (.own x)) x (.ins C dx [])) (fun v H2 => v = .non ∧ Kq (.ref x) H2) (fun cls d H' => XW X.K B ex cls d σ H')) := by
    refine h ck G A H σ w sl _ fun vs xs G1 A1 M1 H1 e1 w1 s1 h1 => ?_
    have go : ∀ {vs xs}, Svs X.K G1 A1 vs xs → Svs X.K G1 A1 (vs ++ dvs) (xs ++ dxs) := by
      intro vs xs r
      induction r with
      | nil => exact hD G1 A1
      | cons h r ih => exact .cons h ih
    exact make_sp w1 (sl.mono e1) (go s1) h1 fun v x G' A' M' H' e' => kk v x G' A' M' H' (e1.trans e')
  refine PySem.W.callWith_K (h₀ := X.base) I.ok.mod.kin Mk0.kp (thn (hO pos pins s I) fun us s1 ⟨vs, H1, I1, r, q⟩ => ⟨I1.kIn, ?_⟩) he hpl
  exact run_makeS Mk0 F hr hb hd (ck.at σ) I1 r q
theorem we_make0 {x : Str} {C f : Addr} {fd : FuncData} {ps : List Str} {k : Nat} {S : SpD} {dvs : List V} {ds : List Value} {dxs : List SV} (Mk0 : Mk X.K C f) (F : FnOk X.prog X.w X.K X.mg X.base (L2.CX X.prog X.w) k f fd ps (spOf X.K 1 S)) (hr : Room (k + 1) X.A) (hm : X.mg x = some (.ref C))
    (hb : Binds X.K fd ps ds) (hd : Vals dvs ds) (hD : ∀ G A, Svs X.K G A dvs dxs) (hg : Gl X x)
    (h : MakeQ S C dxs M Q ex ss) (hdb : (x == ("__debug__" : Str)) = false := by decide) :
    WE X B ex (.Call (.Name x p) [] [] pos) Q ss M := .mk fun ck G A H σ w sl Kq kk pins s I => by
  refine wpAny_Call_Name_kw (ld_glob I hg hm ?_ hdb)
  refine PySem.W.callWith_K0 I.kIn Mk0.kp ?_
  exact run_makeS (us := []) Mk0 F hr hb hd (ck.at σ) I .nil (make_sp w sl (hD G A) h kk)
end
end Mb

/-! Mb, part 8: built-in calls, methods of texts and lists, slices. -/
namespace Mb
open PySem L2 PyProof.Rows
theorem reps_strs {K : PySem.W.Frag} {G : Hp} : ∀ {vs : List V} {ys : List Str}, Reps K G vs (ys.map D.str) → vs = ys.map V.str ∧ ∀ y ∈ ys, SOk y
  | _, [], .nil => ⟨rfl, fun _ m => by simp at m⟩
  | _, y :: ys, .cons (.str _ h) r => by
    obtain ⟨e, q⟩ := reps_strs r
    subst e
    refine ⟨rfl, fun z m => ?_⟩
    rcases List.mem_cons.mp m with rfl | m
    · exact h
    · exact q z m
theorem strs_reps {K : PySem.W.Frag} {G : Hp} : ∀ {ys : List Str}, (∀ y ∈ ys, SOk y) → Reps K G (ys.map V.str) (ys.map D.str)
  | [], _ => .nil
  | y :: ys, h => .cons (.str y (h y List.mem_cons_self)) (strs_reps fun z m => h z (List.mem_cons_of_mem _ m))
theorem reps_ints {K : PySem.W.Frag} {G : Hp} : ∀ {vs : List V} {ys : List Int}, Reps K G vs (ys.map D.int) → vs = ys.map V.int
  | _, [], .nil => rfl
  | _, y :: ys, .cons (.int _) r => by rw [reps_ints r]; rfl
theorem ints_reps {K : PySem.W.Frag} {G : Hp} : ∀ {ys : List Int}, Reps K G (ys.map V.int) (ys.map D.int)
  | [] => .nil
  | y :: ys => .cons (.int y) ints_reps
theorem reps_bls {K : PySem.W.Frag} {G : Hp} : ∀ {vs : List V} {ys : List Bool}, Reps K G vs (ys.map D.bl) → vs = ys.map V.bl
  | _, [], .nil => rfl
  | _, y :: ys, .cons (.bl _) r => by rw [reps_bls r]; rfl
section
variable {X : Cx} {B : Base} {ex : XD} {ss : Sst} {M : Mem} {a b c e tg o : Expr} {es : List Expr} {pos p p' apos p2 : Pos} {Q : SV → Mem → Prop} {QB : Bool → Mem → Prop} {x : Str}
/-- a built-in def, called -/
theorem we_cb {id : String} {r : List V → Hp → VK → Prop} {f : Mem → List SV → (SV → Mem → Prop) → Prop} (hc : CallR X (.builtin id) r)
    (hf : ∀ G A H M xs vs Q Kq, Wd X.K B G A M H → Svs X.K G A vs xs → f M xs Q → VPost X.K B G A Q Kq → r vs H Kq) (hm : X.mg x = none) (hv : bootBuiltins x = some (.builtin id)) (hg : Gl X x)
    (h : WA X B ex (e :: es) (fun xs M1 => f M1 xs Q) ss M) (hn : x ≠ "__name__" := by decide) (hdb : (x == ("__debug__" : Str)) = false := by decide)
    (he : starEach (e :: es) X.env = (false, eval e X.env) :: starEach es X.env := by rfl) (hpl : (backTo pos (starEach es X.env)).any (·.1) = false := by rfl) : WE X B ex (.Call (.Name x p) (e :: es) [] pos) Q ss M := .mk fun ck G A H σ w sl Kq k => by
  refine te_of (pe_callB hc hg hm hv pa_self hn hdb he hpl) ?_
  refine h ck G A H σ w sl _ fun vs xs G1 A1 M1 H1 e1 w1 s1 h1 => ?_
  exact hf G1 A1 H1 M1 xs vs Q Kq w1 s1 h1 fun v x G' A' M' H' e' => k v x G' A' M' H' (e1.trans e')
theorem we_ct {T : String} {r : List V → Hp → VK → Prop} {f : Mem → List SV → (SV → Mem → Prop) → Prop} (hc : CallR X (.type T) r)
    (hf : ∀ G A H M xs vs Q Kq, Wd X.K B G A M H → Svs X.K G A vs xs → f M xs Q → VPost X.K B G A Q Kq → r vs H Kq) (hm : X.mg x = none) (hv : bootBuiltins x = some (.type T)) (hg : Gl X x)
    (h : WA X B ex (e :: es) (fun xs M1 => f M1 xs Q) ss M) (hn : x ≠ "__name__" := by decide) (hdb : (x == ("__debug__" : Str)) = false := by decide)
    (he : starEach (e :: es) X.env = (false, eval e X.env) :: starEach es X.env := by rfl) (hpl : (backTo pos (starEach es X.env)).any (·.1) = false := by rfl) : WE X B ex (.Call (.Name x p) (e :: es) [] pos) Q ss M := .mk fun ck G A H σ w sl Kq k => by
  refine te_of (pe_callTy hc hg hm hv pa_self hn hdb he hpl) ?_
  refine h ck G A H σ w sl _ fun vs xs G1 A1 M1 H1 e1 w1 s1 h1 => ?_
  exact hf G1 A1 H1 M1 xs vs Q Kq w1 s1 h1 fun v x G' A' M' H' e' => k v x G' A' M' H' (e1.trans e')
/-- one argument, by what it is -/
def arg10 (k : Mem → D → (SV → Mem → Prop) → Prop) (M : Mem) (xs : List SV) (Q : SV → Mem → Prop) : Prop := match xs with
  | [x] => with1 M x fun d => k M d Q
  | _ => False
structure arg1 (k : Mem → D → (SV → Mem → Prop) → Prop) (M : Mem) (xs : List SV) (Q : SV → Mem → Prop) : Prop where
  run : arg10 k M xs Q
theorem arg1_get {k : Mem → D → (SV → Mem → Prop) → Prop} {xs : List SV} {G : Hp} {A : List Addr} {H : Hp} {vs : List V} (w : Wd X.K B G A M H) (r : Svs X.K G A vs xs) (h : arg1 k M xs Q) : ∃ v d, vs = [v] ∧ RepS X.K G H v d ∧ k M d Q := by
  have h := h.run
  cases r with
  | nil => exact h.elim
  | cons s r =>
    cases r with
    | nil =>
      obtain ⟨d, g, h⟩ := with1_get h
      exact ⟨_, d, rfl, s.s w g, h⟩
    | cons => exact h.elim
def lenD (M : Mem) (d : D) (Q : SV → Mem → Prop) : Prop := match d with
  | .str y => Q (.dat (.int (y.length : Int))) M
  | .lst ds => Q (.dat (.int (ds.length : Int))) M
  | .tup ds => Q (.dat (.int (ds.length : Int))) M
  | .dic ds => Q (.dat (.int (ds.length : Int))) M
  | _ => False
theorem RepK.length {K : PySem.W.Frag} {G : Hp} : ∀ {vs : List (Key × V)} {ds : List (Key × D)}, RepK K G vs ds → vs.length = ds.length
  | _, _, .nil => rfl
  | _, _, .cons _ r => congrArg (· + 1) r.length
theorem we_len (hm : X.mg "len" = none) (hg : Gl X "len") (h : WA X B ex (e :: es) (fun xs M1 => arg1 lenD M1 xs Q) ss M)
    (he : starEach (e :: es) X.env = (false, eval e X.env) :: starEach es X.env := by rfl) (hpl : (backTo pos (starEach es X.env)).any (·.1) = false := by rfl) : WE X B ex (.Call (.Name "len" p) (e :: es) [] pos) Q ss M := by
  refine we_cb (f := arg1 lenD) (CallR.or (CallR.or call_len_seq call_len_str) call_lenD) (fun G A H M xs vs Q Kq w r h k => ?_) hm PySem.boot_len hg h (he := he) (hpl := hpl)
  obtain ⟨v, d, rfl, q, h⟩ := arg1_get w r h
  cases d <;> try exact h.elim
  · obtain ⟨rfl, z⟩ := q
    exact .inl (.inr ⟨_, rfl, z.1, k.flat .refl w (.int _) h⟩)
  · obtain ⟨l, vs, rfl, hl, r⟩ := q
    refine .inl (.inl ⟨l, vs, rfl, .inl (.inl hl), ?_⟩)
    rw [r.length]; exact k.flat .refl w (.int _) h
  · obtain ⟨l, vs, rfl, hl, r⟩ := q
    refine .inl (.inl ⟨l, vs, rfl, .inr (hl), ?_⟩)
    rw [r.length]; exact k.flat .refl w (.int _) h
  · obtain ⟨l, vs, rfl, hl, r⟩ := q
    refine .inr ⟨l, vs, rfl, hl, ?_⟩
    rw [r.length]; exact k.flat .refl w (.int _) h
def absD (M : Mem) (d : D) (Q : SV → Mem → Prop) : Prop := match d with
  | .int i => Q (.dat (.int (if i < 0 then -i else i))) M
  | _ => False
theorem we_abs (hm : X.mg "abs" = none) (hg : Gl X "abs") (h : WA X B ex (e :: es) (fun xs M1 => arg1 absD M1 xs Q) ss M)
    (he : starEach (e :: es) X.env = (false, eval e X.env) :: starEach es X.env := by rfl) (hpl : (backTo pos (starEach es X.env)).any (·.1) = false := by rfl) : WE X B ex (.Call (.Name "abs" p) (e :: es) [] pos) Q ss M := by
  refine we_cb (f := arg1 absD) call_abs (fun G A H M xs vs Q Kq w r h k => ?_) hm (by decide +kernel) hg h (he := he) (hpl := hpl)
  obtain ⟨v, d, rfl, q, h⟩ := arg1_get w r h
  cases d <;> try exact h.elim
  obtain rfl := q
  exact ⟨_, rfl, k.flat .refl w (.int _) h⟩
def intD (M : Mem) (d : D) (Q : SV → Mem → Prop) : Prop := match d with
  | .int i => Q (.dat (.int i)) M
  | .bl k => Q (.dat (.int (if k then 1 else 0))) M
  | .str a => ∃ n, (PySem.intText? a = some n ∧ a.length ≤ 640) ∧ Q (.dat (.int n)) M
  | _ => False
theorem we_toint (hm : X.mg "int" = none) (hg : Gl X "int") (h : WA X B ex (e :: es) (fun xs M1 => arg1 intD M1 xs Q) ss M)
    (he : starEach (e :: es) X.env = (false, eval e X.env) :: starEach es X.env := by rfl) (hpl : (backTo pos (starEach es X.env)).any (·.1) = false := by rfl) : WE X B ex (.Call (.Name "int" p) (e :: es) [] pos) Q ss M := by
  refine we_ct (f := arg1 intD) (CallR.or call_int1 call_int_str) (fun G A H M xs vs Q Kq w r h k => ?_) hm (by decide +kernel) hg h (he := he) (hpl := hpl)
  obtain ⟨v, d, rfl, q, h⟩ := arg1_get w r h
  cases d <;> try exact h.elim
  · obtain rfl := q
    exact .inl (.inr ⟨_, rfl, k.flat .refl w (.int _) h⟩)
  · obtain rfl := q
    exact .inl (.inl ⟨_, rfl, k.flat .refl w (.int _) h⟩)
  · obtain ⟨rfl, z⟩ := q
    obtain ⟨n, h1, h2⟩ := h
    exact .inr ⟨_, n, rfl, h1.1, h1.2, k.flat .refl w (.int _) h2⟩
/-- str(n) -/
def strI (i : Int) : Str := Str.ofString (toString i)
def strD (M : Mem) (d : D) (Q : SV → Mem → Prop) : Prop := match d with
  | .int i => (i.natAbs.log2 < 1920 ∧ SOk (strI i)) ∧ Q (.dat (.str (strI i))) M
  | _ => False
theorem we_tostr (hm : X.mg "str" = none) (hg : Gl X "str") (h : WA X B ex (e :: es) (fun xs M1 => arg1 strD M1 xs Q) ss M)
    (he : starEach (e :: es) X.env = (false, eval e X.env) :: starEach es X.env := by rfl) (hpl : (backTo pos (starEach es X.env)).any (·.1) = false := by rfl) : WE X B ex (.Call (.Name "str" p) (e :: es) [] pos) Q ss M := by
  refine we_ct (f := arg1 strD) call_str_int (fun G A H M xs vs Q Kq w r h k => ?_) hm (by decide +kernel) hg h (he := he) (hpl := hpl)
  obtain ⟨v, d, rfl, q, h⟩ := arg1_get w r h
  cases d <;> try exact h.elim
  obtain rfl := q
  exact ⟨_, rfl, h.1.1, k.flat .refl w (.str _ h.1.2) h.2⟩
def int2 (g : Int → Int → Int) (M : Mem) (xs : List SV) (Q : SV → Mem → Prop) : Prop := match xs with
  | [.dat (.int i), .dat (.int j)] => Q (.dat (.int (g i j))) M
  | _ => False
theorem int2_get {g : Int → Int → Int} {xs : List SV} {G : Hp} {A : List Addr} {vs : List V} (r : Svs X.K G A vs xs) (h : int2 g M xs Q) : ∃ i j, vs = [.int i, .int j] ∧ Q (.dat (.int (g i j))) M := by
  unfold int2 at h
  split at h
  · cases r with
    | cons s r =>
      cases r with
      | cons s' r =>
        cases r
        cases s
        cases s'
        exact ⟨_, _, rfl, h⟩
  · exact h.elim
theorem we_max2 (hc : X.calm = true) (hm : X.mg "max" = none) (hg : Gl X "max") (h : WA X B ex [a, b] (fun xs M1 => int2 (fun i j => if j > i then j else i) M1 xs Q) ss M)
    (he : starEach [a, b] X.env = (false, eval a X.env) :: starEach [b] X.env := by rfl) (hpl : (backTo pos (starEach [b] X.env)).any (·.1) = false := by rfl) : WE X B ex (.Call (.Name "max" p) [a, b] [] pos) Q ss M := by
  refine we_cb (f := int2 fun i j => if j > i then j else i) (call_max2 hc) (fun G A H M xs vs Q Kq w r h k => ?_) hm (by decide +kernel) hg h (he := he) (hpl := hpl)
  obtain ⟨i, j, rfl, h⟩ := int2_get r h
  exact ⟨_, _, rfl, k.flat .refl w (.int _) h⟩
theorem we_min2 (hc : X.calm = true) (hm : X.mg "min" = none) (hg : Gl X "min") (h : WA X B ex [a, b] (fun xs M1 => int2 (fun i j => if j < i then j else i) M1 xs Q) ss M)
    (he : starEach [a, b] X.env = (false, eval a X.env) :: starEach [b] X.env := by rfl) (hpl : (backTo pos (starEach [b] X.env)).any (·.1) = false := by rfl) : WE X B ex (.Call (.Name "min" p) [a, b] [] pos) Q ss M := by
  refine we_cb (f := int2 fun i j => if j < i then j else i) (call_min2 hc) (fun G A H M xs vs Q Kq w r h k => ?_) hm (by decide +kernel) hg h (he := he) (hpl := hpl)
  obtain ⟨i, j, rfl, h⟩ := int2_get r h
  exact ⟨_, _, rfl, k.flat .refl w (.int _) h⟩
/-- list(xs): a new list, as data or as a cell -/
def listD (M : Mem) (d : D) (Q : SV → Mem → Prop) : Prop := match d with
  | .lst ds => Q (.dat (.lst ds)) M
  | .tup ds => Q (.dat (.lst ds)) M
  | _ => False
theorem we_list (hm : X.mg "list" = none) (hg : Gl X "list") (h : WA X B ex (e :: es) (fun xs M1 => arg1 listD M1 xs Q) ss M)
    (he : starEach (e :: es) X.env = (false, eval e X.env) :: starEach es X.env := by rfl) (hpl : (backTo pos (starEach es X.env)).any (·.1) = false := by rfl) : WE X B ex (.Call (.Name "list" p) (e :: es) [] pos) Q ss M := by
  refine we_ct (f := arg1 listD) call_list_of (fun G A H M xs vs Q Kq w r h k => ?_) hm (by decide +kernel) hg h (he := he) (hpl := hpl)
  obtain ⟨v, d, rfl, q, h⟩ := arg1_get w r h
  cases d <;> try exact h.elim
  · obtain ⟨l, vs, rfl, hl, r⟩ := q
    exact ⟨l, vs, rfl, .inl (.inl hl), k.new .refl w h fun p hp => .lst (.inl upd_same) (r.mono (same_upd (w.none hp).2.2))⟩
  · obtain ⟨l, vs, rfl, hl, r⟩ := q
    exact ⟨l, vs, rfl, .inr (hl), k.new .refl w h fun p hp => .lst (.inl upd_same) (r.mono (same_upd (w.none hp).2.2))⟩
def listC (M : Mem) (d : D) (Q : SV → Mem → Prop) : Prop := match d with
  | .lst ds => Q (.cel M.length) (M ++ [.lst ds])
  | .tup ds => Q (.cel M.length) (M ++ [.lst ds])
  | _ => False
theorem VPost.newC {K : PySem.W.Frag} {G : Hp} {A : List Addr} {H : Hp} {Kq : VK} (k : VPost K B G A Q Kq) {G' : Hp} {A' : List Addr} {ds : List D} {vs : List V} (e : Ext G A G' A') (w : Wd K B G' A' M H) (r : Reps K G' vs ds) (q : Q (.cel M.length) (M ++ [.lst ds])) : ∀ p, H p = none → Kq (.ref p) (upd H p (.lst vs)) := fun p hp => by
  obtain ⟨w2, e2⟩ := w.newC (c := .lst ds) (o := .lst vs) hp ⟨(w.none hp).2.2, vs, upd_same, r⟩
  refine k _ (.cel M.length) _ _ _ _ (e.trans e2) w2 ⟨p, rfl, ?_⟩ q
  rw [← w.len, List.getElem?_append_right (Nat.le_refl _), Nat.sub_self]
  rfl
theorem we_listC (hm : X.mg "list" = none) (hg : Gl X "list") (h : WA X B ex (e :: es) (fun xs M1 => arg1 listC M1 xs Q) ss M)
    (he : starEach (e :: es) X.env = (false, eval e X.env) :: starEach es X.env := by rfl) (hpl : (backTo pos (starEach es X.env)).any (·.1) = false := by rfl) : WE X B ex (.Call (.Name "list" p) (e :: es) [] pos) Q ss M := by
  refine we_ct (f := arg1 listC) call_list_of (fun G A H M xs vs Q Kq w r h k => ?_) hm (by decide +kernel) hg h (he := he) (hpl := hpl)
  obtain ⟨v, d, rfl, q, h⟩ := arg1_get w r h
  cases d <;> try exact h.elim
  · obtain ⟨l, vs, rfl, hl, r⟩ := q
    exact ⟨l, vs, rfl, .inl (.inl hl), k.newC .refl w r h⟩
  · obtain ⟨l, vs, rfl, hl, r⟩ := q
    exact ⟨l, vs, rfl, .inr (hl), k.newC .refl w r h⟩
def tupleD (M : Mem) (d : D) (Q : SV → Mem → Prop) : Prop := match d with
  | .lst ds => Q (.dat (.tup ds)) M
  | .tup ds => Q (.dat (.tup ds)) M
  | _ => False
theorem RepS.data {G : Hp} {A : List Addr} {H : Hp} {x : SV} {v : V} {d : D} (s : SvOk X.K G A v x) (g : x.get M = some d) (h : (∀ ds, d ≠ .lst ds) ∧ ∀ ds, d ≠ .dic ds) : Rep X.K G v d := by
  cases x with
  | dat d' => simp only [SV.get, Option.some.injEq] at g; subst g; exact s
  | raw u => simp [SV.get] at g
  | exc u v w => simp [SV.get] at g
  | tup xs => simp [SV.get] at g
  | cel i =>
    simp only [SV.get] at g
    split at g <;> cases g
    · exact absurd rfl (h.1 _)
    · exact absurd rfl (h.2 _)
theorem we_tuple (hm : X.mg "tuple" = none) (hg : Gl X "tuple") (h : WA X B ex (e :: es) (fun xs M1 => arg1 tupleD M1 xs Q) ss M)
    (he : starEach (e :: es) X.env = (false, eval e X.env) :: starEach es X.env := by rfl) (hpl : (backTo pos (starEach es X.env)).any (·.1) = false := by rfl) : WE X B ex (.Call (.Name "tuple" p) (e :: es) [] pos) Q ss M := by
  refine we_ct (f := arg1 tupleD) call_tuple_of (fun G A H M xs vs Q Kq w r h k => ?_) hm (by decide +kernel) hg h (he := he) (hpl := hpl)
  have h := h.run
  cases r with
  | nil => exact h.elim
  | @cons v vs x xs s r =>
    cases r with
    | cons => exact h.elim
    | nil =>
      obtain ⟨d, g, h⟩ := with1_get h
      have q := s.s w g
      cases d <;> try exact h.elim
      · obtain ⟨l, vs, rfl, hl, r⟩ := q
        exact ⟨l, vs, rfl, .inl ⟨.inl hl, k.new .refl w h fun p hp => .tup (.of upd_same) (r.mono (same_upd (w.none hp).2.2))⟩⟩
      · have rd := RepS.data (H := H) s g ⟨fun _ z => (by cases z), fun _ z => (by cases z)⟩
        obtain ⟨l, vs, rfl, hl, r⟩ := q
        exact ⟨l, vs, rfl, .inr ⟨hl, k.flat .refl w rd h⟩⟩
/-- sum, all, any, max of a list -/
def sumD (M : Mem) (d : D) (Q : SV → Mem → Prop) : Prop := match d with
  | .lst ds => ∃ ns : List Int, ds = ns.map D.int ∧ Q (.dat (.int ns.sum)) M
  | _ => False
theorem we_sum (hc : X.calm = true) (hm : X.mg "sum" = none) (hg : Gl X "sum") (h : WA X B ex (e :: es) (fun xs M1 => arg1 sumD M1 xs Q) ss M)
    (he : starEach (e :: es) X.env = (false, eval e X.env) :: starEach es X.env := by rfl) (hpl : (backTo pos (starEach es X.env)).any (·.1) = false := by rfl) : WE X B ex (.Call (.Name "sum" p) (e :: es) [] pos) Q ss M := by
  refine we_cb (f := arg1 sumD) (cr_sum hc) (fun G A H M xs vs Q Kq w r h k => ?_) hm (by decide +kernel) hg h (he := he) (hpl := hpl)
  obtain ⟨v, d, rfl, q, h⟩ := arg1_get w r h
  cases d <;> try exact h.elim
  obtain ⟨ns, rfl, h⟩ := h
  obtain ⟨l, vs, rfl, hl, r⟩ := q
  rw [reps_ints r] at hl
  exact ⟨l, ns, rfl, .inl hl, k.flat .refl w (.int _) h⟩
def maxD (M : Mem) (d : D) (Q : SV → Mem → Prop) : Prop := match d with
  | .lst ds => ∃ ns : List Int, ds = ns.map D.int ∧ 0 < ns.length ∧ ∀ m, m ∈ ns → (∀ y, y ∈ ns → y ≤ m) → Q (.dat (.int m)) M
  | _ => False
theorem we_max (hc : X.calm = true) (hm : X.mg "max" = none) (hg : Gl X "max") (h : WA X B ex [e] (fun xs M1 => arg1 maxD M1 xs Q) ss M)
    (he : starEach [e] X.env = (false, eval e X.env) :: starEach [] X.env := by rfl) (hpl : (backTo pos (starEach [] X.env)).any (·.1) = false := by rfl) : WE X B ex (.Call (.Name "max" p) [e] [] pos) Q ss M := by
  refine we_cb (f := arg1 maxD) (cr_max hc) (fun G A H M xs vs Q Kq w r h k => ?_) hm (by decide +kernel) hg h (he := he) (hpl := hpl)
  obtain ⟨v, d, rfl, q, h⟩ := arg1_get w r h
  cases d <;> try exact h.elim
  obtain ⟨ns, rfl, h0, h⟩ := h
  obtain ⟨l, vs, rfl, hl, r⟩ := q
  rw [reps_ints r] at hl
  exact ⟨l, ns, rfl, .inl hl, h0, fun m h1 h2 => k.flat .refl w (.int _) (h m h1 h2)⟩
def allD (f : List Bool → Bool) (M : Mem) (d : D) (Q : SV → Mem → Prop) : Prop := match d with
  | .lst ds => ∃ bs : List Bool, ds = bs.map D.bl ∧ Q (.dat (.bl (f bs))) M
  | _ => False
theorem we_all (hc : X.calm = true) (hm : X.mg "all" = none) (hg : Gl X "all") (h : WA X B ex (e :: es) (fun xs M1 => arg1 (allD fun bs => bs.all id) M1 xs Q) ss M)
    (he : starEach (e :: es) X.env = (false, eval e X.env) :: starEach es X.env := by rfl) (hpl : (backTo pos (starEach es X.env)).any (·.1) = false := by rfl) : WE X B ex (.Call (.Name "all" p) (e :: es) [] pos) Q ss M := by
  refine we_cb (f := arg1 (allD fun bs => bs.all id)) (cr_all hc) (fun G A H M xs vs Q Kq w r h k => ?_) hm (by decide +kernel) hg h (he := he) (hpl := hpl)
  obtain ⟨v, d, rfl, q, h⟩ := arg1_get w r h
  cases d <;> try exact h.elim
  obtain ⟨ns, rfl, h⟩ := h
  obtain ⟨l, vs, rfl, hl, r⟩ := q
  rw [reps_bls r] at hl
  exact ⟨l, ns, rfl, .inl hl, k.flat .refl w (.bl _) h⟩
theorem we_any (hc : X.calm = true) (hm : X.mg "any" = none) (hg : Gl X "any") (h : WA X B ex (e :: es) (fun xs M1 => arg1 (allD fun bs => bs.any id) M1 xs Q) ss M)
    (he : starEach (e :: es) X.env = (false, eval e X.env) :: starEach es X.env := by rfl) (hpl : (backTo pos (starEach es X.env)).any (·.1) = false := by rfl) : WE X B ex (.Call (.Name "any" p) (e :: es) [] pos) Q ss M := by
  refine we_cb (f := arg1 (allD fun bs => bs.any id)) (cr_any hc) (fun G A H M xs vs Q Kq w r h k => ?_) hm (by decide +kernel) hg h (he := he) (hpl := hpl)
  obtain ⟨v, d, rfl, q, h⟩ := arg1_get w r h
  cases d <;> try exact h.elim
  obtain ⟨ns, rfl, h⟩ := h
  obtain ⟨l, vs, rfl, hl, r⟩ := q
  rw [reps_bls r] at hl
  exact ⟨l, ns, rfl, .inl hl, k.flat .refl w (.bl _) h⟩
end
end Mb

/-! Mb, part 9: loops, list methods, text methods, slices. -/
namespace Mb
open PySem L2 PyProof.Rows
section
variable {X : Cx} {B : Base} {ex : XD} {ss : Sst} {M : Mem} {a b c e tg o iter : Expr} {es : List Expr} {pos p p' apos p2 : Pos} {Q : SV → Mem → Prop} {QB : Bool → Mem → Prop} {x : Str} {N : Nd} {body : List Stmt}
/-! ### what is walked -/
/-- J gives the items ds, one by one, while what G1 knows stands -/
def SrcOk (K : PySem.W.Frag) (B : Base) (J : It) (G1 : Hp) (ds : List D) : Prop :=
  ∃ (Gp : Hp → Prop) (Y : Nat → Hp → V → Hp → Prop), Walk J ds.length Gp Y ∧ (∀ H, Same G1 H → Gp H) ∧
    ∀ i H x H' G A M, i < ds.length → Same G1 G → Wd K B G A M H → Y i H x H' → ∃ G' d, Same G G' ∧ Wd K B G' A M H' ∧ ds[i]? = some d ∧ Rep K G' x d ∧ Same H H' ∧ ∀ b o, G' b = some o → G b = some o ∨ H b = none
def tiW (X : Cx) (tg iter : Expr) : TI := fun σ H R => ∀ pins s, Inv X pins σ H s → wpAny (model X.prog X.w) X.A (eval iter X.env) (fun v s1 => wpAny (model X.prog X.w) X.A (pyIter v) (PIE X pins σ tg R) X.xe s1) X.xe s
theorem pi_self : PI X tg iter (tiW X tg iter) := ⟨fun pins s _ _ _ I h => h pins s I⟩
theorem ti_of {t : TI} {σ : L2.St} {H : Hp} {R : It → Hp → Prop} (h : PI X tg iter t) (q : t σ H R) : tiW X tg iter σ H R := fun pins s I => h.run pins s σ H R I q
def WI0 (X : Cx) (B : Base) (ex : XD) (tg iter : Expr) (Q : List D → Mem → Prop) (ss : Sst) (M : Mem) : Prop :=
  Cok X B ex → ∀ G A H σ, Wd X.K B G A M H → Sl X.K G A σ ss → ∀ R : It → Hp → Prop, (∀ J ds G' A' M' H', Ext G A G' A' → Wd X.K B G' A' M' H' → SrcOk X.K B J G' ds → Q ds M' → R J H') → tiW X tg iter σ H R
structure WI (X : Cx) (B : Base) (ex : XD) (tg iter : Expr) (Q : List D → Mem → Prop) (ss : Sst) (M : Mem) : Prop where
  run : WI0 X B ex tg iter Q ss M
instance {X : Cx} {B : Base} {ex : XD} {tg iter : Expr} {Q : List D → Mem → Prop} {ss : Sst} {M : Mem} : CoeFun (WI X B ex tg iter Q ss M) fun _ => Cok X B ex → ∀ G A H σ, Wd X.K B G A M H → Sl X.K G A σ ss → ∀ R : It → Hp → Prop, (∀ J ds G' A' M' H', Ext G A G' A' → Wd X.K B G' A' M' H' → SrcOk X.K B J G' ds → Q ds M' → R J H') → tiW X tg iter σ H R := ⟨WI.run⟩
theorem src_at {K : PySem.W.Frag} {G1 : Hp} {J : It} {vs : List V} {ds : List D} {Gp : Hp → Prop} (r : Reps K G1 vs ds) (wk : Walk J vs.length Gp (YAt vs)) (hG : ∀ H, Same G1 H → Gp H) : SrcOk K B J G1 ds := by
  refine ⟨Gp, YAt vs, by rw [← r.length]; exact wk, hG, fun i H x H' G A M hi s w hy => ?_⟩
  obtain ⟨rfl, hx⟩ := hy
  obtain ⟨d, hd, rd⟩ := r.at hx
  exact ⟨G, d, Same.refl _, w, hd, rd.mono s, Same.refl _, fun b o e => .inl e⟩
variable {QL : List D → Mem → Prop}
theorem wi_list (h : WE X B ex iter (fun x M1 => ∃ ds, x = .dat (.lst ds) ∧ QL ds M1) ss M) : WI X B ex tg iter QL ss M := .mk fun ck G A H σ w sl R k => by
  refine ti_of (pi_list pe_self) ?_
  refine h ck G A H σ w sl _ fun v x G1 A1 M1 H1 e1 w1 s1 h1 => ?_
  obtain ⟨ds, rfl, q⟩ := h1
  have s1 : Rep X.K G1 v (.lst ds) := s1
  cases s1 with
  | lst hl r => exact ⟨_, rfl, ⟨_, .inl (rdM w1.gh hl)⟩, k _ ds G1 A1 M1 H1 e1 w1 (src_at r walk_list fun H s => .inl (rdM s hl)) q⟩
theorem wi_tup (h : WE X B ex iter (fun x M1 => ∃ ds, x = .dat (.tup ds) ∧ QL ds M1) ss M) : WI X B ex tg iter QL ss M := .mk fun ck G A H σ w sl R k => by
  refine ti_of (pi_tup pe_self) ?_
  refine h ck G A H σ w sl _ fun v x G1 A1 M1 H1 e1 w1 s1 h1 => ?_
  obtain ⟨ds, rfl, q⟩ := h1
  have s1 : Rep X.K G1 v (.tup ds) := s1
  cases s1 with
  | tup hl r => exact ⟨_, rfl, ⟨_, sqtM w1.gh hl⟩, k _ ds G1 A1 M1 H1 e1 w1 (src_at r walk_tup fun H s => sqtM s hl) q⟩
/-- the signs of a text -/
def signsD (z : Str) : List D := z.cps.toList.map fun c => .str ⟨#[c]⟩
theorem SOk.one {z : Str} {c : Nat} (h : SOk z) (m : c ∈ z.cps) : SOk ⟨#[c]⟩ := by
  refine ⟨by show 1 ≤ sizeLine; decide, ?_⟩
  have a := h.2
  unfold PyData.strOk at a ⊢
  rw [Array.all_eq_true'] at a
  have := a c m
  simpa using this
theorem wi_str (h : WE X B ex iter (fun x M1 => ∃ z, x = .dat (.str z) ∧ QL (signsD z) M1) ss M) : WI X B ex tg iter QL ss M := .mk fun ck G A H σ w sl R k => by
  refine ti_of (pi_str pe_self) ?_
  refine h ck G A H σ w sl _ fun v x G1 A1 M1 H1 e1 w1 s1 h1 => ?_
  obtain ⟨z, rfl, q⟩ := h1
  have s1 : Rep X.K G1 v (.str z) := s1
  cases s1 with
  | str _ hz =>
    refine ⟨z, rfl, k _ _ G1 A1 M1 H1 e1 w1 ⟨_, _, (by
      have e : (signsD z).length = z.cps.size := by unfold signsD; rw [List.length_map, Array.length_toList]
      rw [e]; exact walk_str), fun _ _ => trivial, fun i H x H' G A M hi s w hy => ?_⟩ q⟩
    obtain ⟨rfl, c, hc, rfl⟩ := hy
    refine ⟨G, _, Same.refl _, w, ?_, .str _ (hz.one (Array.mem_of_getElem? hc)), Same.refl _, fun b o e => .inl e⟩
    unfold signsD
    rw [List.getElem?_map, Array.getElem?_toList, hc]
    rfl
/-- the ints that range(n), range(a, b) goes through -/
def rangeD (lo : Int) (n : Nat) : List D := (List.range n).map fun (i : Nat) => .int (lo + (i : Int))
theorem src_range {K : PySem.W.Frag} {G1 : Hp} {lo : Int} {n : Nat} : SrcOk K B (Itr lo n) G1 (rangeD lo n) := by
  have e : (rangeD lo n).length = n := by unfold rangeD; rw [List.length_map, List.length_range]
  refine ⟨_, _, by rw [e]; exact walk_range, fun _ _ => trivial, fun i H x H' G A M hi s w hy => ?_⟩
  obtain ⟨rfl, rfl⟩ := hy
  rw [e] at hi
  refine ⟨G, _, Same.refl _, w, ?_, .int _, Same.refl _, fun b o e => .inl e⟩
  unfold rangeD
  rw [List.getElem?_map, List.getElem?_range hi]
  rfl
theorem wi_range1 (hm : X.mg "range" = none) (hg : Gl X "range") (h : WA X B ex [e] (fun xs M1 => ∃ n : Int, xs = [.dat (.int n)] ∧ (-(2 ^ 62) ≤ n ∧ n < 2 ^ 62) ∧ QL (rangeD 0 n.toNat) M1) ss M)
    (hs1 : starEach [e] X.env = [(false, eval e X.env)] := by rfl) : WI X B ex tg (.Call (.Name "range" p) [e] [] p2) QL ss M := .mk fun ck G A H σ w sl R k => by
  refine ti_of (pi_range1 hg hm pa_self hs1) ?_
  refine h ck G A H σ w sl _ fun vs xs G1 A1 M1 H1 e1 w1 s1 h1 => ?_
  obtain ⟨n, rfl, hz, q⟩ := h1
  cases s1 with
  | cons s r =>
    cases r
    cases s
    exact ⟨n, rfl, hz.1, hz.2, k _ _ G1 A1 M1 H1 e1 w1 src_range q⟩
theorem wi_range2 (hm : X.mg "range" = none) (hg : Gl X "range") (h : WA X B ex [a, b] (fun xs M1 => ∃ i n : Int, xs = [.dat (.int i), .dat (.int n)] ∧ (-(2 ^ 62) ≤ i ∧ i < 2 ^ 62 ∧ -(2 ^ 62) ≤ n ∧ n < 2 ^ 62) ∧ QL (rangeD i (n - i).toNat) M1) ss M)
    (hs1 : starEach [a, b] X.env = [(false, eval a X.env), (false, eval b X.env)] := by rfl) (hs2 : starEach [b] X.env = [(false, eval b X.env)] := by rfl) : WI X B ex tg (.Call (.Name "range" p) [a, b] [] p2) QL ss M := .mk fun ck G A H σ w sl R k => by
  refine ti_of (pi_range2 hg hm pa_self hs1 hs2) ?_
  refine h ck G A H σ w sl _ fun vs xs G1 A1 M1 H1 e1 w1 s1 h1 => ?_
  obtain ⟨i, n, rfl, hz, q⟩ := h1
  cases s1 with
  | cons s r =>
    cases r with
    | cons s' r =>
      cases r
      cases s
      cases s'
      exact ⟨i, n, rfl, hz, k _ _ G1 A1 M1 H1 e1 w1 src_range q⟩
/-- pairs that are made while one walks -/
theorem src_pair {K : PySem.W.Frag} {G1 : Hp} {J : It} {Gp : Hp → Prop} {xs ys : Nat → Option V} {ds es : List D} {n : Nat} (wk : Walk J n Gp (YPair xs ys)) (hG : ∀ H, Same G1 H → Gp H) (h1 : ds.length = n) (h2 : es.length = n)
    (r1 : ∀ i x, i < n → xs i = some x → ∃ d, ds[i]? = some d ∧ Rep K G1 x d) (r2 : ∀ i x, i < n → ys i = some x → ∃ d, es[i]? = some d ∧ Rep K G1 x d) : SrcOk K B J G1 (List.zipWith (fun a b => D.tup [a, b]) ds es) := by
  have e : (List.zipWith (fun a b => D.tup [a, b]) ds es).length = n := by rw [List.length_zipWith, h1, h2, Nat.min_self]
  refine ⟨Gp, _, by rw [e]; exact wk, hG, fun i H x H' G A M hi s w hy => ?_⟩
  rw [e] at hi
  obtain ⟨T, x1, x2, rfl, hT, rfl, hx, hy⟩ := hy
  obtain ⟨d1, e1, q1⟩ := r1 i x1 hi hx
  obtain ⟨d2, e2, q2⟩ := r2 i x2 hi hy
  obtain ⟨w2, ext⟩ := w.newD (o := .tup [x1, x2]) hT
  refine ⟨_, .tup [d1, d2], ext.1, w2, ?_, .tup (.of upd_same) (.cons (q1.mono (s.trans ext.1)) (.cons (q2.mono (s.trans ext.1)) .nil)), same_upd hT, fun b o e => ?_⟩
  · rw [List.getElem?_zipWith, e1, e2]
  · by_cases c : b = T
    · subst c; exact .inr hT
    · rw [upd_ne c] at e; exact .inl e
theorem wi_enum {elts : List Expr} {kk : Nat} {tpos : Pos} (hm : X.mg "enumerate" = none) (hg : Gl X "enumerate") (h : WA X B ex [e] (fun xs M1 => ∃ ds : List D, xs = [.dat (.lst ds)] ∧ QL (List.zipWith (fun a b => D.tup [a, b]) (rangeD 0 ds.length) ds) M1) ss M)
    (hs1 : starEach [e] X.env = [(false, eval e X.env)] := by rfl) : WI X B ex (.Tuple elts kk tpos) (.Call (.Name "enumerate" p) [e] [] p2) QL ss M := .mk fun ck G A H σ w sl R k => by
  refine ti_of (pi_enum hg hm pa_self hs1) ?_
  refine h ck G A H σ w sl _ fun vs xs G1 A1 M1 H1 e1 w1 s1 h1 => ?_
  obtain ⟨ds, rfl, q⟩ := h1
  cases s1 with
  | cons s r =>
    cases r
    have s : Rep X.K G1 _ (.lst ds) := s
    cases s with
    | lst hl r =>
      rename_i l vs
      refine ⟨l, vs, rfl, .inl (rdM w1.gh hl), k _ _ G1 A1 M1 H1 e1 w1 (src_pair (n := vs.length) (walk_enum (K := X.K) (a := l) (xs := vs)) (fun H s => .inl (rdM s hl)) (by unfold rangeD; rw [List.length_map, List.length_range, r.length]) r.length.symm (fun i x hi hx => ?_) fun i x hi hx => r.at hx) q⟩
      cases hx
      refine ⟨.int (0 + (i : Int)), ?_, by rw [Int.zero_add]; exact .int _⟩
      unfold rangeD
      rw [List.getElem?_map, List.getElem?_range (by rw [← r.length]; exact hi)]
      rfl
theorem wi_zip {elts : List Expr} {kk : Nat} {tpos : Pos} (hm : X.mg "zip" = none) (hg : Gl X "zip") (h : WA X B ex [a, b] (fun xs M1 => ∃ ds es : List D, xs = [.dat (.lst ds), .dat (.lst es)] ∧ ds.length = es.length ∧ QL (List.zipWith (fun a b => D.tup [a, b]) ds es) M1) ss M)
    (hs1 : starEach [a, b] X.env = (false, eval a X.env) :: starEach [b] X.env := by rfl) (hpl : (backTo p2 (starEach [b] X.env)).any (·.1) = false := by rfl) : WI X B ex (.Tuple elts kk tpos) (.Call (.Name "zip" p) [a, b] [] p2) QL ss M := .mk fun ck G A H σ w sl R k => by
  refine ti_of (pi_zip hg hm pa_self hs1 hpl) ?_
  refine h ck G A H σ w sl _ fun vs xs G1 A1 M1 H1 e1 w1 s1 h1 => ?_
  obtain ⟨ds, es, rfl, hl, q⟩ := h1
  cases s1 with
  | cons s r =>
    cases r with
    | cons s' r =>
      cases r
      have s : Rep X.K G1 _ (.lst ds) := s
      have s' : Rep X.K G1 _ (.lst es) := s'
      cases s with
      | lst h1 r1 =>
        cases s' with
        | lst h2 r2 =>
          refine ⟨_, _, _, _, rfl, .inl (rdM w1.gh h1), .inl (rdM w1.gh h2), k _ _ G1 A1 M1 H1 e1 w1 (src_pair (n := ds.length) (walk_zip (by rw [r1.length, r2.length, ← hl, Nat.min_self])) (fun H s => ⟨.inl (rdM s h1), .inl (rdM s h2)⟩) rfl hl.symm (fun i x hi hx => r1.at hx) fun i x hi hx => r2.at hx) q⟩
/-! ### for -/
/-- the turns of a loop: I by the number of turns -/
def ForQ (X : Cx) (B : Base) (ex : XD) (tg : Expr) (body : List Stmt) (N : Nd) (ds : List D) (I : Nat → Sst → Mem → Prop) : Prop :=
  (∀ i d ss M, ds[i]? = some d → I i ss M → WG X B ex tg (.dat d) (fun ss2 M2 => WB X B ex body { N with nx := I (i + 1), ct := I (i + 1), bk := N.nx } ss2 M2) ss M) ∧ ∀ ss M, I ds.length ss M → N.nx ss M
theorem ws_for (hc : X.calm = true) (h : WI X B ex tg iter (fun ds M1 => ∃ I, I 0 ss M1 ∧ ForQ X B ex tg body N ds I) ss M) (hs : ∀ x, foldedSetIterable iter X.env x = pure x := by intro _; rfl) : WS X B ex (.For tg iter body [] pos) N ss M := .mk fun ck G A H σ w sl E k => by
  refine ts_of (ps_for ck.ps hc pi_self pg_self pb_self hs) ?_
  refine h ck G A H σ w sl _ fun J ds G1 A1 M1 H1 e1 w1 src h1 => ?_
  obtain ⟨I, h0, hq⟩ := h1
  obtain ⟨Gp, Y, wk, hG, hY⟩ := src
  refine for_it wk (fun i σ H => ∃ ss G A M, Same G1 G ∧ Wd X.K B G A M H ∧ Sl X.K G A σ ss ∧ I i ss M) ⟨ss, G1, A1, M1, Same.refl _, w1, sl.mono e1, h0⟩ (fun i σ H _ ⟨_, G', _, _, s', w', _⟩ => hG H (s'.trans w'.gh)) (fun i y σ H H' hi hj hy => ?_) fun σ H hj => ?_
  · obtain ⟨ss, G2, A2, M2, s1, w2, sl2, q⟩ := hj
    obtain ⟨G3, d, s3, w3, hd, rd, _⟩ := hY i H y H' G2 A2 M2 hi s1 w2 hy
    have s13 := s1.trans s3
    refine hq.1 i d ss M2 hd q ck G3 A2 H' σ y w3 (sl2.mono ⟨s3, [], by simp⟩) rd _ fun σ4 ss4 G4 A4 M4 H4 s4 w4 sl4 h4 => ?_
    have s14 := s13.trans s4
    refine h4 ck G4 A4 H4 σ4 w4 sl4 _ ⟨fun σ' ss' G' A' M' H' s' w' sl' q' => ?_, fun v x G' A' M' H' s' w' sv q' => ?_, fun σ' ss' G' A' M' H' s' w' sl' q' => ?_, fun σ' ss' G' A' M' H' s' w' sl' q' => ?_⟩
    · exact ⟨ss', G', A', M', s14.trans s', w', sl', q'⟩
    · exact k.rt v x G' A' M' H' ((e1.1.trans s14).trans s') w' sv q'
    · exact k.nx σ' ss' G' A' M' H' ((e1.1.trans s14).trans s') w' sl' q'
    · exact ⟨ss', G', A', M', s14.trans s', w', sl', q'⟩
  · obtain ⟨ss, G2, A2, M2, s1, w2, sl2, q⟩ := hj
    exact k.nx σ ss G2 A2 M2 H (e1.1.trans s1) w2 sl2 (hq.2 ss M2 q)
/-- while: I with a measure -/
theorem ws_while (I : Nat → Sst → Mem → Prop) (m : Nat) (h0 : I m ss M) (hs : ∀ m ss' M', I m ss' M' → WT X B ex c (fun b M1 => if b = true then WB X B ex body { N with nx := fun ss2 M2 => ∃ m', m' < m ∧ I m' ss2 M2, ct := fun ss2 M2 => ∃ m', m' < m ∧ I m' ss2 M2, bk := N.nx } ss' M1 else N.nx ss' M1) ss' M') :
    WS X B ex (.While c body [] pos) N ss M := .mk fun ck G A H σ w sl E k => by
  refine ts_of (ps_while ck.ps pt_self pb_self) ?_
  refine ⟨fun m σ H => ∃ ss G' A M, Same G G' ∧ Wd X.K B G' A M H ∧ Sl X.K G' A σ ss ∧ I m ss M, ⟨m, ss, G, A, M, Same.refl _, w, sl, h0⟩, fun m σ H hj => ?_⟩
  obtain ⟨ss1, G1, A1, M1, s1, w1, sl1, q⟩ := hj
  refine hs m ss1 M1 q ck G1 A1 H σ w1 sl1 _ fun b G2 A2 M2 H2 e2 w2 h2 => ?_
  cases b with
  | false =>
    rw [if_neg Bool.false_ne_true] at h2 ⊢
    exact k.nx σ ss1 G2 A2 M2 H2 (s1.trans e2.1) w2 (sl1.mono e2) h2
  | true =>
    rw [if_pos rfl] at h2 ⊢
    refine ⟨fun σ' H' => ∃ m', m' < m ∧ ∃ ss G' A M, Same G G' ∧ Wd X.K B G' A M H' ∧ Sl X.K G' A σ' ss ∧ I m' ss M, fun σ' H' q => q, ?_⟩
    refine h2 ck G2 A2 H2 σ w2 (sl1.mono e2) _ ⟨fun σ' ss' G' A' M' H' s' w' sl' q' => ?_, fun v x G' A' M' H' s' w' sv q' => ?_, fun σ' ss' G' A' M' H' s' w' sl' q' => ?_, fun σ' ss' G' A' M' H' s' w' sl' q' => ?_⟩
    · obtain ⟨m', hm, q'⟩ := q'
      exact ⟨m', hm, ss', G', A', M', (s1.trans e2.1).trans s', w', sl', q'⟩
    · exact k.rt v x G' A' M' H' ((s1.trans e2.1).trans s') w' sv q'
    · exact k.nx σ' ss' G' A' M' H' ((s1.trans e2.1).trans s') w' sl' q'
    · obtain ⟨m', hm, q'⟩ := q'
      exact ⟨m', hm, ss', G', A', M', (s1.trans e2.1).trans s', w', sl', q'⟩
/-! ### a, b = a tuple -/
theorem wg_tup2 {t1 t2 : Expr} {j : Nat} {d1 d2 : D} {Q : Sst → Mem → Prop} (hc : X.calm = true) (h : WG X B ex t1 (.dat d1) (fun ss2 M2 => WG X B ex t2 (.dat d2) Q ss2 M2) ss M)
    (hn : (assignEach [t1, t2] X.env).length = 2 := by rfl) (hst : (assignEach [t1, t2] X.env).findIdx? (·.1) = none := by rfl) (h1 : (assignEach [t1, t2] X.env).map (·.2) = assign t1 X.env :: (assignEach [t2] X.env).map (·.2) := by rfl) (h2 : (assignEach [t2] X.env).map (·.2) = assign t2 X.env :: (assignEach [] X.env).map (·.2) := by rfl) :
    WG X B ex (.Tuple [t1, t2] j pos) (.dat (.tup [d1, d2])) Q ss M := .mk fun ck G A H σ v w sl s Kq k => by
  refine tg_of (pg_tup hc (pgs_cons pg_self (pgs_cons pg_self pgs_nil h2) h1) hn hst) ?_
  have s : Rep X.K G v (.tup [d1, d2]) := s
  cases s with
  | tup hl r =>
    cases r with
    | cons r1 r =>
      cases r with
      | cons r2 r =>
        cases r
        refine ⟨_, _, rfl, sqtM w.gh hl, rfl, _, _, rfl, ?_⟩
        refine h ck G A H σ _ w sl r1 _ fun σ' ss' G' A' M' H' s' w' sl' q => ?_
        refine ⟨_, _, rfl, ?_⟩
        exact q ck G' A' H' σ' _ w' sl' (Rep.mono s' r2) _ fun σ2 ss2 G2 A2 M2 H2 s2 w2 sl2 q2 => ⟨rfl, k σ2 ss2 G2 A2 M2 H2 (s'.trans s2) w2 sl2 q2⟩
theorem wg_tup3 {t1 t2 t3 : Expr} {j : Nat} {d1 d2 d3 : D} {Q : Sst → Mem → Prop} (hc : X.calm = true) (h : WG X B ex t1 (.dat d1) (fun ss2 M2 => WG X B ex t2 (.dat d2) (fun ss3 M3 => WG X B ex t3 (.dat d3) Q ss3 M3) ss2 M2) ss M)
    (hn : (assignEach [t1, t2, t3] X.env).length = 3 := by rfl) (hst : (assignEach [t1, t2, t3] X.env).findIdx? (·.1) = none := by rfl) (h1 : (assignEach [t1, t2, t3] X.env).map (·.2) = assign t1 X.env :: (assignEach [t2, t3] X.env).map (·.2) := by rfl)
    (h2 : (assignEach [t2, t3] X.env).map (·.2) = assign t2 X.env :: (assignEach [t3] X.env).map (·.2) := by rfl) (h3 : (assignEach [t3] X.env).map (·.2) = assign t3 X.env :: (assignEach [] X.env).map (·.2) := by rfl) :
    WG X B ex (.Tuple [t1, t2, t3] j pos) (.dat (.tup [d1, d2, d3])) Q ss M := .mk fun ck G A H σ v w sl s Kq k => by
  refine tg_of (pg_tup hc (pgs_cons pg_self (pgs_cons pg_self (pgs_cons pg_self pgs_nil h3) h2) h1) hn hst) ?_
  have s : Rep X.K G v (.tup [d1, d2, d3]) := s
  cases s with
  | tup hl r =>
    cases r with
    | cons r1 r =>
      cases r with
      | cons r2 r =>
        cases r with
        | cons r3 r =>
          cases r
          refine ⟨_, _, rfl, sqtM w.gh hl, rfl, _, _, rfl, ?_⟩
          refine h ck G A H σ _ w sl r1 _ fun σ' ss' G' A' M' H' s' w' sl' q => ⟨_, _, rfl, ?_⟩
          refine q ck G' A' H' σ' _ w' sl' (Rep.mono s' r2) _ fun σ2 ss2 G2 A2 M2 H2 s2 w2 sl2 q2 => ⟨_, _, rfl, ?_⟩
          exact q2 ck G2 A2 H2 σ2 _ w2 sl2 (Rep.mono (s'.trans s2) r3) _ fun σ3 ss3 G3 A3 M3 H3 s3 w3 sl3 q3 => ⟨rfl, k σ3 ss3 G3 A3 M3 H3 ((s'.trans s2).trans s3) w3 sl3 q3⟩
/-- a, b = a list of two -/
theorem wg_lst2 {t1 t2 : Expr} {j : Nat} {d1 d2 : D} {Q : Sst → Mem → Prop} (hc : X.calm = true) (h : WG X B ex t1 (.dat d1) (fun ss2 M2 => WG X B ex t2 (.dat d2) Q ss2 M2) ss M)
    (hn : (assignEach [t1, t2] X.env).length = 2 := by rfl) (hst : (assignEach [t1, t2] X.env).findIdx? (·.1) = none := by rfl) (h1 : (assignEach [t1, t2] X.env).map (·.2) = assign t1 X.env :: (assignEach [t2] X.env).map (·.2) := by rfl) (h2 : (assignEach [t2] X.env).map (·.2) = assign t2 X.env :: (assignEach [] X.env).map (·.2) := by rfl) :
    WG X B ex (.Tuple [t1, t2] j pos) (.dat (.lst [d1, d2])) Q ss M := .mk fun ck G A H σ v w sl s Kq k => by
  refine tg_of (pg_lst hc (pgs_cons pg_self (pgs_cons pg_self pgs_nil h2) h1) hn hst) ?_
  have s : Rep X.K G v (.lst [d1, d2]) := s
  cases s with
  | lst hl r =>
    cases r with
    | cons r1 r =>
      cases r with
      | cons r2 r =>
        cases r
        refine ⟨_, _, rfl, .inl (rdM w.gh hl), rfl, _, _, rfl, ?_⟩
        refine h ck G A H σ _ w sl r1 _ fun σ' ss' G' A' M' H' s' w' sl' q => ?_
        refine ⟨_, _, rfl, ?_⟩
        exact q ck G' A' H' σ' _ w' sl' (Rep.mono s' r2) _ fun σ2 ss2 G2 A2 M2 H2 s2 w2 sl2 q2 => ⟨rfl, k σ2 ss2 G2 A2 M2 H2 (s'.trans s2) w2 sl2 q2⟩
/-! ### methods of lists -/
def rExtT : V → List V → Hp → VK → Prop := fun x vs H Q => ∃ l b xs zs, x = .ref l ∧ vs = [.ref b] ∧ H l = some (.lst xs) ∧ Rd H b (.lst zs) ∧ xs.length + zs.length ≤ sizeLine ∧ Q .non (upd H l (.lst (xs ++ zs)))
theorem mt_extT : MtR X "list.extend" rExtT := by
  intro pins s σ H x vs v us Q I rx rv hh
  obtain ⟨l, b, xs, zs, rfl, rfl, hH, hB, hz, q⟩ := hh
  cases rx
  obtain ⟨u, rfl, ru⟩ := rv.one
  cases ru
  obtain ⟨z, i1, n1, r1, hl1, e1⟩ := I.lstM hH
  obtain ⟨_, i2, n2, r2, e2⟩ := hB.ok I.hok
  have hl2 := r2.length
  have n3 : i1.toArray.size + i2.toArray.size ≤ sizeLine := by rw [List.size_toArray, List.size_toArray]; omega
  have n4 : ¬ (!i1.toArray.isEmpty && Builtin.List.listTooLong (i1.toArray.size + i2.toArray.size)) = true := by rw [notLongL n3, Bool.and_false]; simp
  refine call_meets F.slot_list_extend ⟨_, e1, rfl⟩ F.entry_list_extend (F.args_list_extend_2 _ _) (AutoSeq1.list_extend_list_list_0 l i1.toArray n1 b i2.toArray n2 n4 (by rw [List.size_toArray]; omega) (by omega)) ⟨e1, e2, ?_⟩
  exact ⟨.non, _, I.lset (its' := i1 ++ i2) hH e1 (by simp) (r1.append r2) (by rw [List.length_append]; omega), rfl, q⟩
/-- x a list of ours: its items -/
def cellL0 (M : Mem) (x : SV) (k : Nat → List D → Prop) : Prop := match x with
  | .cel i => match M[i]? with
    | some (.lst ds) => k i ds
    | _ => False
  | _ => False
structure cellL (M : Mem) (x : SV) (k : Nat → List D → Prop) : Prop where
  run : cellL0 M x k
theorem cellL_get {M : Mem} {x : SV} {k : Nat → List D → Prop} (h : cellL M x k) : ∃ i ds, x = .cel i ∧ M[i]? = some (.lst ds) ∧ k i ds := by
  have h := h.run
  unfold cellL0 at h
  cases x with
  | dat d => exact h.elim
  | raw u => exact h.elim
  | exc u v w => exact h.elim
  | tup xs => exact h.elim
  | cel i =>
    simp only at h
    cases e : M[i]? with
    | none => simp [e] at h
    | some c =>
      cases c <;> simp [e] at h
      exact ⟨i, _, rfl, e, h⟩
/-- one argument, data -/
def one10 (ys : List SV) (k : D → Prop) : Prop := match ys with
  | [.dat d] => k d
  | _ => False
structure one1 (ys : List SV) (k : D → Prop) : Prop where
  run : one10 ys k
theorem one1_get {K : PySem.W.Frag} {G : Hp} {A : List Addr} {vs : List V} {ys : List SV} {k : D → Prop} (r : Svs K G A vs ys) (h : one1 ys k) : ∃ v d, vs = [v] ∧ Rep K G v d ∧ ys = [.dat d] ∧ k d := by
  have h := h.run
  unfold one10 at h
  split at h
  · cases r with
    | cons s r => cases r; exact ⟨_, _, rfl, s, rfl, h⟩
  · exact h.elim
theorem we_append (h : WE X B ex o (fun x M1 => cellL M1 x fun _ _ => WA X B ex [e] (fun ys M2 => one1 ys fun d => cellL M2 x fun i ds => ds.length < sizeLine ∧ Q (.dat .non) (M2.set i (.lst (ds ++ [d])))) ss M1) ss M)
    (hbase : attributeBase o "append" X.env (eval o X.env) = eval o X.env := by rfl)
    (hfew : ((backTo pos (starEach [e] X.env)).all (fun x => !x.1) && (backToKw pos (keywordEach [] X.env)).all (fun x => x.1.isSome) && decide ([e].length + ([] : List Keyword).length + (if ([] : List Keyword).isEmpty then 0 else 1) < 30)) = true := by rfl)
    (hline : (apos.endLine == pos.line) = true := by rfl) (hs : starEach [e] X.env = (false, eval e X.env) :: starEach [] X.env := by rfl) (hpl : (backTo pos (starEach [] X.env)).any (·.1) = false := by rfl) :
    WE X B ex (.Call (.Attribute o "append" apos) [e] [] pos) Q ss M := .mk fun ck G A H σ w sl Kq k => by
  refine te_of (pe_bm PySem.F.plainAttrs_list PySem.F.slot_list_append PySem.F.type_list_append mt_append pe_self pa_self hbase hfew hline hs hpl) ?_
  refine h ck G A H σ w sl _ fun v x G1 A1 M1 H1 e1 w1 s1 h1 => ?_
  obtain ⟨i, ds, rfl, hM, h1⟩ := cellL_get h1
  obtain ⟨l, rfl, hl⟩ := s1
  obtain ⟨gn, vs, hv, r⟩ := w1.cl.get hl hM
  refine ⟨.inl ⟨rfl, vs, .inl (.inl hv)⟩, ?_⟩
  refine h1 ck G1 A1 H1 σ w1 (sl.mono e1) _ fun us ys G2 A2 M2 H2 e2 w2 s2 h2 => ?_
  obtain ⟨u, d, rfl, ru, eys, h3⟩ := one1_get s2 h2
  obtain ⟨j, ds2, ej, hM2, hz, h4⟩ := cellL_get h3
  cases ej
  have hl2 := pre_get e2.2 hl
  obtain ⟨gn2, vs2, hv2, r2⟩ := w2.cl.get hl2 hM2
  refine ⟨l, vs2, u, rfl, rfl, hv2, by rw [r2.length]; exact hz, ?_⟩
  exact k .non (.dat .non) G2 A2 _ _ (e1.trans e2) (w2.setC (c' := .lst (ds2 ++ [d])) hl2 gn2 ⟨gn2, _, upd_same, r2.append (.cons ru .nil)⟩) .non h4
theorem we_extend (h : WE X B ex o (fun x M1 => cellL M1 x fun _ _ => WA X B ex [e] (fun ys M2 => ∃ y, ys = [y] ∧ with1 M2 y fun d => ∃ es, d = .lst es ∧ cellL M2 x fun i ds => ds.length + es.length ≤ sizeLine ∧ Q (.dat .non) (M2.set i (.lst (ds ++ es)))) ss M1) ss M)
    (hbase : attributeBase o "extend" X.env (eval o X.env) = eval o X.env := by rfl)
    (hfew : ((backTo pos (starEach [e] X.env)).all (fun x => !x.1) && (backToKw pos (keywordEach [] X.env)).all (fun x => x.1.isSome) && decide ([e].length + ([] : List Keyword).length + (if ([] : List Keyword).isEmpty then 0 else 1) < 30)) = true := by rfl)
    (hline : (apos.endLine == pos.line) = true := by rfl) (hs : starEach [e] X.env = (false, eval e X.env) :: starEach [] X.env := by rfl) (hpl : (backTo pos (starEach [] X.env)).any (·.1) = false := by rfl) :
    WE X B ex (.Call (.Attribute o "extend" apos) [e] [] pos) Q ss M := .mk fun ck G A H σ w sl Kq k => by
  refine te_of (pe_bm PySem.F.plainAttrs_list PySem.F.slot_list_extend PySem.F.type_list_extend mt_extT pe_self pa_self hbase hfew hline hs hpl) ?_
  refine h ck G A H σ w sl _ fun v x G1 A1 M1 H1 e1 w1 s1 h1 => ?_
  obtain ⟨i, ds, rfl, hM, h1⟩ := cellL_get h1
  obtain ⟨l, rfl, hl⟩ := s1
  obtain ⟨gn, vs, hv, r⟩ := w1.cl.get hl hM
  refine ⟨.inl ⟨rfl, vs, .inl (.inl hv)⟩, ?_⟩
  refine h1 ck G1 A1 H1 σ w1 (sl.mono e1) _ fun us ys G2 A2 M2 H2 e2 w2 s2 h2 => ?_
  obtain ⟨y, rfl, h2⟩ := h2
  obtain ⟨d, g, es2, rfl, h2⟩ := with1_get h2
  cases s2 with
  | cons sy r0 =>
    cases r0
    obtain ⟨b, vb, rfl, hb, rb⟩ := sy.s w2 g
    obtain ⟨j, ds2, ej, hM2, hz, h2⟩ := cellL_get h2
    cases ej
    have hl2 := pre_get e2.2 hl
    obtain ⟨gn2, vs2, hv2, r2⟩ := w2.cl.get hl2 hM2
    refine ⟨l, b, vs2, vb, rfl, rfl, hv2, hb, by rw [r2.length, rb.length]; exact hz, ?_⟩
    exact k .non (.dat .non) G2 A2 _ _ (e1.trans e2) (w2.setC (c' := .lst (ds2 ++ es2)) hl2 gn2 ⟨gn2, _, upd_same, r2.append rb⟩) .non h2
/-! ### texts: join, split -/
theorem strOk_app {x y : Str} (a : PyData.strOk x = true) (b : PyData.strOk y = true) : PyData.strOk (x ++ y) = true := by
  unfold PyData.strOk at a b ⊢
  show (x.cps ++ y.cps).all _ = true
  rw [Array.all_append, a, b]
  rfl
theorem join_ok {z : Str} (hz : PyData.strOk z = true) : ∀ (ys : List Str), (∀ y ∈ ys, PyData.strOk y = true) → PyData.strOk (Str.join z ys) = true ∧ (Str.join z ys).length ≤ (ys.map (·.length)).sum + ys.length * z.length
  | [], _ => ⟨(by decide +kernel : PyData.strOk Str.empty = true), by show 0 ≤ _; omega⟩
  | [y], h => ⟨h y List.mem_cons_self, by show y.length ≤ _; simp⟩
  | y :: y2 :: r, h => by
    have q := join_ok hz (y2 :: r) fun t m => h t (List.mem_cons_of_mem _ m)
    refine ⟨?_, ?_⟩
    · show PyData.strOk (y ++ z ++ Str.join z (y2 :: r)) = true
      exact strOk_app (strOk_app (h y List.mem_cons_self) hz) q.1
    · show (y ++ z ++ Str.join z (y2 :: r)).length ≤ _
      rw [str_len_app, str_len_app]
      have q2 := q.2
      rw [List.map_cons, List.sum_cons, List.length_cons, Nat.add_mul, Nat.one_mul]
      omega
theorem tjoin_ok {z : Str} {ys : List Str} (hz : SOk z) (yok : ∀ y ∈ ys, SOk y) (hn : (ys.map (·.length)).sum + ys.length * z.length ≤ 16777216) : SOk (Txt.join z ys) := by
  have q := join_ok hz.2 ys fun y m => (yok y m).2
  rw [TL.join_eq]
  refine ⟨?_, q.1⟩
  rw [sizeLine_eq]
  exact Nat.le_trans q.2 hn
theorem we_join (h : WE X B ex o (fun x M1 => ∃ z, x = .dat (.str z) ∧ WE X B ex e (fun y M2 => with1 M2 y fun d => ∃ ys : List Str, (d = .lst (ys.map D.str) ∨ d = .tup (ys.map D.str)) ∧ (ys.map (·.length)).sum + ys.length * z.length ≤ 16777216 ∧ Q (.dat (.str (Txt.join z ys))) M2) ss M1) ss M)
    (hs : starEach [e] X.env = [(false, eval e X.env)] := by rfl) (hbase : attributeBase o "join" X.env (eval o X.env) = eval o X.env := by rfl) (hline : (apos.endLine == pos.line) = true := by rfl) :
    WE X B ex (.Call (.Attribute o "join" apos) [e] [] pos) Q ss M := .mk fun ck G A H σ w sl Kq k => by
  refine te_of (pe_join pe_self pe_self hs hbase hline) ?_
  refine h ck G A H σ w sl _ fun v x G1 A1 M1 H1 e1 w1 s1 h1 => ?_
  obtain ⟨z, rfl, h1⟩ := h1
  have s1 : Rep X.K G1 v (.str z) := s1
  cases s1 with
  | str _ hz =>
    refine ⟨⟨z, rfl⟩, ?_⟩
    refine h1 ck G1 A1 H1 σ w1 (sl.mono e1) _ fun u y G2 A2 M2 H2 e2 w2 s2 h2 => ?_
    obtain ⟨d, g, ys, hd, hn, q⟩ := with1_get h2
    have qs := s2.s w2 g
    have fin : ∀ yok : (∀ y ∈ ys, SOk y), SOk (Txt.join z ys) := fun yok => tjoin_ok hz yok hn
    rcases hd with rfl | rfl
    · obtain ⟨l, vs, rfl, hl, r⟩ := qs
      obtain ⟨rfl, yok⟩ := reps_strs r
      exact ⟨z, l, ys, rfl, rfl, .inl (.inl hl), hn, k _ (.dat _) G2 A2 M2 H2 (e1.trans e2) w2 (Rep.str _ (fin yok)) q⟩
    · obtain ⟨l, vs, rfl, hl, r⟩ := qs
      obtain ⟨rfl, yok⟩ := reps_strs r
      exact ⟨z, l, ys, rfl, rfl, .inr (hl), hn, k _ (.dat _) G2 A2 M2 H2 (e1.trans e2) w2 (Rep.str _ (fin yok)) q⟩
theorem we_split (h : WE X B ex o (fun x M1 => ∃ z, x = .dat (.str z) ∧ WE X B ex e (fun y M2 => ∃ u, y = .dat (.str u) ∧ ((u.length == 0) = false ∧ z.length + 2 ≤ sizeLine ∧ ∀ t ∈ Txt.split z u, SOk t) ∧ Q (.dat (.lst ((Txt.split z u).map D.str))) M2) ss M1) ss M)
    (hs : starEach [e] X.env = [(false, eval e X.env)] := by rfl) (hbase : attributeBase o "split" X.env (eval o X.env) = eval o X.env := by rfl) (hline : (apos.endLine == pos.line) = true := by rfl) :
    WE X B ex (.Call (.Attribute o "split" apos) [e] [] pos) Q ss M := .mk fun ck G A H σ w sl Kq k => by
  refine te_of (pe_split pe_self pe_self hs hbase hline) ?_
  refine h ck G A H σ w sl _ fun v x G1 A1 M1 H1 e1 w1 s1 h1 => ?_
  obtain ⟨z, rfl, h1⟩ := h1
  have s1 : Rep X.K G1 v (.str z) := s1
  cases s1 with
  | str _ hz =>
    refine ⟨⟨z, rfl⟩, ?_⟩
    refine h1 ck G1 A1 H1 σ w1 (sl.mono e1) _ fun u y G2 A2 M2 H2 e2 w2 s2 h2 => ?_
    obtain ⟨t, rfl, hc, q⟩ := h2
    have s2 : Rep X.K G2 u (.str t) := s2
    cases s2 with
    | str _ ht =>
      refine ⟨z, t, rfl, rfl, hc.1, hc.2.1, ?_⟩
      exact k.new (e1.trans e2) w2 q fun p hp => .lst (.inl upd_same) (strs_reps hc.2.2)
/-! ### slices -/
def cutD (xs : List D) (lo hi : Option Int) : List D := (xs.drop (HT.sIx xs.length 0 lo)).take (HT.sIx xs.length xs.length hi - HT.sIx xs.length 0 lo)
def slD (M : Mem) (d : D) (lo hi : Option Int) (Q : SV → Mem → Prop) : Prop := match d with
  | .lst ds => Q (.dat (.lst (cutD ds lo hi))) M
  | .tup ds => Q (.dat (.tup (cutD ds lo hi))) M
  | .str z => Q (.dat (.str (cutS z lo hi))) M
  | _ => False
/-- a part of a slice -/
def WO0 (X : Cx) (B : Base) (ex : XD) (e : Option Expr) (Q : Option Int → Mem → Prop) (ss : Sst) (M : Mem) : Prop := match e with
  | none => Q none M
  | some e => WE X B ex e (fun x M1 => ∃ i, x = .dat (.int i) ∧ Q (some i) M1) ss M
structure WO (X : Cx) (B : Base) (ex : XD) (e : Option Expr) (Q : Option Int → Mem → Prop) (ss : Sst) (M : Mem) : Prop where
  run : WO0 X B ex e Q ss M
def toW (X : Cx) (e : Option Expr) : TO := match e with
  | none => tNoPart
  | some e => tPart (teW X e)
theorem po_self {e : Option Expr} : PO X e (toW X e) := by
  cases e with
  | none => exact po_none
  | some e => exact po_some pe_self
theorem WO.goes {e : Option Expr} {QO : Option Int → Mem → Prop} {G : Hp} {A : List Addr} {H : Hp} {σ : L2.St} {Kq : Option Int → Hp → Prop} (ck : Cok X B ex) (h : WO X B ex e QO ss M) (w : Wd X.K B G A M H) (sl : Sl X.K G A σ ss)
    (k : ∀ o G' A' M' H', Ext G A G' A' → Wd X.K B G' A' M' H' → QO o M' → Kq o H') : toW X e σ H Kq := by
  cases e with
  | none => exact k none G A M H .refl w h.run
  | some e =>
    refine WE.run h.run ck G A H σ w sl _ fun v x G1 A1 M1 H1 e1 w1 s1 h1 => ?_
    obtain ⟨i, rfl, q⟩ := h1
    cases s1
    exact ⟨i, rfl, k _ G1 A1 M1 H1 e1 w1 q⟩
theorem cutV_reps {K : PySem.W.Frag} {G : Hp} {vs : List V} {ds : List D} (r : Reps K G vs ds) (lo hi : Option Int) : Reps K G (cutV vs lo hi) (cutD ds lo hi) := by
  unfold cutV cutD
  rw [r.length]
  exact (r.drop _).take _
theorem cutS_ok {z : Str} (h : SOk z) (lo hi : Option Int) : SOk (cutS z lo hi) := by
  refine ⟨Nat.le_trans (cutS_length z lo hi) h.1, ?_⟩
  have a := h.2
  unfold PyData.strOk at a ⊢
  rw [Array.all_eq_true'] at a ⊢
  intro c m
  refine a c ?_
  unfold cutS at m
  rw [List.mem_toArray] at m
  exact Array.mem_def.mpr (List.mem_of_mem_drop (List.mem_of_mem_take m))
theorem we_slice {lo hi : Option Expr} (h : WE X B ex e (fun x M1 => WO X B ex lo (fun l M2 => WO X B ex hi (fun u M3 => with1 M3 x fun d => slD M3 d l u Q) ss M2) ss M1) ss M) : WE X B ex (.Subscript e (.Slice lo hi none p2) pos) Q ss M := .mk fun ck G A H σ w sl Kq k => by
  refine te_of (pe_slice (SlR.or (SlR.or sl_list sl_tupA) sl_str) pe_self po_self po_self) ?_
  refine h ck G A H σ w sl _ fun v x G1 A1 M1 H1 e1 w1 s1 h1 => ?_
  refine WO.goes ck h1 w1 (sl.mono e1) fun l G2 A2 M2 H2 e2 w2 h2 => ?_
  refine WO.goes ck h2 w2 (sl.mono (e1.trans e2)) fun u G3 A3 M3 H3 e3 w3 h3 => ?_
  have s3 := s1.mono (e2.trans e3)
  have e123 := (e1.trans e2).trans e3
  obtain ⟨d, g, h3⟩ := with1_get h3
  have q := s3.s w3 g
  cases d <;> try exact h3.elim
  · obtain ⟨rfl, z⟩ := q
    exact .inr ⟨_, rfl, z.1, k _ (.dat _) G3 A3 M3 H3 e123 w3 (Rep.str _ (cutS_ok z _ _)) h3⟩
  · obtain ⟨t, vs, rfl, ht, r⟩ := q
    exact .inl (.inl ⟨t, vs, rfl, .inl ht, k.new e123 w3 h3 fun p hp => .lst (.inl upd_same) ((cutV_reps r _ _).mono (same_upd (w3.none hp).2.2))⟩)
  · have rd := RepS.data (H := H3) s3 g ⟨fun _ z => (by cases z), fun _ z => (by cases z)⟩
    obtain ⟨t, vs, rfl, ht, r⟩ := q
    refine .inl (.inr ⟨t, vs, rfl, ht, fun hw => ?_, fun _ => k.new e123 w3 h3 fun p hp => .tup (.of upd_same) ((cutV_reps r _ _).mono (same_upd (w3.none hp).2.2))⟩)
    refine k _ (.dat _) G3 A3 M3 H3 e123 w3 rd ?_
    rename_i ds
    have e : cutD ds l u = ds := by
      unfold cutD
      rw [r.length] at hw
      rw [hw.1, hw.2, List.drop_zero, Nat.sub_zero, List.take_length]
    have h3 : Q (.dat (.tup (cutD ds l u))) M3 := h3
    rw [e] at h3
    exact h3
end
end Mb

/-! Mb, part 10: comprehensions. -/
namespace Mb
open PySem L2 PyProof.Rows
section
variable {K : PySem.W.Frag} {B : Base} {G : Hp} {A : List Addr} {M : List Cell} {H : Hp}
/-- a world within a world -/
theorem Wd.rebase (w : Wd K B G A M H) {G' : Hp} {A' : List Addr} {M' : List Cell} {H' : Hp} (w' : Wd K ⟨G, A, H⟩ G' A' M' H') : Wd K B G' A' M' H' ∧ Ext G A G' A' := by
  obtain ⟨more, e⟩ := w'.pre
  have e : A' = A ++ more := e
  refine ⟨⟨w.gg.trans w'.gg, w'.gh, fun b o e nb => ?_, fun b o e => ?_, w'.nd, ?_, w'.there, fun b m => ?_, w'.cl⟩, w'.gg, more, e⟩
  · refine w'.fr b o (w.fr b o e nb) fun m => ?_
    rcases w.an b m with q | q
    · exact nb q
    · rw [q] at e; cases e
  · rcases w'.fresh b o e with q | q
    · exact w.fresh b o q
    · exact .inr (w.none q).1
  · obtain ⟨m0, e0⟩ := w.pre
    exact ⟨m0 ++ more, by rw [e, e0]; simp⟩
  · rcases w'.an b m with q | q
    · exact w.an b q
    · exact .inr (w.none q).1
theorem Wd.self (w : Wd K B G A M H) : Wd K ⟨G, A, H⟩ G A M H := Wd.start w.gh w.nd w.there w.cl
/-- a new object of the heap is taken as data -/
theorem Wd.adopt (w : Wd K B G A M H) {p : Addr} {o : HO} (hp : H p = some o) (hA : p ∉ A) (hg : G p = Option.none) (hb : B.H p = Option.none) : Wd K B (upd G p o) A M H ∧ Ext G A (upd G p o) A := by
  have s1 := same_upd (o := o) hg
  have ex : Ext G A (upd G p o) A := ⟨s1, [], by simp⟩
  refine ⟨⟨w.gg.trans s1, fun b u e => ?_, w.fr, fun b u e => ?_, w.nd, w.pre, w.there, w.an, w.cl.imp fun a c m h => h.keep ex (fun g => ?_) fun _ e => e⟩, ex⟩
  · by_cases c : b = p
    · subst c; rw [upd_same] at e; rw [← e]; exact hp
    · rw [upd_ne c] at e; exact w.gh b u e
  · by_cases c : b = p
    · subst c; exact .inr hb
    · rw [upd_ne c] at e; exact w.fresh b u e
  · rw [upd_ne (show a ≠ p from fun z => hA (z ▸ m))]; exact g
/-- an object that nobody tells of is written -/
theorem Wd.beside (w : Wd K B G A M H) {p : Addr} {o : HO} (hA : p ∉ A) (hg : G p = Option.none) (hb : B.H p = Option.none) : Wd K B G A M (upd H p o) := by
  refine ⟨w.gg, fun b u e => ?_, fun b u e nb => ?_, w.fresh, w.nd, w.pre, fun b m => ?_, w.an, w.cl.imp fun a c m h => h.keep .refl (fun g => g) fun u e => ?_⟩
  · rw [upd_ne (show b ≠ p from fun z => by subst z; rw [hg] at e; cases e)]; exact w.gh b u e
  · rw [upd_ne (show b ≠ p from fun z => by subst z; rw [hb] at e; cases e)]; exact w.fr b u e nb
  · rw [upd_ne (show b ≠ p from fun z => hA (z ▸ m))]; exact w.there b m
  · rw [upd_ne (show a ≠ p from fun z => hA (z ▸ m))]; exact e
end
/-- no exception -/
abbrev exF : XD := fun _ _ _ _ => False
def wipeD (ss : Sst) : List Nat → Sst
  | [] => ss
  | v :: vs => (wipeD ss vs).set v none
theorem Sl.wipe {K : PySem.W.Frag} {G : Hp} {A : List Addr} {σ : L2.St} {ss : Sst} (h : Sl K G A σ ss) : ∀ vs : List Nat, Sl K G A (L2.wipe σ vs) (wipeD ss vs)
  | [] => h
  | v :: vs => (Sl.wipe h vs).setN v
section
variable {X : Cx} {B : Base} {ex : XD} {ss : Sst} {M : Mem} {a b c e tg o iter elt : Expr} {es ifs : List Expr} {pos p p' apos p2 : Pos} {Q : SV → Mem → Prop} {scope : Scope} {own : List (Str × Nat)}
/-- the contexts of a comprehension's block -/
abbrev Blk (X : Cx) (scope : Scope) (s : Shared) (H : Hp) (C : Addr) (cl : List (Str × Addr)) (fp : List Addr) : Cx := X.blk s H scope (compEnvC scope cl C X.env) fp
theorem ck_blk {Y : Cx} (hx : Y.xe = fun _ _ => False) : Cok Y B exF := by
  refine ⟨fun u s' h => ?_, ?_⟩
  · obtain ⟨a, Bh, sI, pins, σ, H, cls, d, _, _, _, _, _, _, _, _, q⟩ := h
    obtain ⟨_, _, _, _, _, _, _, _, _, _, q⟩ := q
    exact q.elim
  · rw [hx]; exact PassesOwn.never
/-- a turn of a comprehension: what stands behind the target's store -/
def LcTurn (X : Cx) (scope : Scope) (elt : Expr) (ifs : List Expr) (acc : List D) (I1 : List D → Mem → Prop) (ss : Sst) (M : Mem) : Prop :=
  match ifs with
  | [] => ∀ (s : Shared) (H : Hp) (C : Addr) (cl : List (Str × Addr)) (fp : List Addr) (B : Base), B.A.length = M.length → WE (Blk X scope s H C cl fp) B exF elt (fun y M4 => ∃ d, y = .dat d ∧ acc.length < sizeLine ∧ I1 (acc ++ [d]) M4) ss M
  | [c] => ∀ (s : Shared) (H : Hp) (C : Addr) (cl : List (Str × Addr)) (fp : List Addr) (B : Base), B.A.length = M.length → WT (Blk X scope s H C cl fp) B exF c (fun b M3 => if b = true then
      ∀ (s : Shared) (H : Hp) (C : Addr) (cl : List (Str × Addr)) (fp : List Addr) (B : Base), B.A.length = M3.length → WE (Blk X scope s H C cl fp) B exF elt (fun y M4 => ∃ d, y = .dat d ∧ acc.length < sizeLine ∧ I1 (acc ++ [d]) M4) ss M3 else I1 acc M3) ss M
  | _ => False
/-- the uniform readings over all blocks -/
def teB (X : Cx) (scope : Scope) (e : Expr) : TE := fun σ H Q => ∀ s0 H0 C cl fp, teW (Blk X scope s0 H0 C cl fp) e σ H Q
def ttB (X : Cx) (scope : Scope) (e : Expr) : TT := fun σ H Q => ∀ s0 H0 C cl fp, ttW (Blk X scope s0 H0 C cl fp) e σ H Q
def tsB (X : Cx) (scope : Scope) (ifs : List Expr) : TT := match ifs with
  | [] => tYes
  | [c] => ttB X scope c
  | _ => fun _ _ _ => False
theorem pe_blk {s : Shared} {H : Hp} {C : Addr} {cl : List (Str × Addr)} {fp : List Addr} : PE (Blk X scope s H C cl fp) e (teB X scope e) := ⟨fun pins t _ _ _ I h => h s H C cl fp pins t I⟩
theorem pt_blk {s : Shared} {H : Hp} {C : Addr} {cl : List (Str × Addr)} {fp : List Addr} : PT (Blk X scope s H C cl fp) e (ttB X scope e) := ⟨fun pins t _ _ _ I h => h s H C cl fp pins t I⟩
theorem ps_blk (hi : ifs.length ≤ 1) {s : Shared} {H : Hp} {C : Addr} {cl : List (Str × Addr)} {fp : List Addr} : PTs (Blk X scope s H C cl fp) ifs (tsB X scope ifs) := by
  match ifs, hi with
  | [], _ => exact pts_nil
  | [c], _ => exact pts_one pt_blk
/-- the invariant of the loop, over the heap -/
def LcInv (K : PySem.W.Frag) (B : Base) (G1 : Hp) (A1 : List Addr) (σ : L2.St) (ss : Sst) (p : Addr) (I : Nat → List D → Mem → Prop) (i : Nat) (H : Hp) : Prop :=
  ∃ acc us G A M, Ext G1 A1 G A ∧ Wd K B G A M H ∧ Sl K G A σ ss ∧ H p = some (.lst us) ∧ Reps K G us acc ∧ p ∉ A ∧ G p = none ∧ I i acc M
theorem lc_turn {I1 : List D → Mem → Prop} {acc : List D} {us : List V} {G1 G : Hp} {A A1 : List Addr} {H : Hp} {σ σ2 : L2.St} {ss0 ss2 : Sst} {q : Addr} {i : Nat} {I : Nat → List D → Mem → Prop} (hI : I1 = I (i + 1)) (hb : B.H q = none) (s1 : Ext G1 A1 G A) (w : Wd X.K B G A M H) (sl : Sl X.K G A σ ss0) (sl2 : Sl X.K G A σ2 ss2) (hq : H q = some (.lst us)) (r : Reps X.K G us acc) (nA : q ∉ A) (gq : G q = none)
    (h : LcTurn X scope elt ifs acc I1 ss2 M) :
    tsB X scope ifs σ2 H fun b H3 => if b = true then teB X scope elt σ2 H3 fun y H4 => ∃ a, H4 q = some (.lst a) ∧ a.length < sizeLine ∧ LcInv X.K B G1 A1 σ ss0 q I (i + 1) (upd H4 q (.lst (a ++ [y]))) else LcInv X.K B G1 A1 σ ss0 q I (i + 1) H3 := by
  have body : ∀ {G : Hp} {A : List Addr} {M : Mem} {H : Hp}, Ext G1 A1 G A → Wd X.K B G A M H → Sl X.K G A σ ss0 → Sl X.K G A σ2 ss2 → H q = some (.lst us) → Reps X.K G us acc → q ∉ A → G q = none →
      (∀ (s : Shared) (H : Hp) (C : Addr) (cl : List (Str × Addr)) (fp : List Addr) (B : Base), B.A.length = M.length → WE (Blk X scope s H C cl fp) B exF elt (fun y M4 => ∃ d, y = .dat d ∧ acc.length < sizeLine ∧ I1 (acc ++ [d]) M4) ss2 M) →
      teB X scope elt σ2 H fun y H4 => ∃ a, H4 q = some (.lst a) ∧ a.length < sizeLine ∧ LcInv X.K B G1 A1 σ ss0 q I (i + 1) (upd H4 q (.lst (a ++ [y]))) := by
    intro G A M H s1 w sl sl2 hq r nA gq h s0 H0 C cl fp
    refine h s0 H0 C cl fp ⟨G, A, H⟩ w.len (ck_blk rfl) G A H σ2 w.self sl2 _ fun v x G' A' M' H' e' w' s' q' => ?_
    obtain ⟨d, rfl, hz, q'⟩ := q'
    obtain ⟨w2, e2⟩ := w.rebase w'
    have hq' : H' q = some (.lst us) := w'.fr q _ hq nA
    have nA' : q ∉ A' := fun m => by
      rcases w'.an q m with z | z
      · exact nA z
      · have z : H q = none := z
        rw [hq] at z; cases z
    have gq' : G' q = none := by
      cases e : G' q with
      | none => rfl
      | some u =>
        rcases w'.fresh q u e with z | z
        · have z : G q = some u := z
          rw [gq] at z; cases z
        · have z : H q = none := z
          rw [hq] at z; cases z
    refine ⟨us, hq', by rw [r.length]; exact hz, acc ++ [d], us ++ [v], G', A', M', s1.trans e2, w2.beside nA' gq' hb, sl.mono e2, upd_same, (r.mono e2.1).append (.cons s' .nil), nA', gq', ?_⟩
    rw [← hI]; exact q'
  match ifs, h with
  | [], h => exact body s1 w sl sl2 hq r nA gq h
  | [c], h =>
    intro s0 H0 C cl fp
    refine h s0 H0 C cl fp ⟨G, A, H⟩ w.len (ck_blk rfl) G A H σ2 w.self sl2 _ fun b G' A' M' H' e' w' q' => ?_
    obtain ⟨w2, e2⟩ := w.rebase w'
    have hq' : H' q = some (.lst us) := w'.fr q _ hq nA
    have nA' : q ∉ A' := fun m => by
      rcases w'.an q m with z | z
      · exact nA z
      · have z : H q = none := z
        rw [hq] at z; cases z
    have gq' : G' q = none := by
      cases e : G' q with
      | none => rfl
      | some u =>
        rcases w'.fresh q u e with z | z
        · have z : G q = some u := z
          rw [gq] at z; cases z
        · have z : H q = none := z
          rw [hq] at z; cases z
    cases b with
    | true =>
      rw [if_pos rfl] at q' ⊢
      exact body (s1.trans e2) w2 (sl.mono e2) (sl2.mono e2) hq' (r.mono e2.1) nA' gq' q'
    | false =>
      rw [if_neg Bool.false_ne_true] at q' ⊢
      refine ⟨acc, us, G', A', M', s1.trans e2, w2, sl.mono e2, hq', r.mono e2.1, nA', gq', ?_⟩
      rw [← hI]; exact q'
/-- what a comprehension over ds with the invariant I asks; T: what the target does to the slots -/
def LcQ (X : Cx) (scope : Scope) (elt : Expr) (ifs : List Expr) (T : D → Sst → (Sst → Prop) → Prop) (vs : List Nat) (ds : List D) (I : Nat → List D → Mem → Prop) (Q : SV → Mem → Prop) (ss : Sst) : Prop :=
  (∀ i d acc M, ds[i]? = some d → I i acc M → T d (wipeD ss vs) fun ss2 => LcTurn X scope elt ifs acc (I (i + 1)) ss2 M) ∧ ∀ acc M, I ds.length acc M → Q (.dat (.lst acc)) M
/-- the target's readings that serve -/
structure TgOk (K : PySem.W.Frag) (g : TG) (T : D → Sst → (Sst → Prop) → Prop) (vs : List Nat) : Prop where
  run : ∀ {B : Base} {G A M H v d σ ss} {R : Sst → Prop} {Q' : L2.St → Hp → Prop}, Wd K B G A M H → Sl K G A σ ss → Rep K G v d → T d (wipeD ss vs) R → (∀ σ2 ss2, L2.wipe σ2 vs = L2.wipe σ vs → Sl K G A σ2 ss2 → R ss2 → Q' σ2 H) → g v (L2.wipe σ vs) H Q'
theorem lc_all {g : TG} {T : D → Sst → (Sst → Prop) → Prop} {vs : List Nat} {σ : L2.St} {G A H Kq} (ck : Cok X B ex) (hT : TgOk X.K g T vs) (w : Wd X.K B G A M H) (sl : Sl X.K G A σ ss) (k : VPost X.K B G A Q Kq)
    (h : WI X B ex tg iter (fun ds M1 => ∃ I, I 0 [] M1 ∧ LcQ X scope elt ifs T vs ds I Q ss) ss M) : tLc (tiW X tg iter) g (tsB X scope ifs) (teB X scope elt) vs σ H Kq := by
  refine h ck G A H σ w sl _ fun J ds G1 A1 M1 H1 e1 w1 src h1 q hq => ?_
  obtain ⟨I, h0, hL⟩ := h1
  obtain ⟨Gp, Y, wk, hG, hY⟩ := src
  obtain ⟨hbq, nAq, ngq⟩ := w1.none hq
  refine lc_it wk (LcInv X.K B G1 A1 σ ss q I) ⟨[], [], G1, A1, M1, .refl, w1.grow hq, sl.mono e1, upd_same, .nil, nAq, ngq, h0⟩ (fun i H _ ⟨_, _, G', _, _, s', w', _⟩ => hG H (s'.1.trans w'.gh)) (fun i y H H' hi hj hy => ?_) fun H hj => ?_
  · obtain ⟨acc, us, G2, A2, M2, s2, w2, sl2, hq2, r2, nA2, gq2, hi2⟩ := hj
    obtain ⟨G3, d, s3, w3, hd, rd, sH, fG⟩ := hY i H y H' G2 A2 M2 hi s2.1 w2 hy
    have hq3 : H' q = some (.lst us) := sH _ _ hq2
    have gq3 : G3 q = none := by
      cases e : G3 q with
      | none => rfl
      | some u =>
        rcases fG q u e with z | z
        · rw [gq2] at z; cases z
        · rw [hq2] at z; cases z
    have e3 : Ext G2 A2 G3 A2 := ⟨s3, [], by simp⟩
    refine hT.run w3 (sl2.mono e3) rd (hL.1 i d acc M2 hd hi2) fun σ2 ss2 hw sl3 ht => ⟨hw, ?_⟩
    exact lc_turn rfl hbq (s2.trans e3) w3 (sl2.mono e3) sl3 hq3 (r2.mono s3) nA2 gq3 ht
  · obtain ⟨acc, us, G2, A2, M2, s2, w2, sl2, hq2, r2, nA2, gq2, hi2⟩ := hj
    obtain ⟨w3, e3⟩ := w2.adopt hq2 nA2 gq2 hbq
    exact k (.ref q) (.dat (.lst acc)) _ A2 M2 H (e1.trans (s2.trans e3)) w3 (.lst (.inl upd_same) (r2.mono e3.1)) (hL.2 acc M2 hi2)
/-! ### targets -/
def tg1 (j : Nat) (d : D) (ss : Sst) (R : Sst → Prop) : Prop := R (ss.set j (some (.dat d)))
theorem tgOk1 {K : PySem.W.Frag} {j : Nat} : TgOk K (gName j) (tg1 j) [j] := by
  refine ⟨fun {B G A M H v d σ ss R Q'} w sl r h k => ?_⟩
  refine k _ _ ?_ ((sl.wipe [j]).set (x := .dat d) r j) h
  show List.set (List.set (List.set σ j none) j (some v)) j none = List.set σ j none
  rw [List.set_set, List.set_set]
def tg2 (i j : Nat) (d : D) (ss : Sst) (R : Sst → Prop) : Prop := ∃ a b, d = .tup [a, b] ∧ R ((ss.set i (some (.dat a))).set j (some (.dat b)))
theorem set_back (σ : L2.St) (i j : Nat) (hij : i ≠ j) (u v : V) : L2.wipe (((L2.wipe σ [i, j]).set i (some u)).set j (some v)) [i, j] = L2.wipe σ [i, j] := by
  show List.set (List.set (List.set (List.set (List.set (List.set σ j none) i none) i (some u)) j (some v)) j none) i none = List.set (List.set σ j none) i none
  apply List.ext_getElem?
  intro n
  simp only [List.getElem?_set, List.length_set]
  by_cases h1 : i = n
  · subst h1; by_cases h3 : i < σ.length <;> simp [h3]
  · by_cases h2 : j = n
    · subst h2; simp [h1]
    · simp [h1, h2]
theorem tgOk2 {K : PySem.W.Frag} {i j : Nat} (hij : i ≠ j) : TgOk K (gTup K 2 (gCons (gName i) (gCons (gName j) gNil))) (tg2 i j) [i, j] := by
  refine ⟨fun {B G A M H v d σ ss R Q'} w sl r h k => ?_⟩
  obtain ⟨a, b, rfl, h⟩ := h
  cases r with
  | tup hl r =>
    cases r with
    | cons r1 r =>
      cases r with
      | cons r2 r =>
        cases r
        refine ⟨_, _, rfl, sqtM w.gh hl, rfl, _, _, rfl, _, _, rfl, rfl, ?_⟩
        exact k _ _ (set_back σ i j hij _ _) (((sl.wipe [i, j]).set (x := .dat a) r1 i).set (x := .dat b) r2 j) h
/-! ### the rules -/
theorem we_lc1 {x : Str} {j : Nat} {tp : Pos} (hc : X.calm = true) (hN : X.N.Nodup) (ok : BlkOk X.N X.env.scope scope [(x, j)]) (hj : X.N[j]? = some x) (hL : ∀ s H C cl fp, Loc (Blk X scope s H C cl fp).env.scope x) (hi : ifs.length ≤ 1)
    (h : WI X B ex (.Name x tp) iter (fun ds M1 => ∃ I, I 0 [] M1 ∧ LcQ X scope elt ifs (tg1 j) [j] ds I Q ss) ss M)
    (hf : ∀ s H C cl fp, (Blk X scope s H C cl fp).fn x = true ∨ (Blk X scope s H C cl fp).env.scope.names.lookup x = some .local := by intro _ _ _ _ _; first | exact .inl rfl | exact .inr rfl)
    (hs : ∀ x, foldedSetIterable iter X.env x = pure x := by intro _; rfl) : WE X B ex (.ListComp elt [⟨.Name x tp, iter, ifs, 0⟩] scope pos) Q ss M := .mk fun ck G A H σ w sl Kq k => by
  refine te_of (pe_lc (own := [(x, j)]) (g := gName j) hc hN pi_self ok (fun s H C cl fp => pg_name (i := j) hN hj (hL s H C cl fp) (hf s H C cl fp)) (fun s H C cl fp => ps_blk hi) (fun s H C cl fp => pe_blk) hs) ?_
  exact lc_all ck tgOk1 w sl k h
theorem we_lc2 {x y : Str} {i j kt : Nat} {tp tp1 tp2 : Pos} (hc : X.calm = true) (hN : X.N.Nodup) (ok : BlkOk X.N X.env.scope scope [(x, i), (y, j)]) (hi : X.N[i]? = some x) (hj : X.N[j]? = some y) (hij : i ≠ j) (hL : ∀ s H C cl fp, Loc (Blk X scope s H C cl fp).env.scope x) (hL2 : ∀ s H C cl fp, Loc (Blk X scope s H C cl fp).env.scope y) (hl : ifs.length ≤ 1)
    (h : WI X B ex (.Tuple [.Name x tp1, .Name y tp2] kt tp) iter (fun ds M1 => ∃ I, I 0 [] M1 ∧ LcQ X scope elt ifs (tg2 i j) [i, j] ds I Q ss) ss M)
    (hf : ∀ s H C cl fp, (Blk X scope s H C cl fp).fn x = true ∨ (Blk X scope s H C cl fp).env.scope.names.lookup x = some .local := by intro _ _ _ _ _; first | exact .inl rfl | exact .inr rfl)
    (hf2 : ∀ s H C cl fp, (Blk X scope s H C cl fp).fn y = true ∨ (Blk X scope s H C cl fp).env.scope.names.lookup y = some .local := by intro _ _ _ _ _; first | exact .inl rfl | exact .inr rfl)
    (hs : ∀ x, foldedSetIterable iter X.env x = pure x := by intro _; rfl) : WE X B ex (.ListComp elt [⟨.Tuple [.Name x tp1, .Name y tp2] kt tp, iter, ifs, 0⟩] scope pos) Q ss M := .mk fun ck G A H σ w sl Kq k => by
  refine te_of (pe_lc (own := [(x, i), (y, j)]) (g := gTup X.K 2 (gCons (gName i) (gCons (gName j) gNil))) hc hN pi_self ok (fun s H C cl fp => pg_tup hc (pgs_cons (pg_name (i := i) hN hi (hL s H C cl fp) (hf s H C cl fp)) (pgs_cons (pg_name (i := j) hN hj (hL2 s H C cl fp) (hf2 s H C cl fp)) pgs_nil))) (fun s H C cl fp => ps_blk hl) (fun s H C cl fp => pe_blk) hs) ?_
  exact lc_all ck (tgOk2 hij) w sl k h
/-- y = [..], y a local of the def, on one line -/
theorem ws_lc1 {x y : Str} {i j : Nat} {tp py spos : Pos} {N : Nd} (hc : X.calm = true) (hN : X.N.Nodup) (hy : X.N[i]? = some y) (hyl : X.env.scope.names.lookup y = some .local) (hsw : swapsWith (.ListComp elt [⟨.Name x tp, iter, ifs, 0⟩] scope pos) (some (.Name y py)) spos.line X.env = pure true)
    (ok : BlkOk X.N X.env.scope scope [(x, j)]) (hj : X.N[j]? = some x) (hL : ∀ s H C cl fp, Loc (Blk X scope s H C cl fp).env.scope x) (hi : ifs.length ≤ 1)
    (h : WI X B ex (.Name x tp) iter (fun ds M1 => ∃ I, I 0 [] M1 ∧ LcQ X scope elt ifs (tg1 j) [j] ds I (fun v M' => N.nx (ss.set i (some v)) M') ss) ss M)
    (hf : ∀ s H C cl fp, (Blk X scope s H C cl fp).fn x = true ∨ (Blk X scope s H C cl fp).env.scope.names.lookup x = some .local := by intro _ _ _ _ _; first | exact .inl rfl | exact .inr rfl)
    (hs : ∀ x, foldedSetIterable iter X.env x = pure x := by intro _; rfl) : WS X B ex (.Assign [.Name y py] (.ListComp elt [⟨.Name x tp, iter, ifs, 0⟩] scope pos) spos) N ss M := .mk fun ck G A H σ w sl E k => by
  refine ts_of (ps_setLc (own := [(x, j)]) (g := gName j) hc hN hy hyl hsw pi_self ok (fun s H C cl fp => pg_name (i := j) hN hj (hL s H C cl fp) (hf s H C cl fp)) (fun s H C cl fp => ps_blk hi) (fun s H C cl fp => pe_blk) hs) ?_
  exact lc_all ck tgOk1 w sl (fun v z G' A' M' H' e' w' s' q => k.nx _ _ G' A' M' H' e'.1 w' ((sl.mono e').set s' i) q) h
theorem ws_lc2 {x y z : Str} {i j n kt : Nat} {tp tp1 tp2 py spos : Pos} {N : Nd} (hc : X.calm = true) (hN : X.N.Nodup) (hz : X.N[n]? = some z) (hzl : X.env.scope.names.lookup z = some .local) (hsw : swapsWith (.ListComp elt [⟨.Tuple [.Name x tp1, .Name y tp2] kt tp, iter, ifs, 0⟩] scope pos) (some (.Name z py)) spos.line X.env = pure true)
    (ok : BlkOk X.N X.env.scope scope [(x, i), (y, j)]) (hi : X.N[i]? = some x) (hj : X.N[j]? = some y) (hij : i ≠ j) (hL : ∀ s H C cl fp, Loc (Blk X scope s H C cl fp).env.scope x) (hL2 : ∀ s H C cl fp, Loc (Blk X scope s H C cl fp).env.scope y) (hl : ifs.length ≤ 1)
    (h : WI X B ex (.Tuple [.Name x tp1, .Name y tp2] kt tp) iter (fun ds M1 => ∃ I, I 0 [] M1 ∧ LcQ X scope elt ifs (tg2 i j) [i, j] ds I (fun v M' => N.nx (ss.set n (some v)) M') ss) ss M)
    (hf : ∀ s H C cl fp, (Blk X scope s H C cl fp).fn x = true ∨ (Blk X scope s H C cl fp).env.scope.names.lookup x = some .local := by intro _ _ _ _ _; first | exact .inl rfl | exact .inr rfl)
    (hf2 : ∀ s H C cl fp, (Blk X scope s H C cl fp).fn y = true ∨ (Blk X scope s H C cl fp).env.scope.names.lookup y = some .local := by intro _ _ _ _ _; first | exact .inl rfl | exact .inr rfl)
    (hs : ∀ x, foldedSetIterable iter X.env x = pure x := by intro _; rfl) : WS X B ex (.Assign [.Name z py] (.ListComp elt [⟨.Tuple [.Name x tp1, .Name y tp2] kt tp, iter, ifs, 0⟩] scope pos) spos) N ss M := .mk fun ck G A H σ w sl E k => by
  refine ts_of (ps_setLc (own := [(x, i), (y, j)]) (g := gTup X.K 2 (gCons (gName i) (gCons (gName j) gNil))) hc hN hz hzl hsw pi_self ok (fun s H C cl fp => pg_tup hc (pgs_cons (pg_name (i := i) hN hi (hL s H C cl fp) (hf s H C cl fp)) (pgs_cons (pg_name (i := j) hN hj (hL2 s H C cl fp) (hf2 s H C cl fp)) pgs_nil))) (fun s H C cl fp => ps_blk hl) (fun s H C cl fp => pe_blk) hs) ?_
  exact lc_all ck (tgOk2 hij) w sl (fun v z G' A' M' H' e' w' s' q => k.nx _ _ G' A' M' H' e'.1 w' ((sl.mono e').set s' n) q) h
end
end Mb

/-! Mb, part 11: exceptions. -/
namespace Mb
open PySem L2 PyProof.Rows
/-! ### the making of an error: its own __init__ stores one field, two fields -/
def spX1 (K : PySem.W.Frag) (f : Str) : Sp := fun vs H Q _ => ∃ (a C : Addr) (v : V), vs = [.ref a, v] ∧ OexC K C ∧ PySem.W.findIn K (.ref C) f = some none ∧ H a = some (exo a C none) ∧ ∀ dx, H dx = none → dx ≠ a → Q .non (upd (upd H dx (exd dx [(f, v)])) a (exo a C (some dx)))
def spX2 (K : PySem.W.Frag) (f g : Str) : Sp := fun vs H Q _ => ∃ (a C : Addr) (v u : V), vs = [.ref a, v, u] ∧ OexC K C ∧ (PySem.W.findIn K (.ref C) f = some none ∧ PySem.W.findIn K (.ref C) g = some none) ∧ H a = some (exo a C none) ∧
  ∀ dx, H dx = none → dx ≠ a → Q .non (upd (upd (upd H dx (exd dx [(f, v)])) a (exo a C (some dx))) dx (exd dx [(g, u), (f, v)]))
/-- what the text says of an error's class -/
structure ErrC (K : PySem.W.Frag) (mg : Str → Option Value) (x : Str) (C fI : Addr) : Prop where
  oex : OexC K C
  gC : mg x = some (.ref C)
  iC : PySem.W.findIn K (.ref C) "__init__" = some (some (.ref fI))
  tI : PySem.W.typeIn K (.ref fI) = some (.type "function")
section
variable {X : Cx} {B : Base} {ex : XD} {ss : Sst} {M : Mem} {a b c e tg o : Expr} {es : List Expr} {pos p p' apos p2 : Pos} {Q : SV → Mem → Prop} {N : Nd} {x : Str}
theorem end_heap {H1 H2 : Hp} {a d : Addr} {u : HO} (ha : H1 a = none) (h2 : ∀ b, b ≠ a → b ≠ d → H2 b = H1 b) : upd (del H2 a) d u = upd H1 d u := by
  funext b
  by_cases c : b = d
  · subst c; rw [upd_same, upd_same]
  · rw [upd_ne c, upd_ne c]
    by_cases c2 : b = a
    · subst c2; rw [del_same, ha]
    · rw [del_ne c2]; exact h2 b c2 c
theorem ws_raise1 {C fI : Addr} {fd : FuncData} {k : Nat} {f y : Str} (hc : X.calm = true) (T : ErrC X.K X.mg x C fI) (hno : PySem.W.findIn X.K (.ref C) f = some none) (F : FnOk X.prog X.w X.K X.mg X.base CX0 k fI fd ["self", y] (spX1 X.K f)) (hr : Room (k + 1) X.A) (hb : Binds X.K fd ["self", y] []) (hg : Gl X x)
    (h : WA X B ex [e] (fun xs M1 => one1 xs fun d => ex C [(f, d)] ss M1) ss M)
    (hdb : (x == ("__debug__" : Str)) = false := by decide) (he : starEach [e] X.env = (false, eval e X.env) :: starEach [] X.env := by rfl) (hpl : (backTo pos (starEach [] X.env)).any (·.1) = false := by rfl) :
    WS X B ex (.Raise (some (.Call (.Name x p) [e] [] pos)) none p2) N ss M := .mk fun ck G A H σ w sl E kk => by
  refine ts_of (ps_raise hc ck.tk (pmk_oex T.oex T.iC T.tI F hr hb .nil pass0 hg T.gC pa_self hdb he hpl)) ?_
  refine h ck G A H σ w sl _ fun vs xs G1 A1 M1 H1 e1 w1 s1 h1 => ?_
  obtain ⟨v, d, rfl, rv, _, q⟩ := one1_get s1 h1
  refine ⟨by show 1 ≤ 1000; decide, fun a ha => ⟨a, C, v, rfl, T.oex, hno, upd_same, fun dx hdx ne => ⟨rfl, dx, [(f, v)], upd_same, ?_, ?_, ?_⟩⟩⟩
  · exact (by rw [upd_ne ne, upd_same])
  · rw [upd_ne ne] at hdx; exact hdx
  · rw [upd_ne ne] at hdx
    rw [end_heap (H1 := H1) ha (fun b h1 h2 => by rw [upd_ne h1, upd_ne h2, upd_ne h1])]
    obtain ⟨w2, e2⟩ := w1.newD (o := .xd [(f, v)]) hdx
    exact ⟨C, [(f, d)], ss, _, A1, M1, rfl, .inr ⟨dx, _, rfl, upd_same, .cons (rv.mono e2.1) .nil⟩, w2, sl.mono (e1.trans e2), q⟩
theorem ws_raise2 {C fI : Addr} {fd : FuncData} {k : Nat} {f g y z : Str} (hc : X.calm = true) (T : ErrC X.K X.mg x C fI) (hno : PySem.W.findIn X.K (.ref C) f = some none ∧ PySem.W.findIn X.K (.ref C) g = some none) (F : FnOk X.prog X.w X.K X.mg X.base CX0 k fI fd ["self", y, z] (spX2 X.K f g)) (hr : Room (k + 1) X.A) (hb : Binds X.K fd ["self", y, z] []) (hg : Gl X x)
    (h : WA X B ex [a, b] (fun xs M1 => ∃ d1 d2, xs = [.dat d1, .dat d2] ∧ ex C [(g, d2), (f, d1)] ss M1) ss M)
    (hdb : (x == ("__debug__" : Str)) = false := by decide) (he : starEach [a, b] X.env = (false, eval a X.env) :: starEach [b] X.env := by rfl) (hpl : (backTo pos (starEach [b] X.env)).any (·.1) = false := by rfl) :
    WS X B ex (.Raise (some (.Call (.Name x p) [a, b] [] pos)) none p2) N ss M := .mk fun ck G A H σ w sl E kk => by
  refine ts_of (ps_raise hc ck.tk (pmk_oex T.oex T.iC T.tI F hr hb .nil pass0 hg T.gC pa_self hdb he hpl)) ?_
  refine h ck G A H σ w sl _ fun vs xs G1 A1 M1 H1 e1 w1 s1 h1 => ?_
  obtain ⟨d1, d2, rfl, q⟩ := h1
  cases s1 with
  | cons rv s1 =>
    cases s1 with
    | cons ru s1 =>
      cases s1
      rename_i v u
      refine ⟨by show 2 ≤ 1000; decide, fun a ha => ⟨a, C, v, u, rfl, T.oex, hno, upd_same, fun dx hdx ne => ⟨rfl, dx, [(g, u), (f, v)], ?_, upd_same, ?_, ?_⟩⟩⟩
      · rw [upd_ne (Ne.symm ne)]; exact upd_same
      · rw [upd_ne ne] at hdx; exact hdx
      · rw [upd_ne ne] at hdx
        rw [end_heap (H1 := H1) ha (fun b h1 h2 => by rw [upd_ne h2, upd_ne h1, upd_ne h2, upd_ne h1])]
        obtain ⟨w2, e2⟩ := w1.newD (o := .xd [(g, u), (f, v)]) hdx
        exact ⟨C, [(g, d2), (f, d1)], ss, _, A1, M1, rfl, .inr ⟨dx, _, rfl, upd_same, .cons (Rep.mono e2.1 ru) (.cons (Rep.mono e2.1 rv) .nil)⟩, w2, sl.mono (e1.trans e2), q⟩
/-! ### try -/
/-- the exception that a suite holds, as a symbolic value -/
def excSV (d : Option Addr) (fs : List (Str × D)) (a : Addr) : SV := match d with
  | some dd => .exc dd fs a
  | none => .raw (.ref a)
theorem excSV_ok {K : PySem.W.Frag} {G : Hp} {A : List Addr} {d : Option Addr} {fs : List (Str × D)} {a : Addr} (h : XdOk K G d fs) : SvOk K G A (.ref a) (excSV d fs a) := by
  rcases h with ⟨rfl, rfl⟩ | ⟨dd, fv, rfl, h1, h2⟩
  · exact rfl
  · exact ⟨rfl, fv, h1, h2⟩
/-- what a suite wants of a caught exception: C its class, fs its fields -/
def SuiteQ (X : Cx) (B : Base) (i : Option Nat) (suite : List Stmt) (N : Nd) (C : Addr) (fs : List (Str × D)) (ss : Sst) (M : Mem) : Prop :=
  ∀ (a : Addr) (oe : Obj) (d : Option Addr) (pn : List (Addr × Obj)), Zc (.ref C) d oe → (∃ vs, oe.data = .fields vs) → (d = none → fs = []) →
    match i with
    | some i => WB (X.suite a ((a, oe) :: pn)) B exF suite { nx := fun ss' M' => N.nx (ss'.set i none) M', rt := N.rt, bk := fun ss' M' => N.bk (ss'.set i none) M', ct := fun ss' M' => N.ct (ss'.set i none) M' } (ss.set i (some (excSV d fs a))) M
    | none => WB (X.suite a ((a, oe) :: pn)) B exF suite N ss M
/-- one clause -/
def ClauseQ (X : Cx) (B : Base) (ex : XD) (C0 : Value) (i : Option Nat) (suite : List Stmt) (N : Nd) : XD := fun C fs ss M =>
  ∃ b, PySem.W.exmOne X.K (.ref C) C0 = some b ∧ if b = true then SuiteQ X B i suite N C fs ss M else ex C fs ss M
theorem ck_tr {B' : Base} {pn : List (Addr × Obj)} {xe : Value → Shared → Prop} {W : WX} {exT : XD} (tk : Takes (X.tr pn xe) W) (ps : PassesOwn (model X.prog X.w) X.A X.env xe) (h : ∀ cls d σ H, XW X.K B' exT cls d σ H → W cls d σ H) : Cok (X.tr pn xe) B' exT := ⟨tk.imp h, ps⟩
theorem nd_rebase {K : PySem.W.Frag} {G : Hp} {A : List Addr} {H : Hp} {E : Ends} (w : Wd K B G A M H) (k : NdOk K B G N E) : NdOk K ⟨G, A, H⟩ G N E :=
  ⟨fun σ ss G' A' M' H' s w' => k.nx σ ss G' A' M' H' s (w.rebase w').1, fun v x G' A' M' H' s w' => k.rt v x G' A' M' H' s (w.rebase w').1, fun σ ss G' A' M' H' s w' => k.bk σ ss G' A' M' H' s (w.rebase w').1, fun σ ss G' A' M' H' s w' => k.ct σ ss G' A' M' H' s (w.rebase w').1⟩
theorem ck_suite {B' : Base} {a : Addr} {pn : List (Addr × Obj)} : Cok (X.suite a pn) B' exF := ck_blk rfl
theorem ws_tryAs {n : Str} {C0 : Value} {i : Nat} {body suite : List Stmt} {b₀ : Stmt} {np pos' : Pos} (hN : X.N.Nodup) (hi : X.N[i]? = some n) (hln : X.env.kindOf n = some .local) (hc : Names X x C0)
    (hb : ∀ pn xe (B' : Base), B'.A.length = M.length → WB (X.tr pn xe) B' (ClauseQ X B ex C0 (some i) (b₀ :: suite) N) body N ss M)
    (hs : X.stack = X.env :: X.outer := by rfl) (hf : X.env.frame = some X.env.locals := by rfl) :
    WS X B ex (.Try body [.ExceptHandler (some (.Name x np)) (some n) (b₀ :: suite) pos'] [] [] pos) N ss M := .mk fun ck G A H σ w sl E k => by
  refine ts_of (ps_try_as (Wout := XW X.K B ex) (tb := fun W D σ H => ∀ pn xe, Takes (X.tr pn xe) W → PassesOwn (model X.prog X.w) X.A X.env xe → tbW (X.tr pn xe) body D σ H) (ts := fun a cls d D σ H => ∀ oe pn, Zc cls d oe → (∃ vs, oe.data = .fields vs) → tbW (X.suite a ((a, oe) :: pn)) (b₀ :: suite) D σ H)
    hs hf hN hi hln hc ck.tk (fun W pn xe tk ps => ⟨fun pins s σ H D I h => h pn xe tk ps pins s I⟩) (fun a oe cls d pn hz hv => ⟨fun pins s σ H D I h => h oe pn hz hv pins s I⟩)) ?_
  intro pn xe tk ps
  refine hb pn xe ⟨G, A, H⟩ w.len (ck_tr tk ps fun cls d σ' H' hx => ?_) G A H σ w.self sl E (nd_rebase w k)
  obtain ⟨C, fs, ss', G', A', M', rfl, xd, w', sl', b, hexm, q⟩ := hx
  obtain ⟨w2, e2⟩ := w.rebase w'
  refine ⟨b, hexm, fun hbt a ha oe pn2 hz hv => ?_, fun hbf => ?_⟩
  · rw [if_pos hbt] at q
    have q := q a oe d pn2 hz hv (fun hd => by rcases xd with ⟨_, h⟩ | ⟨_, _, h, _⟩; exact h; rw [hd] at h; cases h)
    refine q ck_suite G' A' H' _ w2 (sl'.set (excSV_ok xd) i) _ ⟨fun σ2 ss2 G2 A2 M2 H2 s2 w3 sl2 q2 => ?_, fun v y G2 A2 M2 H2 s2 w3 sv q2 => ?_, fun σ2 ss2 G2 A2 M2 H2 s2 w3 sl2 q2 => ?_, fun σ2 ss2 G2 A2 M2 H2 s2 w3 sl2 q2 => ?_⟩
    · exact k.nx _ _ G2 A2 M2 H2 (e2.1.trans s2) w3 (sl2.setN i) q2
    · exact k.rt v y G2 A2 M2 H2 (e2.1.trans s2) w3 sv q2
    · exact k.bk _ _ G2 A2 M2 H2 (e2.1.trans s2) w3 (sl2.setN i) q2
    · exact k.ct _ _ G2 A2 M2 H2 (e2.1.trans s2) w3 (sl2.setN i) q2
  · rw [hbf, if_neg Bool.false_ne_true] at q
    exact ⟨C, fs, ss', G', A', M', rfl, xd, w2, sl', q⟩
theorem ws_tryOnly {C0 : Value} {body suite : List Stmt} {b₀ : Stmt} {np pos' : Pos} (hc : Names X x C0)
    (hb : ∀ pn xe (B' : Base), B'.A.length = M.length → WB (X.tr pn xe) B' (ClauseQ X B ex C0 none (b₀ :: suite) N) body N ss M)
    (hs : X.stack = X.env :: X.outer := by rfl) (hf : X.env.frame = some X.env.locals := by rfl) :
    WS X B ex (.Try body [.ExceptHandler (some (.Name x np)) none (b₀ :: suite) pos'] [] [] pos) N ss M := .mk fun ck G A H σ w sl E k => by
  refine ts_of (ps_try_only (Wout := XW X.K B ex) (tb := fun W D σ H => ∀ pn xe, Takes (X.tr pn xe) W → PassesOwn (model X.prog X.w) X.A X.env xe → tbW (X.tr pn xe) body D σ H) (ts := fun a cls d D σ H => ∀ oe pn, Zc cls d oe → (∃ vs, oe.data = .fields vs) → tbW (X.suite a ((a, oe) :: pn)) (b₀ :: suite) D σ H)
    hs hf hc ck.tk (fun W pn xe tk ps => ⟨fun pins s σ H D I h => h pn xe tk ps pins s I⟩) (fun a oe cls d pn hz hv => ⟨fun pins s σ H D I h => h oe pn hz hv pins s I⟩)) ?_
  intro pn xe tk ps
  refine hb pn xe ⟨G, A, H⟩ w.len (ck_tr tk ps fun cls d σ' H' hx => ?_) G A H σ w.self sl E (nd_rebase w k)
  obtain ⟨C, fs, ss', G', A', M', rfl, xd, w', sl', b, hexm, q⟩ := hx
  obtain ⟨w2, e2⟩ := w.rebase w'
  refine ⟨b, hexm, fun hbt a ha oe pn2 hz hv => ?_, fun hbf => ?_⟩
  · rw [if_pos hbt] at q
    have q := q a oe d pn2 hz hv (fun hd => by rcases xd with ⟨_, h⟩ | ⟨_, _, h, _⟩; exact h; rw [hd] at h; cases h)
    exact q ck_suite G' A' H' _ w2 sl' _ (k.mono e2.1)
  · rw [hbf, if_neg Bool.false_ne_true] at q
    exact ⟨C, fs, ss', G', A', M', rfl, xd, w2, sl', q⟩
/-- e.f, e the exception that the suite holds -/
theorem we_xf {l C dd : Addr} {oe : Obj} {pn : List (Addr × Obj)} {f : Str} (T : XfC X.K C) (hno : PySem.W.findIn X.K (.ref C) f = some none) (hz : Zc (.ref C) (some dd) oe) (hf : ∃ vs, oe.data = .fields vs)
    (h : WE (X.suite l ((l, oe) :: pn)) B ex e (fun x M1 => ∃ fs d, x = .exc dd fs l ∧ fs.lookup f = some d ∧ Q (.dat d) M1) ss M) (hb : attributeBase e f X.env (eval e X.env) = eval e X.env := by rfl) :
    WE (X.suite l ((l, oe) :: pn)) B ex (.Attribute e f pos) Q ss M := .mk fun ck G A H σ w sl Kq k => by
  refine te_of (pe_xf T hno hz hf pe_self hb) ?_
  refine h ck G A H σ w sl _ fun v x G1 A1 M1 H1 e1 w1 s1 h1 => ?_
  obtain ⟨fs, d, rfl, hl, q⟩ := h1
  obtain ⟨rfl, fv, hd, r⟩ := s1
  obtain ⟨y, hy, ry⟩ := r.look hl
  exact ⟨rfl, rfl, dd, fv, y, rfl, w1.gh _ _ hd, hy, k _ (.dat d) G1 A1 M1 H1 e1 w1 ry q⟩
theorem call_isX {l D : Addr} {oe : Obj} {d : Option Addr} {pn : List (Addr × Obj)} (C : ExcC X.K D) (hz : Zc (.ref D) d oe) (hf : ∃ vs, oe.data = .fields vs) : CallR (X.suite l ((l, oe) :: pn)) (.builtin "isinstance") (fun xs H Q => (d = none ∨ ∃ dd fv, d = some dd ∧ H dd = some (.xd fv)) ∧ rIsE X.K D l xs H Q) := by
  intro pins s σ H xs us Q I r hh
  obtain ⟨hd, c, cv, b, rfl, hcv, e, q⟩ := hh
  cases r with
  | cons rx rr =>
    cases rr with
    | cons rt rr =>
      cases rr
      cases rx
      obtain rfl := hcv _ rt
      obtain ⟨g0, _⟩ := I.pin (l, oe) (List.mem_append.mpr (.inl List.mem_cons_self))
      obtain ⟨vs, hv⟩ := hf
      have J : ∃ od, PySem.W.InstAt s.heap l oe D od := by
        obtain ⟨oc, ood, oda, osl⟩ := oe
        obtain ⟨h1, h2⟩ := hz
        dsimp only at h1 h2 hv
        subst h1 h2 hv
        rcases hd with rfl | ⟨dd, fv, rfl, hH⟩
        · exact ⟨none, g0, rfl, rfl, trivial⟩
        · have hx : ObjOk X.prog X.w H s.heap dd (.xd fv) := I.hok dd _ hH
          obtain ⟨mA, hns, _⟩ := hx
          obtain ⟨od, ho, _⟩ := lookIn_ns hns
          exact ⟨some od, g0, rfl, rfl, ho⟩
      obtain ⟨od, J⟩ := J
      have hcl : (PySem.W.clsIn X.K D).isSome = true := by
        have z := C.hd
        unfold PySem.W.hasDictIn at z
        cases e : PySem.W.clsIn X.K D with
        | none => simp [e] at z
        | some _ => rfl
      exact PySem.W.kia_one (PySem.W.kitx_exc hcl C.hg C.hk C.hs C.ha C.hn C.ht C.hm) I.kIn J e (fun z => nomatch z) fun tk => ⟨.bl b, H, I.kept (t' := tk) fun _ _ z => z, rfl, q⟩
/-- isinstance(e, C), e the exception that the suite holds -/
theorem we_isX {l D : Addr} {oe : Obj} {d : Option Addr} {pn : List (Addr × Obj)} (C : ExcC X.K D) (hz : Zc (.ref D) d oe) (hf : ∃ vs, oe.data = .fields vs) (hm : X.mg "isinstance" = none) (hg : Gl X "isinstance")
    (h : WA (X.suite l ((l, oe) :: pn)) B ex [a, b] (fun xs M1 => ∃ fs c cv k, xs = [excSV d fs l, .raw c] ∧ ClsV c cv ∧ PySem.W.kitOne X.K (.ref D) cv = some k ∧ Q (.dat (.bl k)) M1) ss M)
    (he : starEach [a, b] X.env = (false, eval a X.env) :: starEach [b] X.env := by rfl) (hpl : (backTo pos (starEach [b] X.env)).any (·.1) = false := by rfl) :
    WE (X.suite l ((l, oe) :: pn)) B ex (.Call (.Name "isinstance" p) [a, b] [] pos) Q ss M := .mk fun ck G A H σ w sl Kq k => by
  refine te_of (pe_callB (call_isX C hz hf) hg hm (by decide +kernel) pa_self (by decide) (by decide) he hpl) ?_
  refine h ck G A H σ w sl _ fun vs xs G1 A1 M1 H1 e1 w1 s1 h1 => ?_
  obtain ⟨fs, c, cv, kb, rfl, hcv, hk, q⟩ := h1
  cases s1 with
  | cons s s1 =>
    cases s1 with
    | cons s' s1 =>
      cases s1
      obtain rfl := s'
      rename_i v0 _
      have : (d = none ∨ ∃ dd fv, d = some dd ∧ H1 dd = some (.xd fv)) ∧ v0 = V.ref l := by
        cases d with
        | none => exact ⟨.inl rfl, s⟩
        | some dd =>
          obtain ⟨h1, fv, h2, _⟩ := s
          exact ⟨.inr ⟨dd, fv, rfl, w1.gh _ _ h2⟩, h1⟩
      obtain ⟨hd, rfl⟩ := this
      exact ⟨hd, _, cv, kb, rfl, fun u r => hcv.eq r, hk, k _ (.dat (.bl kb)) G1 A1 M1 H1 e1 w1 (Rep.bl kb) q⟩
end
end Mb

/-! Mb, part 12: dicts, a class's def called by its name, cells that are frozen everywhere. -/
namespace Mb
open PySem L2 PyProof.Rows
def valD (kvs : List (Key × D)) (k : Key) : Option D := (kvs.find? fun kv => decide (kv.1 = k)).map (·.2)
def putD (kvs : List (Key × D)) (k : Key) (v : D) : List (Key × D) :=
  if (kvs.any fun kv => decide (kv.1 = k)) = true then kvs.map (fun kv => if kv.1 = k then (kv.1, v) else kv) else kvs ++ [(k, v)]
def keyD : D → Option Key
  | .str x => some (Sum.inr x)
  | .int i => some (Sum.inl i)
  | _ => none
theorem valD_pos {p : Key × D} {r : List (Key × D)} {k : Key} (e : p.1 = k) : valD (p :: r) k = some p.2 := by
  unfold valD
  rw [List.find?_cons_of_pos (by simpa using e)]
  rfl
theorem valD_neg {p : Key × D} {r : List (Key × D)} {k : Key} (e : ¬ p.1 = k) : valD (p :: r) k = valD r k := by
  unfold valD
  rw [List.find?_cons_of_neg (by simpa using e)]
theorem RepK.valS {K : PySem.W.Frag} {G : Hp} {k : Key} : ∀ {kv : List (Key × V)} {kvs : List (Key × D)}, RepK K G kv kvs → ∀ d, valD kvs k = some d → ∃ v, valV kv k = some v ∧ Rep K G v d
  | _, _, .nil, d, e => by simp [valD] at e
  | (g, v) :: kv, (_, y) :: kvs, .cons h r, d, e => by
    by_cases c : g = k
    · rw [valD_pos (p := (g, y)) c] at e
      cases e
      exact ⟨v, valV_pos (p := (g, v)) c, h⟩
    · rw [valD_neg (p := (g, y)) c] at e
      obtain ⟨w, h1, h2⟩ := r.valS d e
      exact ⟨w, (valV_neg (p := (g, v)) c).trans h1, h2⟩
theorem RepK.valN {K : PySem.W.Frag} {G : Hp} {k : Key} : ∀ {kv : List (Key × V)} {kvs : List (Key × D)}, RepK K G kv kvs → valD kvs k = none → valV kv k = none
  | _, _, .nil, e => valV_nil
  | (g, v) :: kv, (_, y) :: kvs, .cons h r, e => by
    by_cases c : g = k
    · rw [valD_pos (p := (g, y)) c] at e
      cases e
    · rw [valD_neg (p := (g, y)) c] at e
      exact (valV_neg (p := (g, v)) c).trans (r.valN e)
theorem RepK.some_eq {K : PySem.W.Frag} {G : Hp} {k : Key} {kv : List (Key × V)} {kvs : List (Key × D)} (r : RepK K G kv kvs) : (valV kv k).isSome = (valD kvs k).isSome := by
  cases e : valD kvs k with
  | none => rw [r.valN e]; rfl
  | some d => obtain ⟨v, h, _⟩ := r.valS d e; rw [h]; rfl
theorem RepK.anyE {K : PySem.W.Frag} {G : Hp} {k : Key} : ∀ {kv : List (Key × V)} {kvs : List (Key × D)}, RepK K G kv kvs → (kv.any fun x => decide (x.1 = k)) = kvs.any fun x => decide (x.1 = k)
  | _, _, .nil => rfl
  | (g, v) :: kv, (_, y) :: kvs, .cons h r => by
    rw [List.any_cons, List.any_cons, r.anyE]
theorem RepK.mapE {K : PySem.W.Frag} {G : Hp} {k : Key} {v : V} {d : D} (q : Rep K G v d) : ∀ {kv : List (Key × V)} {kvs : List (Key × D)}, RepK K G kv kvs → RepK K G (kv.map fun x => if x.1 = k then (x.1, v) else x) (kvs.map fun x => if x.1 = k then (x.1, d) else x)
  | _, _, .nil => .nil
  | (g, u) :: kv, (_, y) :: kvs, .cons h r => by
    rw [List.map_cons, List.map_cons]
    by_cases c : g = k
    · rw [if_pos c, if_pos c]; exact .cons q (r.mapE q)
    · rw [if_neg c, if_neg c]; exact .cons h (r.mapE q)
theorem RepK.snoc {K : PySem.W.Frag} {G : Hp} {k : Key} {v : V} {d : D} (q : Rep K G v d) : ∀ {kv : List (Key × V)} {kvs : List (Key × D)}, RepK K G kv kvs → RepK K G (kv ++ [(k, v)]) (kvs ++ [(k, d)])
  | _, _, .nil => .cons q .nil
  | (g, u) :: kv, (_, y) :: kvs, .cons h r => .cons h (r.snoc q)
theorem RepK.put {K : PySem.W.Frag} {G : Hp} {k : Key} {v : V} {d : D} (q : Rep K G v d) {kv : List (Key × V)} {kvs : List (Key × D)} (r : RepK K G kv kvs) : RepK K G (putK kv k v) (putD kvs k d) := by
  unfold putK putD
  rw [r.anyE]
  split
  · exact r.mapE q
  · exact r.snoc q
theorem keyD_kV {K : PySem.W.Frag} {G H : Hp} {v : V} {d : D} {k : Key} (h : RepS K G H v d) (e : keyD d = some k) : v = kV k := by
  cases d <;> simp [keyD] at e
  · subst e; exact h
  · subst e; exact h.1
section
variable {X : Cx} {B : Base} {ex : XD} {ss : Sst} {M : Mem} {a b c e tg o : Expr} {es : List Expr} {pos p p' apos p2 : Pos} {Q : SV → Mem → Prop} {QB : Bool → Mem → Prop} {N : Nd} {x : Str} {sts : List Stmt}
/-! ### dicts -/
theorem we_dnew (q : Q (.cel M.length) (M ++ [.dic []])) : WE X B ex (.Dict [] [] pos) Q ss M := .mk fun ck G A H σ w sl Kq k => by
  refine te_of pe_dnewK fun l hl => ?_
  obtain ⟨w2, e2⟩ := w.newC (c := .dic []) (o := .dK []) hl ⟨(w.none hl).2.2, [], upd_same, .nil⟩
  refine k _ (.cel M.length) _ _ _ _ e2 w2 ⟨l, rfl, ?_⟩ q
  rw [← w.len, List.getElem?_append_right (Nat.le_refl _), Nat.sub_self]
  rfl
def dinD0 (a b : D) (k : Bool → Prop) : Prop := match keyD a, b with
  | some key, .dic kvs => k (valD kvs key).isSome
  | _, _ => False
structure dinD (a b : D) (k : Bool → Prop) : Prop where
  run : dinD0 a b k
theorem dinD_get {a b : D} {k : Bool → Prop} (h : dinD a b k) : ∃ key kvs, keyD a = some key ∧ b = .dic kvs ∧ k (valD kvs key).isSome := by
  have h := h.run
  unfold dinD0 at h
  cases e : keyD a with
  | none => simp [e] at h
  | some key => cases b <;> simp [e] at h; exact ⟨key, _, rfl, rfl, h⟩
theorem wt_din {k : Nat} (hr : Room k X.A) (hm : behindInMarks .In b = false) (h : WE X B ex a (fun x M1 => WE X B ex b (fun y M2 => with1 M2 x fun p => with1 M2 y fun q => dinD p q fun k => QB k M2) ss M1) ss M) : WT X B ex (.Compare a [.In] [b] pos) QB ss M := .mk fun ck G A H σ w sl Kq k => by
  refine tt_of (pt_cmp (pc_din (hu_of hr) pe_self pe_self) hm) ?_
  refine h ck G A H σ w sl _ fun u x G1 A1 M1 H1 e1 w1 s1 h1 => ?_
  refine h1 ck G1 A1 H1 σ w1 (sl.mono e1) _ fun v y G2 A2 M2 H2 e2 w2 s2 h2 => ?_
  obtain ⟨d1, g1, h2⟩ := with1_get h2
  obtain ⟨d2, g2, h2⟩ := with1_get h2
  obtain ⟨key, kvs, hk, rfl, h9⟩ := dinD_get h2
  obtain ⟨l, kv, rfl, hl, r⟩ := s2.s w2 g2
  obtain rfl := keyD_kV ((s1.mono e2).s w2 g1) hk
  refine ⟨l, _, rfl, DGet.k hl, _, rfl, ?_⟩
  rw [r.some_eq]
  exact k _ G2 A2 M2 H2 (e1.trans e2) w2 h9
theorem wt_dni {k : Nat} (hr : Room k X.A) (hm : behindInMarks .NotIn b = false) (h : WE X B ex a (fun x M1 => WE X B ex b (fun y M2 => with1 M2 x fun p => with1 M2 y fun q => dinD p q fun k => QB (!k) M2) ss M1) ss M) : WT X B ex (.Compare a [.NotIn] [b] pos) QB ss M := .mk fun ck G A H σ w sl Kq k => by
  refine tt_of (pt_cmp (pc_dnotin (hu_of hr) pe_self pe_self) hm) ?_
  refine h ck G A H σ w sl _ fun u x G1 A1 M1 H1 e1 w1 s1 h1 => ?_
  refine h1 ck G1 A1 H1 σ w1 (sl.mono e1) _ fun v y G2 A2 M2 H2 e2 w2 s2 h2 => ?_
  obtain ⟨d1, g1, h2⟩ := with1_get h2
  obtain ⟨d2, g2, h2⟩ := with1_get h2
  obtain ⟨key, kvs, hk, rfl, h9⟩ := dinD_get h2
  obtain ⟨l, kv, rfl, hl, r⟩ := s2.s w2 g2
  obtain rfl := keyD_kV ((s1.mono e2).s w2 g1) hk
  refine ⟨l, _, rfl, DGet.k hl, _, rfl, ?_⟩
  rw [r.some_eq]
  exact k _ G2 A2 M2 H2 (e1.trans e2) w2 h9
theorem we_dget {k : Nat} (hr : Room k X.A) (h : WE X B ex a (fun x M1 => WE X B ex b (fun y M2 => with1 M2 x fun p => with1 M2 y fun q => ∃ key kvs d, keyD q = some key ∧ p = .dic kvs ∧ valD kvs key = some d ∧ Q (.dat d) M2) ss M1) ss M) (hs : NoSl b := by intro _ _; rfl) : WE X B ex (.Subscript a b pos) Q ss M := .mk fun ck G A H σ w sl Kq kk => by
  refine te_of (pe_dget (hu_of hr) pe_self pe_self hs) ?_
  refine h ck G A H σ w sl _ fun u x G1 A1 M1 H1 e1 w1 s1 h1 => ?_
  refine h1 ck G1 A1 H1 σ w1 (sl.mono e1) _ fun v y G2 A2 M2 H2 e2 w2 s2 h2 => ?_
  obtain ⟨d1, g1, h2⟩ := with1_get h2
  obtain ⟨d2, g2, key, kvs, d, hk, rfl, hv, q⟩ := with1_get h2
  obtain ⟨l, kv, rfl, hl, r⟩ := (s1.mono e2).s w2 g1
  obtain rfl := keyD_kV (s2.s w2 g2) hk
  obtain ⟨z, hz, rz⟩ := r.valS d hv
  refine ⟨l, z, rfl, ?_, kk _ (.dat d) G2 A2 M2 H2 (e1.trans e2) w2 rz q⟩
  rw [← hz]; exact DGet.k hl
/-- x a dict of ours -/
def cellDc0 (M : Mem) (x : SV) (k : Nat → List (Key × D) → Prop) : Prop := match x with
  | .cel i => match M[i]? with
    | some (.dic ds) => k i ds
    | _ => False
  | _ => False
structure cellDc (M : Mem) (x : SV) (k : Nat → List (Key × D) → Prop) : Prop where
  run : cellDc0 M x k
theorem cellDc_get {M : Mem} {x : SV} {k : Nat → List (Key × D) → Prop} (h : cellDc M x k) : ∃ i ds, x = .cel i ∧ M[i]? = some (.dic ds) ∧ k i ds := by
  have h := h.run
  unfold cellDc0 at h
  cases x with
  | dat d => exact h.elim
  | raw u => exact h.elim
  | exc u v w => exact h.elim
  | tup xs => exact h.elim
  | cel i =>
    simp only at h
    cases e : M[i]? with
    | none => simp [e] at h
    | some c =>
      cases c <;> simp [e] at h
      exact ⟨i, _, rfl, e, h⟩
theorem ws_dput {k : Nat} (hr : Room k X.A) (h : WE X B ex e (fun v M1 => WE X B ex a (fun x M2 => WE X B ex b (fun y M3 => ∃ d key, v = .dat d ∧ y.get M3 = some (match key with | Sum.inr s => .str s | Sum.inl i => .int i) ∧ cellDc M3 x fun i kvs => kvs.length < sizeLine ∧ N.nx ss (M3.set i (.dic (putD kvs key d)))) ss M2) ss M1) ss M)
    (hs : swapsWith e (some (.Subscript a b p')) pos.line X.env = pure false := by rfl) : WS X B ex (.Assign [.Subscript a b p'] e pos) N ss M := .mk fun ck G A H σ w sl E kk => by
  refine ts_of (ps_dput (hu_of hr) pe_self pe_self pe_self hs) ?_
  refine h ck G A H σ w sl _ fun v z G1 A1 M1 H1 e1 w1 s1 h1 => ?_
  refine h1 ck G1 A1 H1 σ w1 (sl.mono e1) _ fun u x G2 A2 M2 H2 e2 w2 s2 h2 => ?_
  refine h2 ck G2 A2 H2 σ w2 (sl.mono (e1.trans e2)) _ fun t y G3 A3 M3 H3 e3 w3 s3 h3 => ?_
  obtain ⟨d, key, rfl, hy, h3⟩ := h3
  obtain ⟨i, kvs, rfl, hM, hz, q⟩ := cellDc_get h3
  obtain ⟨l, rfl, hl⟩ := s2.mono e3
  obtain ⟨gn, kv, hv, r⟩ := w3.cl.get hl hM
  obtain rfl := keyD_kV (k := key) (s3.s w3 hy) (by cases key <;> rfl)
  have rd : Rep X.K G3 v d := (SvOk.mono (e2.trans e3) s1 : SvOk X.K G3 A3 v (.dat d))
  refine ⟨l, _, rfl, DPut.k hv (by rw [r.length]; exact hz), ?_⟩
  exact kk.nx σ ss G3 A3 _ _ ((e1.trans e2).trans e3).1 (w3.setC (c' := .dic (putD kvs key d)) hl gn ⟨gn, _, upd_same, r.put rd⟩) (sl.mono ((e1.trans e2).trans e3)) q
/-! ### C.m(self, ..), the class written out -/
theorem we_cls {C f : Addr} {m y : Str} {fd : FuncData} {ps : List Str} {k n : Nat} {S : SpD} {pl : Sem Bool} {mc : Value} (hm : X.mg y = some (.ref C)) (hg : Gl X y) (cr : ClX.CRead X.K C mc) (cv : ClX.CVal X.K C mc m (.ref f) (.ref f)) (hk : PySem.W.keepIn X.K (.ref f) = true)
    (F : FnOk X.prog X.w X.K X.mg X.base (L2.CX X.prog X.w) k f fd ps (spOf X.K n S)) (hr : Room k X.A) (hb : Binds X.K fd ps [])
    (h : WA X B ex (e :: es) (fun xs M2 => CallQ n S xs M2 Q ex ss) ss M)
    (hdb : (y == ("__debug__" : Str)) = false := by decide) (hst : starEach (e :: es) X.env = (false, eval e X.env) :: starEach es X.env := by rfl) (hpl : (backTo pos (starEach es X.env)).any (·.1) = false := by rfl)
    (ht : eval (.Call (.Attribute (.Name y p) m apos) (e :: es) [] pos) X.env = (do
      let ov ← eval (.Name y p) X.env
      standAt apos.atName
      let (f, first) ← holding [ov] (getMethod ov m pl)
      callWith pos f first (backTo pos (starEach (e :: es) X.env)) (backToKw pos (keywordEach [] X.env))) := by rfl) :
    WE X B ex (.Call (.Attribute (.Name y p) m apos) (e :: es) [] pos) Q ss M := .mk fun ck G A H σ w sl Kq kk pins s I => by
  refine PySem.W.methodCall_KW (pl := pl) (ld_glob I hg hm ?_ hdb) ht
  refine PySem.W.method_cls I.kIn cr.ga (ClX.getcval_ok I cr cv fun s1 I1 => ?_)
  have hO : taW X (e :: es) σ H (fun vs H2 => spOf X.K n S vs H2 Kq (fun cls d H' => XW X.K B ex cls d σ H')) := by
    refine h ck G A H σ w sl _ fun vs xs G2 A2 M2 H2 e2 w2 s2 h2 => ?_
    exact call_sp w2 (sl.mono e2) s2 h2 fun v x G' A' M' H' e' => kk v x G' A' M' H' (e2.trans e')
  refine PySem.W.callWith_K (first := []) (h₀ := X.base) I.ok.mod.kin hk (thn (hO pos pins s1 I1) fun us s2 ⟨vs, H2, I2, r, q2⟩ => ⟨I2.kIn, ?_⟩) hst hpl
  exact run_fnSD (E := fun σ cls d H' => XW X.K B ex cls d σ H') (dvs := []) (us := us) (vs := vs) F hr hb .nil (ck.at σ) I2 r (by rw [List.append_nil]; exact q2)
end
/-! ### a cell is frozen wherever it is named -/
def FV.fz (j : Nat) (d : D) : FV → FV
  | .cel i => if i = j then .dat d else .cel i
  | x => x
def SV.fz (j : Nat) (d : D) : SV → SV
  | .cel i => if i = j then .dat d else .cel i
  | .tup xs => .tup (xs.map (FV.fz j d))
  | x => x
def Cell.fz (j : Nat) (d : D) : Cell → Cell
  | .ins C fs => .ins C (fs.map fun p => (p.1, p.2.fz j d))
  | .mix xs => .mix (xs.map (SV.fz j d))
  | c => c
/-- the data of a value that names no cell -/
def fvsD : List FV → Option (List D)
  | [] => some []
  | .dat d :: r => (fvsD r).map (d :: ·)
  | .cel _ :: _ => none
def svD : SV → Option D
  | .dat d => some d
  | .tup xs => (fvsD xs).map .tup
  | _ => none
def svsD : List SV → Option (List D)
  | [] => some []
  | x :: r => match svD x, svsD r with
    | some d, some ds => some (d :: ds)
    | _, _ => none
def cellD : Cell → Option D
  | .lst ds => some (.lst ds)
  | .dic ds => some (.dic ds)
  | .ins C fs => (fdats fs).map (.ins C)
  | .mix xs => (svsD xs).map .lst
  | .dead => none
theorem Fvs.reps {K : PySem.W.Frag} {G : Hp} {A : List Addr} : ∀ {vs : List V} {xs : List FV} {ds : List D}, Fvs K G A vs xs → fvsD xs = some ds → Reps K G vs ds
  | _, _, _, .nil, e => by
    simp only [fvsD, Option.some.injEq] at e
    subst e
    exact .nil
  | _, .dat d :: r, _, .cons h q, e => by
    simp only [fvsD, Option.map_eq_some_iff] at e
    obtain ⟨ds, e, rfl⟩ := e
    exact .cons h (q.reps e)
  | _, .cel _ :: _, _, .cons _ _, e => by simp [fvsD] at e
theorem SvOk.repD {K : PySem.W.Frag} {G : Hp} {A : List Addr} {v : V} {x : SV} {d : D} (h : SvOk K G A v x) (e : svD x = some d) : Rep K G v d := by
  cases x with
  | dat d' => simp only [svD, Option.some.injEq] at e; subst e; exact h
  | tup xs =>
    simp only [svD, Option.map_eq_some_iff] at e
    obtain ⟨ds, e, rfl⟩ := e
    obtain ⟨a, vs, rfl, h2, h3⟩ := h
    exact .tup h2 (h3.reps e)
  | cel i => simp [svD] at e
  | raw u => simp [svD] at e
  | exc a b c => simp [svD] at e
theorem Svs.repsD {K : PySem.W.Frag} {G : Hp} {A : List Addr} : ∀ {vs : List V} {xs : List SV} {ds : List D}, Svs K G A vs xs → svsD xs = some ds → Reps K G vs ds
  | _, _, _, .nil, e => by
    simp only [svsD, Option.some.injEq] at e
    subst e
    exact .nil
  | _, x :: r, _, .cons h q, e => by
    simp only [svsD] at e
    cases e1 : svD x with
    | none => simp [e1] at e
    | some d =>
      cases e2 : svsD r with
      | none => simp [e1, e2] at e
      | some ds =>
        simp only [e1, e2, Option.some.injEq] at e
        subst e
        exact .cons (h.repD e1) (q.repsD e2)
section
variable {K : PySem.W.Frag} {B : Base} {G : Hp} {A : List Addr} {M : List Cell} {H : Hp}
theorem FvOk.fz {v : V} {x : FV} {j : Nat} {d : D} {a : Addr} (hj : A[j]? = some a) (r : Rep K G (.ref a) d) (h : FvOk K G A v x) : FvOk K G A v (x.fz j d) := by
  cases x with
  | dat d => exact h
  | cel i =>
    unfold FV.fz
    by_cases c : i = j
    · simp only [c, if_true]
      obtain ⟨b, rfl, hb⟩ := h
      subst c
      rw [hj] at hb
      cases hb
      exact r
    · simp only [c, if_false]; exact h
theorem Fvs.fz {j : Nat} {d : D} {a : Addr} (hj : A[j]? = some a) (r : Rep K G (.ref a) d) : ∀ {vs : List V} {xs : List FV}, Fvs K G A vs xs → Fvs K G A vs (xs.map (FV.fz j d))
  | _, _, .nil => .nil
  | _, _, .cons h s => .cons (h.fz hj r) (s.fz hj r)
theorem SvOk.fz {v : V} {x : SV} {j : Nat} {d : D} {a : Addr} (hj : A[j]? = some a) (r : Rep K G (.ref a) d) (h : SvOk K G A v x) : SvOk K G A v (x.fz j d) := by
  cases x with
  | dat d => exact h
  | raw u => exact h
  | exc u v w => exact h
  | tup xs =>
    obtain ⟨b, vs, h1, h2, h3⟩ := h
    exact ⟨b, vs, h1, h2, h3.fz hj r⟩
  | cel i =>
    unfold SV.fz
    by_cases c : i = j
    · simp only [c, if_true]
      obtain ⟨b, rfl, hb⟩ := h
      subst c
      rw [hj] at hb
      cases hb
      exact r
    · simp only [c, if_false]; exact h
theorem Sl.fz {j : Nat} {d : D} {a : Addr} (hj : A[j]? = some a) (r : Rep K G (.ref a) d) : ∀ {σ : L2.St} {ss : Sst}, Sl K G A σ ss → Sl K G A σ (ss.map (Option.map (SV.fz j d)))
  | _, _, .nil => .nil
  | _, _, .skip s => .skip (s.fz hj r)
  | _, _, .cons h s => .cons (h.fz hj r) (s.fz hj r)
theorem Svs.fz {j : Nat} {d : D} {a : Addr} (hj : A[j]? = some a) (r : Rep K G (.ref a) d) : ∀ {vs : List V} {xs : List SV}, Svs K G A vs xs → Svs K G A vs (xs.map (SV.fz j d))
  | _, _, .nil => .nil
  | _, _, .cons h s => .cons (h.fz hj r) (s.fz hj r)
theorem FldsOk.fz {j : Nat} {d : D} {a : Addr} (hj : A[j]? = some a) (r : Rep K G (.ref a) d) : ∀ {fv : List (Str × V)} {fs : List (Str × SV)}, FldsOk K G A fv fs → FldsOk K G A fv (fs.map fun p => (p.1, p.2.fz j d))
  | _, _, .nil => .nil
  | _, _, .cons h s => .cons (h.fz hj r) (s.fz hj r)
theorem CellOk.fz {j : Nat} {d : D} {a b : Addr} {c : Cell} (hj : A[j]? = some a) (r : Rep K G (.ref a) d) (h : CellOk K G A H b c) : CellOk K G A H b (c.fz j d) := by
  cases c with
  | dead => trivial
  | lst ds => exact h
  | dic ds => exact h
  | ins C fs =>
    obtain ⟨g, dx, fv, h1, q⟩ := h
    exact ⟨g, dx, fv, h1, q.fz hj r⟩
  | mix xs =>
    obtain ⟨g, vs, h1, q⟩ := h
    exact ⟨g, vs, h1, q.fz hj r⟩
theorem Cells.fz {j : Nat} {d : D} {a : Addr} (hj : A[j]? = some a) (r : Rep K G (.ref a) d) : ∀ {as : List Addr} {cs : List Cell}, Cells K G A H as cs → Cells K G A H as (cs.map (Cell.fz j d))
  | _, _, .nil => .nil
  | _, _, .cons h s => .cons (h.fz hj r) (s.fz hj r)
theorem Wd.freezeA (w : Wd K B G A M H) {j : Nat} {c : Cell} {d : D} (hb : B.A.length ≤ j) (hM : M[j]? = some c) (hd : cellD c = some d) :
    ∃ G' a, A[j]? = some a ∧ Wd K B G' A ((M.map (Cell.fz j d)).set j .dead) H ∧ Same G G' ∧ Rep K G' (.ref a) d := by
  have hl := w.len
  have hj : j < A.length := by rw [hl]; exact (List.getElem?_eq_some_iff.mp hM).1
  have ha : A[j]? = some A[j] := List.getElem?_eq_getElem hj
  generalize A[j] = a at ha
  have hc := w.cl.get ha hM
  have hA : a ∈ A := List.mem_of_getElem? ha
  obtain ⟨gn, o, ho, rep⟩ : G a = Option.none ∧ ∃ o, H a = some o ∧ ∀ G', Same G G' → G' a = some o → Rep K G' (.ref a) d := by
    cases c with
    | dead => simp [cellD] at hd
    | lst ds =>
      simp only [cellD, Option.some.injEq] at hd; subst hd
      obtain ⟨g, vs, h1, r⟩ := hc
      exact ⟨g, _, h1, fun G' s e => .lst (.inl e) (r.mono s)⟩
    | dic ds =>
      simp only [cellD, Option.some.injEq] at hd; subst hd
      obtain ⟨g, vs, h1, r⟩ := hc
      exact ⟨g, _, h1, fun G' s e => .dic e (r.mono s)⟩
    | ins C fs =>
      simp only [cellD, Option.map_eq_some_iff] at hd
      obtain ⟨ds, hf, rfl⟩ := hd
      obtain ⟨g, dx, fv, h1, r⟩ := hc
      exact ⟨g, _, h1, fun G' s e => .ins e ((r.repF hf).mono s)⟩
    | mix xs =>
      simp only [cellD, Option.map_eq_some_iff] at hd
      obtain ⟨ds, hf, rfl⟩ := hd
      obtain ⟨g, vs, h1, r⟩ := hc
      exact ⟨g, _, h1, fun G' s e => .lst (.inl e) ((r.repsD hf).mono s)⟩
  have hnB : B.H a = Option.none := by
    rcases w.an a hA with q | q
    · exfalso
      obtain ⟨more, e⟩ := w.pre
      obtain ⟨i, hi, ei⟩ := List.mem_iff_getElem.mp q
      have h1 : A[i]? = some a := by rw [e, List.getElem?_append_left hi, List.getElem?_eq_getElem hi, ei]
      have := nd_ix w.nd ha h1
      omega
    · exact q
  have s1 : Same G (upd G a o) := same_upd gn
  have ex : Ext G A (upd G a o) A := ⟨s1, [], by simp⟩
  have r1 := rep (upd G a o) s1 upd_same
  refine ⟨upd G a o, a, ha, ⟨w.gg.trans s1, fun b u e => ?_, w.fr, fun b u e => ?_, w.nd, w.pre, w.there, w.an, ?_⟩, s1, r1⟩
  · by_cases c : b = a
    · subst c; rw [upd_same] at e; rw [← e]; exact ho
    · rw [upd_ne c] at e; exact w.gh b u e
  · by_cases c : b = a
    · subst c; exact .inr hnB
    · rw [upd_ne c] at e; exact w.fresh b u e
  · have go : ∀ {as : List Addr} {cs : List Cell} {i : Nat}, as.Nodup → Cells K G A H as cs → as[i]? = some a → Cells K (upd G a o) A H as ((cs.map (Cell.fz j d)).set i .dead) := by
      intro as cs i nd q
      induction q generalizing i with
      | nil => intro e; simp at e
      | @cons b as c cs h r ih =>
        intro e
        cases i with
        | zero =>
          simp at e
          subst e
          refine .cons trivial (Cells.fz ha r1 (r.imp fun x y m q => q.keep ex (fun g => ?_) fun _ e => e))
          rw [upd_ne (show x ≠ b from fun z => (List.nodup_cons.mp nd).1 (z ▸ m))]; exact g
        | succ n =>
          have e' : as[n]? = some a := by simpa using e
          have hp : a ∈ as := List.mem_of_getElem? e'
          refine .cons ((h.keep ex (fun g => ?_) fun _ e => e).fz ha r1) (ih (List.nodup_cons.mp nd).2 e')
          rw [upd_ne (show b ≠ a from fun z => (List.nodup_cons.mp nd).1 (z ▸ hp))]; exact g
    exact go w.nd w.cl ha
end
section
variable {X : Cx} {B : Base} {ex : XD} {ss : Sst} {M : Mem} {N : Nd} {sts : List Stmt}
theorem wb_freeze (j : Nat) {c : Cell} {d : D} (hb : B.A.length ≤ j) (hM : M[j]? = some c) (hd : cellD c = some d) (h : WB X B ex sts N (ss.map (Option.map (SV.fz j d))) ((M.map (Cell.fz j d)).set j .dead)) : WB X B ex sts N ss M := .mk fun ck G A H σ w sl E k => by
  obtain ⟨G', a, ha, w', s', r⟩ := w.freezeA hb hM hd
  exact h ck G' A H σ w' ((sl.mono ⟨s', [], by simp⟩).fz ha r) E (k.mono s')
end
end Mb

/-! Mb, part 13: small steps, what a law's top holds, the draw. -/
namespace Mb
open PySem L2 PyProof.Rows
section
variable {M : Mem} {k : D → Prop} {A B : Prop} {X : Cx}
theorem w1d {d : D} (h : k d) : with1 M (.dat d) k := ⟨h⟩
theorem w1c {i : Nat} {ds : List D} (e : M[i]? = some (.lst ds)) (h : k (.lst ds)) : with1 M (.cel i) k := by
  have g : SV.get M (.cel i) = some (.lst ds) := by simp only [SV.get, e]
  exact with1_mk g h
theorem w1k {i : Nat} {ds : List (Key × D)} (e : M[i]? = some (.dic ds)) (h : k (.dic ds)) : with1 M (.cel i) k := by
  have g : SV.get M (.cel i) = some (.dic ds) := by simp only [SV.get, e]
  exact with1_mk g h
theorem addI {i j : Int} (h : k (.int (i + j))) : addD (.int i) (.int j) k := ⟨h⟩
theorem addS {i j : Str} (hl : i.length + j.length ≤ sizeLine) (h : k (.str (i ++ j))) : addD (.str i) (.str j) k := ⟨⟨hl, h⟩⟩
theorem addL {i j : List D} (hl : i.length + j.length ≤ sizeLine) (h : k (.lst (i ++ j))) : addD (.lst i) (.lst j) k := ⟨⟨hl, h⟩⟩
theorem addT {i j : List D} (hl : i.length + j.length ≤ sizeLine) (h : k (.tup (i ++ j))) : addD (.tup i) (.tup j) k := ⟨⟨hl, h⟩⟩
theorem mulI {i j : Int} (hl : CMul i j) (h : k (.int (i * j))) : mulD (.int i) (.int j) k := ⟨⟨hl, h⟩⟩
theorem wsd {xs : List SV} {ds : List D} {k : List D → Prop} (e : datsOf xs = some ds) (h : k ds) : withs xs k := by
  refine ⟨?_⟩
  unfold withs0
  rw [e]
  exact h
theorem deq_int {i j : Int} : deq (.int i) (.int j) = decide (i = j) := by
  unfold deq
  simp only [py, PyData.eqv]
  rfl
theorem deq_str {i j : Str} : deq (.str i) (.str j) = decide (i = j) := by
  unfold deq
  simp only [py, PyData.eqv]
  by_cases c : i = j
  · subst c; simp
  · rw [decide_eq_false c]; simpa using c
theorem eqI {i j : Int} {Q : Bool → Mem → Prop} (h : Q (decide (i = j)) M) : eq2t false M (.dat (.int i)) (.dat (.int j)) Q := ⟨w1d (w1d ⟨⟨rfl, rfl⟩, by rw [deq_int]; exact h⟩)⟩
theorem neI {i j : Int} {Q : Bool → Mem → Prop} (h : Q (!decide (i = j)) M) : eq2t true M (.dat (.int i)) (.dat (.int j)) Q := ⟨w1d (w1d ⟨⟨rfl, rfl⟩, by rw [deq_int]; exact h⟩)⟩
theorem eqS {i j : Str} {Q : Bool → Mem → Prop} (h : Q (decide (i = j)) M) : eq2t false M (.dat (.str i)) (.dat (.str j)) Q := ⟨w1d (w1d ⟨⟨rfl, rfl⟩, by rw [deq_str]; exact h⟩)⟩
theorem neS {i j : Str} {Q : Bool → Mem → Prop} (h : Q (!decide (i = j)) M) : eq2t true M (.dat (.str i)) (.dat (.str j)) Q := ⟨w1d (w1d ⟨⟨rfl, rfl⟩, by rw [deq_str]; exact h⟩)⟩
theorem eqD {d e : D} {Q : Bool → Mem → Prop} (h1 : D.pl 60 d = true) (h2 : D.pl 60 e = true) (h : Q (deq d e) M) : eq2t false M (.dat d) (.dat e) Q := ⟨w1d (w1d ⟨⟨h1, h2⟩, h⟩)⟩
theorem neD {d e : D} {Q : Bool → Mem → Prop} (h1 : D.pl 60 d = true) (h2 : D.pl 60 e = true) (h : Q (!deq d e) M) : eq2t true M (.dat d) (.dat e) Q := ⟨w1d (w1d ⟨⟨h1, h2⟩, h⟩)⟩
theorem ixL {ds : List D} {n : Int} {d : D} (e : atI ds n = some d) (h : k d) : ixD (.lst ds) (.int n) k := ⟨⟨d, e, h⟩⟩
theorem ixT {ds : List D} {n : Int} {d : D} (e : atI ds n = some d) (h : k d) : ixD (.tup ds) (.int n) k := ⟨⟨d, e, h⟩⟩
theorem ixS {z : Str} {n : Int} {c : Nat} (e : atI z.cps.toList n = some c) (h : k (.str ⟨#[c]⟩)) : ixD (.str z) (.int n) k := ⟨⟨c, e, h⟩⟩
theorem ite_b {p : Prop} [Decidable p] (h1 : p → A) (h2 : ¬ p → B) : if decide p = true then A else B := by
  by_cases c : p
  · rw [if_pos (decide_eq_true c)]; exact h1 c
  · rw [if_neg (by rw [decide_eq_false c]; exact Bool.false_ne_true)]; exact h2 c
theorem ite_n {p : Prop} [Decidable p] (h1 : ¬ p → A) (h2 : p → B) : if (!decide p) = true then A else B := by
  by_cases c : p
  · rw [if_neg (by rw [decide_eq_true c]; exact Bool.false_ne_true)]; exact h2 c
  · rw [if_pos (by rw [decide_eq_false c]; rfl)]; exact h1 c
theorem ite_v {b : Bool} (h1 : b = true → A) (h2 : b = false → B) : if b = true then A else B := by
  cases b with
  | true => rw [if_pos rfl]; exact h1 rfl
  | false => rw [if_neg Bool.false_ne_true]; exact h2 rfl
theorem it_t {b : Bool} (e : b = true) (h : A) : if b = true then A else B := by rw [if_pos e]; exact h
theorem it_f {b : Bool} (e : b = false) (h : B) : if b = true then A else B := by rw [if_neg (by rw [e]; exact Bool.false_ne_true)]; exact h
theorem vis {sc : Scope} {x : Str} (h : (sc.names.lookup x == some .local || sc.names.lookup x == some .cell || sc.names.lookup x == some .free) = true) : Vis sc x := by
  simp only [Bool.or_eq_true, beq_iff_eq] at h
  rcases h with (h | h) | h
  · exact .inl h
  · exact .inr (.inl h)
  · exact .inr (.inr h)
theorem room {j k : Nat} {A : Around} (r : Room k A) (h : j ≤ k) : Room j A := r.mono h
end
section
variable {X : Cx} {B : Base} {ex : XD} {ss : Sst} {M : Mem} {a b c : Expr} {pos : Pos} {Q : SV → Mem → Prop} {QB : Bool → Mem → Prop}
theorem we_lt (h : WE X B ex a (fun x M1 => WE X B ex b (fun y M2 => ∃ i j, x = .dat (.int i) ∧ y = .dat (.int j) ∧ Q (.dat (.bl (decide (i < j)))) M2) ss M1) ss M) (hm : behindInMarks .Lt b = false := by exact nomark _) : WE X B ex (.Compare a [.Lt] [b] pos) Q ss M :=
  we_cmpI op_lt hm (h.mono fun x M1 h1 => h1.mono fun y M2 ⟨i, j, e1, e2, q⟩ => by subst e1; subst e2; exact w1d (w1d q))
theorem wt_lt (h : WE X B ex a (fun x M1 => WE X B ex b (fun y M2 => ∃ i j, x = .dat (.int i) ∧ y = .dat (.int j) ∧ QB (decide (i < j)) M2) ss M1) ss M) (hm : behindInMarks .Lt b = false := by exact nomark _) : WT X B ex (.Compare a [.Lt] [b] pos) QB ss M :=
  wt_cmpI op_lt hm (h.mono fun x M1 h1 => h1.mono fun y M2 ⟨i, j, e1, e2, q⟩ => by subst e1; subst e2; exact w1d (w1d q))
theorem we_le (h : WE X B ex a (fun x M1 => WE X B ex b (fun y M2 => ∃ i j, x = .dat (.int i) ∧ y = .dat (.int j) ∧ Q (.dat (.bl (decide (i ≤ j)))) M2) ss M1) ss M) (hm : behindInMarks .LtE b = false := by exact nomark _) : WE X B ex (.Compare a [.LtE] [b] pos) Q ss M :=
  we_cmpI op_le hm (h.mono fun x M1 h1 => h1.mono fun y M2 ⟨i, j, e1, e2, q⟩ => by subst e1; subst e2; exact w1d (w1d q))
theorem wt_le (h : WE X B ex a (fun x M1 => WE X B ex b (fun y M2 => ∃ i j, x = .dat (.int i) ∧ y = .dat (.int j) ∧ QB (decide (i ≤ j)) M2) ss M1) ss M) (hm : behindInMarks .LtE b = false := by exact nomark _) : WT X B ex (.Compare a [.LtE] [b] pos) QB ss M :=
  wt_cmpI op_le hm (h.mono fun x M1 h1 => h1.mono fun y M2 ⟨i, j, e1, e2, q⟩ => by subst e1; subst e2; exact w1d (w1d q))
theorem we_gt (h : WE X B ex a (fun x M1 => WE X B ex b (fun y M2 => ∃ i j, x = .dat (.int i) ∧ y = .dat (.int j) ∧ Q (.dat (.bl (decide (j < i)))) M2) ss M1) ss M) (hm : behindInMarks .Gt b = false := by exact nomark _) : WE X B ex (.Compare a [.Gt] [b] pos) Q ss M :=
  we_cmpI op_gt hm (h.mono fun x M1 h1 => h1.mono fun y M2 ⟨i, j, e1, e2, q⟩ => by subst e1; subst e2; exact w1d (w1d q))
theorem wt_gt (h : WE X B ex a (fun x M1 => WE X B ex b (fun y M2 => ∃ i j, x = .dat (.int i) ∧ y = .dat (.int j) ∧ QB (decide (j < i)) M2) ss M1) ss M) (hm : behindInMarks .Gt b = false := by exact nomark _) : WT X B ex (.Compare a [.Gt] [b] pos) QB ss M :=
  wt_cmpI op_gt hm (h.mono fun x M1 h1 => h1.mono fun y M2 ⟨i, j, e1, e2, q⟩ => by subst e1; subst e2; exact w1d (w1d q))
theorem we_ge (h : WE X B ex a (fun x M1 => WE X B ex b (fun y M2 => ∃ i j, x = .dat (.int i) ∧ y = .dat (.int j) ∧ Q (.dat (.bl (decide (j ≤ i)))) M2) ss M1) ss M) (hm : behindInMarks .GtE b = false := by exact nomark _) : WE X B ex (.Compare a [.GtE] [b] pos) Q ss M :=
  we_cmpI op_ge hm (h.mono fun x M1 h1 => h1.mono fun y M2 ⟨i, j, e1, e2, q⟩ => by subst e1; subst e2; exact w1d (w1d q))
theorem wt_ge (h : WE X B ex a (fun x M1 => WE X B ex b (fun y M2 => ∃ i j, x = .dat (.int i) ∧ y = .dat (.int j) ∧ QB (decide (j ≤ i)) M2) ss M1) ss M) (hm : behindInMarks .GtE b = false := by exact nomark _) : WT X B ex (.Compare a [.GtE] [b] pos) QB ss M :=
  wt_cmpI op_ge hm (h.mono fun x M1 h1 => h1.mono fun y M2 ⟨i, j, e1, e2, q⟩ => by subst e1; subst e2; exact w1d (w1d q))
theorem wt_lele (h : WE X B ex a (fun x M1 => WE X B ex b (fun y M2 => ∃ i j, x = .dat (.int i) ∧ y = .dat (.int j) ∧ if decide (i ≤ j) = true then WE X B ex c (fun z M3 => ∃ n, z = .dat (.int n) ∧ QB (decide (j ≤ n)) M3) ss M2 else QB false M2) ss M1) ss M)
    (hm : lastMarks [.LtE, .LtE] [b, c] = false := by with_unfolding_all rfl) : WT X B ex (.Compare a [.LtE, .LtE] [b, c] pos) QB ss M := wt_chain op_le op_le h hm
theorem wt_lelt (h : WE X B ex a (fun x M1 => WE X B ex b (fun y M2 => ∃ i j, x = .dat (.int i) ∧ y = .dat (.int j) ∧ if decide (i ≤ j) = true then WE X B ex c (fun z M3 => ∃ n, z = .dat (.int n) ∧ QB (decide (j < n)) M3) ss M2 else QB false M2) ss M1) ss M)
    (hm : lastMarks [.LtE, .Lt] [b, c] = false := by with_unfolding_all rfl) : WT X B ex (.Compare a [.LtE, .Lt] [b, c] pos) QB ss M := wt_chain op_le op_lt h hm
theorem wt_ltle (h : WE X B ex a (fun x M1 => WE X B ex b (fun y M2 => ∃ i j, x = .dat (.int i) ∧ y = .dat (.int j) ∧ if decide (i < j) = true then WE X B ex c (fun z M3 => ∃ n, z = .dat (.int n) ∧ QB (decide (j ≤ n)) M3) ss M2 else QB false M2) ss M1) ss M)
    (hm : lastMarks [.Lt, .LtE] [b, c] = false := by with_unfolding_all rfl) : WT X B ex (.Compare a [.Lt, .LtE] [b, c] pos) QB ss M := wt_chain op_lt op_le h hm
theorem wt_ltlt (h : WE X B ex a (fun x M1 => WE X B ex b (fun y M2 => ∃ i j, x = .dat (.int i) ∧ y = .dat (.int j) ∧ if decide (i < j) = true then WE X B ex c (fun z M3 => ∃ n, z = .dat (.int n) ∧ QB (decide (j < n)) M3) ss M2 else QB false M2) ss M1) ss M)
    (hm : lastMarks [.Lt, .Lt] [b, c] = false := by with_unfolding_all rfl) : WT X B ex (.Compare a [.Lt, .Lt] [b, c] pos) QB ss M := wt_chain op_lt op_lt h hm
theorem we_sub1 (h : WE X B ex a (fun x M1 => WE X B ex b (fun y M2 => ∃ i j, x = .dat (.int i) ∧ y = .dat (.int j) ∧ Q (.dat (.int (i - j))) M2) ss M1) ss M) : WE X B ex (.BinOp a .Sub b pos) Q ss M :=
  we_sub (h.mono fun x M1 h1 => h1.mono fun y M2 ⟨i, j, e1, e2, q⟩ => by subst e1; subst e2; exact w1d (w1d q))
theorem we_fdiv1 (h : WE X B ex a (fun x M1 => WE X B ex b (fun y M2 => ∃ i j, x = .dat (.int i) ∧ y = .dat (.int j) ∧ (0 < j ∧ j < 1073741824) ∧ Q (.dat (.int (i / j))) M2) ss M1) ss M) : WE X B ex (.BinOp a .FloorDiv b pos) Q ss M :=
  we_fdiv (h.mono fun x M1 h1 => h1.mono fun y M2 ⟨i, j, e1, e2, q⟩ => by subst e1; subst e2; exact w1d (w1d q))
theorem we_mod1 (h : WE X B ex a (fun x M1 => WE X B ex b (fun y M2 => ∃ i j, x = .dat (.int i) ∧ y = .dat (.int j) ∧ (0 < j) ∧ Q (.dat (.int (i % j))) M2) ss M1) ss M) : WE X B ex (.BinOp a .Mod b pos) Q ss M :=
  we_mod (h.mono fun x M1 h1 => h1.mono fun y M2 ⟨i, j, e1, e2, q⟩ => by subst e1; subst e2; exact w1d (w1d q))
theorem we_pow1 (h : WE X B ex a (fun x M1 => WE X B ex b (fun y M2 => ∃ i j, x = .dat (.int i) ∧ y = .dat (.int j) ∧ (0 ≤ j ∧ j ≤ 1000000 ∧ i.natAbs < 2 ^ 64) ∧ Q (.dat (.int (i ^ j.toNat))) M2) ss M1) ss M) : WE X B ex (.BinOp a .Pow b pos) Q ss M :=
  we_pow (h.mono fun x M1 h1 => h1.mono fun y M2 ⟨i, j, e1, e2, q⟩ => by subst e1; subst e2; exact w1d (w1d q))
theorem we_mul1 (h : WE X B ex a (fun x M1 => WE X B ex b (fun y M2 => ∃ i j, x = .dat (.int i) ∧ y = .dat (.int j) ∧ ((-(2 ^ 64) < i ∧ i < 2 ^ 64) ∨ (-(2 ^ 64) < j ∧ j < 2 ^ 64)) ∧ Q (.dat (.int (i * j))) M2) ss M1) ss M) : WE X B ex (.BinOp a .Mult b pos) Q ss M :=
  we_mul (h.mono fun x M1 h1 => h1.mono fun y M2 ⟨i, j, e1, e2, q⟩ => by subst e1; subst e2; exact w1d (w1d ⟨q⟩))
end
section
variable {X : Cx} {B : Base} {ex : XD} {ss : Sst} {M : Mem} {a b c : Expr} {es : List Expr} {pos : Pos} {Q : SV → Mem → Prop} {QB : Bool → Mem → Prop} {N : Nd} {st : Stmt} {sts : List Stmt}
theorem a1 {k : Mem → D → (SV → Mem → Prop) → Prop} {x : SV} (h : with1 M x fun d => k M d Q) : arg1 k M [x] Q := ⟨h⟩
theorem gF (x : Str) {p : Pos} {kw : List Keyword} (h : WE X B ex (.Call (.Name x p) es kw pos) Q ss M) : WE X B ex (.Call (.Name x p) es kw pos) Q ss M := h
theorem gX (x : Str) {p : Pos} {kw : List Keyword} (h : WE X B ex (.Call (.Attribute a x p) es kw pos) Q ss M) : WE X B ex (.Call (.Attribute a x p) es kw pos) Q ss M := h
theorem cq {n : Nat} {S : SpD} {xs : List SV} (h0 : (xs.all (SV.lt n) && (M.take n).all (Cell.lt n) && decide (n ≤ M.length)) = true) (h : S xs (M.take n) (fun x M' => Q (x.sh n M.length) (M'.take n ++ M.drop n ++ M'.drop n)) (fun C fs M' => ex C fs ss (M'.take n ++ M.drop n ++ M'.drop n))) : CallQ n S xs M Q ex ss := ⟨⟨h0, h⟩⟩
theorem mq {S : SpD} {C : Addr} {xs : List SV} (h0 : (xs.all (SV.lt 0) && M.all (Cell.lt M.length)) = true) (h : S (.cel 0 :: xs) [.ins C []] (fun y M' => y = .dat .non ∧ ∃ fs ds, M'[0]? = some (.ins C fs) ∧ fdats fs = some ds ∧ Q (.dat (.ins C ds)) M) (fun D fs _ => ex D fs ss M)) : MakeQ S C xs M Q ex ss := ⟨⟨h0, h⟩⟩
theorem wo_none {Q : Option Int → Mem → Prop} (q : Q none M) : WO X B ex none Q ss M := ⟨q⟩
theorem wo_some {Q : Option Int → Mem → Prop} (h : WE X B ex a (fun x M1 => ∃ i, x = .dat (.int i) ∧ Q (some i) M1) ss M) : WO X B ex (some a) Q ss M := ⟨h⟩
theorem gB (h : WB X B ex sts N ss M) : WB X B ex sts N ss M := h
theorem gS (h : WS X B ex st N ss M) : WS X B ex st N ss M := h
theorem gE (h : WE X B ex a Q ss M) : WE X B ex a Q ss M := h
theorem gT (h : WT X B ex a QB ss M) : WT X B ex a QB ss M := h
theorem gW (h : WW X B ex a QB ss M) : WW X B ex a QB ss M := h
theorem gA {Q : List SV → Mem → Prop} (h : WA X B ex es Q ss M) : WA X B ex es Q ss M := h
theorem gN {x : Str} (h : WE X B ex (.Name x pos) Q ss M) : WE X B ex (.Name x pos) Q ss M := h
theorem gC {x : Const} {j : Nat} (h : WE X B ex (.Constant x j pos) Q ss M) : WE X B ex (.Constant x j pos) Q ss M := h
theorem gO {op : Operator} (h : WE X B ex (.BinOp a op b pos) Q ss M) : WE X B ex (.BinOp a op b pos) Q ss M := h
theorem gI (h : WE X B ex (.Subscript a b pos) Q ss M) : WE X B ex (.Subscript a b pos) Q ss M := h
theorem gL {kw : List Keyword} (h : WE X B ex (.Call a es kw pos) Q ss M) : WE X B ex (.Call a es kw pos) Q ss M := h
theorem gM {ops : List CmpOp} (h : WE X B ex (.Compare a ops es pos) Q ss M) : WE X B ex (.Compare a ops es pos) Q ss M := h
theorem gR {x : Expr} (h : WS X B ex (.Assign [x] a pos) N ss M) : WS X B ex (.Assign [x] a pos) N ss M := h
end
instance {x : Str} : Decidable (SOk x) := inferInstanceAs (Decidable (_ ∧ _))
/-! ### what the top holds -/
def FnRaw (K : PySem.W.Frag) (x qual : Str) (st : Stmt) (f : Addr) : Prop := ∃ fd : FuncData, Fun K x qual st f fd
def ConS (K : PySem.W.Frag) (x y : Str) : Prop := ∃ t, PySem.W.nsIn K mainGlobals x = some (some (.str y t))
def ConI (K : PySem.W.Frag) (x : Str) (i : Int) : Prop := ∃ t, PySem.W.nsIn K mainGlobals x = some (some (.int i t))
section
variable {K : PySem.W.Frag} {h : Heap} {mg : Str → Option Value}
theorem conS_of {x y : Str} (X : K.In h) (G : h.Ns mainGlobals mg) (c : ConS K x y) : ∃ t, mg x = some (.str y t) := by
  obtain ⟨t, e⟩ := c
  exact ⟨t, PySem.W.mg_of X G e⟩
theorem conI_of {x : Str} {i : Int} (X : K.In h) (G : h.Ns mainGlobals mg) (c : ConI K x i) : ∃ t, mg x = some (.int i t) := by
  obtain ⟨t, e⟩ := c
  exact ⟨t, PySem.W.mg_of X G e⟩
theorem fnraw {x qual : Str} {st : Stmt} {f : Addr} {oc : Value} {od an : Option Addr} {osl : Array (Option Value)} {kV doc pm cdv ct : Value} (l : K.lookup f = some ⟨oc, od, .func (PySem.W.fnOf x qual (defArgs st) (defBody st) (defScope st) .none kV doc pm an cdv ct), osl⟩)
    (c : PySem.W.codeIn K cdv qual = true) (k : PySem.W.keepIn K (.ref f) = true) : FnRaw K x qual st f := ⟨_, fun_mk l c k⟩
theorem oexc {C : Addr} {nm q : Str} {N : Addr} {bs bm : List Value} {sn : List Str} {sub : List Value} {ab : Bool} {col : Option Bool} {dd : Option Addr} {m0 m1 m2 m3 m5 : Option Value}
    (xL : K.lookup C = some (excClassObj nm q C N bs bm true sn sub ab col dd m0 m1 m2 m3 m5 "ValueError.__new__")) (xr : PySem.HandSPX.refsVE bm = true)
    (sa : PySem.W.findIn K (.ref C) "__setattr__" = some (some (.builtin "object.__setattr__"))) (eC : PySem.W.subIn K (.ref C) (.type "BaseException") = some true) (tC : PySem.W.typeIn K (.ref C) = some (.type "type")) (kC : PySem.W.keepIn K (.ref C) = true) : OexC K C :=
  ⟨⟨nm, q, N, bs, bm, sn, sub, ab, col, dd, m0, m1, m2, m3, m5, xL, xr⟩, sa, eC, tC, kC⟩
end
/-! ### the errors' __init__ -/
section
variable {P : Program} {w : World} {K : PySem.W.Frag} {mg : Str → Option Value} {base : Heap}
end
end Mb

/-! Mb, part 14: the draw that all laws share, plain. -/
namespace Mb
open PySem L2 PyProof.Rows
def dC (st : Int × Int × Int) : Cell := .lst [.int st.1, .int st.2.1, .int st.2.2]
structure DOk (st : Int × Int × Int) : Prop where
  a : 0 ≤ st.1
  b : 0 ≤ st.2.1 ∧ st.2.1 < 2147483647
  c : 0 ≤ st.2.2 ∧ st.2.2 < 2147483647
/-- a state of the draw from any whole number -/
def sp_state : SpD := fun xs M R _ => ∃ n : Int, xs = [.dat (.int n)] ∧ M = [] ∧ ∀ st, DOk st → R (.cel 0) [dC st]
/-- a draw below b: some number below b, the state is changed -/
def sp_digit : SpD := fun xs M R _ => ∃ st b, xs = [.cel 0, .dat (.int b)] ∧ M = [dC st] ∧ DOk st ∧ (0 < b ∧ b < 1073741824) ∧ ∀ st' n, DOk st' → 0 ≤ n → n < b → R (.dat (.int n)) [dC st']
theorem atI_lt {α : Type} {l : List α} {n : Int} (h0 : 0 ≤ n) (h1 : n < l.length) : ∃ c, atI l n = some c := by
  obtain ⟨m, rfl⟩ := Int.eq_ofNat_of_zero_le h0
  have hm : m < l.length := by omega
  exact ⟨l[m], atI_nat (List.getElem?_eq_getElem hm)⟩
theorem atI_mem {α : Type} {l : List α} {n : Int} {c : α} (h : atI l n = some c) : c ∈ l := by
  obtain ⟨j, _, h2, _⟩ := atI_get h
  exact List.mem_of_getElem? h2
theorem size_ge {n : Nat} (h : n ≤ 1000000) : n ≤ sizeLine := Nat.le_trans h (by decide)
theorem ix_str {z : Str} {n : Int} {k : D → Prop} (h0 : 0 ≤ n) (h1 : n < z.cps.size) (h : ∀ c, c ∈ z.cps.toList → k (.str ⟨#[c]⟩)) : ixD (.str z) (.int n) k := by
  obtain ⟨c, e⟩ := atI_lt (l := z.cps.toList) h0 (by simpa using h1)
  exact ixS e (h c (atI_mem e))
theorem ix_lst {ds : List D} {n : Int} {k : D → Prop} (h0 : 0 ≤ n) (h1 : n < ds.length) (h : ∀ d, d ∈ ds → k d) : ixD (.lst ds) (.int n) k := by
  obtain ⟨c, e⟩ := atI_lt (l := ds) h0 h1
  exact ixL e (h c (atI_mem e))
theorem ix_tup {ds : List D} {n : Int} {k : D → Prop} (h0 : 0 ≤ n) (h1 : n < ds.length) (h : ∀ d, d ∈ ds → k d) : ixD (.tup ds) (.int n) k := by
  obtain ⟨c, e⟩ := atI_lt (l := ds) h0 h1
  exact ixT e (h c (atI_mem e))
theorem rangeD_get {lo : Int} {n i : Nat} {d : D} (h : (rangeD lo n)[i]? = some d) : i < n ∧ d = .int (lo + i) := by
  unfold rangeD at h
  rw [List.getElem?_map] at h
  cases e : (List.range n)[i]? with
  | none => rw [e] at h; cases h
  | some j =>
    rw [e] at h
    obtain ⟨h1, h2⟩ := List.getElem?_eq_some_iff.mp e
    simp at h1 h2
    subst h2
    exact ⟨h1, (Option.some.inj h).symm⟩
theorem rangeD_len {lo : Int} {n : Nat} : (rangeD lo n).length = n := by unfold rangeD; simp
/-- a text of n signs at most -/
def sp_plain : SpD := fun xs M R _ => ∃ st n, xs = [.cel 0, .dat (.int n)] ∧ M = [dC st] ∧ DOk st ∧ (0 ≤ n ∧ n ≤ 100) ∧ ∀ st' z, DOk st' → z.length ≤ 100 → R (.dat (.str z)) [dC st']
/-- any text, drawn -/
def sp_text : SpD := fun xs M R _ => ∃ st, xs = [.cel 0] ∧ M = [dC st] ∧ DOk st ∧ ∀ st' z, DOk st' → z.length ≤ 300 → R (.dat (.str z)) [dC st']
end Mb

/-! Mb, part 15: what can be called, bundled. -/
namespace Mb
open PySem L2 PyProof.Rows
section
variable (P : Program) (w : World) (K : PySem.W.Frag) (mg : Str → Option Value) (base : Heap)
/-- the module's def x keeps S (n cells handed in, k levels) -/
def Cal (x : Str) (k n : Nat) (S : SpD) : Prop := ∃ f fd ps, FnOk P w K mg base (L2.CX P w) k f fd ps (spOf K n S) ∧ mg x = some (.ref f) ∧ PySem.W.keepIn K (.ref f) = true ∧ Binds K fd ps []
/-- the method m of the class C -/
def Mtd (C : Addr) (m : Str) (k n : Nat) (S : SpD) : Prop := ∃ f fd ps, Cls K C ∧ Meth K C m f ∧ FnOk P w K mg base (L2.CX P w) k f fd ps (spOf K n S) ∧ Binds K fd ps []
/-- C(..) -/
def Mkr (x : Str) (C : Addr) (k : Nat) (S : SpD) : Prop := ∃ f fd ps, Mk K C f ∧ FnOk P w K mg base (L2.CX P w) k f fd ps (spOf K 1 S) ∧ mg x = some (.ref C) ∧ Binds K fd ps []
/-- D.m(self, ..) -/
def Clm (x : Str) (m : Str) (k n : Nat) (S : SpD) : Prop := ∃ C f fd ps mc, mg x = some (.ref C) ∧ ClX.CRead K C mc ∧ ClX.CVal K C mc m (.ref f) (.ref f) ∧ PySem.W.keepIn K (.ref f) = true ∧ FnOk P w K mg base (L2.CX P w) k f fd ps (spOf K n S) ∧ Binds K fd ps []
/-- raise x(v): its one field f -/
def Rai (x : Str) (C : Addr) (f : Str) : Prop := ∃ fI fd y, ErrC K mg x C fI ∧ PySem.W.findIn K (.ref C) f = some none ∧ FnOk P w K mg base CX0 1 fI fd ["self", y] (spX1 K f) ∧ Binds K fd ["self", y] []
def Rai2 (x : Str) (C : Addr) (f g : Str) : Prop := ∃ fI fd y z, ErrC K mg x C fI ∧ (PySem.W.findIn K (.ref C) f = some none ∧ PySem.W.findIn K (.ref C) g = some none) ∧ FnOk P w K mg base CX0 1 fI fd ["self", y, z] (spX2 K f g) ∧ Binds K fd ["self", y, z] []
end
section
variable {X : Cx} {B : Base} {ex : XD} {ss : Sst} {M : Mem} {a b e o : Expr} {es : List Expr} {pos p p2 apos : Pos} {Q : SV → Mem → Prop} {N : Nd} {x : Str} {k n : Nat} {S : SpD} {C : Addr} {m : Str}
theorem we_own (F : Cal X.prog X.w X.K X.mg X.base x k n S) (hr : Room k X.A) (hg : Gl X x) (h : WA X B ex (e :: es) (fun xs M1 => CallQ n S xs M1 Q ex ss) ss M)
    (hdb : (x == ("__debug__" : Str)) = false := by decide) (he : starEach (e :: es) X.env = (false, eval e X.env) :: starEach es X.env := by rfl) (hpl : (backTo pos (starEach es X.env)).any (·.1) = false := by rfl) : WE X B ex (.Call (.Name x p) (e :: es) [] pos) Q ss M := by
  obtain ⟨f, fd, ps, F, hm, hk, hb⟩ := F
  refine we_call (dvs := []) (dxs := []) (ds := []) F hr hm hk hb .nil (fun _ _ => .nil) hg ?_ hdb he hpl
  refine .mk fun ck G A H σ w sl Kq kq => ?_
  exact h ck G A H σ w sl Kq fun vs xs G' A' M' H' e1 w' s q => kq vs xs G' A' M' H' e1 w' s (by show CallQ n S (xs ++ []) M' Q ex ss; rw [List.append_nil]; exact q)
theorem we_mtd {pl : Sem Bool} (F : Mtd X.prog X.w X.K X.mg X.base C m k n S) (hr : Room k X.A)
    (h : WE X B ex o (fun x M1 => insS M1 x C m ∧ WA X B ex (e :: es) (fun xs M2 => CallQ n S (x :: xs) M2 Q ex ss) ss M1) ss M)
    (hst : starEach (e :: es) X.env = (false, eval e X.env) :: starEach es X.env := by rfl) (hpl : (backTo pos (starEach es X.env)).any (·.1) = false := by rfl)
    (ht : eval (.Call (.Attribute o m apos) (e :: es) [] pos) X.env = (do
      let ov ← eval o X.env
      standAt apos.atName
      let (f, first) ← holding [ov] (getMethod ov m pl)
      callWith pos f first (backTo pos (starEach (e :: es) X.env)) (backToKw pos (keywordEach [] X.env))) := by rfl) :
    WE X B ex (.Call (.Attribute o m apos) (e :: es) [] pos) Q ss M := by
  obtain ⟨f, fd, ps, cl, hm, F, hb⟩ := F
  exact we_meth cl hm F hr hb h hst hpl ht
theorem we_mtd0 {pl : Sem Bool} (F : Mtd X.prog X.w X.K X.mg X.base C m k n S) (hr : Room k X.A)
    (h : WE X B ex o (fun x M1 => insS M1 x C m ∧ CallQ n S [x] M1 Q ex ss) ss M)
    (ht : eval (.Call (.Attribute o m apos) [] [] pos) X.env = (do
      let ov ← eval o X.env
      standAt apos.atName
      let (f, first) ← holding [ov] (getMethod ov m pl)
      callWith pos f first (backTo pos (starEach [] X.env)) (backToKw pos (keywordEach [] X.env))) := by rfl) :
    WE X B ex (.Call (.Attribute o m apos) [] [] pos) Q ss M := by
  obtain ⟨f, fd, ps, cl, hm, F, hb⟩ := F
  exact we_meth0 cl hm F hr hb h ht
theorem we_mkr (F : Mkr X.prog X.w X.K X.mg X.base x C k S) (hr : Room (k + 1) X.A) (hg : Gl X x) (h : WA X B ex (e :: es) (fun xs M1 => MakeQ S C xs M1 Q ex ss) ss M)
    (hdb : (x == ("__debug__" : Str)) = false := by decide) (he : starEach (e :: es) X.env = (false, eval e X.env) :: starEach es X.env := by rfl) (hpl : (backTo pos (starEach es X.env)).any (·.1) = false := by rfl) : WE X B ex (.Call (.Name x p) (e :: es) [] pos) Q ss M := by
  obtain ⟨f, fd, ps, Mk0, F, hm, hb⟩ := F
  refine we_make (dvs := []) (dxs := []) (ds := []) Mk0 F hr hm hb .nil (fun _ _ => .nil) hg ?_ hdb he hpl
  refine .mk fun ck G A H σ w sl Kq kq => ?_
  exact h ck G A H σ w sl Kq fun vs xs G' A' M' H' e1 w' s q => kq vs xs G' A' M' H' e1 w' s (by show MakeQ S C (xs ++ []) M' Q ex ss; rw [List.append_nil]; exact q)
theorem we_clm {pl : Sem Bool} (F : Clm X.prog X.w X.K X.mg X.base x m k n S) (hr : Room k X.A) (hg : Gl X x) (h : WA X B ex (e :: es) (fun xs M1 => CallQ n S xs M1 Q ex ss) ss M)
    (hdb : (x == ("__debug__" : Str)) = false := by decide) (hst : starEach (e :: es) X.env = (false, eval e X.env) :: starEach es X.env := by rfl) (hpl : (backTo pos (starEach es X.env)).any (·.1) = false := by rfl)
    (ht : eval (.Call (.Attribute (.Name x p) m apos) (e :: es) [] pos) X.env = (do
      let ov ← eval (.Name x p) X.env
      standAt apos.atName
      let (f, first) ← holding [ov] (getMethod ov m pl)
      callWith pos f first (backTo pos (starEach (e :: es) X.env)) (backToKw pos (keywordEach [] X.env))) := by rfl) :
    WE X B ex (.Call (.Attribute (.Name x p) m apos) (e :: es) [] pos) Q ss M := by
  obtain ⟨C, f, fd, ps, mc, hm, cr, cv, hk, F, hb⟩ := F
  exact we_cls hm hg cr cv hk F hr hb h hdb hst hpl ht
theorem ws_rai {f : Str} (F : Rai X.prog X.w X.K X.mg X.base x C f) (hr : Room 2 X.A) (hc : X.calm = true) (hg : Gl X x) (h : WA X B ex [e] (fun xs M1 => one1 xs fun d => ex C [(f, d)] ss M1) ss M)
    (hdb : (x == ("__debug__" : Str)) = false := by decide) (he : starEach [e] X.env = (false, eval e X.env) :: starEach [] X.env := by rfl) (hpl : (backTo pos (starEach [] X.env)).any (·.1) = false := by rfl) :
    WS X B ex (.Raise (some (.Call (.Name x p) [e] [] pos)) none p2) N ss M := by
  obtain ⟨fI, fd, y, T, hno, F, hb⟩ := F
  exact ws_raise1 hc T hno F hr hb hg h hdb he hpl
theorem ws_rai2 {f g : Str} (F : Rai2 X.prog X.w X.K X.mg X.base x C f g) (hr : Room 2 X.A) (hc : X.calm = true) (hg : Gl X x) (h : WA X B ex [a, b] (fun xs M1 => ∃ d1 d2, xs = [.dat d1, .dat d2] ∧ ex C [(g, d2), (f, d1)] ss M1) ss M)
    (hdb : (x == ("__debug__" : Str)) = false := by decide) (he : starEach [a, b] X.env = (false, eval a X.env) :: starEach [b] X.env := by rfl) (hpl : (backTo pos (starEach [b] X.env)).any (·.1) = false := by rfl) :
    WS X B ex (.Raise (some (.Call (.Name x p) [a, b] [] pos)) none p2) N ss M := by
  obtain ⟨fI, fd, y, z, T, hno, F, hb⟩ := F
  exact ws_raise2 hc T hno F hr hb hg h hdb he hpl
end
section
variable {X : Cx} {B : Base} {ex : XD} {ss : Sst} {M : Mem} {a b e elt : Expr} {es : List Expr} {pos : Pos} {Q : SV → Mem → Prop} {QB : Bool → Mem → Prop} {scope : Scope}
theorem we_gI {x : Str} {i : Int} (hm : ∃ t, X.mg x = some (.int i t)) (hg : Gl X x) (q : Q (.dat (.int i)) M) (hd : (x == ("__debug__" : Str)) = false := by decide) : WE X B ex (.Name x pos) Q ss M := by
  obtain ⟨t, hm⟩ := hm
  exact we_globI hg hm q hd
theorem we_gS {x y : Str} (hm : ∃ t, X.mg x = some (.str y t)) (hg : Gl X x) (hz : SOk y) (q : Q (.dat (.str y)) M) (hd : (x == ("__debug__" : Str)) = false := by decide) : WE X B ex (.Name x pos) Q ss M := by
  obtain ⟨t, hm⟩ := hm
  exact we_globS hg hm hz q hd
theorem gTc {kw : List Keyword} (h : WT X B ex (.Call a es kw pos) QB ss M) : WT X B ex (.Call a es kw pos) QB ss M := h
theorem on1 {d : D} {k : D → Prop} (h : k d) : one1 [.dat d] k := ⟨h⟩
theorem dinS {z : Str} {kvs : List (Key × D)} {k : Bool → Prop} (h : k (valD kvs (Sum.inr z)).isSome) : dinD (.str z) (.dic kvs) k := ⟨h⟩
theorem dinI {z : Int} {kvs : List (Key × D)} {k : Bool → Prop} (h : k (valD kvs (Sum.inl z)).isSome) : dinD (.int z) (.dic kvs) k := ⟨h⟩
theorem cdc {i : Nat} {ds : List (Key × D)} {k : Nat → List (Key × D) → Prop} (e : M[i]? = some (.dic ds)) (h : k i ds) : cellDc M (.cel i) k := by
  refine ⟨?_⟩
  unfold cellDc0
  simp only [e]
  exact h
theorem cl1 {i : Nat} {ds : List D} {k : Nat → List D → Prop} (e : M[i]? = some (.lst ds)) (h : k i ds) : cellL M (.cel i) k := by
  refine ⟨?_⟩
  unfold cellL0
  simp only [e]
  exact h
theorem gNa (x : Str) (h : WE X B ex (.Name x pos) Q ss M) : WE X B ex (.Name x pos) Q ss M := h
theorem inSs {c : Nat} {z : Str} (h : QB (decide (c ∈ z.cps.toList)) M) : in2t false M (.dat (.str ⟨#[c]⟩)) (.dat (.str z)) QB := ⟨w1d (w1d (inD_sign (k := fun b => QB (if false = true then !b else b) M) h))⟩
theorem niSs {c : Nat} {z : Str} (h : QB (!decide (c ∈ z.cps.toList)) M) : in2t true M (.dat (.str ⟨#[c]⟩)) (.dat (.str z)) QB := ⟨w1d (w1d (inD_sign (k := fun b => QB (if true = true then !b else b) M) h))⟩
theorem inSe {c : Nat} {z : Str} (h : Q (.dat (.bl (decide (c ∈ z.cps.toList)))) M) : in2 false M (.dat (.str ⟨#[c]⟩)) (.dat (.str z)) Q := ⟨w1d (w1d (inD_sign (k := fun b => Q (.dat (.bl (if false = true then !b else b))) M) h))⟩
theorem niSe {c : Nat} {z : Str} (h : Q (.dat (.bl (!decide (c ∈ z.cps.toList)))) M) : in2 true M (.dat (.str ⟨#[c]⟩)) (.dat (.str z)) Q := ⟨w1d (w1d (inD_sign (k := fun b => Q (.dat (.bl (if true = true then !b else b))) M) h))⟩
theorem inTp {d : D} {ds : List D} (h1 : D.pl 0 d = true) (h2 : ds.all (D.pl 0) = true) (h : QB (ds.any fun z => deq z d) M) : in2t false M (.dat d) (.dat (.tup ds)) QB := by
  refine ⟨w1d (w1d ⟨?_⟩)⟩
  unfold inD0
  cases d <;> first | exact ⟨⟨h1, h2⟩, h⟩ | cases h1
theorem inLs {d : D} {ds : List D} (h1 : D.pl 60 d = true) (h2 : ds.all (D.pl 60) = true) (h : QB (ds.any fun z => deq z d) M) : in2t false M (.dat d) (.dat (.lst ds)) QB := by
  refine ⟨w1d (w1d ⟨?_⟩)⟩
  unfold inD0
  cases d <;> first | exact ⟨⟨h1, h2⟩, h⟩ | cases h1
theorem map_take_succ {α β : Type} (f : α → β) : ∀ {l : List α} {i : Nat} {d : α}, l[i]? = some d → (l.take i).map f ++ [f d] = (l.take (i + 1)).map f
  | [], _, _, h => by simp at h
  | x :: l, 0, d, h => by simp at h; subst h; simp
  | x :: l, i + 1, d, h => by
    have := map_take_succ f (l := l) (i := i) (d := d) (by simpa using h)
    simp only [List.take_succ_cons, List.map_cons, List.cons_append, this]
/-- a comprehension that maps -/
theorem lcq_map {j : Nat} {ds : List D} (f : D → D) (hl : ds.length ≤ sizeLine)
    (ht : ∀ (i : Nat) (d : D), ds[i]? = some d → ∀ (s : Shared) (H : Hp) (C : Addr) (cl : List (Str × Addr)) (fp : List Addr) (B : Base), B.A.length = M.length → WE (Blk X scope s H C cl fp) B exF elt (fun y M4 => y = .dat (f d) ∧ M4 = M) ((wipeD ss [j]).set j (some (.dat d))) M)
    (q : Q (.dat (.lst (ds.map f))) M) : ∃ I, I 0 [] M ∧ LcQ X scope elt [] (tg1 j) [j] ds I Q ss := by
  refine ⟨fun i acc M' => i ≤ ds.length ∧ acc = (ds.take i).map f ∧ M' = M, ⟨Nat.zero_le _, rfl, rfl⟩, ?_, ?_⟩
  · rintro i d acc M' hd ⟨hi, rfl, rfl⟩
    intro s H C cl fp B hB
    have hlt := (List.getElem?_eq_some_iff.mp hd).1
    refine (ht i d hd s H C cl fp B hB).mono ?_
    rintro y M4 ⟨rfl, rfl⟩
    refine ⟨_, rfl, ?_, hlt, map_take_succ f hd, rfl⟩
    rw [List.length_map, List.length_take]
    omega
  · rintro acc M' ⟨_, rfl, rfl⟩
    rw [List.take_length]
    exact q
theorem lcq_map2 {j j' : Nat} {ds : List D} (f : D → D) (hl : ds.length ≤ sizeLine)
    (ht : ∀ (i : Nat) (d : D), ds[i]? = some d → ∃ a b, d = .tup [a, b] ∧ ∀ (s : Shared) (H : Hp) (C : Addr) (cl : List (Str × Addr)) (fp : List Addr) (B : Base), B.A.length = M.length → WE (Blk X scope s H C cl fp) B exF elt (fun y M4 => y = .dat (f d) ∧ M4 = M) (((wipeD ss [j, j']).set j (some (.dat a))).set j' (some (.dat b))) M)
    (q : Q (.dat (.lst (ds.map f))) M) : ∃ I, I 0 [] M ∧ LcQ X scope elt [] (tg2 j j') [j, j'] ds I Q ss := by
  refine ⟨fun i acc M' => i ≤ ds.length ∧ acc = (ds.take i).map f ∧ M' = M, ⟨Nat.zero_le _, rfl, rfl⟩, ?_, ?_⟩
  · rintro i d acc M' hd ⟨hi, rfl, rfl⟩
    have hlt := (List.getElem?_eq_some_iff.mp hd).1
    obtain ⟨a, b, e, ht⟩ := ht i d hd
    refine ⟨a, b, e, ?_⟩
    intro s H C cl fp B hB
    refine (ht s H C cl fp B hB).mono ?_
    rintro y M4 ⟨rfl, rfl⟩
    refine ⟨_, rfl, ?_, hlt, map_take_succ f hd, rfl⟩
    rw [List.length_map, List.length_take]
    omega
  · rintro acc M' ⟨_, rfl, rfl⟩
    rw [List.take_length]
    exact q
end
end Mb

/-! Mb, part 16: the script that a law is handed. -/
namespace Mb
open PySem L2 PyProof.Rows
/-- the script: a list of ours to read, or one that the top holds -/
def Scr (K : PySem.W.Frag) (x : SV) (ns : List Int) : Prop := x = .dat (.lst (ns.map D.int)) ∨ ∃ a, x = .raw (.ref a) ∧ ∀ H : Hp, SqL K H a (ns.map V.int)
theorem Scr.sq {K : PySem.W.Frag} {x : SV} {ns : List Int} {G H : Hp} {A : List Addr} {v : V} (h : Scr K x ns) (s : SvOk K G A v x) (e : Same G H) : ∃ a, v = .ref a ∧ SqL K H a (ns.map V.int) := by
  rcases h with rfl | ⟨a, rfl, h⟩
  · obtain ⟨a, vs, rfl, hr, r⟩ := Rep.s e (show Rep K G v (.lst (ns.map D.int)) from s)
    rw [reps_ints r] at hr
    exact ⟨a, rfl, .inl hr⟩
  · exact ⟨a, s, h H⟩
section
variable {X : Cx} {B : Base} {ex : XD} {ss : Sst} {M : Mem} {a b e : Expr} {es : List Expr} {pos p p2 : Pos} {Q : SV → Mem → Prop}
def rCatQ (K : PySem.W.Frag) : R2 := fun x y H Q => ∃ l b xs zs, x = .ref l ∧ y = .ref b ∧ SqL K H l xs ∧ Rd H b (.lst zs) ∧ xs.length + zs.length ≤ sizeLine ∧ ∀ p, H p = none → Q (.ref p) (upd H p (.lst (xs ++ zs)))
theorem op_catQ : OpR X (binaryOp .Add) (rCatQ X.K) := by
  intro pins s σ H x y v u Q I rx ry h
  obtain ⟨l, b, xs, zs, rfl, rfl, hL, hB, hz, q⟩ := h
  cases rx
  cases ry
  obtain ⟨its, r1, ⟨⟨c1, d1, dt1, sl1⟩, n1, g1, hc1, hd1, hs1⟩, _⟩ := I.list hL
  obtain ⟨_, its2, n2, r2, e2⟩ := hB.ok I.hok
  simp only at hc1 hd1 hs1
  subst hc1
  subst hd1
  subst hs1
  have k1 := r1.length
  have k2 := r2.length
  refine concat_meets (T := "list") (id := "list.__add__") ⟨_, g1, rfl⟩ ⟨_, e2, rfl⟩ noFill_list_add
    seq_list_add PySem.F.slot_list_add PySem.F.entry_list_add (PySem.F.args_list_add_2 _ _)
    (list_addW l b its.toArray its2.toArray n1 n2 none none sl1 _ (by rw [List.size_toArray, List.size_toArray]; omega)) ⟨g1, e2, ?_⟩
  have ea : its.toArray ++ its2.toArray = (its ++ its2).toArray := by simp
  rw [ea]
  exact ⟨.ref _, _, I.lnew (t' := s.toks) (r1.append r2) (by rw [List.length_append]; omega), rfl, q _ I.fresh⟩
theorem ints_app {K : PySem.W.Frag} {G : Hp} {ns : List Int} {vs : List V} {ds : List D} (r : Reps K G vs ds) : Reps K G (ns.map V.int ++ vs) (ns.map D.int ++ ds) := ints_reps.append r
/-- script + [..] -/
theorem we_sadd (h : WE X B ex a (fun x M1 => WE X B ex b (fun y M2 => ∃ ns ds, Scr X.K x ns ∧ y = .dat (.lst ds) ∧ ns.length + ds.length ≤ sizeLine ∧ Q (.dat (.lst (ns.map D.int ++ ds))) M2) ss M1) ss M) : WE X B ex (.BinOp a .Add b pos) Q ss M := by
  refine we_op2 (f := fun M2 x y Q => ∃ ns ds, Scr X.K x ns ∧ y = .dat (.lst ds) ∧ ns.length + ds.length ≤ sizeLine ∧ Q (.dat (.lst (ns.map D.int ++ ds))) M2) op_catQ (fun G A H M x y u v Q Kq w sx sy hh k => ?_) h
  obtain ⟨ns, ds, hs, rfl, hl, q⟩ := hh
  obtain ⟨l, rfl, sq⟩ := hs.sq sx w.gh
  obtain ⟨c, vs, rfl, hr, r⟩ := Rep.s w.gh (show Rep X.K G v (.lst ds) from sy)
  refine ⟨_, _, _, vs, rfl, rfl, sq, hr, by rw [List.length_map, r.length]; exact hl, k.new .refl w q fun p hp => ?_⟩
  exact .lst (.inl upd_same) ((ints_app r).mono (same_upd (w.none hp).2.2))
/-- script[i] -/
theorem we_six (h : WE X B ex a (fun x M1 => WE X B ex b (fun y M2 => ∃ ns i n, Scr X.K x ns ∧ y = .dat (.int i) ∧ atI ns i = some n ∧ Q (.dat (.int n)) M2) ss M1) ss M) (hs : PlainIx b := by intro _ _; rfl) : WE X B ex (.Subscript a b pos) Q ss M := by
  refine .mk fun ck G A H σ w sl Kq k => ?_
  refine te_of (pe_ix ix_seq pe_self pe_self hs) ?_
  refine h ck G A H σ w sl _ fun u x G1 A1 M1 H1 e1 w1 s1 h1 => ?_
  refine h1 ck G1 A1 H1 σ w1 (sl.mono e1) _ fun v y G2 A2 M2 H2 e2 w2 s2 h2 => ?_
  obtain ⟨ns, i, n, hs, rfl, hn, q⟩ := h2
  obtain ⟨l, rfl, sq⟩ := hs.sq (s1.mono e2) w2.gh
  cases s2
  refine .inl ⟨_, _, i, .int n, rfl, rfl, sq, ?_, k _ (.dat _) G2 A2 M2 H2 (e1.trans e2) w2 (Rep.int n) q⟩
  unfold atI at hn ⊢
  rw [List.length_map]
  cases e : ixN ns.length i with
  | none => simp [e] at hn
  | some j =>
    simp only [e, Option.bind_some] at hn ⊢
    rw [List.getElem?_map, hn]
    rfl
/-- len(script) -/
theorem we_slen (hm : X.mg "len" = none) (hg : Gl X "len") (h : WA X B ex (e :: es) (fun xs M1 => ∃ x ns, xs = [x] ∧ Scr X.K x ns ∧ Q (.dat (.int (ns.length : Int))) M1) ss M)
    (he : starEach (e :: es) X.env = (false, eval e X.env) :: starEach es X.env := by rfl) (hpl : (backTo pos (starEach es X.env)).any (·.1) = false := by rfl) : WE X B ex (.Call (.Name "len" p) (e :: es) [] pos) Q ss M := by
  refine we_cb (f := fun M1 xs Q => ∃ x ns, xs = [x] ∧ Scr X.K x ns ∧ Q (.dat (.int (ns.length : Int))) M1) call_len_seq (fun G A H M xs vs Q Kq w r h k => ?_) hm (by decide +kernel) hg h (he := he) (hpl := hpl)
  obtain ⟨x, ns, rfl, hs, q⟩ := h
  cases r with
  | cons s r =>
    cases r
    obtain ⟨l, rfl, sq⟩ := hs.sq s w.gh
    refine ⟨_, _, rfl, .inl sq, ?_⟩
    rw [List.length_map]
    exact k.flat .refl w (.int _) q
/-- script[i:j] -/
theorem we_ssl {lo hi : Option Expr} (h : WE X B ex e (fun x M1 => WO X B ex lo (fun l M2 => WO X B ex hi (fun u M3 => ∃ ns, Scr X.K x ns ∧ Q (.dat (.lst (cutD (ns.map D.int) l u))) M3) ss M2) ss M1) ss M) : WE X B ex (.Subscript e (.Slice lo hi none p2) pos) Q ss M := by
  refine .mk fun ck G A H σ w sl Kq k => ?_
  refine te_of (pe_slice sl_list pe_self po_self po_self) ?_
  refine h ck G A H σ w sl _ fun v x G1 A1 M1 H1 e1 w1 s1 h1 => ?_
  refine WO.goes ck h1 w1 (sl.mono e1) fun l G2 A2 M2 H2 e2 w2 h2 => ?_
  refine WO.goes ck h2 w2 (sl.mono (e1.trans e2)) fun u G3 A3 M3 H3 e3 w3 h3 => ?_
  obtain ⟨ns, hs, q⟩ := h3
  obtain ⟨c, rfl, sq⟩ := hs.sq (s1.mono (e2.trans e3)) w3.gh
  refine ⟨_, _, rfl, sq, fun p hp => ?_⟩
  have k' : VPost X.K B G3 A3 Q Kq := fun v x G' A' M' H' e => k v x G' A' M' H' ((e1.trans (e2.trans e3)).trans e)
  refine k'.new .refl w3 q (fun p hp => ?_) p hp
  exact .lst (.inl upd_same) ((cutV_reps ints_reps l u).mono (same_upd (w3.none hp).2.2))
end
/-! ### the law's own promise -/
def sp_law (K : PySem.W.Frag) : SpD := fun xs M R _ => ∃ x ns, xs = [x] ∧ Scr K x ns ∧ ns.length ≤ 63 ∧ M = [] ∧ R (.dat (.bl true)) []
theorem law_sp {K : PySem.W.Frag} {H : Hp} {a : Addr} {ns : List Int} (hl : ns.length ≤ 63) (h : SqL K H a (ns.map V.int)) : spOf K 0 (sp_law K) [.ref a] H (fun v _ => v = .bl true) fun _ _ _ => False := by
  have w : Wd K ⟨H, [], H⟩ H [] [] H := ⟨fun _ _ e => e, fun _ _ e => e, fun _ _ e _ => e, fun _ _ e => .inl e, List.nodup_nil, ⟨[], rfl⟩, fun _ m => (by cases m), fun _ m => (by cases m), .nil⟩
  have fin : ∀ v x G' A' M' H', Wd K ⟨H, [], H⟩ G' A' M' H' → SvOk K G' A' v x → M'.all (Cell.lt 0) = true → (x = .dat (.bl true)) → v = .bl true := fun v x G' A' M' H' _ s _ q => by
    subst q
    cases s
    rfl
  rcases h with h | h
  · refine ⟨[.dat (.lst (ns.map D.int))], [], H, [], rfl, w, .cons (Rep.lst h ints_reps) .nil, fun x _ => x = .dat (.bl true), fun _ _ _ => False, ⟨_, ns, rfl, .inl rfl, hl, rfl, rfl⟩, fin, fun _ _ _ _ _ _ _ _ _ _ q => q⟩
  · refine ⟨[.raw (.ref a)], [], H, [], rfl, w, .cons rfl .nil, fun x _ => x = .dat (.bl true), fun _ _ _ => False, ⟨_, ns, rfl, .inr ⟨a, rfl, fun _ => .inr h⟩, hl, rfl, rfl⟩, fin, fun _ _ _ _ _ _ _ _ _ _ q => q⟩
end Mb

/-! Mb, part 17: == by own __eq__, either answer. -/
namespace Mb
open PySem PySem.SeqAt
open AutoSeq1 (wpAny_loadPart')
open MeetsSeq MeetsSeq2 MeetsSeq3 SeqRoads2
section
variable {prog : Program} {w : World} {A : Around} {R : Result → Shared → Prop}
/-- two tuples, item by item; the first pair that differs ends it -/
theorem tuple_eqB (l b : Addr) (items items2 : Array Value) (n n2 : Nat) (dd dd2 : Option Addr) (sl sl2 : Array (Option Value)) (I : Nat → Shared → Prop)
    (turn : ∀ i (h1 : i < items.size) (h2 : i < items2.size) s, I i s → wpAny (model prog w) A.in1 (eqBool items[i] items2[i]) (fun r s' => (r = true ∧ I (i + 1) s') ∨ (r = false ∧ R (.ok (.ret (.bool false))) s')) (fun e s' => R (.error e) s') s)
    (fin : ∀ s, I (min items.size items2.size) s → R (.ok (.ret (.bool (items.size == items2.size)))) s) {s : Shared} (hl1 : s.heap.get? l = some { cls := .type "tuple", dict := dd, data := .seq items n, slots := sl }) (hb1 : s.heap.get? b = some { cls := .type "tuple", dict := dd2, data := .seq items2 n2, slots := sl2 }) (h : I 0 s) :
    wpAny (model prog w) A.in1 (Builtin.«tuple.__eq__» ⟨[.ref l, .ref b], []⟩) (GQ.FinOf prog w A R) (fun e s' => R (.error e) s') s := by
  have f2 := AutoSeq1.sub_tuple_tuple
  have hZ : (items.toList.zip items2.toList).length = min items.size items2.size := by simp
  have h0 := h
  obtain ⟨hp, g, d, tk, os⟩ := s
  wp_walk using wpAny_loadPart' hl1, wpAny_loadPart' hb1, wpAny_forIn_list _ (fun rest b s' => b.1 = none ∧ ∃ i, rest = (items.toList.zip items2.toList).drop i ∧ i ≤ min items.size items2.size ∧ I i s') _
  case turn =>
    rintro ⟨y, x⟩ rest b s' ⟨hb', i, hz, hi, hI⟩
    have hlt : i < (items.toList.zip items2.toList).length := by
      rcases Nat.lt_or_ge i (items.toList.zip items2.toList).length with h' | h'
      · exact h'
      · rw [List.drop_of_length_le h'] at hz; cases hz
    have h1 : i < items.size := by omega
    have h2 : i < items2.size := by omega
    rw [List.drop_eq_getElem_cons hlt] at hz
    injection hz with hyx hrest
    have hy : y = items[i] := by have := congrArg Prod.fst hyx; simpa using this
    have hx : x = items2[i] := by have := congrArg Prod.snd hyx; simpa using this
    subst hy hx
    refine wpAny_bind (wpAny_mono (turn i h1 h2 s' hI) (fun r s2 q2 => ?_) fun _ _ x => x)
    rcases q2 with ⟨hr, q2⟩ | ⟨hr, q2⟩
    · subst hr
      wp_walk
      exact ⟨rfl, i + 1, hrest, by omega, q2⟩
    · subst hr
      wp_walk
      exact q2
  case fin =>
    rintro ⟨b1, b2⟩ s' ⟨hb', i, hz, hi, hI⟩
    simp only at hb'
    subst hb'
    have hge : min items.size items2.size ≤ i := by
      rcases Nat.lt_or_ge i (items.toList.zip items2.toList).length with h' | h'
      · rw [List.drop_eq_getElem_cons h'] at hz; cases hz
      · exact hZ ▸ h'
    have hi' : i = min items.size items2.size := by omega
    have hR := fin s' (hi' ▸ hI)
    wp_walk
    simpa [Builtin.Tuple.tupleCompareSizes] using hR
  case h =>
    exact ⟨rfl, 0, rfl, Nat.zero_le _, h0⟩
/-- .. by != -/
theorem tuple_neB (l b : Addr) (items items2 : Array Value) (n n2 : Nat) (dd dd2 : Option Addr) (sl sl2 : Array (Option Value)) (I : Nat → Shared → Prop)
    (turn : ∀ i (h1 : i < items.size) (h2 : i < items2.size) s, I i s → wpAny (model prog w) A.in1 (eqBool items[i] items2[i]) (fun r s' => (r = true ∧ I (i + 1) s') ∨ (r = false ∧ R (.ok (.ret (.bool true))) s')) (fun e s' => R (.error e) s') s)
    (fin : ∀ s, I (min items.size items2.size) s → R (.ok (.ret (.bool (items.size != items2.size)))) s) {s : Shared} (hl1 : s.heap.get? l = some { cls := .type "tuple", dict := dd, data := .seq items n, slots := sl }) (hb1 : s.heap.get? b = some { cls := .type "tuple", dict := dd2, data := .seq items2 n2, slots := sl2 }) (h : I 0 s) :
    wpAny (model prog w) A.in1 (Builtin.«tuple.__ne__» ⟨[.ref l, .ref b], []⟩) (GQ.FinOf prog w A R) (fun e s' => R (.error e) s') s := by
  have f2 := AutoSeq1.sub_tuple_tuple
  have hZ : (items.toList.zip items2.toList).length = min items.size items2.size := by simp
  have h0 := h
  obtain ⟨hp, g, d, tk, os⟩ := s
  wp_walk using wpAny_loadPart' hl1, wpAny_loadPart' hb1, wpAny_forIn_list _ (fun rest b s' => b.1 = none ∧ ∃ i, rest = (items.toList.zip items2.toList).drop i ∧ i ≤ min items.size items2.size ∧ I i s') _
  case turn =>
    rintro ⟨y, x⟩ rest b s' ⟨hb', i, hz, hi, hI⟩
    have hlt : i < (items.toList.zip items2.toList).length := by
      rcases Nat.lt_or_ge i (items.toList.zip items2.toList).length with h' | h'
      · exact h'
      · rw [List.drop_of_length_le h'] at hz; cases hz
    have h1 : i < items.size := by omega
    have h2 : i < items2.size := by omega
    rw [List.drop_eq_getElem_cons hlt] at hz
    injection hz with hyx hrest
    have hy : y = items[i] := by have := congrArg Prod.fst hyx; simpa using this
    have hx : x = items2[i] := by have := congrArg Prod.snd hyx; simpa using this
    subst hy hx
    refine wpAny_bind (wpAny_mono (turn i h1 h2 s' hI) (fun r s2 q2 => ?_) fun _ _ x => x)
    rcases q2 with ⟨hr, q2⟩ | ⟨hr, q2⟩
    · subst hr
      wp_walk
      exact ⟨rfl, i + 1, hrest, by omega, q2⟩
    · subst hr
      wp_walk
      exact q2
  case fin =>
    rintro ⟨b1, b2⟩ s' ⟨hb', i, hz, hi, hI⟩
    simp only at hb'
    subst hb'
    have hge : min items.size items2.size ≤ i := by
      rcases Nat.lt_or_ge i (items.toList.zip items2.toList).length with h' | h'
      · rw [List.drop_eq_getElem_cons h'] at hz; cases hz
      · exact hZ ▸ h'
    have hi' : i = min items.size items2.size := by omega
    have hR := fin s' (hi' ▸ hI)
    wp_walk
    simpa [Builtin.Tuple.tupleCompareSizes] using hR
  case h =>
    exact ⟨rfl, 0, rfl, Nat.zero_le _, h0⟩
/-- at each turn the two lists are read anew -/
def ListB (prog : Program) (w : World) (A : Around) (E : Value → Shared → Prop) (F : Shared → Prop) (l b : Addr) (N : Nat) (I : Nat → Shared → Prop) : Prop :=
  ∀ i s, I i s → ∃ (items items2 : Array Value) (n n2 : Nat), s.heap.get? l = some { cls := .type "list", data := .seq items n } ∧ s.heap.get? b = some { cls := .type "list", data := .seq items2 n2 } ∧ items.size = N ∧ items2.size = N ∧
    ∀ (h1 : i < items.size) (h2 : i < items2.size), wpAny (model prog w) A.in1 (eqBool items[i] items2[i]) (fun r s' => (r = true ∧ I (i + 1) s') ∨ (r = false ∧ F s' ∧ ∃ (items items2 : Array Value) (n n2 : Nat), s'.heap.get? l = some { cls := .type "list", data := .seq items n } ∧ s'.heap.get? b = some { cls := .type "list", data := .seq items2 n2 } ∧ items.size = N ∧ items2.size = N)) E s
theorem eq_loopB (l b : Addr) (N : Nat) (I : Nat → Shared → Prop) (hl : ListB prog w A (fun e s' => R (.error e) s') (fun s' => R (.ok (.ret (.bool false))) s') l b N I)
    (fin : ∀ s, I N s → R (.ok (.ret (.bool true))) s) (k : Nat) :
    ∀ i : Nat, N - i = k → i ≤ N → ∀ s, I i s →
      wpAny (model prog w) A.in1 (Builtin.«list.__eq__.loop» ⟨[.ref l, .ref b, rawInt i, rawInt 2], []⟩) (GQ.FinOf prog w A R) (fun e s' => R (.error e) s') s := by
  induction k with
  | zero =>
    intro i hk hi s h
    obtain ⟨items, items2, n, n2, hl1, hb1, hs1, hs2, _⟩ := hl _ _ h
    have hi' : i = N := by omega
    have hR : R (.ok (.ret (.bool true))) s := fin s (hi' ▸ h)
    obtain ⟨hp, g, d, tk, os⟩ := s
    wp_walk using wpAny_loadPart' hl1, wpAny_loadPart' hb1
    have hi1 : items[((i : Nat) : Int).toNat]? = none := by simp; omega
    have hi2 : items2[((i : Nat) : Int).toNat]? = none := by simp; omega
    rw [hi1, hi2]
    wp_walk using wpAny_loadPart' hl1, wpAny_loadPart' hb1
    show R (.ok (.ret (.bool (items.size == items2.size)))) _
    rw [hs1, hs2]
    simpa using hR
  | succ k ih =>
    intro i hk hi s h
    obtain ⟨items, items2, n, n2, hl1, hb1, hs1, hs2, turn⟩ := hl _ _ h
    have hlt : i < items.size := by omega
    have hlt2 : i < items2.size := by omega
    have ht := turn hlt hlt2
    obtain ⟨hp, g, d, tk, os⟩ := s
    wp_walk using wpAny_loadPart' hl1, wpAny_loadPart' hb1
    have hi1 : items[((i : Nat) : Int).toNat]? = some items[i] := by simp [hlt]
    have hi2 : items2[((i : Nat) : Int).toNat]? = some items2[i] := by simp [hlt2]
    have hc : ((i : Int) + 1) = ((i + 1 : Nat) : Int) := by omega
    rw [hi1, hi2]
    refine wpAny_bind (wpAny_mono ht (fun r s2 h2 => ?_) fun _ _ x => x)
    rcases h2 with ⟨hr, h2⟩ | ⟨hr, h2, items', items2', n', n2', g1, g2, z1, z2⟩
    · subst hr
      have hrec := ih (i + 1) (by omega) (by omega) s2 h2
      obtain ⟨hp2, g2, d2, tk2, os2⟩ := s2
      wp_walk
      rw [hc]
      exact ⟨plainId_quiet plain_eq_loop _, codeAny_builtin entry_eq_loop (by
        rw [Around.under_plainId plain_eq_loop _]
        exact hrec)⟩
    · subst hr
      obtain ⟨hp2, g2', d2, tk2, os2⟩ := s2
      have hi1 : items'[((i : Nat) : Int).toNat]? = some (items'[i]'(by omega)) := by simp [show i < items'.size by omega]
      have hi2 : items2'[((i : Nat) : Int).toNat]? = some (items2'[i]'(by omega)) := by simp [show i < items2'.size by omega]
      wp_walk using wpAny_loadPart' g1, wpAny_loadPart' g2
      rw [hi1, hi2]
      wp_walk
      exact h2
theorem list_eqB (l b : Addr) (N : Nat) (I : Nat → Shared → Prop) (hl : ListB prog w A (fun e s' => R (.error e) s') (fun s' => R (.ok (.ret (.bool false))) s') l b N I)
    (fin : ∀ s, I N s → R (.ok (.ret (.bool true))) s) {s : Shared} (h : I 0 s) :
    wpAny (model prog w) A.in1 (Builtin.«list.__eq__» ⟨[.ref l, .ref b], []⟩) (GQ.FinOf prog w A R) (fun e s' => R (.error e) s') s := by
  obtain ⟨items, items2, n, n2, hl1, hb1, hs1, hs2, _⟩ := hl _ _ h
  have hrec := eq_loopB (A := A) (R := R) l b N I hl fin _ 0 rfl (Nat.zero_le _) s h
  obtain ⟨hp, g, d, tk, os⟩ := s
  have f3 := AutoSeq1.sub_list_list
  have hne : ¬ (items.size != items2.size) = true := by simp [hs1, hs2]
  wp_walk using wpAny_loadPart' hl1, wpAny_loadPart' hb1
  exact ⟨plainId_quiet plain_eq_loop _, codeAny_builtin entry_eq_loop (by
    rw [Around.under_plainId plain_eq_loop _]
    exact hrec)⟩
/-- lists of unlike lengths -/
theorem list_eqN (l b : Addr) (items items2 : Array Value) (n n2 : Nat) (hz : items.size ≠ items2.size) {s : Shared} (hl1 : s.heap.get? l = some { cls := .type "list", data := .seq items n }) (hb1 : s.heap.get? b = some { cls := .type "list", data := .seq items2 n2 })
    (h : R (.ok (.ret (.bool false))) s) :
    wpAny (model prog w) A.in1 (Builtin.«list.__eq__» ⟨[.ref l, .ref b], []⟩) (GQ.FinOf prog w A R) (fun e s' => R (.error e) s') s := by
  obtain ⟨hp, g, d, tk, os⟩ := s
  have f3 := AutoSeq1.sub_list_list
  have hne : (items.size != items2.size) = true := by simpa using hz
  wp_walk using wpAny_loadPart' hl1, wpAny_loadPart' hb1
  exact h
theorem ne_loopB (l b : Addr) (N : Nat) (I : Nat → Shared → Prop) (hl : ListB prog w A (fun e s' => R (.error e) s') (fun s' => R (.ok (.ret (.bool true))) s') l b N I)
    (fin : ∀ s, I N s → R (.ok (.ret (.bool false))) s) (k : Nat) :
    ∀ i : Nat, N - i = k → i ≤ N → ∀ s, I i s →
      wpAny (model prog w) A.in1 (Builtin.«list.__eq__.loop» ⟨[.ref l, .ref b, rawInt i, rawInt 3], []⟩) (GQ.FinOf prog w A R) (fun e s' => R (.error e) s') s := by
  induction k with
  | zero =>
    intro i hk hi s h
    obtain ⟨items, items2, n, n2, hl1, hb1, hs1, hs2, _⟩ := hl _ _ h
    have hi' : i = N := by omega
    have hR : R (.ok (.ret (.bool false))) s := fin s (hi' ▸ h)
    obtain ⟨hp, g, d, tk, os⟩ := s
    wp_walk using wpAny_loadPart' hl1, wpAny_loadPart' hb1
    have hi1 : items[((i : Nat) : Int).toNat]? = none := by simp; omega
    have hi2 : items2[((i : Nat) : Int).toNat]? = none := by simp; omega
    rw [hi1, hi2]
    wp_walk using wpAny_loadPart' hl1, wpAny_loadPart' hb1
    show R (.ok (.ret (.bool (items.size != items2.size)))) _
    rw [hs1, hs2]
    simpa using hR
  | succ k ih =>
    intro i hk hi s h
    obtain ⟨items, items2, n, n2, hl1, hb1, hs1, hs2, turn⟩ := hl _ _ h
    have hlt : i < items.size := by omega
    have hlt2 : i < items2.size := by omega
    have ht := turn hlt hlt2
    obtain ⟨hp, g, d, tk, os⟩ := s
    wp_walk using wpAny_loadPart' hl1, wpAny_loadPart' hb1
    have hi1 : items[((i : Nat) : Int).toNat]? = some items[i] := by simp [hlt]
    have hi2 : items2[((i : Nat) : Int).toNat]? = some items2[i] := by simp [hlt2]
    have hc : ((i : Int) + 1) = ((i + 1 : Nat) : Int) := by omega
    rw [hi1, hi2]
    refine wpAny_bind (wpAny_mono ht (fun r s2 h2 => ?_) fun _ _ x => x)
    rcases h2 with ⟨hr, h2⟩ | ⟨hr, h2, items', items2', n', n2', g1, g2, z1, z2⟩
    · subst hr
      have hrec := ih (i + 1) (by omega) (by omega) s2 h2
      obtain ⟨hp2, g2, d2, tk2, os2⟩ := s2
      wp_walk
      rw [hc]
      exact ⟨plainId_quiet plain_eq_loop _, codeAny_builtin entry_eq_loop (by
        rw [Around.under_plainId plain_eq_loop _]
        exact hrec)⟩
    · subst hr
      obtain ⟨hp2, g2', d2, tk2, os2⟩ := s2
      have hi1 : items'[((i : Nat) : Int).toNat]? = some (items'[i]'(by omega)) := by simp [show i < items'.size by omega]
      have hi2 : items2'[((i : Nat) : Int).toNat]? = some (items2'[i]'(by omega)) := by simp [show i < items2'.size by omega]
      wp_walk using wpAny_loadPart' g1, wpAny_loadPart' g2
      rw [hi1, hi2]
      wp_walk
      exact h2
theorem list_neB (l b : Addr) (N : Nat) (I : Nat → Shared → Prop) (hl : ListB prog w A (fun e s' => R (.error e) s') (fun s' => R (.ok (.ret (.bool true))) s') l b N I)
    (fin : ∀ s, I N s → R (.ok (.ret (.bool false))) s) {s : Shared} (h : I 0 s) :
    wpAny (model prog w) A.in1 (Builtin.«list.__ne__» ⟨[.ref l, .ref b], []⟩) (GQ.FinOf prog w A R) (fun e s' => R (.error e) s') s := by
  obtain ⟨items, items2, n, n2, hl1, hb1, hs1, hs2, _⟩ := hl _ _ h
  have hrec := ne_loopB (A := A) (R := R) l b N I hl fin _ 0 rfl (Nat.zero_le _) s h
  obtain ⟨hp, g, d, tk, os⟩ := s
  have f3 := AutoSeq1.sub_list_list
  have hne : ¬ (items.size != items2.size) = true := by simp [hs1, hs2]
  wp_walk using wpAny_loadPart' hl1, wpAny_loadPart' hb1
  exact ⟨plainId_quiet plain_eq_loop _, codeAny_builtin entry_eq_loop (by
    rw [Around.under_plainId plain_eq_loop _]
    exact hrec)⟩
theorem list_neN (l b : Addr) (items items2 : Array Value) (n n2 : Nat) (hz : items.size ≠ items2.size) {s : Shared} (hl1 : s.heap.get? l = some { cls := .type "list", data := .seq items n }) (hb1 : s.heap.get? b = some { cls := .type "list", data := .seq items2 n2 })
    (h : R (.ok (.ret (.bool true))) s) :
    wpAny (model prog w) A.in1 (Builtin.«list.__ne__» ⟨[.ref l, .ref b], []⟩) (GQ.FinOf prog w A R) (fun e s' => R (.error e) s') s := by
  obtain ⟨hp, g, d, tk, os⟩ := s
  have f3 := AutoSeq1.sub_list_list
  have hne : (items.size != items2.size) = true := by simpa using hz
  wp_walk using wpAny_loadPart' hl1, wpAny_loadPart' hb1
  exact h
end
end Mb

/-! Mb, part 18: == over data. -/
namespace Mb
open PySem L2 PyProof.Rows
/-! ### over data -/
theorem rd_det {H : Hp} {a : Addr} {u v : HO} (h1 : Rd H a u) (h2 : Rd H a v) (hu : ∀ o w, u ≠ .frz o w) (hv : ∀ o w, v ≠ .frz o w) : u = v := by
  rcases h1 with h1 | ⟨o1, h1⟩ <;> rcases h2 with h2 | ⟨o2, h2⟩ <;> rw [h1] at h2 <;> injection h2 with h2
  · exact absurd h2 (hu _ _)
  · exact absurd h2.symm (hv _ _)
  · injection h2
section
variable {X : Cx} {pins : List (Addr × Obj)} {σ : L2.St} {G : Hp} {s : Shared}
theorem lt_no (I : Inv X pins σ G s) {a : Addr} {xs ys : List V} (h : Rd G a (.lst xs)) (h' : SqT X.K G a ys) : False := by
  obtain ⟨_, _, ⟨o, n, e, c, _, _⟩, _⟩ := I.list (.inl h)
  obtain ⟨_, _, ⟨o', e', c', _⟩, _⟩ := I.tuple h'
  rw [e] at e'
  cases e'
  rw [c] at c'
  exact absurd c' (by decide)
theorem it_no (I : Inv X pins σ G s) {a C dx : Addr} {fv : List (Str × V)} {ys : List V} (h : G a = some (.ins C dx fv)) (h' : SqT X.K G a ys) : False := by
  obtain ⟨mA, J, _⟩ := ins_get I.hok h
  obtain ⟨od, J, _⟩ := J.look
  obtain ⟨_, _, ⟨o', e', c', _⟩, _⟩ := I.tuple h'
  obtain ⟨g0, c, _⟩ := J
  rw [g0] at e'
  cases e'
  rw [c] at c'
  cases c'
theorem dt_no (I : Inv X pins σ G s) {a : Addr} {kv : List (Key × V)} {ys : List V} (h : G a = some (.dK kv)) (h' : SqT X.K G a ys) : False := by
  obtain ⟨_, _, _, _, da⟩ := (show ObjOk X.prog X.w G s.heap a (.dK kv) from I.hok a _ h)
  obtain ⟨_, _, ⟨o', e', c', n, d'⟩, _⟩ := I.tuple h'
  obtain ⟨oa, es, ep, hoa, _, hda, _⟩ := da
  rw [hoa] at e'
  cases e'
  rw [hda] at d'
  cases d'
end
mutual
theorem Rep.det {X : Cx} {pins : List (Addr × Obj)} {σ : L2.St} {G : Hp} {s : Shared} (I : Inv X pins σ G s) : ∀ {v : V} {d e : D}, Rep X.K G v d → Rep X.K G v e → d = e
  | _, _, _, .non, h => by cases h; rfl
  | _, _, _, .bl b, h => by cases h; rfl
  | _, _, _, .int i, h => by cases h; rfl
  | _, _, _, .str x _, h => by cases h; rfl
  | _, _, _, .lst h r, .lst h' r' => by
    have := rd_det h h' (fun _ _ z => (by cases z)) fun _ _ z => (by cases z)
    injection this with this
    subst this
    rw [Reps.det I r r']
  | _, _, _, .lst h r, .tup h' r' => (lt_no I h h').elim
  | _, _, _, .lst h r, .ins h' r' => by
    rcases h with h | ⟨o, h⟩ <;> rw [h] at h' <;> cases h'
  | _, _, _, .lst h r, .dic h' r' => by
    rcases h with h | ⟨o, h⟩ <;> rw [h] at h' <;> cases h'
  | _, _, _, .tup h r, .tup h' r' => by
    have := I.tuple_inj h h'
    subst this
    rw [Reps.det I r r']
  | _, _, _, .tup h r, .lst h' r' => (lt_no I h' h).elim
  | _, _, _, .tup h r, .ins h' r' => (it_no I h' h).elim
  | _, _, _, .tup h r, .dic h' r' => (dt_no I h' h).elim
  | _, _, _, .ins h r, .ins h' r' => by
    rw [h] at h'
    cases h'
    rw [RepF.det I r r']
  | _, _, _, .ins h r, .lst h' r' => by
    rcases h' with h' | ⟨o, h'⟩ <;> rw [h] at h' <;> cases h'
  | _, _, _, .ins h r, .tup h' r' => (it_no I h h').elim
  | _, _, _, .ins h r, .dic h' r' => by rw [h] at h'; cases h'
  | _, _, _, .dic h r, .dic h' r' => by
    rw [h] at h'
    cases h'
    rw [RepK.det I r r']
  | _, _, _, .dic h r, .lst h' r' => by
    rcases h' with h' | ⟨o, h'⟩ <;> rw [h] at h' <;> cases h'
  | _, _, _, .dic h r, .tup h' r' => (dt_no I h h').elim
  | _, _, _, .dic h r, .ins h' r' => by rw [h] at h'; cases h'
theorem Reps.det {X : Cx} {pins : List (Addr × Obj)} {σ : L2.St} {G : Hp} {s : Shared} (I : Inv X pins σ G s) : ∀ {v : List V} {d e : List D}, Reps X.K G v d → Reps X.K G v e → d = e
  | _, _, _, .nil, .nil => rfl
  | _, _, _, .cons h r, .cons h' r' => by rw [Rep.det I h h', Reps.det I r r']
theorem RepF.det {X : Cx} {pins : List (Addr × Obj)} {σ : L2.St} {G : Hp} {s : Shared} (I : Inv X pins σ G s) : ∀ {v : List (Str × V)} {d e : List (Str × D)}, RepF X.K G v d → RepF X.K G v e → d = e
  | _, _, _, .nil, .nil => rfl
  | _, _, _, .cons h r, .cons h' r' => by rw [Rep.det I h h', RepF.det I r r']
theorem RepK.det {X : Cx} {pins : List (Addr × Obj)} {σ : L2.St} {G : Hp} {s : Shared} (I : Inv X pins σ G s) : ∀ {v : List (Key × V)} {d e : List (Key × D)}, RepK X.K G v d → RepK X.K G v e → d = e
  | _, _, _, .nil, .nil => rfl
  | _, _, _, .cons h r, .cons h' r' => by rw [Rep.det I h h', RepK.det I r r']
end
section
variable {X : Cx} {n m : Nat} {d e : D} {b : Bool}
/-- what a comparison leaves: the heap, grown -/
def LoopS (X : Cx) (pins : List (Addr × Obj)) (σ : L2.St) (H : Hp) (s' : Shared) : Prop := ∃ H', Inv X pins σ H' s' ∧ Same H H'
/-- == within a list, a tuple: it tells b of d and e -/
def EqA (X : Cx) (n : Nat) (d e : D) (b : Bool) : Prop :=
  ∀ (A : Around) (pins : List (Addr × Obj)) (s : Shared) (σ : L2.St) (H : Hp) (x y : V) (u v : Value), Sub X n A → Inv X pins σ H s → RelV x u → RelV y v → Rep X.K H x d → Rep X.K H y e →
    wpAny (model X.prog X.w) A (eqBool u v) (fun r s' => r = b ∧ LoopS X pins σ H s') X.xe s
/-- == as an operator -/
def RcA (X : Cx) (n : Nat) (op : CmpOp) (d e : D) (b : Bool) : Prop :=
  ∀ (A : Around) (pins : List (Addr × Obj)) (s : Shared) (σ : L2.St) (H : Hp) (x y : V) (u v : Value), Sub X n A → Inv X pins σ H s → RelV x u → RelV y v → Rep X.K H x d → Rep X.K H y e →
    wpAny (model X.prog X.w) A (richCompare op u v) (fun r s' => r = .bool b ∧ LoopS X pins σ H s') X.xe s
theorem EqA.mono (h : EqA X n d e b) (hn : n ≤ m) : EqA X m d e b := fun A pins s σ H x y u v sb => h A pins s σ H x y u v (sb.mono hn)
theorem RcA.mono {op : CmpOp} (h : RcA X n op d e b) (hn : n ≤ m) : RcA X m op d e b := fun A pins s σ H x y u v sb => h A pins s σ H x y u v (sb.mono hn)
theorem eqA_plain (hd : D.pl 60 d = true) (he : D.pl 60 e = true) : EqA X n d e (deq d e) := by
  intro A pins s σ H x y u v sb I rx ry r1 r2
  obtain ⟨as, q1⟩ := Dp.reads I (py d) x u (r1.dp hd) rx
  obtain ⟨bs, q2⟩ := Dp.reads I (py e) y v (r2.dp he) ry
  obtain ⟨l1, z1⟩ := r1.lay hd
  obtain ⟨l2, z2⟩ := r2.lay he
  have hu := sb.room.units
  exact SeqAt.eqAt_reads (py d) (py e) A s u v as bs q1 q2 l1 l2 (by omega) X.prog X.w X.xe _ ⟨rfl, H, I, Same.refl _⟩
/-- rows of data, pair by pair -/
inductive EqsA (X : Cx) (n : Nat) : List D → List D → Bool → Prop
  | nil : EqsA X n [] [] true
  | left {d : D} {ds : List D} : EqsA X n (d :: ds) [] false
  | right {e : D} {es : List D} : EqsA X n [] (e :: es) false
  | more {d e : D} {ds es : List D} {b : Bool} : EqA X n d e true → EqsA X n ds es b → EqsA X n (d :: ds) (e :: es) b
  | ends {d e : D} {ds es : List D} : EqA X n d e false → EqsA X n (d :: ds) (e :: es) false
theorem EqsA.at_end : ∀ {ds es : List D} {b : Bool}, EqsA X n ds es b → (ds = [] ∨ es = []) → b = (ds.length == es.length)
  | _, _, _, .nil, _ => rfl
  | _, _, _, .left, _ => rfl
  | _, _, _, .right, _ => rfl
  | _, _, _, .more _ _, h => by rcases h with h | h <;> cases h
  | _, _, _, .ends _, h => by rcases h with h | h <;> cases h
theorem EqsA.lens : ∀ {ds es : List D} {b : Bool}, EqsA X n ds es b → b = true → ds.length = es.length
  | _, _, _, .nil, _ => rfl
  | _, _, _, .left, h => by cases h
  | _, _, _, .right, h => by cases h
  | _, _, _, .more _ r, h => congrArg (· + 1) (r.lens h)
  | _, _, _, .ends _, h => by cases h
theorem EqsA.step {ds es : List D} {b : Bool} (h : EqsA X n ds es b) {d e : D} (h1 : ds[0]? = some d) (h2 : es[0]? = some e) : (EqA X n d e true ∧ EqsA X n (ds.drop 1) (es.drop 1) b) ∨ (EqA X n d e false ∧ b = false) := by
  cases h with
  | nil => cases h1
  | left => cases h2
  | right => cases h1
  | more q r => simp at h1 h2; subst h1; subst h2; exact .inl ⟨q, r⟩
  | ends q => simp at h1 h2; subst h1; subst h2; exact .inr ⟨q, rfl⟩
theorem turnB {A : Around} (sb : Sub X (n + 1) A) {pins : List (Addr × Obj)} {σ : L2.St} {H : Hp} {xs ys : List V} {ds es : List D} {its its2 : List Value} (r1 : Reps X.K H xs ds) (r2 : Reps X.K H ys es) (v1 : Vals xs its) (v2 : Vals ys its2) {P : Bool → Shared → Prop}
    (i : Nat) (h1 : i < its.toArray.size) (h2 : i < its2.toArray.size) (s' : Shared) (l : LoopS X pins σ H s') (q : EqsA X n (ds.drop i) (es.drop i) b)
    (k1 : ∀ s', LoopS X pins σ H s' → EqsA X n (ds.drop (i + 1)) (es.drop (i + 1)) b → P true s') (k2 : ∀ s', LoopS X pins σ H s' → b = false → P false s') :
    wpAny (model X.prog X.w) A.in1 (eqBool its.toArray[i] its2.toArray[i]) P X.xe s' := by
  obtain ⟨H1, I1, e1⟩ := l
  have g1 : its[i]? = some its.toArray[i] := by
    have h1' : i < its.length := by simpa using h1
    rw [List.getElem?_eq_getElem h1'] <;> simp
  have g2 : its2[i]? = some its2.toArray[i] := by
    have h2' : i < its2.length := by simpa using h2
    rw [List.getElem?_eq_getElem h2'] <;> simp
  have c1 : i < xs.length := by rw [v1.length]; simpa using h1
  have c2 : i < ys.length := by rw [v2.length]; simpa using h2
  obtain ⟨u, hu, ru⟩ := v1.get (List.getElem?_eq_getElem c1)
  obtain ⟨v, hv, rv⟩ := v2.get (List.getElem?_eq_getElem c2)
  rw [g1] at hu
  rw [g2] at hv
  rw [Option.some.inj hu, Option.some.inj hv]
  obtain ⟨d, hd, rd⟩ := r1.at (List.getElem?_eq_getElem c1)
  obtain ⟨e, he, re⟩ := r2.at (List.getElem?_eq_getElem c2)
  rcases q.step (d := d) (e := e) (by rw [List.getElem?_drop]; exact hd) (by rw [List.getElem?_drop]; exact he) with ⟨qe, qs⟩ | ⟨qe, hb⟩
  · refine wpAny_mono (qe A.in1 pins s' σ H1 _ _ u v sb.in1 I1 ru rv (rd.mono e1) (re.mono e1)) (fun r s2 z => ?_) fun _ _ x => x
    obtain ⟨rfl, H2, I2, e2⟩ := z
    exact k1 s2 ⟨H2, I2, e1.trans e2⟩ (by rw [List.drop_drop, List.drop_drop] at qs; exact qs)
  · refine wpAny_mono (qe A.in1 pins s' σ H1 _ _ u v sb.in1 I1 ru rv (rd.mono e1) (re.mono e1)) (fun r s2 z => ?_) fun _ _ x => x
    obtain ⟨rfl, H2, I2, e2⟩ := z
    exact k2 s2 ⟨H2, I2, e1.trans e2⟩ hb
theorem rcA_tup {ds es : List D} (q : EqsA X n ds es b) : RcA X (n + 1) .Eq (.tup ds) (.tup es) b := by
  intro A pins s σ H x y u v sb I rx ry r1 r2
  cases r1 with
  | tup ha ra =>
    cases r2 with
    | tup hb rb =>
      cases rx
      cases ry
      obtain ⟨its, v1, e1, z1⟩ := I.tuple ha
      obtain ⟨its2, v2, e2, z2⟩ := I.tuple hb
      obtain ⟨⟨cls, dd, data, sl⟩, ho, hc, k, hd⟩ := id e1
      obtain ⟨⟨cls2, dd2, data2, sl2⟩, ho2, hc2, k2, hd2⟩ := id e2
      simp only at hc hd hc2 hd2
      subst hc hd hc2 hd2
      have L1 : its.toArray.size = ds.length := by rw [List.size_toArray, ← v1.length, ra.length]
      have L2 : its2.toArray.size = es.length := by rw [List.size_toArray, ← v2.length, rb.length]
      refine wpAny_richCompare_same_room (op := .Eq) ⟨_, ho, rfl⟩ ⟨_, ho2, rfl⟩ F.slot_tuple_eq (GQ.call_here F.slot_tuple_eq ⟨_, ho, rfl⟩ F.entry_tuple_eq (F.args_tuple_eq_2 _ _) ?_) sb.room.units0
      refine tuple_eqB (R := wants (fun v s' => v ≠ .notImplemented ∧ v = .bool b ∧ LoopS X pins σ H s') X.xe) _ _ its.toArray its2.toArray k k2 dd dd2 sl sl2 (fun i s' => LoopS X pins σ H s' ∧ EqsA X n (ds.drop i) (es.drop i) b) (fun i h1 h2 s' hi => ?_) (fun s' hi => ?_) ho ho2 ⟨⟨H, I, Same.refl _⟩, q⟩
      · exact turnB sb ra rb v1 v2 i h1 h2 s' hi.1 hi.2 (fun s2 l2 q2 => .inl ⟨rfl, l2, q2⟩) fun s2 l2 hb => .inr ⟨rfl, (fun x => nomatch x), by rw [hb], l2⟩
      · have hz : b = (its.toArray.size == its2.toArray.size) := by
          rw [L1, L2] at hi ⊢
          have := hi.2.at_end (by
            rcases Nat.le_total ds.length es.length with c | c
            · exact .inl (List.drop_of_length_le (by omega))
            · exact .inr (List.drop_of_length_le (by omega)))
          rw [this]
          rw [List.length_drop, List.length_drop]
          rw [Bool.eq_iff_iff]
          simp only [beq_iff_eq]
          omega
        exact ⟨(fun x => nomatch x), by rw [hz], hi.1⟩
theorem rcA_tupN {ds es : List D} (q : EqsA X n ds es b) : RcA X (n + 1) .NotEq (.tup ds) (.tup es) (!b) := by
  intro A pins s σ H x y u v sb I rx ry r1 r2
  cases r1 with
  | tup ha ra =>
    cases r2 with
    | tup hb rb =>
      cases rx
      cases ry
      obtain ⟨its, v1, e1, z1⟩ := I.tuple ha
      obtain ⟨its2, v2, e2, z2⟩ := I.tuple hb
      obtain ⟨⟨cls, dd, data, sl⟩, ho, hc, k, hd⟩ := id e1
      obtain ⟨⟨cls2, dd2, data2, sl2⟩, ho2, hc2, k2, hd2⟩ := id e2
      simp only at hc hd hc2 hd2
      subst hc hd hc2 hd2
      have L1 : its.toArray.size = ds.length := by rw [List.size_toArray, ← v1.length, ra.length]
      have L2 : its2.toArray.size = es.length := by rw [List.size_toArray, ← v2.length, rb.length]
      refine wpAny_richCompare_same_room (op := .NotEq) ⟨_, ho, rfl⟩ ⟨_, ho2, rfl⟩ F.slot_tuple_ne (GQ.call_here F.slot_tuple_ne ⟨_, ho, rfl⟩ F.entry_tuple_ne (F.args_tuple_ne_2 _ _) ?_) sb.room.units0
      refine tuple_neB (R := wants (fun v s' => v ≠ .notImplemented ∧ v = .bool (!b) ∧ LoopS X pins σ H s') X.xe) _ _ its.toArray its2.toArray k k2 dd dd2 sl sl2 (fun i s' => LoopS X pins σ H s' ∧ EqsA X n (ds.drop i) (es.drop i) b) (fun i h1 h2 s' hi => ?_) (fun s' hi => ?_) ho ho2 ⟨⟨H, I, Same.refl _⟩, q⟩
      · exact turnB sb ra rb v1 v2 i h1 h2 s' hi.1 hi.2 (fun s2 l2 q2 => .inl ⟨rfl, l2, q2⟩) fun s2 l2 hb => .inr ⟨rfl, (fun x => nomatch x), by rw [hb]; rfl, l2⟩
      · have hz : b = (its.toArray.size == its2.toArray.size) := by
          rw [L1, L2] at hi ⊢
          have := hi.2.at_end (by
            rcases Nat.le_total ds.length es.length with c | c
            · exact .inl (List.drop_of_length_le (by omega))
            · exact .inr (List.drop_of_length_le (by omega)))
          rw [this]
          rw [List.length_drop, List.length_drop]
          rw [Bool.eq_iff_iff]
          simp only [beq_iff_eq]
          omega
        exact ⟨(fun x => nomatch x), by rw [hz]; rfl, hi.1⟩
theorem rcA_lst {ds es : List D} (q : EqsA X n ds es b) : RcA X (n + 1) .Eq (.lst ds) (.lst es) b := by
  intro A pins s σ H x y u v sb I rx ry r1 r2
  cases r1 with
  | lst ha ra =>
    cases r2 with
    | lst hb rb =>
      cases rx
      cases ry
      rename_i l1 vs1 l2 vs2
      have at1 : ∀ s', LoopS X pins σ H s' → ∃ (i1 i2 : List Value) (k k2 : Nat), s'.heap.get? l1 = some { cls := .type "list", data := .seq i1.toArray k } ∧ s'.heap.get? l2 = some { cls := .type "list", data := .seq i2.toArray k2 } ∧ Vals vs1 i1 ∧ Vals vs2 i2 := fun s' q => by
        obtain ⟨H1, I1, e1⟩ := q
        obtain ⟨z, its, k, r, e⟩ := (rdM e1 ha).ok I1.hok
        obtain ⟨z2, its2, k2, r2, e2⟩ := (rdM e1 hb).ok I1.hok
        exact ⟨its, its2, k, k2, e, e2, r, r2⟩
      obtain ⟨i1, i2, k, k2, g1, g2, v1, v2⟩ := at1 s ⟨H, I, Same.refl _⟩
      refine wpAny_richCompare_same_room (op := .Eq) ⟨_, g1, rfl⟩ ⟨_, g2, rfl⟩ F.slot_list_eq (GQ.call_here F.slot_list_eq ⟨_, g1, rfl⟩ F.entry_list_eq (F.args_list_eq_2 _ _) ?_) sb.room.units0
      by_cases hl : ds.length = es.length
      · refine list_eqB (R := wants (fun v s' => v ≠ .notImplemented ∧ v = .bool b ∧ LoopS X pins σ H s') X.xe) _ _ ds.length (fun i s' => LoopS X pins σ H s' ∧ EqsA X n (ds.drop i) (es.drop i) b) (fun i s' hi => ?_) (fun s' hi => ?_) ⟨⟨H, I, Same.refl _⟩, q⟩
        · obtain ⟨j1, j2, m, m2, a1, a2, w1, w2⟩ := at1 s' hi.1
          refine ⟨j1.toArray, j2.toArray, m, m2, a1, a2, by rw [List.size_toArray, ← w1.length, ra.length], by rw [List.size_toArray, ← w2.length, rb.length, hl], fun h1 h2 => ?_⟩
          refine turnB sb ra rb w1 w2 i h1 h2 s' hi.1 hi.2 (fun s2 l2 q2 => .inl ⟨rfl, l2, q2⟩) fun s2 l2 hb => .inr ⟨rfl, ⟨(fun x => nomatch x), by rw [hb], l2⟩, ?_⟩
          obtain ⟨j1, j2, m, m2, a1, a2, w1, w2⟩ := at1 s2 l2
          exact ⟨j1.toArray, j2.toArray, m, m2, a1, a2, by rw [List.size_toArray, ← w1.length, ra.length], by rw [List.size_toArray, ← w2.length, rb.length, hl]⟩
        · have := hi.2.at_end (.inl (List.drop_of_length_le (Nat.le_refl _)))
          rw [List.length_drop, List.length_drop, hl, Nat.sub_self, beq_self_eq_true] at this
          exact ⟨(fun x => nomatch x), by rw [this], hi.1⟩
      · refine list_eqN (R := wants (fun v s' => v ≠ .notImplemented ∧ v = .bool b ∧ LoopS X pins σ H s') X.xe) _ _ i1.toArray i2.toArray k k2 (by rw [List.size_toArray, List.size_toArray, ← v1.length, ← v2.length, ra.length, rb.length]; exact hl) g1 g2 ⟨(fun x => nomatch x), ?_, H, I, Same.refl _⟩
        cases b with
        | false => rfl
        | true => exact absurd (q.lens rfl) hl
theorem rcA_lstN {ds es : List D} (q : EqsA X n ds es b) : RcA X (n + 1) .NotEq (.lst ds) (.lst es) (!b) := by
  intro A pins s σ H x y u v sb I rx ry r1 r2
  cases r1 with
  | lst ha ra =>
    cases r2 with
    | lst hb rb =>
      cases rx
      cases ry
      rename_i l1 vs1 l2 vs2
      have at1 : ∀ s', LoopS X pins σ H s' → ∃ (i1 i2 : List Value) (k k2 : Nat), s'.heap.get? l1 = some { cls := .type "list", data := .seq i1.toArray k } ∧ s'.heap.get? l2 = some { cls := .type "list", data := .seq i2.toArray k2 } ∧ Vals vs1 i1 ∧ Vals vs2 i2 := fun s' q => by
        obtain ⟨H1, I1, e1⟩ := q
        obtain ⟨z, its, k, r, e⟩ := (rdM e1 ha).ok I1.hok
        obtain ⟨z2, its2, k2, r2, e2⟩ := (rdM e1 hb).ok I1.hok
        exact ⟨its, its2, k, k2, e, e2, r, r2⟩
      obtain ⟨i1, i2, k, k2, g1, g2, v1, v2⟩ := at1 s ⟨H, I, Same.refl _⟩
      refine wpAny_richCompare_same_room (op := .NotEq) ⟨_, g1, rfl⟩ ⟨_, g2, rfl⟩ F.slot_list_ne (GQ.call_here F.slot_list_ne ⟨_, g1, rfl⟩ F.entry_list_ne (F.args_list_ne_2 _ _) ?_) sb.room.units0
      by_cases hl : ds.length = es.length
      · refine list_neB (R := wants (fun v s' => v ≠ .notImplemented ∧ v = .bool (!b) ∧ LoopS X pins σ H s') X.xe) _ _ ds.length (fun i s' => LoopS X pins σ H s' ∧ EqsA X n (ds.drop i) (es.drop i) b) (fun i s' hi => ?_) (fun s' hi => ?_) ⟨⟨H, I, Same.refl _⟩, q⟩
        · obtain ⟨j1, j2, m, m2, a1, a2, w1, w2⟩ := at1 s' hi.1
          refine ⟨j1.toArray, j2.toArray, m, m2, a1, a2, by rw [List.size_toArray, ← w1.length, ra.length], by rw [List.size_toArray, ← w2.length, rb.length, hl], fun h1 h2 => ?_⟩
          refine turnB sb ra rb w1 w2 i h1 h2 s' hi.1 hi.2 (fun s2 l2 q2 => .inl ⟨rfl, l2, q2⟩) fun s2 l2 hb => .inr ⟨rfl, ⟨(fun x => nomatch x), by rw [hb]; rfl, l2⟩, ?_⟩
          obtain ⟨j1, j2, m, m2, a1, a2, w1, w2⟩ := at1 s2 l2
          exact ⟨j1.toArray, j2.toArray, m, m2, a1, a2, by rw [List.size_toArray, ← w1.length, ra.length], by rw [List.size_toArray, ← w2.length, rb.length, hl]⟩
        · have := hi.2.at_end (.inl (List.drop_of_length_le (Nat.le_refl _)))
          rw [List.length_drop, List.length_drop, hl, Nat.sub_self, beq_self_eq_true] at this
          exact ⟨(fun x => nomatch x), by rw [this]; rfl, hi.1⟩
      · refine list_neN (R := wants (fun v s' => v ≠ .notImplemented ∧ v = .bool (!b) ∧ LoopS X pins σ H s') X.xe) _ _ i1.toArray i2.toArray k k2 (by rw [List.size_toArray, List.size_toArray, ← v1.length, ← v2.length, ra.length, rb.length]; exact hl) g1 g2 ⟨(fun x => nomatch x), ?_, H, I, Same.refl _⟩
        cases b with
        | false => rfl
        | true => exact absurd (q.lens rfl) hl
/-- the same object is equal to itself -/
theorem RcA.eqA (h : RcA X n .Eq d e b) (hr : d = e → b = true) (hd : (∃ ds, d = .lst ds) ∨ (∃ ds, d = .tup ds) ∨ ∃ C fs, d = .ins C fs) (he : (∃ ds, e = .lst ds) ∨ (∃ ds, e = .tup ds) ∨ ∃ C fs, e = .ins C fs) : EqA X n d e b := by
  intro A pins s σ H x y u v sb I rx ry r1 r2
  have ref : ∀ {x : V} {d : D}, Rep X.K H x d → ((∃ ds, d = .lst ds) ∨ (∃ ds, d = .tup ds) ∨ ∃ C fs, d = .ins C fs) → ∃ a, x = .ref a := fun r hd => by
    rcases hd with ⟨_, rfl⟩ | ⟨_, rfl⟩ | ⟨_, _, rfl⟩ <;> cases r <;> exact ⟨_, rfl⟩
  obtain ⟨a, rfl⟩ := ref r1 hd
  obtain ⟨a2, rfl⟩ := ref r2 he
  cases rx
  cases ry
  by_cases hab : a = a2
  · subst hab
    have hb := hr (r1.det I r2)
    subst hb
    exact SeqAt.EqAt.same (A := A) (s := s) (.ref a) X.prog X.w X.xe _ ⟨rfl, H, I, Same.refl _⟩
  · refine GQ.eqBool_refG hab (wpAny_mono (h A pins s σ H (.ref a) (.ref a2) _ _ sb I rfl rfl r1 r2) (fun r s' q => ?_) fun _ _ x => x)
    obtain ⟨hr', q⟩ := q
    exact ⟨b, hr', rfl, q⟩
/-! ### own __eq__ -/
/-- its promise: of d and e it tells b -/
def sp_eq (P : D → D → Bool → Prop) : SpD := fun xs M R _ => ∃ d e b, xs = [.dat d, .dat e] ∧ M = [] ∧ P d e b ∧ R (.dat (.bl b)) []
theorem rcA_ins {C f : Addr} {fs : List (Str × D)} {fd : FuncData} {ps : List Str} {P : D → D → Bool → Prop} {tb : Value} (F : FnOk X.prog X.w X.K X.mg X.base (L2.CX X.prog X.w) n f fd ps (spOf X.K 0 (sp_eq P)))
    (hs : PySem.W.findIn X.K (.ref C) "__eq__" = some (some (.ref f))) (hf : PySem.W.isFn X.K (.ref f) = true) (hb : Binds X.K fd ps [])
    (hn : PySem.W.notFirst X.K C tb = true) (ht : ∀ (H : Hp) (s : Shared) (σ : L2.St) pins (y : V) (v : Value), Inv X pins σ H s → RelV y v → Rep X.K H y e → PySem.W.Looks (model X.prog X.w) s.heap (typeOf v) tb)
    (hP : P (.ins C fs) e b) : RcA X n .Eq (.ins C fs) e b := by
  intro A pins s σ H x y u v sb I rx ry r1 r2
  cases r1 with
  | ins ha ra =>
  cases rx
  rename_i a dx fv
  obtain ⟨mA, J, _⟩ := ins_get I.hok ha
  obtain ⟨od, J, _⟩ := J.look
  obtain ⟨m, hF⟩ := I.fr
  refine PySem.W.cmp_K (op := .Eq) (tb := tb) sb.room.units0 hF I.ok.mod.kin J (ht H s σ pins y v I ry r2) hn hs hf ?_
  have hsp : spOf X.K 0 (sp_eq P) [.ref a, y] H (fun v H' => v = .bl b ∧ Same H H') (fun _ _ _ => False) := by
    refine ⟨[.dat (.ins C fs), .dat e], [], H, [], rfl, ⟨fun _ _ e => e, fun _ _ e => e, fun _ _ e _ => e, fun _ _ e => .inl e, List.nodup_nil, ⟨[], rfl⟩, fun _ m => (by cases m), fun _ m => (by cases m), .nil⟩, .cons (Rep.ins ha ra) (.cons r2 .nil), fun x _ => x = .dat (.bl b), fun _ _ _ => False, ⟨_, _, b, rfl, rfl, hP, rfl⟩, fun v x G' A' M' H' w' s' _ q => ?_, fun _ _ _ _ _ _ _ _ _ _ q => q⟩
    subst q
    cases s'
    exact ⟨rfl, fun b o e => w'.fr b o e (by intro m; cases m)⟩
  have e0 : Env0 X.prog X.w X.K X.mg X.base A X.stack s H := by
    have e := I.env0
    exact ⟨by rw [sb.fr]; exact e.frames, e.mod, e.bs, e.bsz, e.funs, e.frf, e.hok, e.bare⟩
  have hl := F.len _ _ _ _ hsp
  have rv2 : Vals [V.ref a, y] [Value.ref a, v] := .cons rfl (.cons ry .nil)
  refine wpAny_call (codeAny_mono (F.run A X.stack s H ⟨[.ref a, v], []⟩ [.ref a, v] [.ref a, y] _ _ sb.room e0 (by
    have := hb s [.ref a, v] I.kIn (by simpa using hl)
    simpa using this) rv2 hsp) fun r s' hq => ?_)
  cases r with
  | error e =>
    obtain ⟨_, _, _, _, _, _, _, _, _, _, _, _, z⟩ := hq
    exact z.elim
  | ok fl =>
    cases fl with
    | ret w =>
      obtain ⟨z, H', I', rz, ez, ex⟩ := I.after hq
      subst ez
      cases rz
      exact ⟨rfl, H', I', ex⟩
    | next => exact False.elim hq
    | brk => exact False.elim hq
    | cont => exact False.elim hq
/-! ### the operators -/
def rRcA (X : Cx) (n : Nat) (op : CmpOp) : R2 := fun x y H Q => ∃ d e b, Rep X.K H x d ∧ Rep X.K H y e ∧ RcA X n op d e b ∧ ∀ H', Same H H' → Q (.bl b) H'
theorem op_eqA (hr : Room n X.A) : OpR X (compareOp .Eq) (rRcA X n .Eq) := by
  intro pins s σ H x y v u Q I rx ry hq
  obtain ⟨d, e, b, r1, r2, h, q⟩ := hq
  show wpAny (model X.prog X.w) X.A (richCompare .Eq v u) (EP X pins σ Q) X.xe s
  refine wpAny_mono (h X.A pins s σ H x y v u ⟨hr, rfl⟩ I rx ry r1 r2) (fun r s' z => ?_) fun _ _ x => x
  obtain ⟨hr', H', I', e⟩ := z
  subst hr'
  exact ⟨.bl b, H', I', rfl, q H' e⟩
theorem op_neA (hr : Room n X.A) : OpR X (compareOp .NotEq) (rRcA X n .NotEq) := by
  intro pins s σ H x y v u Q I rx ry hq
  obtain ⟨d, e, b, r1, r2, h, q⟩ := hq
  show wpAny (model X.prog X.w) X.A (richCompare .NotEq v u) (EP X pins σ Q) X.xe s
  refine wpAny_mono (h X.A pins s σ H x y v u ⟨hr, rfl⟩ I rx ry r1 r2) (fun r s' z => ?_) fun _ _ x => x
  obtain ⟨hr', H', I', e⟩ := z
  subst hr'
  exact ⟨.bl b, H', I', rfl, q H' e⟩
end
end Mb

/-! Mb, part 19: == as rules; isinstance of data. -/
namespace Mb
open PySem L2 PyProof.Rows
theorem Wd.same {K : PySem.W.Frag} {B : Base} {G : Hp} {A : List Addr} {M : List Cell} {H H' : Hp} (w : Wd K B G A M H) (s : Same H H') : Wd K B G A M H' := by
  refine ⟨w.gg, w.gh.trans s, fun b u e n => s _ _ (w.fr b u e n), w.fresh, w.nd, w.pre, fun b m => ?_, w.an, w.cl.imp fun a c m h => h.keep .refl (fun g => g) fun u e => s _ _ e⟩
  obtain ⟨u, e⟩ := w.there b m
  exact ⟨u, s _ _ e⟩
section
variable {X : Cx} {B : Base} {ex : XD} {ss : Sst} {M : Mem} {a b c e tg o : Expr} {es : List Expr} {pos p p' apos p2 : Pos} {Q : SV → Mem → Prop} {QB : Bool → Mem → Prop} {n : Nat}
/-- == of two data by own methods -/
structure eqA2 (X : Cx) (n : Nat) (op : CmpOp) (M : Mem) (x y : SV) (Q : SV → Mem → Prop) : Prop where
  run : ∃ d e b, x.get M = some d ∧ y.get M = some e ∧ RcA X n op d e b ∧ Q (.dat (.bl b)) M
theorem eqA2_run {op : CmpOp} {G : Hp} {A : List Addr} {H : Hp} {M : Mem} {x y : SV} {u v : V} {Q : SV → Mem → Prop} {Kq : VK} (w : Wd X.K B G A M H) (sx : SvOk X.K G A u x) (sy : SvOk X.K G A v y) (h : eqA2 X n op M x y Q) (k : VPost X.K B G A Q Kq) : rRcA X n op u v H Kq := by
  obtain ⟨d, e, b, g1, g2, r, q⟩ := h.run
  exact ⟨d, e, b, (sx.s w g1).rep w.gh, (sy.s w g2).rep w.gh, r, fun H' s => k.flat .refl (w.same s) (.bl b) q⟩
theorem we_eqA (hr : Room n X.A) (h : WE X B ex a (fun x M1 => WE X B ex b (fun y M2 => eqA2 X n .Eq M2 x y Q) ss M1) ss M) : WE X B ex (.Compare a [.Eq] [b] pos) Q ss M :=
  we_cmp2 (f := eqA2 X n .Eq) (op_eqA hr) (nomark _) (fun G A H M x y u v Q Kq w sx sy h k => eqA2_run w sx sy h k) h
theorem we_neA (hr : Room n X.A) (h : WE X B ex a (fun x M1 => WE X B ex b (fun y M2 => eqA2 X n .NotEq M2 x y Q) ss M1) ss M) : WE X B ex (.Compare a [.NotEq] [b] pos) Q ss M :=
  we_cmp2 (f := eqA2 X n .NotEq) (op_neA hr) (nomark _) (fun G A H M x y u v Q Kq w sx sy h k => eqA2_run w sx sy h k) h
theorem wt_eqA (hr : Room n X.A) (h : WE X B ex a (fun x M1 => WE X B ex b (fun y M2 => eqA2 X n .Eq M2 x y fun z M3 => ∃ k, z = .dat (.bl k) ∧ QB k M3) ss M1) ss M) : WT X B ex (.Compare a [.Eq] [b] pos) QB ss M :=
  wt_cmp2 (f := eqA2 X n .Eq) (op_eqA hr) (nomark _) (fun G A H M x y u v Q Kq w sx sy h k => eqA2_run w sx sy h k) h
theorem wt_neA (hr : Room n X.A) (h : WE X B ex a (fun x M1 => WE X B ex b (fun y M2 => eqA2 X n .NotEq M2 x y fun z M3 => ∃ k, z = .dat (.bl k) ∧ QB k M3) ss M1) ss M) : WT X B ex (.Compare a [.NotEq] [b] pos) QB ss M :=
  wt_cmp2 (f := eqA2 X n .NotEq) (op_neA hr) (nomark _) (fun G A H M x y u v Q Kq w sx sy h k => eqA2_run w sx sy h k) h
/-! ### isinstance -/
structure IsC (K : PySem.W.Frag) (C : Addr) : Prop where
  cl : Cls K C
  ha : PySem.W.findIn K (.ref C) "__class__" = some (some (.builtin "object.__class__"))
  hn : PySem.W.specialIn K (.builtin "object.__class__") "__get__" = some (some (.builtin "getset_descriptor.__get__"))
  htk : PySem.W.takesIn K (.builtin "object.__class__") = some true
  hm : PySem.W.mroIn K C (.type "object") = some true
def TyD (K : PySem.W.Frag) : D → Value → Prop
  | .non, t => t = .type "NoneType"
  | .bl _, t => t = .type "bool"
  | .int _, t => t = .type "int"
  | .str _, t => t = .type "str"
  | .lst _, t => t = .type "list"
  | .tup _, t => t = .type "tuple"
  | .dic _, t => t = .type "dict"
  | .ins C _, t => t = .ref C ∧ IsC K C
def TyS (K : PySem.W.Frag) (M : Mem) (x : SV) (t : Value) : Prop := match x with
  | .dat d => TyD K d t
  | .cel i => match M[i]? with
    | some (.lst _) => t = .type "list"
    | some (.mix _) => t = .type "list"
    | some (.dic _) => t = .type "dict"
    | some (.ins C _) => t = .ref C ∧ IsC K C
    | _ => False
  | _ => False
theorem TyS.x {K : PySem.W.Frag} {G : Hp} {A : List Addr} {H : Hp} {M : Mem} {x : SV} {v : V} {t : Value} (w : Wd K B G A M H) (s : SvOk K G A v x) (h : TyS K M x t) : TyX K H v t := by
  cases x with
  | raw u => exact h.elim
  | exc u v w => exact h.elim
  | tup xs => exact h.elim
  | dat d =>
    have s : Rep K G v d := s
    have s := s.s w.gh
    cases d with
    | non => cases s; cases (show t = _ from h); exact .base .non
    | bl b => cases s; cases (show t = _ from h); exact .base (.bl b)
    | int b => cases s; cases (show t = _ from h); exact .base (.int b)
    | str b => obtain ⟨rfl, _⟩ := s; cases (show t = _ from h); exact .base (.str b)
    | lst ds =>
      obtain ⟨l, vs, rfl, hl, r⟩ := s
      cases (show t = _ from h)
      rcases hl with hl | ⟨ob, hl⟩
      · exact .base (.lst hl)
      · exact .base (.frz hl)
    | tup ds =>
      obtain ⟨l, vs, rfl, hl, r⟩ := s
      cases (show t = _ from h)
      rcases hl with (hl | ⟨ob, hl⟩) | ⟨ob, its, n, hk, hc, _⟩
      · exact .base (.tup hl)
      · exact .fTuple hl
      · exact .kTuple hk hc
    | dic ds =>
      obtain ⟨l, vs, rfl, hl, r⟩ := s
      cases (show t = _ from h)
      exact .base (.dK hl)
    | ins C fs =>
      obtain ⟨l, dx, vs, rfl, hl, r⟩ := s
      obtain ⟨rfl, c⟩ := (show t = _ ∧ _ from h)
      exact .base (.ins hl c.cl c.ha c.hn c.htk c.hm)
  | cel i =>
    obtain ⟨l, rfl, hl⟩ := s
    simp only [TyS] at h
    cases hM : M[i]? with
    | none => simp [hM] at h
    | some cc =>
      have q := w.cl.get hl hM
      cases cc with
      | dead => simp [hM] at h
      | lst ds =>
        simp only [hM] at h; subst h
        obtain ⟨_, vs, h1, _⟩ := q
        exact .base (.lst h1)
      | mix ds =>
        simp only [hM] at h; subst h
        obtain ⟨_, vs, h1, _⟩ := q
        exact .base (.lst h1)
      | dic ds =>
        simp only [hM] at h; subst h
        obtain ⟨_, vs, h1, _⟩ := q
        exact .base (.dK h1)
      | ins C fs =>
        simp only [hM] at h
        obtain ⟨rfl, c⟩ := h
        obtain ⟨_, dx, fv, h1, _⟩ := q
        exact .base (.ins h1 c.cl c.ha c.hn c.htk c.hm)
theorem we_isI (hm : X.mg "isinstance" = none) (hg : Gl X "isinstance") (h : WA X B ex [a, b] (fun xs M1 => ∃ x c cv t k, xs = [x, .raw c] ∧ ClsV c cv ∧ TyS X.K M1 x t ∧ PySem.W.kitOne X.K t cv = some k ∧ Q (.dat (.bl k)) M1) ss M)
    (he : starEach [a, b] X.env = (false, eval a X.env) :: starEach [b] X.env := by rfl) (hpl : (backTo pos (starEach [b] X.env)).any (·.1) = false := by rfl) : WE X B ex (.Call (.Name "isinstance" p) [a, b] [] pos) Q ss M := by
  refine we_cb (f := fun M1 xs Q => ∃ x c cv t k, xs = [x, .raw c] ∧ ClsV c cv ∧ TyS X.K M1 x t ∧ PySem.W.kitOne X.K t cv = some k ∧ Q (.dat (.bl k)) M1) call_isi (fun G A H M xs vs Q Kq w r h k => ?_) hm (by decide +kernel) hg h (he := he) (hpl := hpl)
  obtain ⟨x, c, cv, t, kb, rfl, hc, ht, hk, q⟩ := h
  cases r with
  | cons s r =>
    cases r with
    | cons s' r =>
      cases r
      cases s'
      exact ⟨_, _, t, cv, kb, rfl, hc, ht.x w s, hk, k.flat .refl w (.bl kb) q⟩
theorem svs_raws {K : PySem.W.Frag} {G : Hp} {A : List Addr} : ∀ {vs cs : List V}, Svs K G A vs (cs.map .raw) → vs = cs
  | [], [], _ => rfl
  | _, c :: cs, h => by
    cases h with
    | cons s r =>
      cases s
      rw [svs_raws r]
  | _ :: _, [], h => by cases h
/-- isinstance(x, (C, D, ..)) -/
theorem we_isT {j : Nat} (hm : X.mg "isinstance" = none) (hg : Gl X "isinstance") (h : WE X B ex a (fun x M1 => WA X B ex es (fun ys M2 => ∃ cs us t k, ys = cs.map .raw ∧ cs.length ≤ sizeLine ∧ Paired ClsV cs us ∧ TyS X.K M2 x t ∧ PySem.W.kitAny X.K t us = some k ∧ Q (.dat (.bl k)) M2) ss M1) ss M)
    (he : starEach [a, .Tuple es j p2] X.env = (false, eval a X.env) :: starEach [.Tuple es j p2] X.env := by rfl) (he2 : starEach [.Tuple es j p2] X.env = (false, eval (.Tuple es j p2) X.env) :: starEach [] X.env := by rfl) (hpl : (backTo pos (starEach [.Tuple es j p2] X.env)).any (·.1) = false := by rfl) : WE X B ex (.Call (.Name "isinstance" p) [a, .Tuple es j p2] [] pos) Q ss M := .mk fun ck G A H σ w sl Kq k => by
  refine te_of (pe_callB call_isiT hg hm (by decide +kernel) (pa_cons pe_self (pa_cons (pe_tup pa_self) pa_nil he2) he) (by decide) (by decide) he hpl) ?_
  refine h ck G A H σ w sl _ fun v x G1 A1 M1 H1 e1 w1 s1 h1 => ?_
  refine h1 ck G1 A1 H1 σ w1 (sl.mono e1) _ fun vs ys G2 A2 M2 H2 e2 w2 s2 h2 => ?_
  obtain ⟨cs, us, t, kb, rfl, hz, hp, ht, hk, q⟩ := h2
  obtain rfl := svs_raws s2
  refine ⟨hz, fun q0 hq => ?_⟩
  have wg := w2.grow (o := .tup vs) hq
  exact ⟨v, q0, vs, t, us, kb, rfl, upd_same, hp, ht.x wg (s1.mono e2), hk, k _ (.dat (.bl kb)) G2 A2 M2 _ (e1.trans e2) wg (Rep.bl kb) q⟩
/-- the type of what data is, as == looks at it -/
theorem looks_ins {H : Hp} {s : Shared} {σ : L2.St} {pins : List (Addr × Obj)} {y : V} {v : Value} {C : Addr} {fs : List (Str × D)} (I : Inv X pins σ H s) (ry : RelV y v) (r : Rep X.K H y (.ins C fs)) : PySem.W.Looks (model X.prog X.w) s.heap (typeOf v) (.ref C) := by
  cases r with
  | ins ha ra =>
    cases ry
    obtain ⟨mA, J, _⟩ := ins_get I.hok ha
    obtain ⟨od, J, _⟩ := J.look
    exact J.type
end
end Mb

/-! Mb, part 20: C() without an own __init__. -/
namespace Mb
open PySem L2 PyProof.Rows
structure Mk00 (K : PySem.W.Frag) (C : Addr) : Prop where
  makes : PySem.W.makesIn K C = true
  init : PySem.W.findIn K (.ref C) "__init__" = some (some (.builtin "object.__init__"))
  kp : PySem.W.keepIn K (.ref C) = true
section
variable {X : Cx} {B : Base} {ex : XD} {ss : Sst} {M : Mem} {a b c e tg o : Expr} {es : List Expr} {pos p p' apos p2 : Pos} {Q : SV → Mem → Prop} {QB : Bool → Mem → Prop} {n : Nat}
theorem we_mk00 {C : Addr} {x : Str} (Mk0 : Mk00 X.K C) (hm : X.mg x = some (.ref C)) (hg : Gl X x) (q : Q (.dat (.ins C [])) M) (hdb : (x == ("__debug__" : Str)) = false := by decide) : WE X B ex (.Call (.Name x p) [] [] pos) Q ss M := .mk fun ck G A H σ w sl Kq k pins s I => by
  refine wpAny_Call_Name_kw (ld_glob I hg hm ?_ hdb)
  refine PySem.W.callWith_K0 I.kIn Mk0.kp (wpAny_call (make_map0 I.kIn Mk0.makes Mk0.init (fun self => PySem.W.Looks.of_pure (PySem.W.oi_bind self)) ?_))
  have I2 := Inv.made (C := C) I
  have hx : H (s.heap.objs.size + 1) = none := I.hok.fresh (Nat.le_succ _)
  have hdx : H s.heap.objs.size = none := I.hok.fresh (Nat.le_refl _)
  have Y := PySem.W.makes_of (M := model X.prog X.w) I.kIn Mk0.makes
  obtain ⟨mA, J, _⟩ := ins_get I2.hok (a := s.heap.objs.size + 1) upd_same
  obtain ⟨od, J, _⟩ := J.look
  have t2 : PySem.W.Looks (model X.prog X.w) ((s.heap.push PySem.W.emptyDict).push (PySem.W.instObj C s.heap.objs.size)) (isInstance (.ref (s.heap.objs.size + 1)) (.type "object")) true := J.type.andThen (Y.top.keeps fun b o e => Heap.get?_push_of_some _ (Heap.get?_push_of_some _ e))
  refine codeAny_call_builtin PySem.W.oi_plain PySem.W.entry_oi (@PySem.W.check_slot (model X.prog X.w) _ _ _ "object.__init__" "object" "__init__" (.ref (s.heap.objs.size + 1)) [] [] _ PySem.W.oi_kind PySem.W.oi_split t2 (PySem.W.oi_args (.ref (s.heap.objs.size + 1))) ?_)
  rw [PySem.W.oi_run]
  refine wpAny_pure (And.intro rfl ⟨.ref (s.heap.objs.size + 1), _, I2, rfl, ?_⟩)
  have wg := w.grow (o := .own (s.heap.objs.size + 1)) hdx
  have hx2 : (upd H s.heap.objs.size (.own (s.heap.objs.size + 1))) (s.heap.objs.size + 1) = none := by rw [upd_ne (Nat.succ_ne_self _)]; exact hx
  obtain ⟨w2, e2⟩ := wg.newD (o := .ins C s.heap.objs.size []) hx2
  exact k _ (.dat (.ins C [])) _ A M _ e2 w2 (Rep.ins upd_same .nil) q
end
end Mb

/-! Mb, part 21: comprehensions over what a list of anything is made into. -/
namespace Mb
open PySem L2 PyProof.Rows
structure int2S (g : Int → Int → Int) (M : Mem) (xs : List SV) (Q : SV → Mem → Prop) : Prop where
  run : int2 g M xs Q
theorem i2 {g : Int → Int → Int} {M : Mem} {Q : SV → Mem → Prop} {i j : Int} (h : Q (.dat (.int (g i j))) M) : int2S g M [.dat (.int i), .dat (.int j)] Q := ⟨h⟩
section
variable {X : Cx} {B : Base} {ex : XD} {ss : Sst} {M : Mem} {a b : Expr} {pos p : Pos} {Q : SV → Mem → Prop}
theorem we_max2S (hc : X.calm = true) (hm : X.mg "max" = none) (hg : Gl X "max") (h : WA X B ex [a, b] (fun xs M1 => int2S (fun i j => if j > i then j else i) M1 xs Q) ss M)
    (he : starEach [a, b] X.env = (false, eval a X.env) :: starEach [b] X.env := by rfl) (hpl : (backTo pos (starEach [b] X.env)).any (·.1) = false := by rfl) : WE X B ex (.Call (.Name "max" p) [a, b] [] pos) Q ss M :=
  we_max2 hc hm hg (.mk fun ck G A H σ w sl Kq k => h ck G A H σ w sl Kq fun vs xs G' A' M' H' e w' s q => k vs xs G' A' M' H' e w' s q.run) he hpl
theorem we_min2S (hc : X.calm = true) (hm : X.mg "min" = none) (hg : Gl X "min") (h : WA X B ex [a, b] (fun xs M1 => int2S (fun i j => if j < i then j else i) M1 xs Q) ss M)
    (he : starEach [a, b] X.env = (false, eval a X.env) :: starEach [b] X.env := by rfl) (hpl : (backTo pos (starEach [b] X.env)).any (·.1) = false := by rfl) : WE X B ex (.Call (.Name "min" p) [a, b] [] pos) Q ss M :=
  we_min2 hc hm hg (.mk fun ck G A H σ w sl Kq k => h ck G A H σ w sl Kq fun vs xs G' A' M' H' e w' s q => k vs xs G' A' M' H' e w' s q.run) he hpl
end
theorem map_get {α : Type} {g : α → D} {l : List α} {i : Nat} {d : D} (h : (l.map g)[i]? = some d) : ∃ x, l[i]? = some x ∧ d = g x := by
  rw [List.getElem?_map] at h
  cases e : l[i]? with
  | none => rw [e] at h; cases h
  | some z => rw [e] at h; exact ⟨z, rfl, (Option.some.inj h).symm⟩
section
variable {X : Cx} {B : Base} {ex : XD} {ss : Sst} {M : Mem} {a b e elt : Expr} {es : List Expr} {pos : Pos} {Q : SV → Mem → Prop} {QB : Bool → Mem → Prop} {scope : Scope} {α : Type}
theorem lcq_mapA {j : Nat} {l : List α} {g : α → D} (f : α → D) (hl : l.length ≤ sizeLine)
    (ht : ∀ (i : Nat) (x : α), l[i]? = some x → ∀ (s : Shared) (H : Hp) (C : Addr) (cl : List (Str × Addr)) (fp : List Addr) (B : Base), B.A.length = M.length → WE (Blk X scope s H C cl fp) B exF elt (fun y M4 => y = .dat (f x) ∧ M4 = M) ((wipeD ss [j]).set j (some (.dat (g x)))) M)
    (q : Q (.dat (.lst (l.map f))) M) : ∃ I, I 0 [] M ∧ LcQ X scope elt [] (tg1 j) [j] (l.map g) I Q ss := by
  refine ⟨fun i acc M' => i ≤ l.length ∧ acc = (l.take i).map f ∧ M' = M, ⟨Nat.zero_le _, rfl, rfl⟩, ?_, ?_⟩
  · rintro i d acc M' hd ⟨hi, rfl, rfl⟩
    obtain ⟨x, hx, rfl⟩ := map_get hd
    intro s H C cl fp B hB
    have hlt := (List.getElem?_eq_some_iff.mp hx).1
    refine (ht i x hx s H C cl fp B hB).mono ?_
    rintro y M4 ⟨rfl, rfl⟩
    refine ⟨_, rfl, ?_, hlt, map_take_succ f hx, rfl⟩
    rw [List.length_map, List.length_take]
    omega
  · rintro acc M' ⟨_, rfl, rfl⟩
    rw [List.length_map, List.take_length]
    exact q
/-- a comprehension whose turns draw: the cells go on, each item has a property -/
theorem lcq_draw {j : Nat} {ds : List D} (P : D → Prop) (I : Mem → Prop) (hl : ds.length ≤ sizeLine) (h0 : I M)
    (ht : ∀ (i : Nat) (d : D) (M : Mem), ds[i]? = some d → I M → ∀ (s : Shared) (H : Hp) (C : Addr) (cl : List (Str × Addr)) (fp : List Addr) (B : Base), B.A.length = M.length → WE (Blk X scope s H C cl fp) B exF elt (fun y M4 => ∃ d, y = .dat d ∧ P d ∧ I M4) ((wipeD ss [j]).set j (some (.dat d))) M)
    (q : ∀ acc M, acc.length = ds.length → (∀ d ∈ acc, P d) → I M → Q (.dat (.lst acc)) M) : ∃ I, I 0 [] M ∧ LcQ X scope elt [] (tg1 j) [j] ds I Q ss := by
  refine ⟨fun i acc M' => acc.length = i ∧ (∀ d ∈ acc, P d) ∧ I M', ⟨rfl, (fun _ m => (by cases m)), h0⟩, ?_, ?_⟩
  · rintro i d acc M' hd ⟨hi, ha, hI⟩
    intro s H C cl fp B hB
    have hlt := (List.getElem?_eq_some_iff.mp hd).1
    refine (ht i d M' hd hI s H C cl fp B hB).mono ?_
    rintro y M4 ⟨z, rfl, hp, hI2⟩
    refine ⟨z, rfl, by omega, ?_, ?_, hI2⟩
    · rw [List.length_append]; simp; omega
    · intro d m
      rcases List.mem_append.mp m with m | m
      · exact ha d m
      · rw [List.mem_singleton] at m; subst m; exact hp
  · rintro acc M' ⟨h1, h2, h3⟩
    exact q acc M' h1 h2 h3
end
end Mb

/-! Mb, part 22: in of a list of ours; counting. -/
namespace Mb
open PySem L2 PyProof.Rows
section
variable {M : Mem} {QB : Bool → Mem → Prop}
theorem inLc {d : D} {i : Nat} {ds : List D} (e : M[i]? = some (.lst ds)) (h1 : D.pl 60 d = true) (h2 : ds.all (D.pl 60) = true) (h : QB (ds.any fun z => deq z d) M) : in2t false M (.dat d) (.cel i) QB := by
  refine ⟨w1d (w1c e ⟨?_⟩)⟩
  unfold inD0
  cases d <;> first | exact ⟨⟨h1, h2⟩, h⟩ | cases h1
theorem niLc {d : D} {i : Nat} {ds : List D} (e : M[i]? = some (.lst ds)) (h1 : D.pl 60 d = true) (h2 : ds.all (D.pl 60) = true) (h : QB (!(ds.any fun z => deq z d)) M) : in2t true M (.dat d) (.cel i) QB := by
  refine ⟨w1d (w1c e ⟨?_⟩)⟩
  unfold inD0
  cases d <;> first | exact ⟨⟨h1, h2⟩, h⟩ | cases h1
theorem niLs {d : D} {ds : List D} (h1 : D.pl 60 d = true) (h2 : ds.all (D.pl 60) = true) (h : QB (!(ds.any fun z => deq z d)) M) : in2t true M (.dat d) (.dat (.lst ds)) QB := by
  refine ⟨w1d (w1d ⟨?_⟩)⟩
  unfold inD0
  cases d <;> first | exact ⟨⟨h1, h2⟩, h⟩ | cases h1
end
theorem strs_pl (zs : List Str) : (zs.map D.str).all (D.pl 60) = true := by
  induction zs with
  | nil => rfl
  | cons z zs ih => rw [List.map_cons, List.all_cons, ih]; rfl
theorem strs_any (zs : List Str) (z : Str) : ((zs.map D.str).any fun y => deq y (.str z)) = decide (z ∈ zs) := by
  induction zs with
  | nil => rfl
  | cons y zs ih =>
    rw [List.map_cons, List.any_cons, ih, deq_str]
    by_cases c : y = z
    · subst c; simp
    · have : decide (y = z) = false := decide_eq_false c
      rw [this, Bool.false_or]
      by_cases c2 : z ∈ zs
      · simp [c2]
      · simp [c2, Ne.symm c]
theorem nodup_le {α : Type} [DecidableEq α] : ∀ {l zs : List α}, l.Nodup → (∀ x ∈ l, x ∈ zs) → l.length ≤ zs.length
  | [], _, _, _ => Nat.zero_le _
  | x :: l, zs, nd, h => by
    rw [List.nodup_cons] at nd
    have hx := h x (List.mem_cons_self ..)
    have := nodup_le (l := l) (zs := zs.erase x) nd.2 fun y hy => by
      refine (List.mem_erase_of_ne ?_).mpr (h y (List.mem_cons_of_mem _ hy))
      intro e; subst e; exact nd.1 hy
    rw [List.length_erase_of_mem hx] at this
    have hp : 0 < zs.length := List.length_pos_of_mem hx
    rw [List.length_cons]
    omega
theorem atI_take {α : Type} {l : List α} {n : Int} {c : α} {k : Nat} (h : atI l n = some c) (h0 : 0 ≤ n) (h1 : n < k) : c ∈ l.take k := by
  obtain ⟨m, rfl⟩ := Int.eq_ofNat_of_zero_le h0
  unfold atI ixN at h
  rw [if_pos h0] at h
  split at h
  · rw [Option.bind_some, Int.toNat_natCast] at h
    refine List.mem_of_getElem? (i := m) ?_
    rw [List.getElem?_take, if_pos (by omega)]
    exact h
  · cases h
structure IsC0 (K : PySem.W.Frag) (C : Addr) : Prop where
  ha : PySem.W.findIn K (.ref C) "__class__" = some (some (.builtin "object.__class__"))
  hn : PySem.W.specialIn K (.builtin "object.__class__") "__get__" = some (some (.builtin "getset_descriptor.__get__"))
  htk : PySem.W.takesIn K (.builtin "object.__class__") = some true
  hm : PySem.W.mroIn K C (.type "object") = some true
theorem IsC0.is {K : PySem.W.Frag} {C : Addr} (h : IsC0 K C) (cl : Cls K C) : IsC K C := ⟨cl, h.ha, h.hn, h.htk, h.hm⟩
theorem wb_cut {X : Cx} {B : Base} {ex : XD} {ss : Sst} {M : Mem} {N : Nd} {st : Stmt} {sts : List Stmt} (J : Sst → Mem → Prop) (h : WS X B ex st { N with nx := J } ss M) (h2 : ∀ ss' M', J ss' M' → WB X B ex sts N ss' M') : WB X B ex (st :: sts) N ss M := .mk fun ck G A H σ w sl E k => by
  refine tb_of (pss_cons ps_self pb_self) ?_
  refine h ck G A H σ w sl _ ⟨fun σ' ss' G' A' M' H' s' w' sl' q => ?_, k.rt, k.bk, k.ct⟩
  exact h2 ss' M' q ck G' A' H' σ' w' sl' E (k.mono s')
end Mb

/-! Mb, part 23: cells handed on by choice: a def, a making that gets some of our lists. -/
namespace Mb
open PySem L2 PyProof.Rows
theorem Cells.of_get {K : PySem.W.Frag} {G : Hp} {A : List Addr} {H : Hp} : ∀ {as : List Addr} {cs : List Cell}, as.length = cs.length → (∀ (j : Nat) a c, as[j]? = some a → cs[j]? = some c → CellOk K G A H a c) → Cells K G A H as cs
  | [], [], _, _ => .nil
  | [], _ :: _, h, _ => by cases h
  | _ :: _, [], h, _ => by cases h
  | a :: as, c :: cs, h, q => .cons (q 0 a c rfl rfl) (Cells.of_get (by simpa using h) fun j a c h1 h2 => q (j + 1) a c (by simpa using h1) (by simpa using h2))
/-- the cells at sel become cs -/
def putAll (M : Mem) : List Nat → List Cell → Mem
  | i :: sel, c :: cs => putAll (M.set i c) sel cs
  | _, _ => M
theorem putAll_len : ∀ {sel : List Nat} {cs : List Cell} {M : Mem}, (putAll M sel cs).length = M.length
  | [], [], M => rfl
  | [], _ :: _, M => rfl
  | _ :: _, [], M => rfl
  | i :: sel, c :: cs, M => by
    show (putAll (M.set i c) sel cs).length = _
    rw [putAll_len, List.length_set]
theorem putAll_out {j : Nat} : ∀ {sel : List Nat} {cs : List Cell} {M : Mem}, j ∉ sel → (putAll M sel cs)[j]? = M[j]?
  | [], [], M, _ => rfl
  | [], _ :: _, M, _ => rfl
  | _ :: _, [], M, _ => rfl
  | i :: sel, c :: cs, M, h => by
    rw [List.mem_cons, not_or] at h
    show (putAll (M.set i c) sel cs)[j]? = _
    rw [putAll_out h.2, List.getElem?_set_ne (Ne.symm h.1)]
theorem putAll_in {j k : Nat} {c : Cell} : ∀ {sel : List Nat} {cs : List Cell} {M : Mem}, sel.Nodup → sel.length = cs.length → sel[k]? = some j → cs[k]? = some c → j < M.length → (putAll M sel cs)[j]? = some c := by
  intro sel
  induction sel generalizing k with
  | nil => intro cs M _ _ h; simp at h
  | cons i sel ih =>
    intro cs M nd hl h1 h2 hj
    cases cs with
    | nil => cases hl
    | cons d cs =>
      rw [List.nodup_cons] at nd
      show (putAll (M.set i d) sel cs)[j]? = _
      cases k with
      | zero =>
        simp at h1 h2
        subst h1; subst h2
        rw [putAll_out nd.1]
        exact List.getElem?_set_self hj
      | succ k => exact ih nd.2 (by simpa using hl) (by simpa using h1) (by simpa using h2) (by rw [List.length_set]; exact hj)
/-- a callee that was handed the cells at sel (and x, new, ahead) comes back -/
theorem Wd.backSel {K : PySem.W.Frag} {B : Base} {G : Hp} {A : List Addr} {M : List Cell} {H : Hp} (w : Wd K B G A M H) {sel : List Nat} {S : List Addr} (hS : ∀ (k : Nat) i, sel[k]? = some i → ∃ a, A[i]? = some a ∧ S[k]? = some a) (hl : S.length = sel.length) (nds : sel.Nodup)
    {pre : List Addr} {H2 : Hp} (hp : ∀ b ∈ pre, H b = Option.none) (s2 : Same H H2) {G' : Hp} {A' : List Addr} {M' : List Cell} {H' : Hp} (w' : Wd K ⟨G, pre ++ S, H2⟩ G' A' M' H') (hM : M'.all (Cell.lt 0) = true) :
    Wd K B G' A (putAll M sel ((M'.drop pre.length).take sel.length)) H' ∧ Ext G A G' A := by
  obtain ⟨more, e⟩ := w'.pre
  have e : A' = pre ++ S ++ more := e
  subst e
  have hA := w.len
  have hlen := w'.len
  rw [List.length_append, List.length_append] at hlen
  have memS : ∀ b, b ∈ S → ∃ i, i ∈ sel ∧ A[i]? = some b := fun b m => by
    obtain ⟨k, hk⟩ := List.getElem?_of_mem m
    have hk2 : k < sel.length := by rw [← hl]; exact (List.getElem?_eq_some_iff.mp hk).1
    obtain ⟨a, h1, h2⟩ := hS k sel[k] (List.getElem?_eq_getElem hk2)
    rw [hk] at h2
    cases h2
    exact ⟨sel[k], List.getElem_mem hk2, h1⟩
  have keep : ∀ b o, H b = some o → b ∉ S → H' b = some o := fun b o e n => w'.fr b o (s2 _ _ e) (by
    show b ∉ pre ++ S
    rw [List.mem_append, not_or]
    refine ⟨fun m => ?_, n⟩
    rw [hp b m] at e; cases e)
  have sg : Ext G A G' A := ⟨w'.gg, [], by simp⟩
  refine ⟨⟨w.gg.trans w'.gg, w'.gh, fun b o e nb => ?_, fun b o e => ?_, w.nd, w.pre, fun b m => ?_, w.an, ?_⟩, sg⟩
  · refine keep b o (w.fr b o e nb) fun m => ?_
    obtain ⟨i, _, hi⟩ := memS b m
    rcases w.an b (List.mem_of_getElem? hi) with q | q
    · exact nb q
    · rw [q] at e; cases e
  · rcases w'.fresh b o e with q | q
    · exact w.fresh b o q
    · have q : H2 b = Option.none := q
      exact .inr (w.none (s2.free q)).1
  · by_cases c : b ∈ S
    · exact w'.there b (List.mem_append_left _ (List.mem_append_right _ c))
    · obtain ⟨o, e⟩ := w.there b m
      exact ⟨o, keep b o e c⟩
  · refine Cells.of_get (by rw [putAll_len]; exact hA) fun j a c h1 h2 => ?_
    have hj : j < M.length := by rw [← hA]; exact (List.getElem?_eq_some_iff.mp h1).1
    have hcs : sel.length = ((M'.drop pre.length).take sel.length).length := by
      rw [List.length_take, List.length_drop]
      omega
    by_cases hm : j ∈ sel
    · obtain ⟨k, hk⟩ := List.getElem?_of_mem hm
      have hk2 : k < sel.length := (List.getElem?_eq_some_iff.mp hk).1
      have hk3 : k < ((M'.drop pre.length).take sel.length).length := by omega
      have q := putAll_in (M := M) nds hcs hk (List.getElem?_eq_getElem hk3) hj
      rw [h2] at q
      cases q
      obtain ⟨a', e1, e2⟩ := hS k j hk
      rw [h1] at e1
      cases e1
      have g1 : (pre ++ S ++ more)[pre.length + k]? = some a := by
        rw [List.append_assoc, List.getElem?_append_right (by omega), Nat.add_sub_cancel_left, List.getElem?_append_left (by omega)]
        exact e2
      have g2 : M'[pre.length + k]? = some (((M'.drop pre.length).take sel.length)[k]) := by
        rw [List.getElem_take, List.getElem_drop, List.getElem?_eq_getElem]
      have q2 := (w'.cl.get g1 g2).cut (k := 0) (List.all_eq_true.mp hM _ (List.mem_of_getElem? g2))
      exact q2.keep ⟨fun _ _ e => e, A, by simp⟩ (fun g => g) fun _ e => e
    · rw [putAll_out hm] at h2
      have naS : a ∉ S := fun m => by
        obtain ⟨i, hi, ei⟩ := memS a m
        exact hm (by rw [nd_ix w.nd h1 ei]; exact hi)
      refine (w.cl.get h1 h2).keep sg (fun g => ?_) fun o e => keep a o e naS
      cases e : G' a with
      | none => rfl
      | some o =>
        rcases w'.fresh a o e with q | q
        · have q : G a = some o := q
          rw [g] at q; cases q
        · obtain ⟨o', e'⟩ := w.there a (List.mem_of_getElem? h1)
          have q : H2 a = Option.none := q
          rw [s2 _ _ e'] at q; cases q
end Mb

/-! Mb, part 24: the rules for calls that hand some cells on. -/
namespace Mb
open PySem L2 PyProof.Rows
def selOk (sel : List Nat) (xs : List SV) (M : Mem) : Bool := (xs.all fun x => match x with | .cel i => sel.contains i | .tup _ => false | _ => true) && (sel.all fun i => match M[i]? with | some c => c.lt 0 | none => false) && decide sel.Nodup
def renS (sel : List Nat) (off : Nat) : SV → SV
  | .cel i => .cel (off + sel.idxOf i)
  | x => x
def selM (sel : List Nat) (M : Mem) : Mem := sel.map fun i => M.getD i .dead
def selA (sel : List Nat) (A : List Addr) : List Addr := sel.map fun i => A.getD i 0
structure SelW (sel : List Nat) (A : List Addr) (M : Mem) : Prop where
  at_ : ∀ (k : Nat) i, sel[k]? = some i → ∃ a c, A[i]? = some a ∧ (selA sel A)[k]? = some a ∧ M[i]? = some c ∧ (selM sel M)[k]? = some c ∧ c.lt 0 = true
  nd : sel.Nodup
  xs : ∀ {K : PySem.W.Frag} {G : Hp} {pre : List Addr} {vs : List V} {xs : List SV}, (xs.all fun x => match x with | .cel i => sel.contains i | .tup _ => false | _ => true) = true → Svs K G A vs xs → Svs K G (pre ++ selA sel A) vs (xs.map (renS sel pre.length))
theorem selW {K : PySem.W.Frag} {B : Base} {G : Hp} {A : List Addr} {M : Mem} {H : Hp} {sel : List Nat} {ys : List SV} (w : Wd K B G A M H) (h : selOk sel ys M = true) : SelW sel A M := by
  unfold selOk at h
  rw [Bool.and_eq_true, Bool.and_eq_true] at h
  obtain ⟨⟨_, h2⟩, h3⟩ := h
  have hA := w.len
  have at1 : ∀ (k : Nat) i, sel[k]? = some i → ∃ a c, A[i]? = some a ∧ (selA sel A)[k]? = some a ∧ M[i]? = some c ∧ (selM sel M)[k]? = some c ∧ c.lt 0 = true := fun k i hk => by
    have q := List.all_eq_true.mp h2 i (List.mem_of_getElem? hk)
    cases e : M[i]? with
    | none => rw [e] at q; cases q
    | some c =>
      rw [e] at q
      have hi : i < A.length := by rw [hA]; exact (List.getElem?_eq_some_iff.mp e).1
      refine ⟨A[i], c, List.getElem?_eq_getElem hi, ?_, rfl, ?_, q⟩
      · unfold selA
        rw [List.getElem?_map, hk]
        show some (A.getD i 0) = _
        rw [List.getD_eq_getElem?_getD, List.getElem?_eq_getElem hi]
        rfl
      · unfold selM
        rw [List.getElem?_map, hk]
        show some (M.getD i .dead) = _
        rw [List.getD_eq_getElem?_getD, e]
        rfl
  refine ⟨at1, of_decide_eq_true h3, fun {K G pre vs xs} hx r => ?_⟩
  induction r with
  | nil => exact .nil
  | @cons v vs x xs s r ih =>
    rw [List.all_cons, Bool.and_eq_true] at hx
    refine .cons ?_ (ih hx.2)
    cases x with
    | dat d => exact s
    | raw u => exact s
    | exc u v w => exact s
    | tup zs =>
      obtain ⟨a, us, q1, q2, q3⟩ := s
      exact absurd hx.1 Bool.false_ne_true
    | cel i =>
      obtain ⟨a, rfl, ha⟩ := s
      have hm : i ∈ sel := by simpa using hx.1
      have hlt := List.idxOf_lt_length_of_mem hm
      have hk : sel[sel.idxOf i]? = some i := by rw [List.getElem?_eq_getElem hlt, List.getElem_idxOf hlt]
      obtain ⟨a', c, e1, e2, _⟩ := at1 _ _ hk
      rw [ha] at e1
      cases e1
      refine ⟨a, rfl, ?_⟩
      rw [List.getElem?_append_right (by omega), Nat.add_sub_cancel_left]
      exact e2
theorem selA_len {sel : List Nat} {A : List Addr} : (selA sel A).length = sel.length := by unfold selA; rw [List.length_map]
theorem selM_len {sel : List Nat} {M : Mem} : (selM sel M).length = sel.length := by unfold selM; rw [List.length_map]
theorem SelW.hS {sel : List Nat} {A : List Addr} {M : Mem} (s : SelW sel A M) : ∀ (k : Nat) i, sel[k]? = some i → ∃ a, A[i]? = some a ∧ (selA sel A)[k]? = some a := fun k i h => by
  obtain ⟨a, c, e1, e2, _⟩ := s.at_ k i h
  exact ⟨a, e1, e2⟩
theorem SelW.mem {sel : List Nat} {A : List Addr} {M : Mem} (s : SelW sel A M) {b : Addr} (m : b ∈ selA sel A) : b ∈ A := by
  obtain ⟨k, hk⟩ := List.getElem?_of_mem m
  have hk2 : k < sel.length := by rw [← selA_len (sel := sel) (A := A)]; exact (List.getElem?_eq_some_iff.mp hk).1
  obtain ⟨a, e1, e2⟩ := s.hS k sel[k] (List.getElem?_eq_getElem hk2)
  rw [hk] at e2
  cases e2
  exact List.mem_of_getElem? e1
theorem SelW.nodup {K : PySem.W.Frag} {B : Base} {G : Hp} {H : Hp} {sel : List Nat} {A : List Addr} {M : Mem} (w : Wd K B G A M H) (s : SelW sel A M) : (selA sel A).Nodup := by
  refine List.pairwise_iff_getElem.mpr fun i j hi hj hij e => ?_
  rw [selA_len] at hi hj
  obtain ⟨a, e1, e2⟩ := s.hS i sel[i] (List.getElem?_eq_getElem hi)
  obtain ⟨b, e3, e4⟩ := s.hS j sel[j] (List.getElem?_eq_getElem hj)
  rw [List.getElem?_eq_getElem (by rw [selA_len]; exact hi)] at e2
  rw [List.getElem?_eq_getElem (by rw [selA_len]; exact hj)] at e4
  rw [Option.some.inj e2, Option.some.inj e4] at e
  subst e
  have q := nd_ix w.nd e1 e3
  have q2 := (List.getElem_inj s.nd).mp q
  omega
theorem SelW.cells {K : PySem.W.Frag} {B : Base} {G : Hp} {H H2 : Hp} {sel : List Nat} {A A2 : List Addr} {M : Mem} (w : Wd K B G A M H) (s : SelW sel A M) (s2 : Same H H2) : Cells K G A2 H2 (selA sel A) (selM sel M) := by
  refine Cells.of_get (by rw [selA_len, selM_len]) fun k a c h1 h2 => ?_
  have hk : k < sel.length := by rw [← selA_len (sel := sel) (A := A)]; exact (List.getElem?_eq_some_iff.mp h1).1
  obtain ⟨a', c', e1, e2, e3, e4, e5⟩ := s.at_ k sel[k] (List.getElem?_eq_getElem hk)
  rw [h1] at e2
  rw [h2] at e4
  cases e2
  cases e4
  have q := (w.cl.get e1 e3).cut (k := 0) e5
  exact q.keep ⟨fun _ _ e => e, A2, by simp⟩ (fun g => g) fun o e => s2 _ _ e
section
variable {X : Cx} {B : Base} {ex : XD} {ss : Sst} {M : Mem} {a b c e tg o : Expr} {es : List Expr} {pos p p' apos : Pos} {Q : SV → Mem → Prop}
structure MakeS (sel : List Nat) (S : SpD) (C : Addr) (xs : List SV) (M : Mem) (Q : SV → Mem → Prop) (ex : XD) (ss : Sst) : Prop where
  ok : selOk sel xs M = true
  run : S (.cel 0 :: xs.map (renS sel 1)) (.ins C [] :: selM sel M) (fun y M' => y = .dat .non ∧ M'.all (Cell.lt 0) = true ∧ ∃ fs ds, M'[0]? = some (.ins C fs) ∧ fdats fs = some ds ∧ Q (.dat (.ins C ds)) (putAll M sel ((M'.drop 1).take sel.length))) (fun D fs M' => M'.all (Cell.lt 0) = true ∧ ex D fs ss (putAll M sel ((M'.drop 1).take sel.length)))
theorem make_spS {sel : List Nat} {S : SpD} {C : Addr} {xs : List SV} {G : Hp} {A : List Addr} {H : Hp} {vs : List V} {σ : L2.St} {Kq : VK} (w : Wd X.K B G A M H) (sl : Sl X.K G A σ ss) (r : Svs X.K G A vs xs) (h : MakeS sel S C xs M Q ex ss) (k : VPost X.K B G A Q Kq) :
    ∀ x dx, H x = none → H dx = none → dx ≠ x → spOf X.K (1 + sel.length) S (.ref x :: vs) (upd (upd H dx (.own x)) x (.ins C dx [])) (fun v H2 => v = .non ∧ Kq (.ref x) H2) (fun cls d H' => XW X.K B ex cls d σ H') := fun x dx hx hdx ne => by
  have hc := h.ok
  have sw := selW w hc
  have hxs := hc
  unfold selOk at hxs
  rw [Bool.and_eq_true, Bool.and_eq_true] at hxs
  have hx2 : (upd H dx (.own x)) x = none := by rw [upd_ne (Ne.symm ne)]; exact hx
  have s2 : Same H (upd (upd H dx (.own x)) x (.ins C dx [])) := (same_upd hdx).trans (same_upd hx2)
  obtain ⟨hb, hA, hg⟩ := w.none hx
  have r2 := sw.xs (pre := [x]) hxs.1.1 r
  refine ⟨.cel 0 :: xs.map (renS sel 1), .ins C [] :: selM sel M, G, [x] ++ selA sel A, by rw [List.length_append, selA_len]; rfl, Wd.start (w.gh.trans s2) ?_ (fun b m => ?_) (.cons ⟨hg, dx, [], upd_same, .nil⟩ (sw.cells w s2)), .cons ⟨x, rfl, rfl⟩ r2, _, _, h.run, ?_, ?_⟩
  · refine List.nodup_cons.mpr ⟨fun m => hA (sw.mem m), sw.nodup w⟩
  · rcases List.mem_append.mp m with m | m
    · rw [List.mem_singleton] at m; subst m; exact ⟨_, upd_same⟩
    · obtain ⟨o, e⟩ := w.there b (sw.mem m)
      exact ⟨o, s2 _ _ e⟩
  · intro v y G' A' M' H' w' s' hl q
    obtain ⟨rfl, hM0, fs, ds, hM, hf, q⟩ := q
    cases s'
    refine ⟨rfl, ?_⟩
    obtain ⟨w2, e2⟩ := w.backSel sw.hS selA_len sw.nd (pre := [x]) (fun b m => by rw [List.mem_singleton] at m; subst m; exact hx) s2 w' hM0
    obtain ⟨more, eA⟩ := w'.pre
    have gx : A'[0]? = some x := by rw [eA]; rfl
    obtain ⟨gn, dx', fv, hv, rf⟩ := w'.cl.get gx hM
    obtain ⟨w3, e3⟩ := w2.adopt hv hA gn hb
    exact k _ (.dat _) _ A _ H' (e2.trans e3) w3 (Rep.ins upd_same ((rf.repF hf).mono e3.1)) q
  · intro D fs d G' A' M' H' w' xd hl q
    obtain ⟨hM0, q⟩ := q
    obtain ⟨w2, e2⟩ := w.backSel sw.hS selA_len sw.nd (pre := [x]) (fun b m => by rw [List.mem_singleton] at m; subst m; exact hx) s2 w' hM0
    exact ⟨D, fs, ss, G', A, _, rfl, xd, w2, sl.mono e2, q⟩
/-- C(..) that is handed some of our cells, too -/
theorem we_makeS {x : Str} {C f : Addr} {fd : FuncData} {ps : List Str} {k : Nat} {S : SpD} (sel : List Nat) (Mk0 : Mk X.K C f) (F : FnOk X.prog X.w X.K X.mg X.base (L2.CX X.prog X.w) k f fd ps (spOf X.K (1 + sel.length) S)) (hr : Room (k + 1) X.A) (hm : X.mg x = some (.ref C))
    (hb : Binds X.K fd ps []) (hg : Gl X x)
    (h : WA X B ex (e :: es) (fun xs M1 => MakeS sel S C xs M1 Q ex ss) ss M) (hdb : (x == ("__debug__" : Str)) = false := by decide) (he : starEach (e :: es) X.env = (false, eval e X.env) :: starEach es X.env := by rfl) (hpl : (backTo pos (starEach es X.env)).any (·.1) = false := by rfl) :
    WE X B ex (.Call (.Name x p) (e :: es) [] pos) Q ss M := .mk fun ck G A H σ w sl Kq kk pins s I => by
  refine wpAny_Call_Name_kw (ld_glob I hg hm ?_ hdb)
  have hO : taW X (e :: es) σ H (fun vs H1 => ∀ x dx, H1 x = none → H1 dx = none → dx ≠ x → spOf X.K (1 + sel.length) S (.ref x :: (vs ++ [])) (upd (upd H1 dx (.own x)) x (.ins C dx [])) (fun v H2 => v = .non ∧ Kq (.ref x) H2) (fun cls d H' => XW X.K B ex cls d σ H')) := by
    refine h ck G A H σ w sl _ fun vs xs G1 A1 M1 H1 e1 w1 s1 h1 => ?_
    rw [List.append_nil]
    exact make_spS w1 (sl.mono e1) s1 h1 fun v x G' A' M' H' e' => kk v x G' A' M' H' (e1.trans e')
  refine PySem.W.callWith_K (h₀ := X.base) I.ok.mod.kin Mk0.kp (thn (hO pos pins s I) fun us s1 ⟨vs, H1, I1, r, q⟩ => ⟨I1.kIn, ?_⟩) he hpl
  exact run_makeS Mk0 F hr hb .nil (ck.at σ) I1 r q
structure CallS (sel : List Nat) (S : SpD) (xs : List SV) (M : Mem) (Q : SV → Mem → Prop) (ex : XD) (ss : Sst) : Prop where
  ok : selOk sel xs M = true
  run : S (xs.map (renS sel 0)) (selM sel M) (fun x M' => (M'.all (Cell.lt 0) && x.lt 0) = true ∧ Q x (putAll M sel (M'.take sel.length))) (fun C fs M' => M'.all (Cell.lt 0) = true ∧ ex C fs ss (putAll M sel (M'.take sel.length)))
theorem call_spS {sel : List Nat} {S : SpD} {xs : List SV} {G : Hp} {A : List Addr} {H : Hp} {vs : List V} {σ : L2.St} {Kq : VK} (w : Wd X.K B G A M H) (sl : Sl X.K G A σ ss) (r : Svs X.K G A vs xs) (h : CallS sel S xs M Q ex ss) (k : VPost X.K B G A Q Kq) :
    spOf X.K sel.length S vs H Kq (fun cls d H' => XW X.K B ex cls d σ H') := by
  have hc := h.ok
  have sw := selW w hc
  have hxs := hc
  unfold selOk at hxs
  rw [Bool.and_eq_true, Bool.and_eq_true] at hxs
  have r2 := sw.xs (pre := []) hxs.1.1 r
  refine ⟨xs.map (renS sel 0), selM sel M, G, selA sel A, selA_len, Wd.start w.gh (sw.nodup w) (fun b m => w.there b (sw.mem m)) (sw.cells w (Same.refl _)), r2, _, _, h.run, ?_, ?_⟩
  · intro v y G' A' M' H' w' s' hl q
    obtain ⟨hM0, q⟩ := q
    rw [Bool.and_eq_true] at hM0
    obtain ⟨w2, e2⟩ := w.backSel (pre := []) (H2 := H) sw.hS selA_len sw.nd (fun b m => by cases m) (Same.refl _) w' hM0.1
    have s0 := s'.cut (k := 0) hM0.2
    rw [List.take_zero] at s0
    exact k v y G' A _ H' e2 w2 (s0.mono ⟨fun _ _ e => e, A, by simp⟩) q
  · intro D fs d G' A' M' H' w' xd hl q
    obtain ⟨hM0, q⟩ := q
    obtain ⟨w2, e2⟩ := w.backSel (pre := []) (H2 := H) sw.hS selA_len sw.nd (fun b m => by cases m) (Same.refl _) w' hM0
    exact ⟨D, fs, ss, G', A, _, rfl, xd, w2, sl.mono e2, q⟩
/-- f(..) that is handed some of our cells -/
theorem we_ownS {x : Str} {k : Nat} {S : SpD} (sel : List Nat) (F : Cal X.prog X.w X.K X.mg X.base x k sel.length S) (hr : Room k X.A) (hg : Gl X x) (h : WA X B ex (e :: es) (fun xs M1 => CallS sel S xs M1 Q ex ss) ss M)
    (hdb : (x == ("__debug__" : Str)) = false := by decide) (he : starEach (e :: es) X.env = (false, eval e X.env) :: starEach es X.env := by rfl) (hpl : (backTo pos (starEach es X.env)).any (·.1) = false := by rfl) : WE X B ex (.Call (.Name x p) (e :: es) [] pos) Q ss M := .mk fun ck G A H σ w sl Kq kk => by
  obtain ⟨f, fd, ps, F, hm, hk, hb⟩ := F
  refine te_of (pe_callSD (E := fun σ cls d H' => XW X.K B ex cls d σ H') (dvs := []) F hr hg hm hk hb .nil ck.at pa_self hdb he hpl) ?_
  refine h ck G A H σ w sl _ fun vs xs G1 A1 M1 H1 e1 w1 s1 h1 => ?_
  rw [List.append_nil]
  exact call_spS w1 (sl.mono e1) s1 h1 fun v x G' A' M' H' e' => kk v x G' A' M' H' (e1.trans e')
/-- a slice that will be changed -/
theorem we_sliceC {lo hi : Option Expr} {p2 : Pos} (h : WE X B ex e (fun x M1 => WO X B ex lo (fun l M2 => WO X B ex hi (fun u M3 => with1 M3 x fun d => ∃ ds, d = .lst ds ∧ Q (.cel M3.length) (M3 ++ [.lst (cutD ds l u)])) ss M2) ss M1) ss M) : WE X B ex (.Subscript e (.Slice lo hi none p2) pos) Q ss M := .mk fun ck G A H σ w sl Kq k => by
  refine te_of (pe_slice sl_list pe_self po_self po_self) ?_
  refine h ck G A H σ w sl _ fun v x G1 A1 M1 H1 e1 w1 s1 h1 => ?_
  refine WO.goes ck h1 w1 (sl.mono e1) fun l G2 A2 M2 H2 e2 w2 h2 => ?_
  refine WO.goes ck h2 w2 (sl.mono (e1.trans e2)) fun u G3 A3 M3 H3 e3 w3 h3 => ?_
  have s3 := s1.mono (e2.trans e3)
  obtain ⟨d, g, ds, rfl, h3⟩ := with1_get h3
  obtain ⟨t, vs, rfl, ht, r⟩ := s3.s w3 g
  refine ⟨t, vs, rfl, .inl ht, fun p hp => ?_⟩
  exact VPost.newC (M := M3) k ((e1.trans e2).trans e3) w3 (cutV_reps r _ _) h3 p hp
end
end Mb

/-! Mb, part 25: dict displays, d.get(k, x), comprehensions with a test. -/
namespace Mb
open PySem L2 PyProof.Rows
section
variable {X : Cx} {B : Base} {ex : XD} {ss : Sst} {M : Mem} {a b c e f tg o : Expr} {es : List Expr} {pos p p' apos : Pos} {Q : SV → Mem → Prop}
/-- keys and values, data, pair by pair -/
def WPs (X : Cx) (B : Base) (ex : XD) : List Expr → List Expr → (List (Key × D) → Mem → Prop) → Sst → Mem → Prop
  | k :: ks, v :: vs, Q, ss, M => WE X B ex k (fun x M1 => ∃ dk key, x = .dat dk ∧ keyD dk = some key ∧ WE X B ex v (fun y M2 => ∃ dv, y = .dat dv ∧ WPs X B ex ks vs (fun ps M3 => Q ((key, dv) :: ps) M3) ss M2) ss M1) ss M
  | [], [], Q, _, M => Q [] M
  | _, _, _, _, _ => False
def trsOf (X : Cx) : List Expr → List Expr → List (TE × TE)
  | k :: ks, v :: vs => (teW X k, teW X v) :: trsOf X ks vs
  | _, _ => []
theorem pps_self : ∀ {ks vs : List Expr}, ks.length = vs.length → PPs X pos (ks.map some) vs (trsOf X ks vs)
  | [], [], _ => pps_nil
  | [], _ :: _, h => by cases h
  | _ :: _, [], h => by cases h
  | k :: ks, v :: vs, h => pps_cons pe_self pe_self (pps_self (by simpa using h))
theorem WPs.goes {σ : L2.St} (ck : Cok X B ex) : ∀ {ks vs : List Expr} {QP : List (Key × D) → Mem → Prop} {G A M H} {Kq : List (V × V) → Hp → Prop}, WPs X B ex ks vs QP ss M → Wd X.K B G A M H → Sl X.K G A σ ss →
    (∀ kv kvs G' A' M' H', Ext G A G' A' → Wd X.K B G' A' M' H' → RepK X.K G' kv kvs → QP kvs M' → Kq (kv.map fun x => (kV x.1, x.2)) H') → tPairs (trsOf X ks vs) σ H Kq
  | [], [], QP, G, A, M, H, Kq, h, w, sl, k => k [] [] G A M H .refl w .nil h
  | [], _ :: _, _, _, _, _, _, _, h, _, _, _ => h.elim
  | _ :: _, [], _, _, _, _, _, _, h, _, _, _ => h.elim
  | e :: ks, f :: vs, QP, G, A, M, H, Kq, h, w, sl, k => by
    have h : WE X B ex e (fun x M1 => ∃ dk key, x = .dat dk ∧ keyD dk = some key ∧ WE X B ex f (fun y M2 => ∃ dv, y = .dat dv ∧ WPs X B ex ks vs (fun ps M3 => QP ((key, dv) :: ps) M3) ss M2) ss M1) ss M := h
    refine h ck G A H σ w sl _ fun u x G1 A1 M1 H1 e1 w1 s1 h1 => ?_
    obtain ⟨dk, key, rfl, hk, h1⟩ := h1
    refine h1 ck G1 A1 H1 σ w1 (sl.mono e1) _ fun v y G2 A2 M2 H2 e2 w2 s2 h2 => ?_
    obtain ⟨dv, rfl, h2⟩ := h2
    obtain rfl := keyD_kV (Rep.s w1.gh (show Rep X.K G1 u dk from s1)) hk
    refine WPs.goes ck h2 w2 (sl.mono (e1.trans e2)) fun kv kvs G3 A3 M3 H3 e3 w3 r q => ?_
    exact k ((key, v) :: kv) ((key, dv) :: kvs) G3 A3 M3 H3 ((e1.trans e2).trans e3) w3 (.cons (Rep.mono e3.1 s2) r) q
def mergeD (kvs more : List (Key × D)) : List (Key × D) := more.foldl (fun acc kv => putD acc kv.1 kv.2) kvs
theorem RepK.merge {K : PySem.W.Frag} {G : Hp} : ∀ {kv2 : List (Key × V)} {kvs2 : List (Key × D)}, RepK K G kv2 kvs2 → ∀ {kv : List (Key × V)} {kvs : List (Key × D)}, RepK K G kv kvs → RepK K G (mergeK kv kv2) (mergeD kvs kvs2)
  | _, _, .nil, _, _, r => r
  | (g, u) :: kv2, (_, y) :: kvs2, .cons h r2, kv, kvs, r => by
    show RepK K G (mergeK (putK kv g u) kv2) (mergeD (putD kvs g y) kvs2)
    exact RepK.merge r2 (r.put h)
/-- {k: v, ..}: a dict of ours -/
theorem we_disp {ks vs : List Expr} (h : WPs X B ex ks vs (fun kvs M1 => ∃ M2, M1 = M2 ++ [.dic []] ∧ M2.length = M.length ∧ kvs.length ≤ 15 ∧ Q (.cel M.length) (M2 ++ [.dic (mergeD [] kvs)])) ss (M ++ [.dic []])) (hl : ks.length = vs.length := by rfl) (h0 : ks ≠ [] := by intro z; cases z) (h15 : ks.length ≤ 15 := by decide) :
    WE X B ex (.Dict (ks.map some) vs pos) Q ss M := .mk fun ck G A H σ w sl Kq k => by
  have hall : (ks.map some).all (·.isSome) = true := by rw [List.all_map, List.all_eq_true]; intro x _; rfl
  refine te_of (pe_disp (pps_self hl) hall (by rw [List.length_map]; exact hl) (fun z => h0 (List.map_eq_nil_iff.mp z)) (by rw [List.length_map]; exact h15)) fun q hq => ?_
  obtain ⟨w1, e1⟩ := w.newC (c := .dic []) (o := .dK []) hq ⟨(w.none hq).2.2, [], upd_same, .nil⟩
  refine WPs.goes ck h w1 (sl.mono e1) fun kv kvs G2 A2 M1 H2 e2 w2 r hQ => ?_
  obtain ⟨M2, rfl, hM, hk, hQ⟩ := hQ
  have gA : A2[M.length]? = some q := by
    refine pre_get e2.2 ?_
    rw [← w.len, List.getElem?_append_right (Nat.le_refl _), Nat.sub_self]
    rfl
  have gM : (M2 ++ [Cell.dic []])[M.length]? = some (.dic []) := by
    rw [← hM, List.getElem?_append_right (Nat.le_refl _), Nat.sub_self]
    rfl
  obtain ⟨gn, kv0, hv, r0⟩ := w2.cl.get gA gM
  cases r0
  refine ⟨hv, kv, rfl, by rw [r.length]; exact hk, ?_⟩
  have w3 := w2.setC (c' := .dic (mergeD [] kvs)) (o := .dK (mergeK [] kv)) gA gn ⟨gn, _, upd_same, RepK.merge r .nil⟩
  have em : (M2 ++ [Cell.dic []]).set M.length (.dic (mergeD [] kvs)) = M2 ++ [.dic (mergeD [] kvs)] := by
    rw [← hM, List.set_append_right _ _ (Nat.le_refl _), Nat.sub_self]
    rfl
  rw [em] at w3
  exact k _ (.cel M.length) G2 A2 _ _ (e1.trans e2) w3 ⟨q, rfl, gA⟩ hQ
/-- d.get(k, x) -/
theorem we_dget2 {k : Nat} (hr : Room k X.A) (h : WE X B ex o (fun x M1 => (∃ kvs, x.get M1 = some (.dic kvs)) ∧ WE X B ex e (fun y M2 => WE X B ex f (fun z M3 => ∃ kvs dy key, x.get M3 = some (.dic kvs) ∧ y = .dat dy ∧ keyD dy = some key ∧ Q (match valD kvs key with | some d => .dat d | none => z) M3) ss M2) ss M1) ss M)
    (m : M2 X o "get" apos e f pos := by exact ⟨rfl, rfl, rfl, rfl⟩) : WE X B ex (.Call (.Attribute o "get" apos) [e, f] [] pos) Q ss M := .mk fun ck G A H σ w sl Kq kk => by
  refine te_of (pe_dget2 (hu_of hr) pe_self pe_self pe_self m) ?_
  refine h ck G A H σ w sl _ fun u x G1 A1 M1 H1 e1 w1 s1 h1 => ?_
  obtain ⟨⟨kvs0, g0⟩, h1⟩ := h1
  obtain ⟨l, kv0, rfl, hl, r0⟩ := s1.s w1 g0
  refine ⟨l, rfl, .inl ⟨kv0, .inl hl⟩, ?_⟩
  refine h1 ck G1 A1 H1 σ w1 (sl.mono e1) _ fun v y G2 A2 M2 H2 e2 w2 s2 h2 => ?_
  refine h2 ck G2 A2 H2 σ w2 (sl.mono (e1.trans e2)) _ fun z zz G3 A3 M3 H3 e3 w3 s3 h3 => ?_
  obtain ⟨kvs, dy, key, g, rfl, hk, q⟩ := h3
  obtain ⟨l', kv, el, hl', r⟩ := (s1.mono (e2.trans e3)).s w3 g
  cases el
  obtain rfl := keyD_kV (Rep.s w2.gh (show Rep X.K G2 v dy from s2)) hk
  refine ⟨_, DGet.k hl', ?_⟩
  cases ev : valD kvs key with
  | none =>
    rw [ev] at q
    rw [r.valN ev]
    exact kk z zz G3 A3 M3 H3 ((e1.trans e2).trans e3) w3 s3 q
  | some d =>
    rw [ev] at q
    obtain ⟨vz, hz, rz⟩ := r.valS d ev
    rw [hz]
    exact kk vz (.dat d) G3 A3 M3 H3 ((e1.trans e2).trans e3) w3 rz q
end
section
variable {X : Cx} {B : Base} {ex : XD} {ss : Sst} {M : Mem} {a b e elt c : Expr} {es : List Expr} {pos : Pos} {Q : SV → Mem → Prop} {scope : Scope} {α : Type}
theorem filter_take_succ {f : α → D} {pr : α → Bool} {l : List α} {i : Nat} {x : α} (h : l[i]? = some x) : ((l.take (i + 1)).filter pr).map f = ((l.take i).filter pr).map f ++ (if pr x = true then [f x] else []) := by
  have e : l.take (i + 1) = l.take i ++ [x] := by
    have := map_take_succ id h
    simpa using this.symm
  rw [e, List.filter_append, List.map_append]
  congr 1
  cases hp : pr x <;> simp [hp]
/-- [f x for x in l if pr x] -/
theorem lcq_filter {j : Nat} {l : List α} {g : α → D} (f : α → D) (pr : α → Bool) (hl : l.length ≤ sizeLine)
    (ht : ∀ (i : Nat) (x : α), l[i]? = some x → ∀ (s : Shared) (H : Hp) (C : Addr) (cl : List (Str × Addr)) (fp : List Addr) (B : Base), B.A.length = M.length → WT (Blk X scope s H C cl fp) B exF c (fun b M4 => b = pr x ∧ M4 = M) ((wipeD ss [j]).set j (some (.dat (g x)))) M)
    (he : ∀ (i : Nat) (x : α), l[i]? = some x → pr x = true → ∀ (s : Shared) (H : Hp) (C : Addr) (cl : List (Str × Addr)) (fp : List Addr) (B : Base), B.A.length = M.length → WE (Blk X scope s H C cl fp) B exF elt (fun y M4 => y = .dat (f x) ∧ M4 = M) ((wipeD ss [j]).set j (some (.dat (g x)))) M)
    (q : Q (.dat (.lst ((l.filter pr).map f))) M) : ∃ I, I 0 [] M ∧ LcQ X scope elt [c] (tg1 j) [j] (l.map g) I Q ss := by
  refine ⟨fun i acc M' => i ≤ l.length ∧ acc = ((l.take i).filter pr).map f ∧ M' = M, ⟨Nat.zero_le _, rfl, rfl⟩, ?_, ?_⟩
  · rintro i d acc M' hd ⟨hi, rfl, rfl⟩
    obtain ⟨x, hx, rfl⟩ := map_get hd
    have hlt := (List.getElem?_eq_some_iff.mp hx).1
    have hst := filter_take_succ (f := f) (pr := pr) hx
    intro s H C cl fp B hB
    refine .mk fun ck G A H' σ w sl Kq k => ht i x hx s H C cl fp B hB ck G A H' σ w sl Kq fun b G' A' M4 H4 e' w' hb => k b G' A' M4 H4 e' w' ?_
    obtain ⟨rfl, rfl⟩ := hb
    cases hp : pr x with
    | true =>
      rw [if_pos rfl]
      intro s H C cl fp B hB
      refine (he i x hx hp s H C cl fp B hB).mono ?_
      rintro y M5 ⟨rfl, rfl⟩
      refine ⟨_, rfl, ?_, hlt, ?_, rfl⟩
      · have h1 := List.length_filter_le pr (l.take i)
        rw [List.length_map]
        rw [List.length_take] at h1
        omega
      · rw [hst, if_pos hp]
    | false =>
      rw [if_neg Bool.false_ne_true]
      exact ⟨hlt, by rw [hst, if_neg (by rw [hp]; exact Bool.false_ne_true), List.append_nil], rfl⟩
  · rintro acc M' ⟨_, rfl, rfl⟩
    rw [List.length_map, List.take_length]
    exact q
end
end Mb

/-! Mb, part 26: comprehensions with a test over pairs. -/
namespace Mb
open PySem L2 PyProof.Rows
section
variable {X : Cx} {B : Base} {ex : XD} {ss : Sst} {M : Mem} {a b e elt c : Expr} {es : List Expr} {pos : Pos} {Q : SV → Mem → Prop} {scope : Scope} {α : Type}
/-- [f x for a, b in l if pr x] -/
theorem lcq_filter2 {j j2 : Nat} {l : List α} {ga gb : α → D} (f : α → D) (pr : α → Bool) (hl : l.length ≤ sizeLine)
    (ht : ∀ (i : Nat) (x : α), l[i]? = some x → ∀ (s : Shared) (H : Hp) (C : Addr) (cl : List (Str × Addr)) (fp : List Addr) (B : Base), B.A.length = M.length → WT (Blk X scope s H C cl fp) B exF c (fun b M4 => b = pr x ∧ M4 = M) (((wipeD ss [j, j2]).set j (some (.dat (ga x)))).set j2 (some (.dat (gb x)))) M)
    (he : ∀ (i : Nat) (x : α), l[i]? = some x → pr x = true → ∀ (s : Shared) (H : Hp) (C : Addr) (cl : List (Str × Addr)) (fp : List Addr) (B : Base), B.A.length = M.length → WE (Blk X scope s H C cl fp) B exF elt (fun y M4 => y = .dat (f x) ∧ M4 = M) (((wipeD ss [j, j2]).set j (some (.dat (ga x)))).set j2 (some (.dat (gb x)))) M)
    (q : Q (.dat (.lst ((l.filter pr).map f))) M) : ∃ I, I 0 [] M ∧ LcQ X scope elt [c] (tg2 j j2) [j, j2] (l.map fun x => .tup [ga x, gb x]) I Q ss := by
  refine ⟨fun i acc M' => i ≤ l.length ∧ acc = ((l.take i).filter pr).map f ∧ M' = M, ⟨Nat.zero_le _, rfl, rfl⟩, ?_, ?_⟩
  · rintro i d acc M' hd ⟨hi, rfl, rfl⟩
    obtain ⟨x, hx, rfl⟩ := map_get hd
    have hlt := (List.getElem?_eq_some_iff.mp hx).1
    have hst := filter_take_succ (f := f) (pr := pr) hx
    refine ⟨_, _, rfl, ?_⟩
    intro s H C cl fp B hB
    refine .mk fun ck G A H' σ w sl Kq k => ht i x hx s H C cl fp B hB ck G A H' σ w sl Kq fun b G' A' M4 H4 e' w' hb => k b G' A' M4 H4 e' w' ?_
    obtain ⟨rfl, rfl⟩ := hb
    cases hp : pr x with
    | true =>
      rw [if_pos rfl]
      intro s H C cl fp B hB
      refine (he i x hx hp s H C cl fp B hB).mono ?_
      rintro y M5 ⟨rfl, rfl⟩
      refine ⟨_, rfl, ?_, hlt, ?_, rfl⟩
      · have h1 := List.length_filter_le pr (l.take i)
        rw [List.length_map]
        rw [List.length_take] at h1
        omega
      · rw [hst, if_pos hp]
    | false =>
      rw [if_neg Bool.false_ne_true]
      exact ⟨hlt, by rw [hst, if_neg (by rw [hp]; exact Bool.false_ne_true), List.append_nil], rfl⟩
  · rintro acc M' ⟨_, rfl, rfl⟩
    rw [List.length_map, List.take_length]
    exact q
end
section
variable {X : Cx} {B : Base} {ex : XD} {ss : Sst} {M : Mem} {a b c e f tg o : Expr} {es : List Expr} {pos p p' apos : Pos} {Q : SV → Mem → Prop}
theorem we_dispK {keys : List (Option Expr)} {vs : List Expr} (h : WPs X B ex (keys.filterMap id) vs (fun kvs M1 => ∃ M2, M1 = M2 ++ [.dic []] ∧ M2.length = M.length ∧ kvs.length ≤ 15 ∧ Q (.cel M.length) (M2 ++ [.dic (mergeD [] kvs)])) ss (M ++ [.dic []])) (hk : keys = (keys.filterMap id).map some := by rfl) (hl : (keys.filterMap id).length = vs.length := by rfl) (h0 : keys.filterMap id ≠ [] := by intro z; cases z) (h15 : (keys.filterMap id).length ≤ 15 := by decide) :
    WE X B ex (.Dict keys vs pos) Q ss M := by
  rw [hk]
  exact we_disp h hl h0 h15
theorem we_dgetV {k : Nat} (hr : Room k X.A) (h : WE X B ex o (fun x M1 => (∃ kvs, x.get M1 = some (.dic kvs)) ∧ WE X B ex e (fun y M2 => WE X B ex f (fun z M3 => ∃ kvs dy key v, x.get M3 = some (.dic kvs) ∧ y = .dat dy ∧ keyD dy = some key ∧ (match valD kvs key with | some d => SV.dat d | none => z) = v ∧ Q v M3) ss M2) ss M1) ss M)
    (m : M2 X o "get" apos e f pos := by exact ⟨rfl, rfl, rfl, rfl⟩) : WE X B ex (.Call (.Attribute o "get" apos) [e, f] [] pos) Q ss M :=
  we_dget2 hr (h.mono fun x M1 h1 => ⟨h1.1, h1.2.mono fun y M2 h2 => h2.mono fun z M3 ⟨kvs, dy, key, v, a1, a2, a3, a4, q⟩ => ⟨kvs, dy, key, a1, a2, a3, by subst a4; cases ev : valD kvs key <;> simp only [ev] at q ⊢ <;> exact q⟩⟩) m
end
end Mb

/-! Mb, part 27: != of instances with an own __eq__. -/
namespace Mb
open PySem PySem.W
section
variable {prog : Program} {w : World} {A : Around} {E : Value → Shared → Prop} {s : Shared} {K : Frag} {x C f : Addr} {ox : Obj} {od : Option Obj} {b tb : Value}
/-- x != b, x an own instance whose class has object's __ne__ and an own __eq__ at f -/
theorem cmp_KN {Q : Value → Shared → Prop} (hu : A.units < cLine) (hu1 : A.in1.units < cLine) (X : K.In s.heap) (I : InstAt s.heap x ox C od) (hb : Looks (model prog w) s.heap (typeOf b) tb) (hn : notFirst K C tb = true)
    (hs : findIn K (.ref C) "__ne__" = some (some (.builtin "object.__ne__"))) (he : findIn K (.ref C) "__eq__" = some (some (.ref f))) (hf : isFn K (.ref f) = true) (ho : Looks (model prog w) s.heap (isInstance (.ref x) (.type "object")) true)
    (h : wpAny (model prog w) A.in1 (call (.ref f) [.ref x, b]) (fun v s' => ∃ k, v = .bool k ∧ Q (.bool (!k)) s') E s) : wpAny (model prog w) A (richCompare .NotEq (.ref x) b) Q E s := by
  have body : wpAny (model prog w) A (call (.builtin "object.__ne__") [.ref x, b]) (fun v s' => ∃ k, v = .bool k ∧ Q v s') E s := by
    refine wpAny_call (codeAny_call_builtin PySem.F.cmp_object.ne.plain PySem.F.cmpEntry_ne (check_slot PySem.F.cmpKind_ne PySem.F.cmpSplit_ne ho (PySem.F.cmpArgs_ne _ _) ?_))
    have e : Builtin.«object.__ne__» ⟨[.ref x, b], []⟩ = (do
        cRoomFor "comparison" [.ref x, b]
        match ← callSpecialIfBound? (.ref x) "__eq__" [b] with
        | some .notImplemented | none => ret .notImplemented
        | some r => ret (.bool (!(← truthy r)))) := by rfl
    rw [e]
    refine wpAny_bind (wpAny_cRoomFor hu1 ?_)
    refine wpAny_bind (ifBound_K X I he hf (wpAny_mono h (fun v s' q => ?_) fun _ _ e => e))
    obtain ⟨k, rfl, q⟩ := q
    refine wpAny_bind (wpAny_truthy_bool ?_)
    wp_walk
    exact ⟨_, rfl, q⟩
  have cs : wpAny (model prog w) A (callSpecialIfBound? (.ref x) "__ne__" [b]) (fun r s' => ∃ k, r = some (.bool k) ∧ Q (.bool k) s') E s := by
    simp only [callSpecialIfBound?, bindSpecialIfBound?]
    refine wpAny_holding (wpAny_bind (wpAny_bind (wpAny_bind (I.type.here ((looks_findIn X hs).here ?_)))))
    simp only [PySem.F.cmp_object.ne.bind]
    refine wpAny_bind (wpAny_askSetting (wpAny_ite ?_))
    have fin : wpAny (model prog w) A (call (.builtin "object.__ne__") ([.ref x] ++ [b]) >>= fun v => pure (some v)) (fun r s' => ∃ k, r = some (.bool k) ∧ Q (.bool k) s') E s := wpAny_bind (wpAny_mono body (fun v s' h' => by obtain ⟨k, rfl, q⟩ := h'; exact wpAny_pure ⟨k, rfl, q⟩) fun _ _ h' => h')
    split
    · exact wpAny_bind (wpAny_pure (wpAny_pure fin))
    · exact wpAny_tryCatch (wpAny_bind (wpAny_pure (wpAny_pure fin)))
  have one : wpAny (model prog w) A (tryCompare (.ref x) "__ne__" b) (fun r s' => ∃ v, r = some v ∧ Q v s') E s := by
    unfold tryCompare
    refine wpAny_bind (wpAny_mono cs (fun r s' z => ?_) fun _ _ e => e)
    obtain ⟨k, rfl, q⟩ := z
    exact wpAny_pure ⟨_, rfl, q⟩
  unfold richCompare
  simp only [oneThing_ref]
  refine wpAny_holding (wpAny_bind (wpAny_cRoomFor (by omega) ?_))
  refine wpAny_bind (I.type.here (wpAny_bind (hb.here ?_)))
  split
  · rename_i q
    have e : subIn K tb (.ref C) = some false := by
      rcases Bool.or_eq_true_iff.mp hn with e | e
      · rw [beq_iff_eq.mp e] at q; simp at q
      · exact beq_iff_eq.mp e
    refine wpAny_bind ((looks_subIn X e).here ?_)
    simp only [Bool.false_eq_true, if_false]
    refine wpAny_bind (wpAny_mono one (fun r s' z => ?_) fun _ _ e => e)
    obtain ⟨v, rfl, hq⟩ := z
    exact wpAny_pure hq
  · refine wpAny_bind (wpAny_pure ?_)
    simp only [Bool.false_eq_true, if_false]
    refine wpAny_bind (wpAny_mono one (fun r s' z => ?_) fun _ _ e => e)
    obtain ⟨v, rfl, hq⟩ := z
    exact wpAny_pure hq
end
end Mb
namespace Mb
open PySem L2 PyProof.Rows
theorem rcA_insN {X : Cx} {n : Nat} {e : D} {b : Bool} {C f : Addr} {fs : List (Str × D)} {fd : FuncData} {ps : List Str} {P : D → D → Bool → Prop} {tb : Value} (F : FnOk X.prog X.w X.K X.mg X.base (L2.CX X.prog X.w) n f fd ps (spOf X.K 0 (sp_eq P)))
    (hs : PySem.W.findIn X.K (.ref C) "__eq__" = some (some (.ref f))) (hf : PySem.W.isFn X.K (.ref f) = true) (hb : Binds X.K fd ps []) (hne : PySem.W.findIn X.K (.ref C) "__ne__" = some (some (.builtin "object.__ne__"))) (hmk : PySem.W.makesIn X.K C = true)
    (hn : PySem.W.notFirst X.K C tb = true) (ht : ∀ (H : Hp) (s : Shared) (σ : L2.St) pins (y : V) (v : Value), Inv X pins σ H s → RelV y v → Rep X.K H y e → PySem.W.Looks (model X.prog X.w) s.heap (typeOf v) tb)
    (hP : P (.ins C fs) e b) : RcA X (n + 1) .NotEq (.ins C fs) e (!b) := by
  intro A pins s σ H x y u v sb I rx ry r1 r2
  cases r1 with
  | ins ha ra =>
  cases rx
  rename_i a dx fv
  obtain ⟨mA, J, _⟩ := ins_get I.hok ha
  obtain ⟨od, J, _⟩ := J.look
  have sb1 := sb.in1
  have Y := PySem.W.makes_of (M := model X.prog X.w) I.kIn hmk
  refine cmp_KN (tb := tb) sb.room.units0 sb1.room.units0 I.kIn J (ht H s σ pins y v I ry r2) hn hne hs hf (J.type.andThen Y.top) ?_
  have hsp : spOf X.K 0 (sp_eq P) [.ref a, y] H (fun v H' => v = .bl b ∧ Same H H') (fun _ _ _ => False) := by
    refine ⟨[.dat (.ins C fs), .dat e], [], H, [], rfl, ⟨fun _ _ e => e, fun _ _ e => e, fun _ _ e _ => e, fun _ _ e => .inl e, List.nodup_nil, ⟨[], rfl⟩, fun _ m => (by cases m), fun _ m => (by cases m), .nil⟩, .cons (Rep.ins ha ra) (.cons r2 .nil), fun x _ => x = .dat (.bl b), fun _ _ _ => False, ⟨_, _, b, rfl, rfl, hP, rfl⟩, fun v x G' A' M' H' w' s' _ q => ?_, fun _ _ _ _ _ _ _ _ _ _ q => q⟩
    subst q
    cases s'
    exact ⟨rfl, fun b o e => w'.fr b o e (by intro m; cases m)⟩
  have e0 : Env0 X.prog X.w X.K X.mg X.base A.in1 X.stack s H := by
    have e := I.env0
    exact ⟨by rw [sb1.fr]; exact e.frames, e.mod, e.bs, e.bsz, e.funs, e.frf, e.hok, e.bare⟩
  have hl := F.len _ _ _ _ hsp
  have rv2 : Vals [V.ref a, y] [Value.ref a, v] := .cons rfl (.cons ry .nil)
  refine wpAny_call (codeAny_mono (F.run A.in1 X.stack s H ⟨[.ref a, v], []⟩ [.ref a, v] [.ref a, y] _ _ sb1.room e0 (by
    have := hb s [.ref a, v] I.kIn (by simpa using hl)
    simpa using this) rv2 hsp) fun r s' hq => ?_)
  cases r with
  | error e =>
    obtain ⟨_, _, _, _, _, _, _, _, _, _, _, _, z⟩ := hq
    exact z.elim
  | ok fl =>
    cases fl with
    | ret w =>
      obtain ⟨z, H', I', rz, ez, ex⟩ := I.after hq
      subst ez
      cases rz
      exact ⟨b, rfl, rfl, H', I', ex⟩
    | next => exact False.elim hq
    | brk => exact False.elim hq
    | cont => exact False.elim hq
end Mb

/-! Mb, part 28: dict(pairs). -/
namespace Mb
open PySem L2 PyProof.Rows
def kD : Key → D
  | .inl i => .int i
  | .inr z => .str z
theorem rep_kD {K : PySem.W.Frag} {G : Hp} {v : V} {k : Key} (h : Rep K G v (kD k)) : v = kV k := by
  cases k with
  | inl i => cases h; rfl
  | inr z => cases h; rfl
theorem pairs_rep {K : PySem.W.Frag} {G H : Hp} (e : Same G H) : ∀ {vs : List V} {kvs : List (Key × D)}, Reps K G vs (kvs.map fun kv => .tup [kD kv.1, kv.2]) → ∃ (ps : List Addr) (kv : List (Key × V)), vs = ps.map V.ref ∧ Paired (fun p kv => SqT K H p [kV kv.1, kv.2]) ps kv ∧ RepK K G kv kvs
  | _, [], h => by
    cases h
    exact ⟨[], [], rfl, .nil, .nil⟩
  | _, (k, d) :: kvs, h => by
    rw [List.map_cons] at h
    cases h with
    | cons h r =>
      obtain ⟨ps, kv, rfl, hp, hk⟩ := pairs_rep e r
      cases h with
      | tup ht rt =>
        cases rt with
        | cons r1 rt =>
          cases rt with
          | cons r2 rt =>
            cases rt
            obtain rfl := rep_kD r1
            exact ⟨_ :: ps, (k, _) :: kv, rfl, .cons (sqtM e ht) hp, .cons r2 hk⟩
section
variable {X : Cx} {B : Base} {ex : XD} {ss : Sst} {M : Mem} {e : Expr} {pos p : Pos} {Q : SV → Mem → Prop}
theorem we_dictP (hc : X.calm = true) (hm : X.mg "dict" = none) (hg : Gl X "dict") (h : WA X B ex [e] (fun xs M1 => ∃ x kvs, xs = [x] ∧ x.get M1 = some (.lst (kvs.map fun kv => .tup [kD kv.1, kv.2])) ∧ Q (.dat (.dic (mergeD [] kvs))) M1) ss M)
    (he : starEach [e] X.env = (false, eval e X.env) :: starEach [] X.env := by rfl) (hpl : (backTo pos (starEach [] X.env)).any (·.1) = false := by rfl) : WE X B ex (.Call (.Name "dict" p) [e] [] pos) Q ss M := by
  refine we_ct (f := fun M1 xs Q => ∃ x kvs, xs = [x] ∧ x.get M1 = some (.lst (kvs.map fun kv => .tup [kD kv.1, kv.2])) ∧ Q (.dat (.dic (mergeD [] kvs))) M1) (call_dictP hc) (fun G A H M xs vs Q Kq w r h k => ?_) hm (by decide +kernel) hg h (he := he) (hpl := hpl)
  obtain ⟨x, kvs, rfl, g, q⟩ := h
  cases r with
  | cons s r =>
    cases r
    obtain ⟨l, us, rfl, hl, ru⟩ := s.s w g
    obtain ⟨ps, kv, rfl, hp, hk⟩ := pairs_rep w.gh ru
    refine ⟨l, ps, kv, rfl, .inl hl, hp, k.new .refl w q fun p hp => ?_⟩
    exact .dic upd_same ((RepK.merge hk .nil).mono (same_upd (w.none hp).2.2))
end
end Mb

/-! Mb, part 29: several except clauses, each with a name. -/
namespace Mb
open PySem PySem.Spec L2 PyProof.Rows
/-- what named clauses wish of an exception of the body, one after the other -/
def wAll (K : PySem.W.Frag) (Wout : WX) (D : Ends) (i : Nat) : List (Value × (Addr → Value → Option Addr → TS)) → WX
  | [] => Wout
  | (c, ts) :: r => wAs K c i ts (wAll K Wout D i r) D
inductive HdsAs (X : Cx) (n : Str) : List ExceptHandler → List (Value × (Addr → Value → Option Addr → TS)) → Prop
  | nil : HdsAs X n [] []
  | cons {x : Str} {c : Value} {ts : Addr → Value → Option Addr → TS} {s0 : Stmt} {suite : List Stmt} {np p2 : Pos} {hds : List ExceptHandler} {l : List (Value × (Addr → Value → Option Addr → TS))} (hc : Names X x c)
      (hsu : ∀ (a : Addr) (oe : Obj) (cls : Value) (d : Option Addr) (pn : List (Addr × Obj)), Zc cls d oe → (∃ vs, oe.data = .fields vs) → PSs (X.suite a ((a, oe) :: pn)) (s0 :: suite) (ts a cls d)) (r : HdsAs X n hds l) :
      HdsAs X n (.ExceptHandler (some (.Name x np)) (some n) (s0 :: suite) p2 :: hds) ((c, ts) :: l)
theorem ps_tryAll {X : Cx} {body : List Stmt} {h0 : ExceptHandler} {hds : List ExceptHandler} {l : List (Value × (Addr → Value → Option Addr → TS))} {pos : Pos} {tb : WX → TS} {Wout : WX} {n : Str} {i : Nat} (hs : X.stack = X.env :: X.outer) (hf : X.env.frame = some X.env.locals) (hN : X.N.Nodup) (hi : X.N[i]? = some n) (hln : X.env.kindOf n = some .local) (tk : Takes X Wout)
    (hb : ∀ (W : WX) (pn : List (Addr × Obj)) (xe : Value → Shared → Prop), Takes (X.tr pn xe) W → PassesOwn (model X.prog X.w) X.A X.env xe → PSs (X.tr pn xe) body (tb W))
    (hh : HdsAs X n (h0 :: hds) l) : PS X (.Try body (h0 :: hds) [] [] pos) (fun D σ H => tb (wAll X.K Wout D i l) D σ H) := by
  refine ⟨fun pins s σ H D I h => ?_⟩
  have ok := I.ok
  have hfr : X.A.frames = some (X.env :: X.outer) := by rw [ok.frames, hs]
  refine wpAny_Try_except ?_
  refine wpAny_mono ((hb (wAll X.K Wout D i l) (X.pn ++ pins) (fun e t1 => wpAny (model X.prog X.w) X.A (noteFrame e X.env) (fun _ t2 => wpAny (model X.prog X.w) X.A (setFlight e none) (fun _ t3 =>
    wpAny (model X.prog X.w) X.A (handleBy e X.env (h0 :: hds)) (SP X pins D) X.xe t3) X.xe t2) X.xe t1) (fun u t xx => ?_) PassesOwn.looking).run [] s σ H D (I.toTry _) h) (fun fl t1 hsp => ?_) (fun e t1 he => he)
  · obtain ⟨a, B, sI, pins', σ', H', cls, d, rfl, J', nb, up, sky, na, os, ag, w⟩ := xx
    have J : Inv X pins σ' H' sI := J'.ofTry ok
    have sky' : Sky B (X.env :: X.outer) a (Zc cls d) X.env.locals t.heap := by rw [← hs]; exact sky
    show wpAny (model X.prog X.w) X.A (noteFrame (.ref a) X.env) _ _ _
    refine Sky.land Zc.steady hfr hf sky' fun h3 fl3 up3 => ?_
    have J3 : Inv X pins σ' H' { t with heap := h3 } := J.landed nb fl3.1 (up.trans up3) os ag
    obtain ⟨oe3, vs3, he3, hz3, hd3⟩ := fl3.there
    have nfr : a ∉ frs (X.env :: X.outer) := fun hm => by
      obtain ⟨_, o', e', hnf⟩ := fl3.2.2.1.mem hm
      rw [he3] at e'; cases e'
      exact hnf _ hd3
    have nL : a ≠ X.env.locals := fun z => nfr (List.mem_filterMap.mpr ⟨X.env, List.mem_cons_self, by rw [hf, z]⟩)
    have nF : a ∉ X.fs := fun hm => by
      obtain ⟨e, he, q⟩ := List.mem_filterMap.mp hm
      exact nfr (List.mem_filterMap.mpr ⟨e, List.mem_cons_of_mem _ he, q⟩)
    have S3 := J3.suite he3 hd3 na nL nF
    have go : ∀ {hs2 : List ExceptHandler} {l2 : List (Value × (Addr → Value → Option Addr → TS))}, HdsAs X n hs2 l2 → wAll X.K Wout D i l2 cls d σ' H' → wpAny (model X.prog X.w) X.A (handleBy (.ref a) X.env hs2) (SP X pins D) X.xe { t with heap := h3 } := by
      intro hs2 l2 q
      induction q with
      | nil =>
        intro w
        refine wpAny_handleBy_nil ?_
        obtain ⟨k1, k2, k3, oe, vs, T, oT, ts', he, hz, hd, h1, hr⟩ := id fl3
        unfold PySem.passOn
        refine wpAny_bind (wpAny_field he hd h1 ?_)
        rw [if_neg (show ¬ ((Value.ref T == Value.none) = true) from by simp)]
        have fin : wpAny (model X.prog X.w) X.A (setFlight (.ref a) X.env.frame) (fun _ s4 => wpAny (model X.prog X.w) X.A (throw (.ref a) : Sem Flow) (SP X pins D) X.xe s4) X.xe { t with heap := h3 } := by
          rw [hf]
          refine HandSPX.setFlight_upZ fl3 fun h4 hh4 up4 => wpAny_throw (tk _ _ ?_)
          exact ⟨a, B, sI, pins, σ', H', cls, d, rfl, J, nb, (up.trans up3).trans up4, .inr (.inr (by rw [hs]; exact hh4)), na, os, ag, w⟩
        first
          | exact wpAny_bind (wpAny_pure (wpAny_bind fin))
          | exact wpAny_bind fin
      | @cons x c ts s0 suite np p2 hds2 l2 hc hsu r ih =>
        intro w
        obtain ⟨b, hb1, hyes, hno⟩ := w
        refine wpAny_handleBy_cons (codeAny_handlers_test ?_) (by intro q; cases q)
        have LT : PySem.W.Looks (model X.prog X.w) h3 (typeOf (.ref a)) cls := fun A Q E s k q => wpAny_typeOf_ref (k _ _ he3) (by rw [hz3.1]; exact q)
        have LM := PySem.W.exm_one (M := model X.prog X.w) (J3.kIn) LT hb1
        have test : ∀ {Q : Value → Shared → Prop} {E : Value → Shared → Prop}, Q c { t with heap := h3 } → wpAny (model X.prog X.w) (X.A.mark (some (.ref a))) (eval (.Name x np) X.env) Q E { t with heap := h3 } := fun {Q E} q => by
          obtain ⟨hg, hdbg, hm | ⟨hm, hv, hnn⟩⟩ := hc
          · exact ld_glob (X := X.suite a ((a, oe3) :: (X.pn ++ pins))) S3 hg hm q hdbg
          · exact ld_blt (X := X.suite a ((a, oe3) :: (X.pn ++ pins))) S3 hg hm hv q hnn hdbg
        refine test (LM.here ?_)
        cases b with
        | true =>
          refine codeAny_handlers_suite_as ?_
          refine HandSPX.lands_againZ fl3 fun h4 fl4 up4 => ?_
          have J4 : Inv X pins σ' H' { t with heap := h4 } := J.landed nb fl4.1 ((up.trans up3).trans up4) os ag
          obtain ⟨oe4, vs4, he4, hz4, hd4⟩ := fl4.there
          have S4 := J4.suite he4 hd4 na nL nF
          refine store_ok (X := X.suite a ((a, oe4) :: (X.pn ++ pins))) (v := .ref a) S4 hN hi (.inl hln) rfl (fun s5 S5 => ?_) (.inr hln)
          refine wpAny_mono ((hsu a oe4 cls d (X.pn ++ pins) hz4 ⟨_, hd4⟩).run [] s5 _ H' _ S5 (hyes rfl a na)) (fun f s6 hsp => ?_) (fun _ _ z => False.elim z)
          have end_ : ∀ {σ6 : L2.St} {H6 : Hp} {Q : Shared → Prop}, Inv (X.suite a ((a, oe4) :: (X.pn ++ pins))) [] σ6 H6 s6 → (∀ s7, Inv X pins (σ6.set i none) H6 s7 → Q s7) →
              wpAny (model X.prog X.w) X.A (do bindName X.env n .none; unbindBehindTheSuite X.env n p2) (fun _ s7 => Q s7) X.xe s6 := fun {σ6 H6 Q} S6 hq => gone_ok (S6.unsuite ok) hN hi hln hq
          cases f with
          | next =>
            obtain ⟨σ6, H6, S6, q6⟩ := hsp
            exact end_ S6 fun s7 J7 => ⟨_, _, J7, q6⟩
          | brk =>
            obtain ⟨σ6, H6, S6, q6⟩ := hsp
            exact end_ S6 fun s7 J7 => ⟨_, _, J7, q6⟩
          | cont =>
            obtain ⟨σ6, H6, S6, q6⟩ := hsp
            exact end_ S6 fun s7 J7 => ⟨_, _, J7, q6⟩
          | ret u =>
            obtain ⟨v6, σ6, H6, S6, r6, q6⟩ := hsp
            exact end_ S6 fun s7 J7 => ⟨_, _, _, J7, r6, q6⟩
        | false =>
          show wpAny _ X.A (handleBy (.ref a) X.env hds2) _ _ _
          exact ih (hno rfl)
    exact go hh w
  · cases fl with
    | next =>
      obtain ⟨σ', H', J', q⟩ := hsp
      exact wpAny_execs_nil ⟨σ', H', J'.ofTry ok, q⟩
    | brk =>
      obtain ⟨σ', H', J', q⟩ := hsp
      exact ⟨σ', H', J'.ofTry ok, q⟩
    | cont =>
      obtain ⟨σ', H', J', q⟩ := hsp
      exact ⟨σ', H', J'.ofTry ok, q⟩
    | ret u =>
      obtain ⟨v, σ', H', J', r, q⟩ := hsp
      exact ⟨v, σ', H', J'.ofTry ok, r, q⟩
end Mb

/-! Mb, part 30: try with two named clauses. -/
namespace Mb
open PySem L2 PyProof.Rows
section
variable {X : Cx} {B : Base} {ex : XD} {ss : Sst} {M : Mem} {pos : Pos} {N : Nd} {x y : Str}
abbrev tsOf (X : Cx) (suite : List Stmt) : Addr → Value → Option Addr → TS := fun a cls d D σ H => ∀ oe pn, Zc cls d oe → (∃ vs, oe.data = .fields vs) → tbW (X.suite a ((a, oe) :: pn)) suite D σ H
theorem clause_w {G : Hp} {A : List Addr} {H : Hp} {E : Ends} {ex2 : XD} {C0 : Value} {i : Nat} {suite : List Stmt} {W : WX} (w : Wd X.K B G A M H) (k : NdOk X.K B G N E) {cls : Value} {d : Option Addr} {σ' : L2.St} {H' : Hp}
    (hW : XW X.K ⟨G, A, H⟩ ex2 cls d σ' H' → W cls d σ' H') (hx : XW X.K ⟨G, A, H⟩ (ClauseQ X B ex2 C0 (some i) suite N) cls d σ' H') : wAs X.K C0 i (tsOf X suite) W E cls d σ' H' := by
  obtain ⟨C, fs, ss', G', A', M', rfl, xd, w', sl', b, hexm, q⟩ := hx
  obtain ⟨w2, e2⟩ := w.rebase w'
  refine ⟨b, hexm, fun hbt a ha oe pn2 hz hv => ?_, fun hbf => ?_⟩
  · rw [if_pos hbt] at q
    have q := q a oe d pn2 hz hv (fun hd => by rcases xd with ⟨_, h⟩ | ⟨_, _, h, _⟩; exact h; rw [hd] at h; cases h)
    refine WB.run q ck_suite G' A' H' _ w2 (sl'.set (excSV_ok xd) i) _ ⟨fun σ2 ss2 G2 A2 M2 H2 s2 w3 sl2 q2 => ?_, fun v y G2 A2 M2 H2 s2 w3 sv q2 => ?_, fun σ2 ss2 G2 A2 M2 H2 s2 w3 sl2 q2 => ?_, fun σ2 ss2 G2 A2 M2 H2 s2 w3 sl2 q2 => ?_⟩
    · exact k.nx _ _ G2 A2 M2 H2 (e2.1.trans s2) w3 (sl2.setN i) q2
    · exact k.rt v y G2 A2 M2 H2 (e2.1.trans s2) w3 sv q2
    · exact k.bk _ _ G2 A2 M2 H2 (e2.1.trans s2) w3 (sl2.setN i) q2
    · exact k.ct _ _ G2 A2 M2 H2 (e2.1.trans s2) w3 (sl2.setN i) q2
  · rw [hbf, if_neg Bool.false_ne_true] at q
    exact hW ⟨C, fs, ss', G', A', M', rfl, xd, w', sl', q⟩
theorem ws_tryAs2 {n : Str} {C0 C1 : Value} {i : Nat} {body s1 s2 : List Stmt} {b0 b1 : Stmt} {np np2 p1 p2 : Pos} (hN : X.N.Nodup) (hi : X.N[i]? = some n) (hln : X.env.kindOf n = some .local) (hc : Names X x C0) (hc2 : Names X y C1)
    (hb : ∀ pn xe (B' : Base), B'.A.length = M.length → WB (X.tr pn xe) B' (ClauseQ X B (ClauseQ X B ex C1 (some i) (b1 :: s2) N) C0 (some i) (b0 :: s1) N) body N ss M)
    (hs : X.stack = X.env :: X.outer := by rfl) (hf : X.env.frame = some X.env.locals := by rfl) :
    WS X B ex (.Try body [.ExceptHandler (some (.Name x np)) (some n) (b0 :: s1) p1, .ExceptHandler (some (.Name y np2)) (some n) (b1 :: s2) p2] [] [] pos) N ss M := .mk fun ck G A H σ w sl E k => by
  refine ts_of (ps_tryAll (Wout := XW X.K B ex) (l := [(C0, tsOf X (b0 :: s1)), (C1, tsOf X (b1 :: s2))]) (tb := fun W D σ H => ∀ pn xe, Takes (X.tr pn xe) W → PassesOwn (model X.prog X.w) X.A X.env xe → tbW (X.tr pn xe) body D σ H)
    hs hf hN hi hln ck.tk (fun W pn xe tk ps => ⟨fun pins s σ H D I h => h pn xe tk ps pins s I⟩)
    (.cons hc (fun a oe cls d pn hz hv => ⟨fun pins s σ H D I h => h oe pn hz hv pins s I⟩) (.cons hc2 (fun a oe cls d pn hz hv => ⟨fun pins s σ H D I h => h oe pn hz hv pins s I⟩) .nil))) ?_
  intro pn xe tk ps
  refine hb pn xe ⟨G, A, H⟩ w.len (ck_tr tk ps fun cls d σ' H' hx => ?_) G A H σ w.self sl E (nd_rebase w k)
  refine clause_w w k (fun hx2 => ?_) hx
  refine clause_w w k (fun hx3 => ?_) hx2
  obtain ⟨C, fs, ss', G', A', M', rfl, xd, w', sl', q⟩ := hx3
  exact ⟨C, fs, ss', G', A', M', rfl, xd, (w.rebase w').1, sl', q⟩
end
end Mb

/-! Mb, part 31: == of dicts whose values are plain. -/
namespace Mb
open PySem L2 PyProof.Rows
/-- the pairs of the one, looked up in the other -/
inductive HitsD (ls : List (Key × D)) : List (Key × D) → Bool → Prop
  | nil : HitsD ls [] true
  | miss {k : Key} {d : D} {r : List (Key × D)} : valD ls k = none → HitsD ls ((k, d) :: r) false
  | hit {k : Key} {d e : D} {r : List (Key × D)} {b : Bool} : valD ls k = some e → D.pl 60 d = true → D.pl 60 e = true → HitsD ls r b → HitsD ls ((k, d) :: r) (deq d e && b)
section
variable {X : Cx} {n : Nat} {d e : D}
theorem eqP_plain {A : Around} {pins : List (Addr × Obj)} {s : Shared} {σ : L2.St} {H : Hp} {x y : V} {u v : Value} (hd : D.pl 60 d = true) (he : D.pl 60 e = true) (sb : Sub X n A) (I : Inv X pins σ H s) (rx : RelV x u) (ry : RelV y v) (r1 : Rep X.K H x d) (r2 : Rep X.K H y e) : SeqAt.EqP X.prog X.w A s u v (deq d e) := by
  intro E Q hq
  obtain ⟨as, q1⟩ := Dp.reads I (py d) x u (r1.dp hd) rx
  obtain ⟨bs, q2⟩ := Dp.reads I (py e) y v (r2.dp he) ry
  obtain ⟨l1, z1⟩ := r1.lay hd
  obtain ⟨l2, z2⟩ := r2.lay he
  have hu := sb.room.units
  exact SeqAt.eqAt_reads (py d) (py e) A s u v as bs q1 q2 l1 l2 (by omega) X.prog X.w E _ hq
theorem hitsP {A : Around} {pins : List (Addr × Obj)} {s : Shared} {σ : L2.St} {H : Hp} (sb : Sub X n A) (I : Inv X pins σ H s) {ls : List (Key × D)} {lv : List (Key × V)} {vb : List (Key × Value)} (rl : RepK X.K H lv ls) (rb : KV lv vb) {ks : List (Key × D)} {b : Bool} (h : HitsD ls ks b) :
    ∀ {kv : List (Key × V)} {va : List (Key × Value)}, RepK X.K H kv ks → KV kv va → PySem.W.KeqHitsP X.prog X.w A s vb va b := by
  induction h with
  | nil =>
    intro kv va r q
    cases r
    unfold KV at q
    cases q
    exact .nil
  | @miss k d r hm =>
    intro kv va r q
    cases r with
    | cons r1 r2 =>
    unfold KV at q
    cases q with
    | @cons p q ps qs h t =>
    obtain ⟨k', v'⟩ := q
    obtain ⟨h1, h2⟩ := h
    cases h1
    have rr := rb.val k
    rw [rl.valN hm] at rr
    refine .miss ?_
    cases hv : valueAt vb k with
    | none => rfl
    | some z => rw [hv] at rr; cases rr
  | @hit k d e r b hv hd he hr ih =>
    intro kv va r q
    cases r with
    | cons r1 r2 =>
    unfold KV at q
    cases q with
    | @cons p q ps qs h t =>
    obtain ⟨k', v'⟩ := q
    obtain ⟨h1, h2⟩ := h
    cases h1
    obtain ⟨w, hw, rw'⟩ := rl.valS _ hv
    have rr := rb.val k
    rw [hw] at rr
    obtain ⟨y, hy, ry⟩ := rr.some_of
    exact .hit hy (eqP_plain hd he sb I h2 ry r1 rw') (ih r2 t)
theorem rcA_dic {ks ls : List (Key × D)} {r : Bool} (h : ks.length = ls.length → HitsD ls ks r) : RcA X (n + 1) .Eq (.dic ks) (.dic ls) (ks.length == ls.length && r) := by
  intro A pins s σ H x y u v sb I rx ry r1 r2
  cases r1 with
  | dic h1 q1 =>
  cases r2 with
  | dic h2 q2 =>
  cases rx
  cases ry
  rename_i a kv b lv
  obtain ⟨_, ya, va, ra, da⟩ := (show ObjOk X.prog X.w H s.heap a (.dK kv) from I.hok a _ h1)
  obtain ⟨_, yb, vb, rb, db⟩ := (show ObjOk X.prog X.w H s.heap b (.dK lv) from I.hok b _ h2)
  have e1 : va.length = ks.length := by rw [← ra.length, q1.length]
  have e2 : vb.length = ls.length := by rw [← rb.length, q2.length]
  refine PySem.W.rcP_dicts (r := r) ya yb da db sb.room.units0 (fun e => hitsP sb.in1 I q2 rb (h (by rw [← e1, ← e2]; exact e)) q1 ra) X.xe _ ?_
  exact ⟨by rw [e1, e2], H, I, Same.refl _⟩
theorem hits_refl {ls : List (Key × D)} : ∀ {ks : List (Key × D)}, (∀ p ∈ ks, valD ls p.1 = some p.2 ∧ D.pl 60 p.2 = true) → HitsD ls ks true
  | [], _ => .nil
  | (k, d) :: ks, h => by
    obtain ⟨h1, h2⟩ := h (k, d) List.mem_cons_self
    have := HitsD.hit h1 h2 h2 (hits_refl fun p m => h p (List.mem_cons_of_mem _ m))
    rw [deq_refl h2] at this
    exact this
theorem rcA_dic_refl {ks : List (Key × D)} (h : ∀ p ∈ ks, valD ks p.1 = some p.2 ∧ D.pl 60 p.2 = true) : RcA X (n + 1) .Eq (.dic ks) (.dic ks) true := by
  have := rcA_dic (X := X) (n := n) (ks := ks) (ls := ks) (r := true) (fun _ => hits_refl h)
  simpa using this
end
end Mb

/-! Mb, part 32: a, b, c, d = a tuple. -/
namespace Mb
open PySem L2 PyProof.Rows
section
variable {X : Cx} {B : Base} {ex : XD} {ss : Sst} {M : Mem} {pos : Pos}
theorem wg_tup4 {t1 t2 t3 t4 : Expr} {j : Nat} {d1 d2 d3 d4 : D} {Q : Sst → Mem → Prop} (hc : X.calm = true) (h : WG X B ex t1 (.dat d1) (fun ss2 M2 => WG X B ex t2 (.dat d2) (fun ss3 M3 => WG X B ex t3 (.dat d3) (fun ss4 M4 => WG X B ex t4 (.dat d4) Q ss4 M4) ss3 M3) ss2 M2) ss M)
    (hn : (assignEach [t1, t2, t3, t4] X.env).length = 4 := by rfl) (hst : (assignEach [t1, t2, t3, t4] X.env).findIdx? (·.1) = none := by rfl) (h1 : (assignEach [t1, t2, t3, t4] X.env).map (·.2) = assign t1 X.env :: (assignEach [t2, t3, t4] X.env).map (·.2) := by rfl)
    (h2 : (assignEach [t2, t3, t4] X.env).map (·.2) = assign t2 X.env :: (assignEach [t3, t4] X.env).map (·.2) := by rfl) (h3 : (assignEach [t3, t4] X.env).map (·.2) = assign t3 X.env :: (assignEach [t4] X.env).map (·.2) := by rfl) (h4 : (assignEach [t4] X.env).map (·.2) = assign t4 X.env :: (assignEach [] X.env).map (·.2) := by rfl) :
    WG X B ex (.Tuple [t1, t2, t3, t4] j pos) (.dat (.tup [d1, d2, d3, d4])) Q ss M := .mk fun ck G A H σ v w sl s Kq k => by
  refine tg_of (pg_tup hc (pgs_cons pg_self (pgs_cons pg_self (pgs_cons pg_self (pgs_cons pg_self pgs_nil h4) h3) h2) h1) hn hst) ?_
  have s : Rep X.K G v (.tup [d1, d2, d3, d4]) := s
  cases s with
  | tup hl r =>
    cases r with
    | cons r1 r =>
      cases r with
      | cons r2 r =>
        cases r with
        | cons r3 r =>
          cases r with
          | cons r4 r =>
            cases r
            refine ⟨_, _, rfl, sqtM w.gh hl, rfl, _, _, rfl, ?_⟩
            refine h ck G A H σ _ w sl r1 _ fun σ' ss' G' A' M' H' s' w' sl' q => ⟨_, _, rfl, ?_⟩
            refine q ck G' A' H' σ' _ w' sl' (Rep.mono s' r2) _ fun σ2 ss2 G2 A2 M2 H2 s2 w2 sl2 q2 => ⟨_, _, rfl, ?_⟩
            refine q2 ck G2 A2 H2 σ2 _ w2 sl2 (Rep.mono (s'.trans s2) r3) _ fun σ3 ss3 G3 A3 M3 H3 s3 w3 sl3 q3 => ⟨_, _, rfl, ?_⟩
            exact q3 ck G3 A3 H3 σ3 _ w3 sl3 (Rep.mono ((s'.trans s2).trans s3) r4) _ fun σ4 ss4 G4 A4 M4 H4 s4 w4 sl4 q4 => ⟨rfl, k σ4 ss4 G4 A4 M4 H4 (((s'.trans s2).trans s3).trans s4) w4 sl4 q4⟩
/-- - e -/
theorem we_neg {e : Expr} {Q : SV → Mem → Prop} (h : WE X B ex e (fun x M1 => ∃ i, x = .dat (.int i) ∧ Q (.dat (.int (-i))) M1) ss M) : WE X B ex (.UnaryOp .USub e pos) Q ss M := .mk fun ck G A H σ w sl Kq k => by
  refine te_of (pe_un un_neg pe_self) ?_
  refine h ck G A H σ w sl _ fun v x G1 A1 M1 H1 e1 w1 s1 h1 => ?_
  obtain ⟨i, rfl, q⟩ := h1
  cases s1
  exact ⟨i, rfl, k _ (.dat (.int (-i))) G1 A1 M1 H1 e1 w1 (Rep.int (-i)) q⟩
end
end Mb

/-! Mb, part 33: enumerate of a tuple; a comprehension's list as a cell; a module's tuple. -/
namespace Mb
open PySem PySem.Spec L2 PyProof.Rows
open AutoSeq1 (wpAny_loadPart')
/-! ### enumerate(t), t a tuple -/
theorem meets_enumT (tp : Addr) (vals : Array Value) (m : Nat) (dd : Option Addr) (sl : Array (Option Value)) :
    Meets (Builtin.«enumerate.__new__» ⟨[.type "enumerate", .ref tp], []⟩) (fun _ R s1 => s1.heap.get? tp = some { cls := .type "tuple", dict := dd, data := .seq vals m, slots := sl } ∧
      R (.ok (.ret (.ref (s1.heap.push { cls := .type "tuple_iterator", data := .fields #[.ref tp, .int 0 0] }).objs.size)))
        { s1 with heap := (s1.heap.push { cls := .type "tuple_iterator", data := .fields #[.ref tp, .int 0 0] }).push { cls := .type "enumerate", data := .fields #[.none, .bool false, .ref s1.heap.objs.size, rawInt 0, .none, .none] } }) :=
  .of_wp fun prog w A R s1 hh => by
    obtain ⟨hp, gg, dz, tk, os⟩ := s1
    obtain ⟨ht, hR⟩ := hh
    have hs := sub_enumerate
    have hT : Heap.IsTuple (Shared.heap ⟨hp, gg, dz, tk, os⟩) tp vals := ⟨_, ht, rfl, m, rfl⟩
    wp_walk using wpAny_loadPart' ht
    refine wpAny_stack_any fun stk => wpAny_pure ?_
    split
    · rename_i cc _ _ _ _ _
      cases (cc == Value.type "enumerate")
      · wp_walk using wpAny_loadPart' ht, wpAny_pyIter_tuple hT
        exact ⟨_, rfl, hR⟩
      · wp_walk using wpAny_loadPart' ht, wpAny_pyIter_tuple hT
        exact ⟨_, rfl, hR⟩
    · wp_walk using wpAny_loadPart' ht, wpAny_pyIter_tuple hT
      exact ⟨_, rfl, hR⟩
theorem call_enumT {prog : Program} {w : World} {A : Around} {E : Value → Shared → Prop} {s : Shared} {tp : Addr} {vals : Array Value} {Q : Value → Shared → Prop} (hT : s.heap.IsTuple tp vals)
    (hQ : ∀ h1, IsEnum h1 (s.heap.objs.size + 1) s.heap.objs.size 0 .none → h1.IsTupleIter s.heap.objs.size tp 0 → h1.objs.size = s.heap.objs.size + 2 →
      (∀ b o, s.heap.get? b = some o → h1.get? b = some o) → Q (.ref (s.heap.objs.size + 1)) { s with heap := h1 }) : wpAny (model prog w) A (call (.type "enumerate") [.ref tp]) Q E s := by
  obtain ⟨⟨cc, dd, dt, sl⟩, ht, hc, m, hd⟩ := hT
  obtain rfl : cc = .type "tuple" := hc
  obtain rfl : dt = .seq vals m := hd
  refine callType_new F.called_enumerate (by decide) (F.typeCall_enumerate_1 _) (F.newCall_enumerate_1 _) (fun ob => F.args_object_init_2 ob _) F.entry_enumerate_new (meets_enumT tp vals m dd sl) ⟨ht, ?_⟩
  have z1 : (s.heap.push { cls := .type "tuple_iterator", data := .fields #[.ref tp, .int 0 0] }).objs.size = s.heap.objs.size + 1 := Heap.size_push ..
  show _ ∧ _
  rw [z1]
  have hE : IsEnum ((s.heap.push { cls := .type "tuple_iterator", data := .fields #[.ref tp, .int 0 0] }).push { cls := .type "enumerate", data := .fields #[.none, .bool false, .ref s.heap.objs.size, rawInt 0, .none, .none] }) (s.heap.objs.size + 1) s.heap.objs.size 0 .none := by
    have q := Heap.get?_push_size (s.heap.push { cls := .type "tuple_iterator", data := .fields #[.ref tp, .int 0 0] }) (o := { cls := .type "enumerate", data := .fields #[.none, .bool false, .ref s.heap.objs.size, rawInt 0, .none, .none] }) rfl
    rw [z1] at q
    exact q
  exact ⟨⟨_, hE, rfl⟩, hQ _ hE ⟨_, Heap.get?_push_of_some _ (Heap.get?_push_size _ rfl), rfl, rfl⟩ (by rw [Heap.size_push, z1]) fun b o y => Heap.get?_push_of_some _ (Heap.get?_push_of_some _ y)⟩
/-- the tuple at a, its items in new pairs -/
def IteT (K : PySem.W.Frag) (a : Addr) : It :=
  ⟨fun i H => ∃ (ys : List V) (y : V), SqT K H a ys ∧ ys[i]? = some y, fun i H v H' => ∃ T y, v = .ref T ∧ H T = none ∧ H' = upd H T (.tup [.int (i : Nat), y]) ∧ ∀ ys, SqT K H a ys → ys[i]? = some y, fun i H => ∃ ys : List V, SqT K H a ys ∧ ys.length ≤ i⟩
theorem turn_enumT {P : Program} {w : World} {K : PySem.W.Frag} {elts : List Expr} {kk : Nat} {tpos : Pos} (a e it : Addr) (vals : Array Value) (hai : a ≠ it) (hae : a ≠ e) :
    Turn P w K (.Tuple elts kk tpos) (IteT K a) [e, it] e (fun i h => (∃ old, IsEnum h e it ((i : Nat) : Int) old) ∧ (h.IsTupleIter it a i ∧ e ≠ it)) where
  mem := by simp
  obj := fun i h st b hb => by
    obtain ⟨⟨old, he⟩, ⟨o, ho, hc, hd⟩, _⟩ := st
    rcases (show b = e ∨ b = it by simpa using hb) with z | z
    · subst z; exact ⟨_, he, fun v q => nomatch q⟩
    · subst z; exact ⟨o, ho, fun v q => by rw [hd] at q; cases q⟩
  keep := fun i h h1 st k => let ⟨⟨old, he⟩, hi, hne⟩ := st; ⟨⟨old, k e (by simp) _ he⟩, hi.at fun o q => k it (by simp) o q, hne⟩
  item := by
    intro X hP hw hK hc i pins s σ H E I hf st hg
    subst hP hw hK
    obtain ⟨⟨old, he⟩, hit, hne⟩ := st
    obtain ⟨ys, y, hq, hx⟩ := hg
    obtain ⟨its, rv, p, hz⟩ := I.tuple hq
    obtain ⟨u, hu, ru⟩ := rv.get hx
    have l1 : e < s.heap.objs.size := Heap.lt_size he
    have l2 : it < s.heap.objs.size := by obtain ⟨_, q, _⟩ := hit; exact Heap.lt_size q
    have lt : i < its.toArray.size := by
      have := (List.getElem?_eq_some_iff.mp hu).1
      simpa using this
    refine wpAny_pyNext_enum_itemD (Draws.tuple (prog := X.prog) (w := X.w) (A := X.A.in1) (show X.A.in1.handled = none from I.ok.hd hc) it a hai its.toArray) he ⟨hit, p⟩ lt hne (by simp [hne, Ne.symm hae]) fun z h1 tk hz1 ho hst hT hsz hk => ?_
    obtain rfl : z = u := by
      have a1 : its[i]? = some z := by simpa using hz1
      rw [hu] at a1
      exact (Option.some.inj a1).symm
    refine ⟨_, rfl, wpAny_letOwnedTupleGo_enum (s := { s with heap := h1, toks := tk + 1 }) ho fun h2 he2 sb => ?_⟩
    have hT2 : h2.get? s.heap.objs.size = some { cls := .type "tuple", data := .seq #[.int i tk, z] } := (sb.2 _ (Nat.ne_of_gt l1)).trans hT
    have nw : ObjOk X.prog X.w (upd H s.heap.objs.size (.tup [.int (i : Nat), y])) h2 s.heap.objs.size (.tup [.int (i : Nat), y]) := ⟨by show 2 ≤ sizeLine; decide, [.int i tk, z], .cons ⟨_, rfl⟩ (.cons ru .nil), ⟨_, hT2, rfl, _, rfl⟩⟩
    have I1 : Inv X pins σ (upd H s.heap.objs.size (.tup [.int (i : Nat), y])) { s with heap := h2, toks := tk + 1 } :=
      I.turnedNew (ch := [e, it]) (fun b ob hb q => (sb.2 b (fun z => hb (by simp [z]))).trans (hk b ob (fun z => hb (by simp [z])) (fun z => hb (by simp [z])) q)) hf (Nat.le_refl _) nw
    refine ⟨.ref s.heap.objs.size, _, I1, rfl, ⟨_, y, rfl, I.hok.fresh (Nat.le_refl _), rfl, fun zs hy => by rw [I.tuple_inj hy hq]; exact hx⟩, ⟨⟨z, ?_⟩, hst.1.at fun o q => (sb.2 it (Ne.symm hne)).trans q, hne⟩, fun b hb => ?_⟩
    · rw [show ((i + 1 : Nat) : Int) = (i : Int) + 1 by omega]
      exact he2
    · have lb : b < s.heap.objs.size := by
        rcases (show b = e ∨ b = it by simpa using hb) with z | z
        · subst z; exact l1
        · subst z; exact l2
      rw [upd_ne (Nat.ne_of_lt lb)]
      exact (hf b hb).1
  done := by
    intro X hP hw hK hc i pins s σ H E I hf st hg
    subst hP hw hK
    obtain ⟨⟨old, he⟩, hit, hne⟩ := st
    obtain ⟨ys, hq, hx⟩ := hg
    obtain ⟨its, rv, p, hz⟩ := I.tuple hq
    obtain ⟨g0, g1, g2, g3, g4, g5⟩ := hf it (by simp)
    have hl := rv.length
    have hend : its.toArray[i]? = none := by simp; omega
    have hT : s.TypeIs (.ref e) "enumerate" := ⟨_, he, rfl⟩
    unfold pyNext
    refine wpAny_bind (wpAny_attempt (wpAny_callSpecial?_slot (name := Str.ofString "__next__") hT F.slot_enumerate_next (wpAny_call_entry F.slot_enumerate_next hT F.entry_enumerate_next ?_ (F.args_enumerate_next_1 _))))
    show wpAny _ _ (field (.ref e) 2 >>= _) _ _ _
    refine wpAny_bind (wpAny_field he rfl (x := .ref it) rfl ?_)
    refine wpAny_bind (wpAny_nextOf_tuple_end (I.ok.hd hc) hit p hend fun h1 x eb hx1 => ?_)
    obtain ⟨o, ho, hcl⟩ := hx1
    refine wpAny_bind (wpAny_isInstance (T := "StopIteration") (b := true) ⟨o, ho, hcl⟩ isSubtype_stop ?_)
    exact wpAny_pure ⟨rfl, I.turned (t' := s.toks) (fun b o hb q => eb b o hb q) g0 g1 g3 g4 g5⟩
  self := fun A i s Q E st h => let ⟨⟨_, he⟩, _⟩ := st; wpAny_pyIter_enum he h
def iEnumT (K : PySem.W.Frag) (ta : L2.TA) : TI := fun σ H R => ta σ H fun vs H1 => ∃ a ys, vs = [.ref a] ∧ SqT K H1 a ys ∧ R (IteT K a) H1
theorem pi_enumT {X : Cx} {e : Expr} {ta : L2.TA} {p pos tpos : Pos} {elts : List Expr} {kk : Nat} (hg : Gl X "enumerate") (hm : X.mg "enumerate" = none) (ha : PA X [e] ta) (hs : starEach [e] X.env = [(false, eval e X.env)] := by rfl) :
    PI X (.Tuple elts kk tpos) (.Call (.Name "enumerate" p) [e] [] pos) (iEnumT X.K ta) := by
  refine ⟨fun pins s σ H R I h => ?_⟩
  refine Call_ (ld_blt I hg hm boot_enumerate (PyProof.Rows.callWith_type1 (thn (ha.run pos pins s σ H _ I h) fun us s1 ⟨vs, H1, I1, r1, q1⟩ => ?_) hs rfl))
  obtain ⟨a, ys, rfl, hq, q⟩ := q1
  cases r1 with
  | cons r rr =>
    cases rr
    cases r
    obtain ⟨its, rv, p1, hz⟩ := I1.tuple hq
    have la : a < s1.heap.objs.size := by obtain ⟨_, q, _⟩ := p1; exact Heap.lt_size q
    refine call_enumT (show s1.heap.IsTuple a its.toArray from p1) fun h1 he hit hsz hk => wpAny_pyIter_enum he ?_
    have I2 : Inv X pins σ H1 { s1 with heap := h1 } := I1.kept (t' := s1.toks) hk
    refine ⟨s1.heap.objs.size + 1, [s1.heap.objs.size + 1, s1.heap.objs.size], _, _, H1, rfl, I2, turn_enumT a (s1.heap.objs.size + 1) s1.heap.objs.size its.toArray (Nat.ne_of_lt la) (Nat.ne_of_lt (Nat.lt_succ_of_lt la)), ⟨⟨.none, he⟩, hit, Nat.succ_ne_self _⟩, fun b hb => ?_, q⟩
    have lb : s1.heap.objs.size ≤ b := by
      rcases (show b = s1.heap.objs.size + 1 ∨ b = s1.heap.objs.size by simpa using hb) with z | z
      · subst z; exact Nat.le_add_right _ _
      · subst z; exact Nat.le_refl _
    exact I1.fpOk lb (I1.hok.fresh lb)
theorem walk_enumT {K : PySem.W.Frag} {a : Addr} {ys : List V} : Walk (IteT K a) ys.length (fun H => SqT K H a ys) (YPair (fun i => some (.int (i : Nat))) (fun i => ys[i]?)) := by
  refine ⟨fun i _ hi q => ⟨ys, ys[i], q, by simp [hi]⟩, fun _ q => ⟨ys, q, Nat.le_refl _⟩, fun i H v H1 _ q y => ?_⟩
  obtain ⟨T, x, h1, h2, h3, h4⟩ := y
  exact ⟨T, .int (i : Nat), x, h1, h2, h3, rfl, h4 ys q⟩
section
variable {X : Cx} {B : Base} {ex : XD} {ss : Sst} {M : Mem} {a b e elt iter : Expr} {es ifs : List Expr} {pos p p2 : Pos} {Q : SV → Mem → Prop} {QL : List D → Mem → Prop} {scope : Scope}
theorem wi_enumT {elts : List Expr} {kk : Nat} {tpos : Pos} (hm : X.mg "enumerate" = none) (hg : Gl X "enumerate") (h : WA X B ex [e] (fun xs M1 => ∃ ds : List D, xs = [.dat (.tup ds)] ∧ QL (List.zipWith (fun a b => D.tup [a, b]) (rangeD 0 ds.length) ds) M1) ss M)
    (hs1 : starEach [e] X.env = [(false, eval e X.env)] := by rfl) : WI X B ex (.Tuple elts kk tpos) (.Call (.Name "enumerate" p) [e] [] p2) QL ss M := .mk fun ck G A H σ w sl R k => by
  refine ti_of (pi_enumT hg hm pa_self hs1) ?_
  refine h ck G A H σ w sl _ fun vs xs G1 A1 M1 H1 e1 w1 s1 h1 => ?_
  obtain ⟨ds, rfl, q⟩ := h1
  cases s1 with
  | cons s r =>
    cases r
    have s : Rep X.K G1 _ (.tup ds) := s
    cases s with
    | tup hl r =>
      rename_i l vs
      refine ⟨l, vs, rfl, sqtM w1.gh hl, k _ _ G1 A1 M1 H1 e1 w1 (src_pair (n := vs.length) (walk_enumT (K := X.K) (a := l) (ys := vs)) (fun H s => sqtM s hl) (by unfold rangeD; rw [List.length_map, List.length_range, r.length]) r.length.symm (fun i x hi hx => ?_) fun i x hi hx => r.at hx) q⟩
      cases hx
      refine ⟨.int (0 + (i : Int)), ?_, by rw [Int.zero_add]; exact .int _⟩
      unfold rangeD
      rw [List.getElem?_map, List.getElem?_range (by rw [← r.length]; exact hi)]
      rfl
/-! ### guards -/
theorem gGi {v : SV} {QS : Sst → Mem → Prop} (h : WG X B ex (.Subscript a b pos) v QS ss M) : WG X B ex (.Subscript a b pos) v QS ss M := h
/-- a module's own tuple, list .. that is read -/
theorem we_globD {x : Str} {l : Addr} {d : D} (hg : Gl X x) (hm : X.mg x = some (.ref l)) (r : ∀ G, Rep X.K G (.ref l) d) (q : Q (.dat d) M) (hd : (x == ("__debug__" : Str)) = false := by decide) : WE X B ex (.Name x pos) Q ss M := we_c (pe_glob (v := .ref l) hg hm rfl hd) r q
/-! ### a comprehension's list as a cell -/
theorem Wd.adoptC {K : PySem.W.Frag} {G : Hp} {A : List Addr} {H : Hp} (w : Wd K B G A M H) {l : Addr} {us : List V} {acc : List D} (hl : H l = some (.lst us)) (nA : l ∉ A) (gl : G l = Option.none) (hb : B.H l = Option.none) (r : Reps K G us acc) : Wd K B G (A ++ [l]) (M ++ [.lst acc]) H ∧ Ext G A G (A ++ [l]) := by
  have ex : Ext G A G (A ++ [l]) := ⟨fun _ _ e => e, [l], rfl⟩
  refine ⟨⟨w.gg, w.gh, w.fr, w.fresh, ?_, ?_, ?_, ?_, ?_⟩, ex⟩
  · refine List.nodup_append.mpr ⟨w.nd, by simp, ?_⟩
    intro x hx y hy z
    rw [List.mem_singleton] at hy
    subst hy
    exact nA (z ▸ hx)
  · obtain ⟨more, e⟩ := w.pre
    exact ⟨more ++ [l], by rw [e]; simp⟩
  · intro y m
    rcases List.mem_append.mp m with m | m
    · exact w.there y m
    · rw [List.mem_singleton] at m; subst m; exact ⟨_, hl⟩
  · intro y m
    rcases List.mem_append.mp m with m | m
    · exact w.an y m
    · rw [List.mem_singleton] at m; subst m; exact .inr hb
  · exact (w.cl.imp fun a c m h => h.keep ex (fun g => g) fun u e => e).append (.cons ⟨gl, us, hl, r⟩ .nil)
def asCell (Q : SV → Mem → Prop) : SV → Mem → Prop := fun x M => ∃ acc, x = .dat (.lst acc) ∧ Q (.cel M.length) (M ++ [.lst acc])
theorem lc_allC {tg : Expr} {g : TG} {T : D → Sst → (Sst → Prop) → Prop} {vs : List Nat} {σ : L2.St} {G A H Kq} (ck : Cok X B ex) (hT : TgOk X.K g T vs) (w : Wd X.K B G A M H) (sl : Sl X.K G A σ ss) (k : VPost X.K B G A Q Kq)
    (h : WI X B ex tg iter (fun ds M1 => ∃ I, I 0 [] M1 ∧ LcQ X scope elt ifs T vs ds I (asCell Q) ss) ss M) : tLc (tiW X tg iter) g (tsB X scope ifs) (teB X scope elt) vs σ H Kq := by
  refine h ck G A H σ w sl _ fun J ds G1 A1 M1 H1 e1 w1 src h1 q hq => ?_
  obtain ⟨I, h0, hL⟩ := h1
  obtain ⟨Gp, Y, wk, hG, hY⟩ := src
  obtain ⟨hbq, nAq, ngq⟩ := w1.none hq
  refine lc_it wk (LcInv X.K B G1 A1 σ ss q I) ⟨[], [], G1, A1, M1, .refl, w1.grow hq, sl.mono e1, upd_same, .nil, nAq, ngq, h0⟩ (fun i H _ ⟨_, _, G', _, _, s', w', _⟩ => hG H (s'.1.trans w'.gh)) (fun i y H H' hi hj hy => ?_) fun H hj => ?_
  · obtain ⟨acc, us, G2, A2, M2, s2, w2, sl2, hq2, r2, nA2, gq2, hi2⟩ := hj
    obtain ⟨G3, d, s3, w3, hd, rd, sH, fG⟩ := hY i H y H' G2 A2 M2 hi s2.1 w2 hy
    have hq3 : H' q = some (.lst us) := sH _ _ hq2
    have gq3 : G3 q = none := by
      cases e : G3 q with
      | none => rfl
      | some u =>
        rcases fG q u e with z | z
        · rw [gq2] at z; cases z
        · rw [hq2] at z; cases z
    have e3 : Ext G2 A2 G3 A2 := ⟨s3, [], by simp⟩
    refine hT.run w3 (sl2.mono e3) rd (hL.1 i d acc M2 hd hi2) fun σ2 ss2 hw sl3 ht => ⟨hw, ?_⟩
    exact lc_turn rfl hbq (s2.trans e3) w3 (sl2.mono e3) sl3 hq3 (r2.mono s3) nA2 gq3 ht
  · obtain ⟨acc, us, G2, A2, M2, s2, w2, sl2, hq2, r2, nA2, gq2, hi2⟩ := hj
    obtain ⟨w3, e3⟩ := w2.adoptC hq2 nA2 gq2 hbq r2
    obtain ⟨acc2, e4, qq⟩ := hL.2 acc M2 hi2
    cases e4
    exact k (.ref q) (.cel M2.length) G2 (A2 ++ [q]) (M2 ++ [.lst acc]) H (e1.trans (s2.trans e3)) w3 ⟨q, rfl, by rw [← w2.len]; simp⟩ qq
theorem we_lc1C {x : Str} {j : Nat} {tp : Pos} (hc : X.calm = true) (hN : X.N.Nodup) (ok : BlkOk X.N X.env.scope scope [(x, j)]) (hj : X.N[j]? = some x) (hL : ∀ s H C cl fp, Loc (Blk X scope s H C cl fp).env.scope x) (hi : ifs.length ≤ 1)
    (h : WI X B ex (.Name x tp) iter (fun ds M1 => ∃ I, I 0 [] M1 ∧ LcQ X scope elt ifs (tg1 j) [j] ds I (asCell Q) ss) ss M)
    (hf : ∀ s H C cl fp, (Blk X scope s H C cl fp).fn x = true ∨ (Blk X scope s H C cl fp).env.scope.names.lookup x = some .local := by intro _ _ _ _ _; first | exact .inl rfl | exact .inr rfl)
    (hs : ∀ x, foldedSetIterable iter X.env x = pure x := by intro _; rfl) : WE X B ex (.ListComp elt [⟨.Name x tp, iter, ifs, 0⟩] scope pos) Q ss M := .mk fun ck G A H σ w sl Kq k => by
  refine te_of (pe_lc (own := [(x, j)]) (g := gName j) hc hN pi_self ok (fun s H C cl fp => pg_name (i := j) hN hj (hL s H C cl fp) (hf s H C cl fp)) (fun s H C cl fp => ps_blk hi) (fun s H C cl fp => pe_blk) hs) ?_
  exact lc_allC ck tgOk1 w sl k h
end
end Mb

/-! Mb, part 34: a tuple of texts that the top holds. -/
namespace Mb
open PySem L2 PyProof.Rows
def strsOf : List Value → Option (List Str)
  | [] => some []
  | .str x _ :: r => match strsOf r with
    | some xs => some (x :: xs)
    | none => none
  | _ :: _ => none
/-- the texts of a tuple object -/
def tupO (o : Obj) : Option (List Str) := match o.cls, o.data with
  | .type n, .seq its _ => if n = "tuple" ∧ its.size ≤ 1000 then strsOf its.toList else none
  | _, _ => none
theorem strsOf_vals {K : PySem.W.Frag} {G : Hp} : ∀ {us : List Value} {xs : List Str}, strsOf us = some xs → (∀ x ∈ xs, SOk x) → Vals (xs.map V.str) us ∧ Reps K G (xs.map V.str) (xs.map D.str)
  | [], xs, h, _ => by
    cases h
    exact ⟨.nil, .nil⟩
  | .str x t :: r, xs, h, hs => by
    simp only [strsOf] at h
    cases e : strsOf r with
    | none => rw [e] at h; cases h
    | some ys =>
      rw [e] at h
      cases h
      obtain ⟨h1, h2⟩ := strsOf_vals (K := K) (G := G) e fun x m => hs x (List.mem_cons_of_mem _ m)
      exact ⟨.cons ⟨t, rfl⟩ h1, .cons (.str x (hs x (List.mem_cons_self ..))) h2⟩
theorem tupO_rep {K : PySem.W.Frag} {l : Addr} {o : Obj} {xs : List Str} (hk : List.lookup l K = some o) (h : tupO o = some xs) (hs : ∀ x ∈ xs, SOk x) (G : Hp) : Rep K G (.ref l) (.tup (xs.map D.str)) := by
  obtain ⟨cls, dd, data, sl⟩ := o
  unfold tupO at h
  cases cls with
  | type n =>
    cases data with
    | seq its m =>
      simp only at h
      split at h
      · rename_i hc
        obtain ⟨rfl, hz⟩ := hc
        obtain ⟨h1, h2⟩ := strsOf_vals (K := K) (G := G) h hs
        exact .tup (.inr ⟨_, its, m, hk, rfl, rfl, Nat.le_trans hz (by decide), h1⟩) h2
      · cases h
    | _ => cases h
  | _ => cases h
theorem we_globT {X : Cx} {B : Base} {ex : XD} {ss : Sst} {M : Mem} {pos : Pos} {Q : SV → Mem → Prop} {x : Str} {d : D} (hm : ∃ l, X.mg x = some (.ref l) ∧ ∀ G, Rep X.K G (.ref l) d) (hg : Gl X x) (q : Q (.dat d) M) (hd : (x == ("__debug__" : Str)) = false := by decide) : WE X B ex (.Name x pos) Q ss M := by
  obtain ⟨l, h1, h2⟩ := hm
  exact we_globD hg h1 h2 q hd
end Mb

/-! Mb, part 35: list + list as a cell. -/
namespace Mb
open PySem L2 PyProof.Rows
section
variable {X : Cx} {B : Base} {ex : XD} {ss : Sst} {M : Mem} {a b : Expr} {pos : Pos} {Q : SV → Mem → Prop}
theorem we_addC (h : WE X B ex a (fun x M1 => WE X B ex b (fun y M2 => ∃ d1 d2, x.get M2 = some (.lst d1) ∧ y.get M2 = some (.lst d2) ∧ d1.length + d2.length ≤ sizeLine ∧ Q (.cel M2.length) (M2 ++ [.lst (d1 ++ d2)])) ss M1) ss M) : WE X B ex (.BinOp a .Add b pos) Q ss M := by
  refine we_op2 (f := fun M2 x y Q => ∃ d1 d2, x.get M2 = some (.lst d1) ∧ y.get M2 = some (.lst d2) ∧ d1.length + d2.length ≤ sizeLine ∧ Q (.cel M2.length) (M2 ++ [.lst (d1 ++ d2)])) op_catL (fun G A H M x y u v Q Kq w sx sy hh k => ?_) h
  obtain ⟨d1, d2, g1, g2, hl, q⟩ := hh
  obtain ⟨a1, v1, rfl, h1, r1⟩ := sx.s w g1
  obtain ⟨a2, v2, rfl, h2, r2⟩ := sy.s w g2
  exact ⟨_, _, v1, v2, rfl, rfl, h1, h2, by rw [r1.length, r2.length]; exact hl, k.newC .refl w (r1.append r2) q⟩
theorem get_last {pre : Mem} {ds : List D} : SV.get (pre ++ [.lst ds]) (.cel pre.length) = some (.lst ds) := by
  simp [SV.get]
theorem set_last {pre : Mem} {c d : Cell} : (pre ++ [c]).set pre.length d = pre ++ [d] := by
  induction pre with
  | nil => rfl
  | cons x pre ih => show x :: (pre ++ [c]).set pre.length d = _; rw [ih]; rfl
theorem at_last {pre : Mem} {c : Cell} : (pre ++ [c])[pre.length]? = some c := by simp
end
end Mb

/-! Mb, part 36: five targets; in of a tuple as a value. -/
namespace Mb
open PySem L2 PyProof.Rows
section
variable {X : Cx} {B : Base} {ex : XD} {ss : Sst} {M : Mem} {pos : Pos} {Q : SV → Mem → Prop}
theorem wg_tup5 {t1 t2 t3 t4 t5 : Expr} {j : Nat} {d1 d2 d3 d4 d5 : D} {Q : Sst → Mem → Prop} (hc : X.calm = true) (h : WG X B ex t1 (.dat d1) (fun ss2 M2 => WG X B ex t2 (.dat d2) (fun ss3 M3 => WG X B ex t3 (.dat d3) (fun ss4 M4 => WG X B ex t4 (.dat d4) (fun ss5 M5 => WG X B ex t5 (.dat d5) Q ss5 M5) ss4 M4) ss3 M3) ss2 M2) ss M)
    (hn : (assignEach [t1, t2, t3, t4, t5] X.env).length = 5 := by rfl) (hst : (assignEach [t1, t2, t3, t4, t5] X.env).findIdx? (·.1) = none := by rfl) (h1 : (assignEach [t1, t2, t3, t4, t5] X.env).map (·.2) = assign t1 X.env :: (assignEach [t2, t3, t4, t5] X.env).map (·.2) := by rfl)
    (h2 : (assignEach [t2, t3, t4, t5] X.env).map (·.2) = assign t2 X.env :: (assignEach [t3, t4, t5] X.env).map (·.2) := by rfl) (h3 : (assignEach [t3, t4, t5] X.env).map (·.2) = assign t3 X.env :: (assignEach [t4, t5] X.env).map (·.2) := by rfl) (h4 : (assignEach [t4, t5] X.env).map (·.2) = assign t4 X.env :: (assignEach [t5] X.env).map (·.2) := by rfl) (h5 : (assignEach [t5] X.env).map (·.2) = assign t5 X.env :: (assignEach [] X.env).map (·.2) := by rfl) :
    WG X B ex (.Tuple [t1, t2, t3, t4, t5] j pos) (.dat (.tup [d1, d2, d3, d4, d5])) Q ss M := .mk fun ck G A H σ v w sl s Kq k => by
  refine tg_of (pg_tup hc (pgs_cons pg_self (pgs_cons pg_self (pgs_cons pg_self (pgs_cons pg_self (pgs_cons pg_self pgs_nil h5) h4) h3) h2) h1) hn hst) ?_
  have s : Rep X.K G v (.tup [d1, d2, d3, d4, d5]) := s
  cases s with
  | tup hl r =>
    cases r with
    | cons r1 r =>
      cases r with
      | cons r2 r =>
        cases r with
        | cons r3 r =>
          cases r with
          | cons r4 r =>
            cases r with
            | cons r5 r =>
              cases r
              refine ⟨_, _, rfl, sqtM w.gh hl, rfl, _, _, rfl, ?_⟩
              refine h ck G A H σ _ w sl r1 _ fun σ' ss' G' A' M' H' s' w' sl' q => ⟨_, _, rfl, ?_⟩
              refine q ck G' A' H' σ' _ w' sl' (Rep.mono s' r2) _ fun σ2 ss2 G2 A2 M2 H2 s2 w2 sl2 q2 => ⟨_, _, rfl, ?_⟩
              refine q2 ck G2 A2 H2 σ2 _ w2 sl2 (Rep.mono (s'.trans s2) r3) _ fun σ3 ss3 G3 A3 M3 H3 s3 w3 sl3 q3 => ⟨_, _, rfl, ?_⟩
              refine q3 ck G3 A3 H3 σ3 _ w3 sl3 (Rep.mono ((s'.trans s2).trans s3) r4) _ fun σ4 ss4 G4 A4 M4 H4 s4 w4 sl4 q4 => ⟨_, _, rfl, ?_⟩
              exact q4 ck G4 A4 H4 σ4 _ w4 sl4 (Rep.mono (((s'.trans s2).trans s3).trans s4) r5) _ fun σ5 ss5 G5 A5 M5 H5 s5 w5 sl5 q5 => ⟨rfl, k σ5 ss5 G5 A5 M5 H5 ((((s'.trans s2).trans s3).trans s4).trans s5) w5 sl5 q5⟩
theorem inTv {d : D} {ds : List D} (h1 : D.pl 0 d = true) (h2 : ds.all (D.pl 0) = true) (h : Q (.dat (.bl (ds.any fun z => deq z d))) M) : in2 false M (.dat d) (.dat (.tup ds)) Q := by
  refine ⟨w1d (w1d ⟨?_⟩)⟩
  unfold inD0
  cases d <;> first | exact ⟨⟨h1, h2⟩, h⟩ | cases h1
end
end Mb

/-! Mb, part 37: a dict display whose values make cells; == where an exception is held. -/
namespace Mb
open PySem L2 PyProof.Rows
section
variable {X : Cx} {B : Base} {ex : XD} {ss : Sst} {M : Mem} {a b : Expr} {pos : Pos} {Q : SV → Mem → Prop}
theorem we_dispI {keys : List (Option Expr)} {vs : List Expr} (h : WPs X B ex (keys.filterMap id) vs (fun kvs M1 => M1[M.length]? = some (.dic []) ∧ kvs.length ≤ 15 ∧ Q (.cel M.length) (M1.set M.length (.dic (mergeD [] kvs)))) ss (M ++ [.dic []])) (hk : keys = (keys.filterMap id).map some := by rfl) (hl : (keys.filterMap id).length = vs.length := by rfl) (h0 : keys.filterMap id ≠ [] := by intro z; cases z) (h15 : (keys.filterMap id).length ≤ 15 := by decide) :
    WE X B ex (.Dict keys vs pos) Q ss M := by
  rw [hk]
  generalize keys.filterMap id = ks at h hl h0 h15
  refine .mk fun ck G A H σ w sl Kq k => ?_
  have hall : (ks.map some).all (·.isSome) = true := by rw [List.all_map, List.all_eq_true]; intro x _; rfl
  refine te_of (pe_disp (pps_self hl) hall (by rw [List.length_map]; exact hl) (fun z => h0 (List.map_eq_nil_iff.mp z)) (by rw [List.length_map]; exact h15)) fun q hq => ?_
  obtain ⟨w1, e1⟩ := w.newC (c := .dic []) (o := .dK []) hq ⟨(w.none hq).2.2, [], upd_same, .nil⟩
  refine WPs.goes ck h w1 (sl.mono e1) fun kv kvs G2 A2 M1 H2 e2 w2 r hQ => ?_
  obtain ⟨gM, hk, hQ⟩ := hQ
  have gA : A2[M.length]? = some q := by
    refine pre_get e2.2 ?_
    rw [← w.len, List.getElem?_append_right (Nat.le_refl _), Nat.sub_self]
    rfl
  obtain ⟨gn, kv0, hv, r0⟩ := w2.cl.get gA gM
  cases r0
  refine ⟨hv, kv, rfl, by rw [r.length]; exact hk, ?_⟩
  have w3 := w2.setC (c' := .dic (mergeD [] kvs)) (o := .dK (mergeK [] kv)) gA gn ⟨gn, _, upd_same, RepK.merge r .nil⟩
  exact k _ (.cel M.length) G2 A2 _ _ (e1.trans e2) w3 ⟨q, rfl, gA⟩ hQ
theorem we_eqU (hu : X.A.units + 64 < cLine) (h : WE X B ex a (fun x M1 => WE X B ex b (fun y M2 => eq2 false M2 x y Q) ss M1) ss M) : WE X B ex (.Compare a [.Eq] [b] pos) Q ss M :=
  we_cmp2 (f := eq2 false) (op_eqD hu) (nomark _) (fun G A H M x y u v Q Kq w sx sy h k => eq2_run w sx sy h k) h
end
end Mb

/-! Mb, part 38: what the top holds, looked at by one run. -/
namespace Mb
open PySem L2 PyProof.Rows
abbrev Fact := PySem.W.Frag → Bool
/-- the part of the heap that is looked at: the module's names ns, and what they name, three steps on -/
def asX (g : Addr → Option Obj) (ns : List Str) : List Addr := mainGlobals :: cStatics :: He.growG g (He.growG g (He.growG g (ns.map (He.ga (He.frG g [mainGlobals])))))
def obsK (fa : List (List Fact)) (fn : List He.FnD) (K : PySem.W.Frag) : He.Al := (fa.all fun l => l.all fun f => f K, fn.map fun d => He.fnObs K d.at_)
def fnCodes (fn : List He.FnD) : List Fact := fn.map fun d => fun K => (He.Fa.code d.at_ d.qual).ok K
def obsX (ns : List Str) (fa : List (List Fact)) (fn : List He.FnD) (g : Addr → Option Obj) : He.Al := obsK fa fn (He.frG g (asX g ns))
/-- what is told of the top -/
structure Held (fa : List (List Fact)) (fn : List He.FnD) (K : PySem.W.Frag) : Prop where
  run : obsK fa fn K = He.valE fn
def hookX (ns : List Str) (fa : List (List Fact)) (fn : List He.FnD) : PySem.W.Hook where
  α := He.Al
  obs := fun s => obsX ns fa fn s.heap.get?
  val := fun _ => He.valE fn
  says := fun _ h => ∃ K : PySem.W.Frag, K.In h ∧ Held fa fn K
  of := fun _ _ e => ⟨_, He.frG_in, ⟨e⟩⟩
  keeps := fun _ _ _ ⟨K, hK, c⟩ k => ⟨K, PySem.W.Frag.In.keeps hK k, c⟩
def obX (ns : List Str) (fa : List (List Fact)) (fn : List He.FnD) (s : PySem.W.SharedT) : He.Al := obsX ns fa fn (HandSHeadRun.getT s)
theorem obX_eq (ns : List Str) (fa : List (List Fact)) (fn : List He.FnD) (s : PySem.W.SharedT) : obX ns fa fn s = (hookX ns fa fn).obs s.abs := by
  have e : HandSHeadRun.getT s = s.abs.heap.get? := funext fun a => HandSHeadRun.getT_eq s a
  unfold obX
  rw [e]
  rfl
section
variable {fa : List (List Fact)} {fn : List He.FnD} {K : PySem.W.Frag}
theorem Held.at (c : Held fa fn K) (i j : Nat) {l : List Fact} {f : Fact} (h1 : fa[i]? = some l) (h2 : l[j]? = some f) : f K = true := by
  have q : (fa.all fun l => l.all fun f => f K) = true := congrArg (fun z : He.Al => z.1) c.run
  exact List.all_eq_true.mp (List.all_eq_true.mp q l (List.mem_of_getElem? h1)) f (List.mem_of_getElem? h2)
theorem Held.def_ (c : Held fa fn K) (i : Nat) {d : He.FnD} (h : fn[i]? = some d) : He.fnObs K d.at_ = d.val := by
  have q : (fn.map fun d => He.fnObs K d.at_) = fn.map He.FnD.val := congrArg (fun z : He.Al => z.2) c.run
  have q2 : (fn.map fun d => He.fnObs K d.at_)[i]? = (fn.map He.FnD.val)[i]? := congrArg (fun z => z[i]?) q
  rw [List.getElem?_map, List.getElem?_map, h] at q2
  exact Option.some.inj q2
/-- a def of the text -/
abbrev dOf (at_ : Str × Option Str) (x q : Str) (st : Stmt) : He.FnD := ⟨at_, x, q, defArgs st, defBody st, defScope st⟩
def codeF (at_ : Str × Option Str) (q : Str) : Fact := fun K => (He.Fa.code at_ q).ok K
theorem fnX {at_ : Str × Option Str} {x q : Str} {st : Stmt} (e : He.fnObs K at_ = (dOf at_ x q st).val) (c : codeF at_ q K = true) : FnRaw K x q st (He.fAd K at_) := by
  obtain ⟨oc, od, osl, kV, doc, pm, an, cdv, ct, lk, hc⟩ := He.fn_ok (d := dOf at_ x q st) e c
  refine fnraw lk hc ?_
  unfold PySem.W.keepIn
  simp only [lk]
end
/-! ### facts of classes -/
def mkF (C f : PySem.W.Frag → Addr) : Fact := fun K => PySem.W.makesIn K (C K) && (He.eqO (PySem.W.findIn K (.ref (C K)) "__init__") (some (some (.ref (f K)))) && (PySem.W.isFn K (.ref (f K)) && PySem.W.keepIn K (.ref (C K))))
def mk0F (C : PySem.W.Frag → Addr) : Fact := fun K => PySem.W.makesIn K (C K) && (He.eqO (PySem.W.findIn K (.ref (C K)) "__init__") (some (some (.builtin "object.__init__"))) && PySem.W.keepIn K (.ref (C K)))
def meF (C : PySem.W.Frag → Addr) (m : Str) (f : PySem.W.Frag → Addr) : Fact := fun K => He.eqO (PySem.W.findIn K (.ref (C K)) m) (some (some (.ref (f K)))) && (PySem.W.isFn K (.ref (f K)) && PySem.W.keepIn K (.ref (f K)))
def clF (C : PySem.W.Frag → Addr) : Fact := fun K => PySem.W.plainGet K (C K) Str.empty && (PySem.W.hasDictIn K (C K) && (PySem.W.plainOver K (C K) && He.eqO (PySem.W.findIn K (.ref (C K)) "__setattr__") (some (some (.builtin "object.__setattr__")))))
def fiF (C : PySem.W.Frag → Addr) (x : Str) (v : PySem.W.Frag → Option Value) : Fact := fun K => He.eqO (PySem.W.findIn K (.ref (C K)) x) (some (v K))
def isF (C : PySem.W.Frag → Addr) : Fact := fun K => He.eqO (PySem.W.findIn K (.ref (C K)) "__class__") (some (some (.builtin "object.__class__"))) && (He.eqO (PySem.W.specialIn K (.builtin "object.__class__") "__get__") (some (some (.builtin "getset_descriptor.__get__"))) && (decide (PySem.W.takesIn K (.builtin "object.__class__") = some true) && decide (PySem.W.mroIn K (C K) (.type "object") = some true)))
def exF2 (C : PySem.W.Frag → Addr) : Fact := fun K => xfB K (C K) && isF C K
def kiF (C : PySem.W.Frag → Addr) (v : PySem.W.Frag → Value) (b : Bool) : Fact := fun K => decide (PySem.W.kitOne K (.ref (C K)) (v K) = some b)
def xmF (C : PySem.W.Frag → Addr) (v : PySem.W.Frag → Value) (b : Bool) : Fact := fun K => decide (PySem.W.exmOne K (.ref (C K)) (v K) = some b)
def tyF (C : PySem.W.Frag → Addr) (t : Value) : Fact := fun K => decide (PySem.W.typeIn K (.ref (C K)) = some t)
def oxB (C : Addr) (o : Obj) : Bool := match o with
  | ⟨.type t, _, .cls cd, sl⟩ => (match cd.mro, sl.toList with
    | .ref C' :: bm, [_, _, _, _, some (.builtin n), _] => decide (t = "type") && (decide (C' = C) && (decide (n = "ValueError.__new__") && (!cd.hasDel && (cd.hasDict && PySem.HandSPX.refsVE bm))))
    | _, _ => false)
  | _ => false
def oxF (C : PySem.W.Frag → Addr) : Fact := fun K => (match K.lookup (C K) with
  | some o => oxB (C K) o
  | none => false) && (He.eqO (PySem.W.findIn K (.ref (C K)) "__setattr__") (some (some (.builtin "object.__setattr__"))) && (decide (PySem.W.subIn K (.ref (C K)) (.type "BaseException") = some true) && (decide (PySem.W.typeIn K (.ref (C K)) = some (.type "type")) && PySem.W.keepIn K (.ref (C K)))))
def crF (C : PySem.W.Frag → Addr) : Fact := fun K => PySem.W.readsIn K (C K) (.type "type") && He.eqO (PySem.W.specialIn K (.ref (C K)) "__getattribute__") (some (some (.builtin "type.__getattribute__")))
def cvB : Option PySem.W.CFound → Value → Bool
  | some (.val u), v => decide (u = v)
  | _, _ => false
def cvF (C : PySem.W.Frag → Addr) (m : Str) (f : PySem.W.Frag → Addr) : Fact := fun K => cvB (PySem.W.findCls K (.ref (C K)) (.type "type") m) (.ref (f K))
def tuF (x : Str) (xs : List Str) : Fact := fun K => match PySem.W.nsIn K mainGlobals x with
  | some (some (.ref l)) => (match K.lookup l with
    | some o => decide (tupO o = some xs)
    | none => false)
  | _ => false
section
variable {K : PySem.W.Frag} {h : Heap} {mg : Str → Option Value} {C f : PySem.W.Frag → Addr}
theorem mkF_ok (c : mkF C f K = true) : Mk K (C K) (f K) := by
  obtain ⟨c1, c⟩ := He.ba c
  obtain ⟨c2, c⟩ := He.ba c
  obtain ⟨c3, c4⟩ := He.ba c
  exact ⟨c1, He.eqO_ok c2, c3, c4⟩
theorem mk0F_ok (c : mk0F C K = true) : Mk00 K (C K) := by
  obtain ⟨c1, c⟩ := He.ba c
  obtain ⟨c2, c3⟩ := He.ba c
  exact ⟨c1, He.eqO_ok c2, c3⟩
theorem meF_ok {m : Str} (c : meF C m f K = true) : Meth K (C K) m (f K) := by
  obtain ⟨c1, c⟩ := He.ba c
  obtain ⟨c2, c3⟩ := He.ba c
  exact ⟨He.eqO_ok c1, c2, c3⟩
theorem clF_ok (c : clF C K = true) : Cls K (C K) := by
  obtain ⟨c1, c⟩ := He.ba c
  obtain ⟨c2, c⟩ := He.ba c
  obtain ⟨c3, c4⟩ := He.ba c
  exact ⟨c1, c2, c3, He.eqO_ok c4⟩
theorem fiF_ok {x : Str} {v : PySem.W.Frag → Option Value} (c : fiF C x v K = true) : PySem.W.findIn K (.ref (C K)) x = some (v K) := He.eqO_ok c
theorem isF_ok (c : isF C K = true) : IsC0 K (C K) := by
  obtain ⟨c1, c⟩ := He.ba c
  obtain ⟨c2, c⟩ := He.ba c
  obtain ⟨c3, c4⟩ := He.ba c
  exact ⟨He.eqO_ok c1, He.eqO_ok c2, of_decide_eq_true c3, of_decide_eq_true c4⟩
theorem exF2_ok (c : exF2 C K = true) : XfC K (C K) ∧ ExcC K (C K) := by
  obtain ⟨c1, c2⟩ := He.ba c
  have a := xfB_ok c1
  have b := isF_ok c2
  exact ⟨a, ⟨a.ga, a.gg, a.exC, a.hdC, b.ha, b.hn, b.htk, b.hm⟩⟩
theorem kiF_ok {v : PySem.W.Frag → Value} {b : Bool} (c : kiF C v b K = true) : PySem.W.kitOne K (.ref (C K)) (v K) = some b := of_decide_eq_true c
theorem xmF_ok {v : PySem.W.Frag → Value} {b : Bool} (c : xmF C v b K = true) : PySem.W.exmOne K (.ref (C K)) (v K) = some b := of_decide_eq_true c
theorem tyF_ok {t : Value} (c : tyF C t K = true) : PySem.W.typeIn K (.ref (C K)) = some t := of_decide_eq_true c
theorem oxF_ok (c : oxF C K = true) : OexC K (C K) := by
  obtain ⟨c1, c⟩ := He.ba c
  obtain ⟨c2, c⟩ := He.ba c
  obtain ⟨c3, c⟩ := He.ba c
  obtain ⟨c4, c5⟩ := He.ba c
  refine ⟨?_, He.eqO_ok c2, of_decide_eq_true c3, of_decide_eq_true c4, c5⟩
  clear c2 c3 c4 c5
  cases lk : K.lookup (C K) with
  | none => rw [lk] at c1; cases c1
  | some o =>
    rw [lk] at c1
    replace c1 : oxB (C K) o = true := c1
    unfold oxB at c1
    split at c1
    · rename_i t dd cd sl
      split at c1
      · rename_i C' bm k0 k1 k2 k3 n k5 hm hs
        obtain ⟨d1, c1⟩ := He.ba c1
        obtain ⟨d2, c1⟩ := He.ba c1
        obtain ⟨d3, c1⟩ := He.ba c1
        obtain ⟨d4, c1⟩ := He.ba c1
        obtain ⟨d5, d6⟩ := He.ba c1
        obtain ⟨nm, bs, mro, ns, qn, hd, sn, sub, ab, col, del⟩ := cd
        dsimp only at hm d4 d5
        have e1 := of_decide_eq_true d1
        have e2 := of_decide_eq_true d2
        have e3 := of_decide_eq_true d3
        have e4 : del = false := by
          cases del
          · rfl
          · cases d4
        have e5 : sl = #[k0, k1, k2, k3, some (.builtin n), k5] := by
          obtain ⟨l⟩ := sl
          exact congrArg Array.mk hs
        subst e1 e3 e4 d5 hm e5
        rw [← e2]
        exact ⟨nm, qn, ns, bs, bm, sn, sub, ab, col, dd, k0, k1, k2, k3, k5, by rw [e2], d6⟩
      · cases c1
    · cases c1
theorem crF_ok (c : crF C K = true) : ClX.CRead K (C K) (.type "type") := by
  obtain ⟨c1, c2⟩ := He.ba c
  exact ⟨c1, He.eqO_ok c2⟩
theorem cvF_ok {m : Str} (c : cvF C m f K = true) : ClX.CVal K (C K) (.type "type") m (.ref (f K)) (.ref (f K)) := by
  refine ⟨?_, rfl⟩
  unfold cvF at c
  cases e : PySem.W.findCls K (.ref (C K)) (.type "type") m with
  | none => rw [e] at c; cases c
  | some r =>
    rw [e] at c
    cases r with
    | val u => rw [show u = .ref (f K) from of_decide_eq_true c]
    | _ => cases c
theorem tuF_ok (X : K.In h) (G : h.Ns mainGlobals mg) {x : Str} {xs : List Str} (c : tuF x xs K = true) (hs : ∀ z ∈ xs, SOk z) : ∃ l, mg x = some (.ref l) ∧ ∀ G, Rep K G (.ref l) (.tup (xs.map D.str)) := by
  unfold tuF at c
  split at c
  · rename_i l e
    split at c
    · rename_i o lk
      exact ⟨l, PySem.W.mg_of X G e, tupO_rep lk (of_decide_eq_true c) hs⟩
    · cases c
  · cases c
end
/-- a law, over a head that tells its facts -/
theorem walkX {l : PySem.W.OpenLaw} {k : Nat} {q : Program} {loose ns : List Str} {XP : (Str → Option Value) → Heap → Prop} {d : DefRec} {fa : List (List Fact)} {fn : List He.FnD} (hn : l.most = some 63) (hdf : d.params.defaults = []) (hdn : d.name = "law") (hr : Room k callerA)
    (F : ∀ (w : World) (mg : Str → Option Value) (h : Heap) (K : PySem.W.Frag), K.In h → h.Ns mainGlobals mg → Held fa fn K →
      ∃ (f : Addr) (fd : FuncData), mg "law" = some (.ref f) ∧ (∀ (s : Shared) (u : Value), BindsTo s fd ⟨[u], []⟩ [("_law_script", u)]) ∧ ∀ base : Heap, FnOk l.prog w K mg base (L2.CX l.prog w) k f fd ["_law_script"] (spOf K 0 (sp_law K))) :
    PySem.W.WalkO q loose XP (hookX ns fa fn).says l.row.toRowW d [] (fun f vs => PySem.call f vs) := by
  refine Att.attach_call hn hdf fun w s0 s1 mg mb fa o pm cd doc a vs is G Y ho hd hcd hmg hobj hints hlen hg => ?_
  obtain ⟨K, KX, c⟩ := Y
  obtain ⟨f, fd, hf, hb, hF⟩ := F w mg _ K KX G.T.g c
  rw [hdn] at hmg
  obtain rfl : fa = f := by
    have e := hmg.symm.trans hf
    cases e
    rfl
  refine law_call (k := k) KX G.T.g G.T.b G.T.builtins G.T.nolimit hg hobj hints (Nat.le_trans hlen (by decide)) hr (fun base _ _ => hF base) hb (fun H hO hS => law_sp hlen hS) ?_
  intro H e s' z
  obtain ⟨_, _, _, _, _, _, _, _, _, _, _, _, z⟩ := z
  exact z
section
variable {X : Cx} {B : Base} {ex : XD} {ss : Sst} {M : Mem} {N : Nd} {e : Expr} {es : List Expr} {p p' pos : Pos}
theorem gSn (x : Str) (h : WS X B ex (.Assign [.Name x p] e pos) N ss M) : WS X B ex (.Assign [.Name x p] e pos) N ss M := h
theorem gRa (x : Str) {kw : List Keyword} (h : WS X B ex (.Raise (some (.Call (.Name x p) es kw p')) none pos) N ss M) : WS X B ex (.Raise (some (.Call (.Name x p) es kw p')) none pos) N ss M := h
end
end Mb

/-! Mb, part 39: lists and tuples that hold cells. -/
namespace Mb
open PySem L2 PyProof.Rows
def FV.sv : FV → SV
  | .dat d => .dat d
  | .cel i => .cel i
def fvOf : SV → Option FV
  | .dat d => some (.dat d)
  | .cel i => some (.cel i)
  | _ => none
def fvsOf : List SV → Option (List FV)
  | [] => some []
  | x :: r => match fvOf x, fvsOf r with
    | some f, some fs => some (f :: fs)
    | _, _ => none
section
variable {K : PySem.W.Frag} {B : Base} {G : Hp} {A : List Addr} {M : List Cell} {H : Hp}
theorem FvOk.sv {v : V} {x : FV} (h : FvOk K G A v x) : SvOk K G A v x.sv := by
  cases x <;> exact h
theorem SvOk.fv {v : V} {x : SV} {f : FV} (h : SvOk K G A v x) (e : fvOf x = some f) : FvOk K G A v f := by
  cases x with
  | dat d => cases e; exact h
  | cel i => cases e; exact h
  | raw u => cases e
  | exc a b c => cases e
  | tup xs => cases e
theorem Svs.fvs : ∀ {vs : List V} {xs : List SV} {fs : List FV}, Svs K G A vs xs → fvsOf xs = some fs → Fvs K G A vs fs
  | _, _, _, .nil, e => by
    simp only [fvsOf, Option.some.injEq] at e
    subst e
    exact .nil
  | _, x :: r, _, .cons h q, e => by
    simp only [fvsOf] at e
    cases e1 : fvOf x with
    | none => simp [e1] at e
    | some d =>
      cases e2 : fvsOf r with
      | none => simp [e1, e2] at e
      | some ds =>
        simp only [e1, e2, Option.some.injEq] at e
        subst e
        exact .cons (h.fv e1) (q.fvs e2)
theorem Fvs.length : ∀ {vs : List V} {xs : List FV}, Fvs K G A vs xs → vs.length = xs.length
  | _, _, .nil => rfl
  | _, _, .cons _ r => congrArg (· + 1) r.length
theorem Svs.getS : ∀ {vs : List V} {xs : List SV} {i : Nat} {x : SV}, Svs K G A vs xs → xs[i]? = some x → ∃ v, vs[i]? = some v ∧ SvOk K G A v x
  | _, _, _, _, .nil, e => by simp at e
  | _, _, 0, _, .cons h _, e => by
    simp at e
    subst e
    exact ⟨_, rfl, h⟩
  | _, _, i + 1, x, .cons _ r, e => by
    obtain ⟨v, h1, h2⟩ := r.getS (i := i) (x := x) (by simpa using e)
    exact ⟨v, by simpa using h1, h2⟩
theorem Fvs.getF : ∀ {vs : List V} {xs : List FV} {i : Nat} {x : FV}, Fvs K G A vs xs → xs[i]? = some x → ∃ v, vs[i]? = some v ∧ FvOk K G A v x
  | _, _, _, _, .nil, e => by simp at e
  | _, _, 0, _, .cons h _, e => by
    simp at e
    subst e
    exact ⟨_, rfl, h⟩
  | _, _, i + 1, x, .cons _ r, e => by
    obtain ⟨v, h1, h2⟩ := r.getF (i := i) (x := x) (by simpa using e)
    exact ⟨v, by simpa using h1, h2⟩
theorem atI_svs {vs : List V} {xs : List SV} {n : Int} {x : SV} (r : Svs K G A vs xs) (h : atI xs n = some x) : ∃ v, atI vs n = some v ∧ SvOk K G A v x := by
  unfold atI at h ⊢
  rw [r.length]
  cases e : ixN xs.length n with
  | none => simp [e] at h
  | some j =>
    simp only [e, Option.bind_some] at h ⊢
    exact r.getS h
theorem atI_fvs {vs : List V} {xs : List FV} {n : Int} {x : FV} (r : Fvs K G A vs xs) (h : atI xs n = some x) : ∃ v, atI vs n = some v ∧ FvOk K G A v x := by
  unfold atI at h ⊢
  rw [r.length]
  cases e : ixN xs.length n with
  | none => simp [e] at h
  | some j =>
    simp only [e, Option.bind_some] at h ⊢
    exact r.getF h
end
/-- an item of a list or a tuple that is not data -/
def itS (M : Mem) (x : SV) (n : Int) : Option SV := match x with
  | .tup fs => (atI fs n).map FV.sv
  | .cel i => match M[i]? with
    | some (.mix xs) => atI xs n
    | _ => none
  | _ => none
section
variable {X : Cx} {B : Base} {ex : XD} {ss : Sst} {M : Mem} {a b c e tg o : Expr} {es : List Expr} {pos p p' apos : Pos} {Q : SV → Mem → Prop}
theorem we_tupS {j : Nat} (h : WA X B ex es (fun xs M1 => ∃ fs, fvsOf xs = some fs ∧ fs.length ≤ sizeLine ∧ Q (.tup fs) M1) ss M) : WE X B ex (.Tuple es j pos) Q ss M := .mk fun ck G A H σ w sl Kq k => by
  refine te_of (pe_tup pa_self) ?_
  refine h ck G A H σ w sl _ fun vs xs G1 A1 M1 H1 e1 w1 s1 h1 => ?_
  obtain ⟨fs, hf, hz, q⟩ := h1
  have r := s1.fvs hf
  refine ⟨by rw [r.length]; exact hz, fun p hp => ?_⟩
  obtain ⟨w2, e2⟩ := w1.newD (o := .tup vs) hp
  exact k _ (.tup fs) _ _ _ _ (e1.trans e2) w2 ⟨p, vs, rfl, .of upd_same, r.mono e2⟩ q
theorem we_lstM (h : WA X B ex es (fun xs M1 => xs.length ≤ sizeLine ∧ Q (.cel M1.length) (M1 ++ [.mix xs])) ss M) : WE X B ex (.List es pos) Q ss M := .mk fun ck G A H σ w sl Kq k => by
  refine te_of (pe_lst pa_self) ?_
  refine h ck G A H σ w sl _ fun vs xs G1 A1 M1 H1 e1 w1 s1 h1 => ?_
  obtain ⟨hz, q⟩ := h1
  refine ⟨by rw [s1.length]; exact hz, fun p hp => ?_⟩
  obtain ⟨w2, e2⟩ := w1.newC (c := .mix xs) (o := .lst vs) hp ⟨(w1.none hp).2.2, vs, upd_same, s1.mono ⟨fun _ _ e => e, [p], rfl⟩⟩
  refine k _ (.cel M1.length) _ _ _ _ (e1.trans e2) w2 ⟨p, rfl, ?_⟩ q
  rw [← w1.len, List.getElem?_append_right (Nat.le_refl _), Nat.sub_self]
  rfl
theorem we_ixS (h : WE X B ex a (fun x M1 => WE X B ex b (fun y M2 => ∃ n v, y = .dat (.int n) ∧ itS M2 x n = some v ∧ Q v M2) ss M1) ss M) (hs : PlainIx b := by intro _ _; rfl) : WE X B ex (.Subscript a b pos) Q ss M := by
  refine .mk fun ck G A H σ w sl Kq k => ?_
  refine te_of (pe_ix ix_seq pe_self pe_self hs) ?_
  refine h ck G A H σ w sl _ fun u x G1 A1 M1 H1 e1 w1 s1 h1 => ?_
  refine h1 ck G1 A1 H1 σ w1 (sl.mono e1) _ fun v y G2 A2 M2 H2 e2 w2 s2 h2 => ?_
  obtain ⟨n, z, rfl, hx, q⟩ := h2
  have s1 := s1.mono e2
  cases s2
  cases x with
  | dat d => cases hx
  | raw d => cases hx
  | exc _ _ _ => cases hx
  | tup fs =>
    obtain ⟨l, vs, rfl, hl, r⟩ := s1
    simp only [itS, Option.map_eq_some_iff] at hx
    obtain ⟨f, hf, rfl⟩ := hx
    obtain ⟨y, hy, ry⟩ := atI_fvs r hf
    exact .inr (.inl ⟨_, vs, _, y, rfl, rfl, sqtM w2.gh hl, hy, k _ _ G2 A2 M2 H2 (e1.trans e2) w2 ry.sv q⟩)
  | cel i =>
    obtain ⟨l, rfl, hl⟩ := s1
    simp only [itS] at hx
    cases hM : M2[i]? with
    | none => simp [hM] at hx
    | some c =>
      cases c with
      | mix xs =>
        simp only [hM] at hx
        obtain ⟨_, vs, hv, r⟩ := w2.cl.get hl hM
        obtain ⟨y, hy, ry⟩ := atI_svs r hx
        exact .inl ⟨_, vs, _, y, rfl, rfl, .inl (.inl hv), hy, k _ _ G2 A2 M2 H2 (e1.trans e2) w2 ry q⟩
      | _ => simp [hM] at hx
end
theorem wb_forgetE {X : Cx} {B : Base} {ex : XD} {sts : List Stmt} {N : Nd} {ss ss1 ss' : Sst} {M M' : Mem} {k : Nat} (es : ss = ss1) (hf : Fgt ss1 ss') (hk : B.A.length ≤ k) (hM : (M.take k).all (Cell.lt k) = true) (hs : (ss'.all fun o => match o with | some x => x.lt k | none => true) = true) (e : M.take k = M') (h : WB X B ex sts N ss' M') : WB X B ex sts N ss M := wb_forget (es ▸ hf) hk hM hs (by rw [e]; exact h)
end Mb

namespace Mb
open PySem L2 PyProof.Rows
def topS (i : Nat) : Stmt := PySem.Challenge.pw_manyboard_k23_fullest_programs.main.body.getD i (.Pass ⟨0, 0, 0, 0⟩)
abbrev s_BadCount_init : Stmt := inClass (topS 3) 0
abbrev ps_BadCount_init : List Str := ["self", "what", "count"]
theorem sc_BadCount_init : FnScope ["self", "what", "count"] ["self", "what", "count"] (defScope s_BadCount_init) := ⟨rfl, rfl, rfl, by decide +kernel, rfl, by decide +kernel, by decide +kernel⟩
abbrev s_NoName_init : Stmt := inClass (topS 4) 0
abbrev ps_NoName_init : List Str := ["self", "name"]
theorem sc_NoName_init : FnScope ["self", "name"] ["self", "name"] (defScope s_NoName_init) := ⟨rfl, rfl, rfl, by decide +kernel, rfl, by decide +kernel, by decide +kernel⟩
abbrev s_NoCell_init : Stmt := inClass (topS 6) 0
abbrev ps_NoCell_init : List Str := ["self", "name"]
theorem sc_NoCell_init : FnScope ["self", "name"] ["self", "name"] (defScope s_NoCell_init) := ⟨rfl, rfl, rfl, by decide +kernel, rfl, by decide +kernel, by decide +kernel⟩
abbrev s_NoValue_init : Stmt := inClass (topS 7) 0
abbrev ps_NoValue_init : List Str := ["self", "cell", "value"]
theorem sc_NoValue_init : FnScope ["self", "cell", "value"] ["self", "cell", "value"] (defScope s_NoValue_init) := ⟨rfl, rfl, rfl, by decide +kernel, rfl, by decide +kernel, by decide +kernel⟩
abbrev s_NoRoom_init : Stmt := inClass (topS 8) 0
abbrev ps_NoRoom_init : List Str := ["self", "room"]
theorem sc_NoRoom_init : FnScope ["self", "room"] ["self", "room"] (defScope s_NoRoom_init) := ⟨rfl, rfl, rfl, by decide +kernel, rfl, by decide +kernel, by decide +kernel⟩
abbrev s_is_name : Stmt := topS 13
abbrev ps_is_name : List Str := ["text"]
theorem sc_is_name : FnScope ["text", "sign"] ["text"] (defScope s_is_name) := ⟨rfl, rfl, rfl, by decide +kernel, rfl, by decide +kernel, by decide +kernel⟩
abbrev s_asked_names : Stmt := topS 14
abbrev ps_asked_names : List Str := ["texts"]
theorem sc_asked_names : FnScope ["texts", "text"] ["texts"] (defScope s_asked_names) := ⟨rfl, rfl, rfl, by decide +kernel, rfl, by decide +kernel, by decide +kernel⟩
abbrev s_asked_once : Stmt := topS 15
abbrev ps_asked_once : List Str := ["names"]
theorem sc_asked_once : FnScope ["names", "seen", "name"] ["names"] (defScope s_asked_once) := ⟨rfl, rfl, rfl, by decide +kernel, rfl, by decide +kernel, by decide +kernel⟩
abbrev s_asked_size : Stmt := topS 19
abbrev ps_asked_size : List Str := ["size", "deep"]
theorem sc_asked_size : FnScope ["size", "deep"] ["size", "deep"] (defScope s_asked_size) := ⟨rfl, rfl, rfl, by decide +kernel, rfl, by decide +kernel, by decide +kernel⟩
abbrev s_Statement_parts : Stmt := inClass (topS 20) 1
abbrev ps_Statement_parts : List Str := ["self"]
theorem sc_Statement_parts : FnScope ["self"] ["self"] (defScope s_Statement_parts) := ⟨rfl, rfl, rfl, by decide +kernel, rfl, by decide +kernel, by decide +kernel⟩
abbrev s_Statement_size : Stmt := inClass (topS 20) 2
abbrev ps_Statement_size : List Str := ["self"]
theorem sc_Statement_size : FnScope ["self", "part"] ["self"] (defScope s_Statement_size) := ⟨rfl, rfl, rfl, by decide +kernel, rfl, by decide +kernel, by decide +kernel⟩
abbrev s_OnCell_init : Stmt := inClass (topS 21) 0
abbrev ps_OnCell_init : List Str := ["self", "cell", "value"]
theorem sc_OnCell_init : FnScope ["self", "cell", "value"] ["self", "cell", "value"] (defScope s_OnCell_init) := ⟨rfl, rfl, rfl, by decide +kernel, rfl, by decide +kernel, by decide +kernel⟩
abbrev s_Mark_init : Stmt := inClass (topS 24) 0
abbrev ps_Mark_init : List Str := ["self", "name"]
theorem sc_Mark_init : FnScope ["self", "name"] ["self", "name"] (defScope s_Mark_init) := ⟨rfl, rfl, rfl, by decide +kernel, rfl, by decide +kernel, by decide +kernel⟩
abbrev s_If_init : Stmt := inClass (topS 28) 0
abbrev ps_If_init : List Str := ["self", "cell", "value", "yes", "no"]
theorem sc_If_init : FnScope ["self", "cell", "value", "yes", "no"] ["self", "cell", "value", "yes", "no"] (defScope s_If_init) := ⟨rfl, rfl, rfl, by decide +kernel, rfl, by decide +kernel, by decide +kernel⟩
abbrev s_If_parts : Stmt := inClass (topS 28) 2
abbrev ps_If_parts : List Str := ["self"]
theorem sc_If_parts : FnScope ["self"] ["self"] (defScope s_If_parts) := ⟨rfl, rfl, rfl, by decide +kernel, rfl, by decide +kernel, by decide +kernel⟩
abbrev s_While_init : Stmt := inClass (topS 29) 0
abbrev ps_While_init : List Str := ["self", "cell", "value", "body"]
theorem sc_While_init : FnScope ["self", "cell", "value", "body"] ["self", "cell", "value", "body"] (defScope s_While_init) := ⟨rfl, rfl, rfl, by decide +kernel, rfl, by decide +kernel, by decide +kernel⟩
abbrev s_While_parts : Stmt := inClass (topS 29) 2
abbrev ps_While_parts : List Str := ["self"]
theorem sc_While_parts : FnScope ["self"] ["self"] (defScope s_While_parts) := ⟨rfl, rfl, rfl, by decide +kernel, rfl, by decide +kernel, by decide +kernel⟩
abbrev s_Choose_init : Stmt := inClass (topS 30) 0
abbrev ps_Choose_init : List Str := ["self", "one", "other"]
theorem sc_Choose_init : FnScope ["self", "one", "other"] ["self", "one", "other"] (defScope s_Choose_init) := ⟨rfl, rfl, rfl, by decide +kernel, rfl, by decide +kernel, by decide +kernel⟩
abbrev s_Choose_parts : Stmt := inClass (topS 30) 2
abbrev ps_Choose_parts : List Str := ["self"]
theorem sc_Choose_parts : FnScope ["self"] ["self"] (defScope s_Choose_parts) := ⟨rfl, rfl, rfl, by decide +kernel, rfl, by decide +kernel, by decide +kernel⟩
abbrev s_Loop_init : Stmt := inClass (topS 31) 0
abbrev ps_Loop_init : List Str := ["self", "body"]
theorem sc_Loop_init : FnScope ["self", "body"] ["self", "body"] (defScope s_Loop_init) := ⟨rfl, rfl, rfl, by decide +kernel, rfl, by decide +kernel, by decide +kernel⟩
abbrev s_Loop_parts : Stmt := inClass (topS 31) 2
abbrev ps_Loop_parts : List Str := ["self"]
theorem sc_Loop_parts : FnScope ["self"] ["self"] (defScope s_Loop_parts) := ⟨rfl, rfl, rfl, by decide +kernel, rfl, by decide +kernel, by decide +kernel⟩
abbrev s_Program_init : Stmt := inClass (topS 32) 0
abbrev ps_Program_init : List Str := ["self", "statements"]
theorem sc_Program_init : FnScope ["self", "statements"] ["self", "statements"] (defScope s_Program_init) := ⟨rfl, rfl, rfl, by decide +kernel, rfl, by decide +kernel, by decide +kernel⟩
abbrev s_Program_size : Stmt := inClass (topS 32) 1
abbrev ps_Program_size : List Str := ["self"]
theorem sc_Program_size : FnScope ["self", "statement"] ["self"] (defScope s_Program_size) := ⟨rfl, rfl, rfl, by decide +kernel, rfl, by decide +kernel, by decide +kernel⟩
abbrev s_Program_deep : Stmt := inClass (topS 32) 2
abbrev ps_Program_deep : List Str := ["self"]
theorem sc_Program_deep : FnScope ["self", "found", "statement", "part"] ["self"] (defScope s_Program_deep) := ⟨rfl, rfl, rfl, by decide +kernel, rfl, by decide +kernel, by decide +kernel⟩
abbrev s_looks_rooms : Stmt := topS 35
abbrev ps_looks_rooms : List Str := ["board", "statement", "then", "other"]
theorem sc_looks_rooms : FnScope ["board", "statement", "then", "other", "found", "value"] ["board", "statement", "then", "other"] (defScope s_looks_rooms) := ⟨rfl, rfl, rfl, by decide +kernel, rfl, by decide +kernel, by decide +kernel⟩
abbrev s_Machine_init : Stmt := inClass (topS 37) 0
abbrev ps_Machine_init : List Str := ["self", "board", "program"]
theorem sc_Machine_init : FnScope ["self", "board", "program", "statement"] ["self", "board", "program"] (defScope s_Machine_init) := ⟨rfl, rfl, rfl, by decide +kernel, rfl, by decide +kernel, by decide +kernel⟩
abbrev s_Machine_number_row : Stmt := inClass (topS 37) 1
abbrev ps_Machine_number_row : List Str := ["self", "program"]
theorem sc_Machine_number_row : FnScope ["self", "program", "statement", "part"] ["self", "program"] (defScope s_Machine_number_row) := ⟨rfl, rfl, rfl, by decide +kernel, rfl, by decide +kernel, by decide +kernel⟩
abbrev s_Machine_lay_row : Stmt := inClass (topS 37) 2
abbrev ps_Machine_lay_row : List Str := ["self", "program", "first", "behind"]
theorem sc_Machine_lay_row : FnScope ["self", "program", "first", "behind", "at", "k", "statement", "after", "goal"] ["self", "program", "first", "behind"] (defScope s_Machine_lay_row) := ⟨rfl, rfl, rfl, by decide +kernel, rfl, by decide +kernel, by decide +kernel⟩
abbrev s_Machine_begin_of : Stmt := inClass (topS 37) 3
abbrev ps_Machine_begin_of : List Str := ["self", "program", "first", "behind"]
theorem sc_Machine_begin_of : FnScope ["self", "program", "first", "behind"] ["self", "program", "first", "behind"] (defScope s_Machine_begin_of) := ⟨rfl, rfl, rfl, by decide +kernel, rfl, by decide +kernel, by decide +kernel⟩
abbrev s_Machine_lay : Stmt := inClass (topS 37) 4
abbrev ps_Machine_lay : List Str := ["self", "statement", "at", "goal"]
theorem sc_Machine_lay : FnScope ["self", "statement", "at", "goal", "begins", "inner", "back", "part"] ["self", "statement", "at", "goal"] (defScope s_Machine_lay) := ⟨rfl, rfl, rfl, by decide +kernel, rfl, by decide +kernel, by decide +kernel⟩
abbrev s_Machine_steps_of : Stmt := inClass (topS 37) 5
abbrev ps_Machine_steps_of : List Str := ["self", "statement", "begins", "goal"]
theorem sc_Machine_steps_of : FnScope ["self", "statement", "begins", "goal", "begin"] ["self", "statement", "begins", "goal"] (defScope s_Machine_steps_of) := ⟨rfl, rfl, rfl, by decide +kernel, rfl, by decide +kernel, by decide +kernel⟩
abbrev s_Machine_rooms : Stmt := inClass (topS 37) 6
abbrev ps_Machine_rooms : List Str := ["self"]
theorem sc_Machine_rooms : FnScope ["self"] ["self"] (defScope s_Machine_rooms) := ⟨rfl, rfl, rfl, by decide +kernel, rfl, by decide +kernel, by decide +kernel⟩
abbrev s_Machine_asked : Stmt := inClass (topS 37) 7
abbrev ps_Machine_asked : List Str := ["self", "room"]
theorem sc_Machine_asked : FnScope ["self", "room"] ["self", "room"] (defScope s_Machine_asked) := ⟨rfl, rfl, rfl, by decide +kernel, rfl, by decide +kernel, by decide +kernel⟩
abbrev s_Machine_steps : Stmt := inClass (topS 37) 8
abbrev ps_Machine_steps : List Str := ["self", "room"]
theorem sc_Machine_steps : FnScope ["self", "room"] ["self", "room"] (defScope s_Machine_steps) := ⟨rfl, rfl, rfl, by decide +kernel, rfl, by decide +kernel, by decide +kernel⟩
abbrev s_Machine_mark_of : Stmt := inClass (topS 37) 9
abbrev ps_Machine_mark_of : List Str := ["self", "room"]
theorem sc_Machine_mark_of : FnScope ["self", "room"] ["self", "room"] (defScope s_Machine_mark_of) := ⟨rfl, rfl, rfl, by decide +kernel, rfl, by decide +kernel, by decide +kernel⟩
abbrev s_asked_cells : Stmt := topS 42
abbrev ps_asked_cells : List Str := ["cells"]
theorem sc_asked_cells : FnScope ["cells", "name", "values"] ["cells"] (defScope s_asked_cells) := ⟨rfl, rfl, rfl, by decide +kernel, rfl, by decide +kernel, by decide +kernel⟩
abbrev s_Board_init : Stmt := inClass (topS 43) 0
abbrev ps_Board_init : List Str := ["self", "cells"]
theorem sc_Board_init : FnScope ["self", "cells", "name", "values"] ["self", "cells"] (defScope s_Board_init) := ⟨rfl, rfl, rfl, by decide +kernel, rfl, by decide +kernel, by decide +kernel⟩
abbrev s_Board_values_of : Stmt := inClass (topS 43) 2
abbrev ps_Board_values_of : List Str := ["self", "cell"]
theorem sc_Board_values_of : FnScope ["self", "cell"] ["self", "cell"] (defScope s_Board_values_of) := ⟨rfl, rfl, rfl, by decide +kernel, rfl, by decide +kernel, by decide +kernel⟩
abbrev s_Board_asked : Stmt := inClass (topS 43) 4
abbrev ps_Board_asked : List Str := ["self", "cell", "value"]
theorem sc_Board_asked : FnScope ["self", "cell", "value"] ["self", "cell", "value"] (defScope s_Board_asked) := ⟨rfl, rfl, rfl, by decide +kernel, rfl, by decide +kernel, by decide +kernel⟩
abbrev s_Board_others : Stmt := inClass (topS 43) 5
abbrev ps_Board_others : List Str := ["self", "cell", "value"]
theorem sc_Board_others : FnScope ["self", "cell", "value", "one"] ["self", "cell", "value"] (defScope s_Board_others) := ⟨rfl, rfl, rfl, by decide +kernel, rfl, by decide +kernel, by decide +kernel⟩
abbrev s_looks_lefts : Stmt := topS 45
abbrev ps_looks_lefts : List Str := ["board", "statement", "then", "other"]
theorem sc_looks_lefts : FnScope ["board", "statement", "then", "other", "found", "value"] ["board", "statement", "then", "other"] (defScope s_looks_lefts) := ⟨rfl, rfl, rfl, by decide +kernel, rfl, by decide +kernel, by decide +kernel⟩
abbrev s_left_of_cell : Stmt := topS 47
abbrev ps_left_of_cell : List Str := ["board", "statement", "row"]
theorem sc_left_of_cell : FnScope ["board", "statement", "row", "rest"] ["board", "statement", "row"] (defScope s_left_of_cell) := ⟨rfl, rfl, rfl, by decide +kernel, rfl, by decide +kernel, by decide +kernel⟩
abbrev s_left : Stmt := topS 48
abbrev ps_left : List Str := ["board", "row"]
theorem sc_left : FnScope ["board", "row", "statement", "rest"] ["board", "row"] (defScope s_left) := ⟨rfl, rfl, rfl, by decide +kernel, rfl, by decide +kernel, by decide +kernel⟩
abbrev s_law_cell_at : Stmt := topS 50
abbrev ps_law_cell_at : List Str := ["_law_script", "_law_k"]
theorem sc_law_cell_at : FnScope ["_law_script", "_law_k"] ["_law_script", "_law_k"] (defScope s_law_cell_at) := ⟨rfl, rfl, rfl, by decide +kernel, rfl, by decide +kernel, by decide +kernel⟩
abbrev s_law_state : Stmt := topS 51
abbrev ps_law_state : List Str := ["_law_cell"]
theorem sc_law_state : FnScope ["_law_cell"] ["_law_cell"] (defScope s_law_state) := ⟨rfl, rfl, rfl, by decide +kernel, rfl, by decide +kernel, by decide +kernel⟩
abbrev s_law_digit : Stmt := topS 52
abbrev ps_law_digit : List Str := ["_law_state_here", "_law_base"]
theorem sc_law_digit : FnScope ["_law_state_here", "_law_base", "_law_found", "_law_more"] ["_law_state_here", "_law_base"] (defScope s_law_digit) := ⟨rfl, rfl, rfl, by decide +kernel, rfl, by decide +kernel, by decide +kernel⟩
abbrev s_law_name : Stmt := topS 53
abbrev ps_law_name : List Str := ["_law_s", "_law_taken"]
theorem sc_law_name : FnScope ["_law_s", "_law_taken", "_law_some", "_law_kind", "_law_stem", "_law_k", "_law_found", "_law_n"] ["_law_s", "_law_taken"] (defScope s_law_name) := ⟨rfl, rfl, rfl, by decide +kernel, rfl, by decide +kernel, by decide +kernel⟩
abbrev s_law_names : Stmt := topS 54
abbrev ps_law_names : List Str := ["_law_s", "_law_many"]
theorem sc_law_names : FnScope ["_law_s", "_law_many", "_law_found", "_law_k"] ["_law_s", "_law_many"] (defScope s_law_names) := ⟨rfl, rfl, rfl, by decide +kernel, rfl, by decide +kernel, by decide +kernel⟩
abbrev s_law_simple : Stmt := topS 56
abbrev ps_law_simple : List Str := ["_law_s", "_law_m", "_law_kind", "_law_cell", "_law_value"]
theorem sc_law_simple : FnScope ["_law_s", "_law_m", "_law_kind", "_law_cell", "_law_value"] ["_law_s", "_law_m", "_law_kind", "_law_cell", "_law_value"] (defScope s_law_simple) := ⟨rfl, rfl, rfl, by decide +kernel, rfl, by decide +kernel, by decide +kernel⟩
abbrev s_law_made : Stmt := topS 60
abbrev ps_law_made : List Str := ["_law_word", "_law_cell", "_law_value", "_law_some"]
theorem sc_law_made : FnScope ["_law_word", "_law_cell", "_law_value", "_law_some"] ["_law_word", "_law_cell", "_law_value", "_law_some"] (defScope s_law_made) := ⟨rfl, rfl, rfl, by decide +kernel, rfl, by decide +kernel, by decide +kernel⟩
abbrev s_law_built : Stmt := topS 61
abbrev ps_law_built : List Str := ["_law_row_here"]
theorem sc_law_built : FnScope ["_law_row_here", "_law_found", "_law_word", "_law_cell", "_law_value", "_law_parts", "_law_part"] ["_law_row_here"] (defScope s_law_built) := ⟨rfl, rfl, rfl, by decide +kernel, rfl, by decide +kernel, by decide +kernel⟩
abbrev s_law_nest : Stmt := topS 62
abbrev ps_law_nest : List Str := ["_law_s", "_law_m", "_law_row_here"]
theorem sc_law_nest : FnScope ["_law_s", "_law_m", "_law_row_here", "_law_cell", "_law_values", "_law_value", "_law_word"] ["_law_s", "_law_m", "_law_row_here"] (defScope s_law_nest) := ⟨rfl, rfl, rfl, by decide +kernel, rfl, by decide +kernel, by decide +kernel⟩
abbrev s_law_deep : Stmt := topS 63
abbrev ps_law_deep : List Str := ["_law_s", "_law_m"]
theorem sc_law_deep : FnScope ["_law_s", "_law_m", "_law_row_here", "_law_depth", "_law_some", "_law_cut", "_law_k"] ["_law_s", "_law_m"] (defScope s_law_deep) := ⟨rfl, rfl, rfl, by decide +kernel, rfl, by decide +kernel, by decide +kernel⟩
abbrev s_law : Stmt := topS 64
abbrev ps_law : List Str := ["_law_script"]
theorem sc_law : FnScope ["_law_script", "_law_s", "_law_cells_here", "_law_m", "_law_program_here", "_law_board", "_law_machine", "_law_room", "_law_row_here", "_law_cell", "_law_rooms", "_law_rows", "_law_at", "_law_act", "_law_goal", "_law_rest"] ["_law_script"] (defScope s_law) := ⟨rfl, rfl, rfl, by decide +kernel, rfl, by decide +kernel, by decide +kernel⟩
def a_f_BadCount_init : PySem.W.Frag → Addr := fun K => He.ma K (He.ga K "BadCount") "__init__"
def a_f_NoName_init : PySem.W.Frag → Addr := fun K => He.ma K (He.ga K "NoName") "__init__"
def a_f_NoCell_init : PySem.W.Frag → Addr := fun K => He.ma K (He.ga K "NoCell") "__init__"
def a_f_NoValue_init : PySem.W.Frag → Addr := fun K => He.ma K (He.ga K "NoValue") "__init__"
def a_f_NoRoom_init : PySem.W.Frag → Addr := fun K => He.ma K (He.ga K "NoRoom") "__init__"
def a_f_is_name : PySem.W.Frag → Addr := fun K => He.ga K "is_name"
def a_f_asked_names : PySem.W.Frag → Addr := fun K => He.ga K "asked_names"
def a_f_asked_once : PySem.W.Frag → Addr := fun K => He.ga K "asked_once"
def a_f_asked_size : PySem.W.Frag → Addr := fun K => He.ga K "asked_size"
def a_f_Statement_parts : PySem.W.Frag → Addr := fun K => He.ma K (He.ga K "Statement") "parts"
def a_f_Statement_size : PySem.W.Frag → Addr := fun K => He.ma K (He.ga K "Statement") "size"
def a_f_OnCell_init : PySem.W.Frag → Addr := fun K => He.ma K (He.ga K "OnCell") "__init__"
def a_f_Mark_init : PySem.W.Frag → Addr := fun K => He.ma K (He.ga K "Mark") "__init__"
def a_f_If_init : PySem.W.Frag → Addr := fun K => He.ma K (He.ga K "If") "__init__"
def a_f_If_parts : PySem.W.Frag → Addr := fun K => He.ma K (He.ga K "If") "parts"
def a_f_While_init : PySem.W.Frag → Addr := fun K => He.ma K (He.ga K "While") "__init__"
def a_f_While_parts : PySem.W.Frag → Addr := fun K => He.ma K (He.ga K "While") "parts"
def a_f_Choose_init : PySem.W.Frag → Addr := fun K => He.ma K (He.ga K "Choose") "__init__"
def a_f_Choose_parts : PySem.W.Frag → Addr := fun K => He.ma K (He.ga K "Choose") "parts"
def a_f_Loop_init : PySem.W.Frag → Addr := fun K => He.ma K (He.ga K "Loop") "__init__"
def a_f_Loop_parts : PySem.W.Frag → Addr := fun K => He.ma K (He.ga K "Loop") "parts"
def a_f_Program_init : PySem.W.Frag → Addr := fun K => He.ma K (He.ga K "Program") "__init__"
def a_f_Program_size : PySem.W.Frag → Addr := fun K => He.ma K (He.ga K "Program") "size"
def a_f_Program_deep : PySem.W.Frag → Addr := fun K => He.ma K (He.ga K "Program") "deep"
def a_f_looks_rooms : PySem.W.Frag → Addr := fun K => He.ga K "looks_rooms"
def a_f_Machine_init : PySem.W.Frag → Addr := fun K => He.ma K (He.ga K "Machine") "__init__"
def a_f_Machine_number_row : PySem.W.Frag → Addr := fun K => He.ma K (He.ga K "Machine") "number_row"
def a_f_Machine_lay_row : PySem.W.Frag → Addr := fun K => He.ma K (He.ga K "Machine") "lay_row"
def a_f_Machine_begin_of : PySem.W.Frag → Addr := fun K => He.ma K (He.ga K "Machine") "begin_of"
def a_f_Machine_lay : PySem.W.Frag → Addr := fun K => He.ma K (He.ga K "Machine") "lay"
def a_f_Machine_steps_of : PySem.W.Frag → Addr := fun K => He.ma K (He.ga K "Machine") "steps_of"
def a_f_Machine_rooms : PySem.W.Frag → Addr := fun K => He.ma K (He.ga K "Machine") "rooms"
def a_f_Machine_asked : PySem.W.Frag → Addr := fun K => He.ma K (He.ga K "Machine") "asked"
def a_f_Machine_steps : PySem.W.Frag → Addr := fun K => He.ma K (He.ga K "Machine") "steps"
def a_f_Machine_mark_of : PySem.W.Frag → Addr := fun K => He.ma K (He.ga K "Machine") "mark_of"
def a_f_asked_cells : PySem.W.Frag → Addr := fun K => He.ga K "asked_cells"
def a_f_Board_init : PySem.W.Frag → Addr := fun K => He.ma K (He.ga K "Board") "__init__"
def a_f_Board_values_of : PySem.W.Frag → Addr := fun K => He.ma K (He.ga K "Board") "values_of"
def a_f_Board_asked : PySem.W.Frag → Addr := fun K => He.ma K (He.ga K "Board") "asked"
def a_f_Board_others : PySem.W.Frag → Addr := fun K => He.ma K (He.ga K "Board") "others"
def a_f_looks_lefts : PySem.W.Frag → Addr := fun K => He.ga K "looks_lefts"
def a_f_left_of_cell : PySem.W.Frag → Addr := fun K => He.ga K "left_of_cell"
def a_f_left : PySem.W.Frag → Addr := fun K => He.ga K "left"
def a_f_law_cell_at : PySem.W.Frag → Addr := fun K => He.ga K "_law_cell_at"
def a_f_law_state : PySem.W.Frag → Addr := fun K => He.ga K "_law_state"
def a_f_law_digit : PySem.W.Frag → Addr := fun K => He.ga K "_law_digit"
def a_f_law_name : PySem.W.Frag → Addr := fun K => He.ga K "_law_name"
def a_f_law_names : PySem.W.Frag → Addr := fun K => He.ga K "_law_names"
def a_f_law_simple : PySem.W.Frag → Addr := fun K => He.ga K "_law_simple"
def a_f_law_made : PySem.W.Frag → Addr := fun K => He.ga K "_law_made"
def a_f_law_built : PySem.W.Frag → Addr := fun K => He.ga K "_law_built"
def a_f_law_nest : PySem.W.Frag → Addr := fun K => He.ga K "_law_nest"
def a_f_law_deep : PySem.W.Frag → Addr := fun K => He.ga K "_law_deep"
def a_f_law : PySem.W.Frag → Addr := fun K => He.ga K "law"
def a_C_BoardError : PySem.W.Frag → Addr := fun K => He.ga K "BoardError"
def a_C_BadCount : PySem.W.Frag → Addr := fun K => He.ga K "BadCount"
def a_C_NoName : PySem.W.Frag → Addr := fun K => He.ga K "NoName"
def a_C_Twice : PySem.W.Frag → Addr := fun K => He.ga K "Twice"
def a_C_NoCell : PySem.W.Frag → Addr := fun K => He.ga K "NoCell"
def a_C_NoValue : PySem.W.Frag → Addr := fun K => He.ga K "NoValue"
def a_C_NoRoom : PySem.W.Frag → Addr := fun K => He.ga K "NoRoom"
def a_C_Statement : PySem.W.Frag → Addr := fun K => He.ga K "Statement"
def a_C_OnCell : PySem.W.Frag → Addr := fun K => He.ga K "OnCell"
def a_C_Write : PySem.W.Frag → Addr := fun K => He.ga K "Write"
def a_C_Wait : PySem.W.Frag → Addr := fun K => He.ga K "Wait"
def a_C_Mark : PySem.W.Frag → Addr := fun K => He.ga K "Mark"
def a_C_Skip : PySem.W.Frag → Addr := fun K => He.ga K "Skip"
def a_C_Stop : PySem.W.Frag → Addr := fun K => He.ga K "Stop"
def a_C_If : PySem.W.Frag → Addr := fun K => He.ga K "If"
def a_C_While : PySem.W.Frag → Addr := fun K => He.ga K "While"
def a_C_Choose : PySem.W.Frag → Addr := fun K => He.ga K "Choose"
def a_C_Loop : PySem.W.Frag → Addr := fun K => He.ga K "Loop"
def a_C_Program : PySem.W.Frag → Addr := fun K => He.ga K "Program"
def a_C_Machine : PySem.W.Frag → Addr := fun K => He.ga K "Machine"
def a_C_Board : PySem.W.Frag → Addr := fun K => He.ga K "Board"
def fa_top : List Fact := [(fun K => (He.Fa.free "len").ok K),
  (fun K => (He.Fa.free "abs").ok K),
  (fun K => (He.Fa.free "int").ok K),
  (fun K => (He.Fa.free "str").ok K),
  (fun K => (He.Fa.free "max").ok K),
  (fun K => (He.Fa.free "list").ok K),
  (fun K => (He.Fa.free "tuple").ok K),
  (fun K => (He.Fa.free "sum").ok K),
  (fun K => (He.Fa.free "all").ok K),
  (fun K => (He.Fa.free "range").ok K),
  (fun K => (He.Fa.free "enumerate").ok K),
  (fun K => (He.Fa.free "isinstance").ok K),
  (fun K => (He.Fa.str "LETTERS" "abcdefghijklmnopqrstuvwxyz").ok K),
  (fun K => (He.Fa.str "FIGURES" "0123456789").ok K),
  (fun K => (He.Fa.int "LONGEST" 10).ok K),
  (fun K => (He.Fa.int "MOST_STATEMENTS" 24).ok K),
  (fun K => (He.Fa.int "MOST_DEEP" 6).ok K),
  (tuF "GO" ["go"]),
  (fun K => (He.Fa.int "MOST_CELLS" 3).ok K),
  (fun K => (He.Fa.int "LEAST_VALUES" 2).ok K),
  (fun K => (He.Fa.int "MOST_VALUES" 4).ok K)]
def fa_glo : List Fact := [(fun K => (He.Fa.glo "is_name").ok K),
  (fun K => (He.Fa.glo "asked_names").ok K),
  (fun K => (He.Fa.glo "asked_once").ok K),
  (fun K => (He.Fa.glo "asked_size").ok K),
  (fun K => (He.Fa.glo "looks_rooms").ok K),
  (fun K => (He.Fa.glo "asked_cells").ok K),
  (fun K => (He.Fa.glo "looks_lefts").ok K),
  (fun K => (He.Fa.glo "left_of_cell").ok K),
  (fun K => (He.Fa.glo "left").ok K),
  (fun K => (He.Fa.glo "_law_cell_at").ok K),
  (fun K => (He.Fa.glo "_law_state").ok K),
  (fun K => (He.Fa.glo "_law_digit").ok K),
  (fun K => (He.Fa.glo "_law_name").ok K),
  (fun K => (He.Fa.glo "_law_names").ok K),
  (fun K => (He.Fa.glo "_law_simple").ok K),
  (fun K => (He.Fa.glo "_law_made").ok K),
  (fun K => (He.Fa.glo "_law_built").ok K),
  (fun K => (He.Fa.glo "_law_nest").ok K),
  (fun K => (He.Fa.glo "_law_deep").ok K),
  (fun K => (He.Fa.glo "law").ok K),
  (fun K => (He.Fa.glo "BoardError").ok K),
  (fun K => (He.Fa.glo "BadCount").ok K),
  (fun K => (He.Fa.glo "NoName").ok K),
  (fun K => (He.Fa.glo "Twice").ok K),
  (fun K => (He.Fa.glo "NoCell").ok K),
  (fun K => (He.Fa.glo "NoValue").ok K),
  (fun K => (He.Fa.glo "NoRoom").ok K),
  (fun K => (He.Fa.glo "Statement").ok K),
  (fun K => (He.Fa.glo "OnCell").ok K),
  (fun K => (He.Fa.glo "Write").ok K),
  (fun K => (He.Fa.glo "Wait").ok K),
  (fun K => (He.Fa.glo "Mark").ok K),
  (fun K => (He.Fa.glo "Skip").ok K),
  (fun K => (He.Fa.glo "Stop").ok K),
  (fun K => (He.Fa.glo "If").ok K),
  (fun K => (He.Fa.glo "While").ok K),
  (fun K => (He.Fa.glo "Choose").ok K),
  (fun K => (He.Fa.glo "Loop").ok K),
  (fun K => (He.Fa.glo "Program").ok K),
  (fun K => (He.Fa.glo "Machine").ok K),
  (fun K => (He.Fa.glo "Board").ok K)]
def fa_BoardError : List Fact := [(exF2 a_C_BoardError)]
def fa_BadCount : List Fact := [(exF2 a_C_BadCount),
  (oxF a_C_BadCount),
  (fiF a_C_BadCount "__init__" (fun K => some (.ref (a_f_BadCount_init K)))),
  (tyF a_f_BadCount_init (.type "function")),
  (fiF a_C_BadCount "what" (fun _ => none)),
  (fiF a_C_BadCount "count" (fun _ => none))]
def fa_NoName : List Fact := [(exF2 a_C_NoName),
  (oxF a_C_NoName),
  (fiF a_C_NoName "__init__" (fun K => some (.ref (a_f_NoName_init K)))),
  (tyF a_f_NoName_init (.type "function")),
  (fiF a_C_NoName "name" (fun _ => none))]
def fa_Twice : List Fact := [(exF2 a_C_Twice),
  (fiF a_C_Twice "name" (fun _ => none))]
def fa_NoCell : List Fact := [(exF2 a_C_NoCell),
  (oxF a_C_NoCell),
  (fiF a_C_NoCell "__init__" (fun K => some (.ref (a_f_NoCell_init K)))),
  (tyF a_f_NoCell_init (.type "function")),
  (fiF a_C_NoCell "name" (fun _ => none))]
def fa_NoValue : List Fact := [(exF2 a_C_NoValue),
  (oxF a_C_NoValue),
  (fiF a_C_NoValue "__init__" (fun K => some (.ref (a_f_NoValue_init K)))),
  (tyF a_f_NoValue_init (.type "function")),
  (fiF a_C_NoValue "cell" (fun _ => none)),
  (fiF a_C_NoValue "value" (fun _ => none))]
def fa_NoRoom : List Fact := [(exF2 a_C_NoRoom),
  (oxF a_C_NoRoom),
  (fiF a_C_NoRoom "__init__" (fun K => some (.ref (a_f_NoRoom_init K)))),
  (tyF a_f_NoRoom_init (.type "function")),
  (fiF a_C_NoRoom "room" (fun _ => none))]
def fa_Statement : List Fact := [(clF a_C_Statement),
  (mk0F a_C_Statement),
  (isF a_C_Statement),
  (kiF a_C_Statement (fun K => .ref (a_C_Write K)) false),
  (kiF a_C_Statement (fun K => .ref (a_C_Wait K)) false),
  (kiF a_C_Statement (fun K => .ref (a_C_Mark K)) false),
  (kiF a_C_Statement (fun K => .ref (a_C_Skip K)) false),
  (kiF a_C_Statement (fun K => .ref (a_C_Stop K)) false),
  (kiF a_C_Statement (fun K => .ref (a_C_If K)) false),
  (kiF a_C_Statement (fun K => .ref (a_C_While K)) false),
  (kiF a_C_Statement (fun K => .ref (a_C_Choose K)) false),
  (kiF a_C_Statement (fun K => .ref (a_C_Loop K)) false),
  (meF a_C_Statement "parts" a_f_Statement_parts),
  (meF a_C_Statement "size" a_f_Statement_size)]
def fa_OnCell : List Fact := [(clF a_C_OnCell),
  (fiF a_C_OnCell "cell" (fun _ => none)),
  (fiF a_C_OnCell "value" (fun _ => none)),
  (mkF a_C_OnCell a_f_OnCell_init),
  (isF a_C_OnCell),
  (kiF a_C_OnCell (fun K => .ref (a_C_Write K)) false),
  (kiF a_C_OnCell (fun K => .ref (a_C_Wait K)) false),
  (kiF a_C_OnCell (fun K => .ref (a_C_Mark K)) false),
  (kiF a_C_OnCell (fun K => .ref (a_C_Skip K)) false),
  (kiF a_C_OnCell (fun K => .ref (a_C_Stop K)) false),
  (kiF a_C_OnCell (fun K => .ref (a_C_If K)) false),
  (kiF a_C_OnCell (fun K => .ref (a_C_While K)) false),
  (kiF a_C_OnCell (fun K => .ref (a_C_Choose K)) false),
  (kiF a_C_OnCell (fun K => .ref (a_C_Loop K)) false),
  (meF a_C_OnCell "parts" a_f_Statement_parts),
  (meF a_C_OnCell "size" a_f_Statement_size),
  (crF a_C_OnCell),
  (cvF a_C_OnCell "__init__" a_f_OnCell_init)]
def fa_Write : List Fact := [(clF a_C_Write),
  (fiF a_C_Write "cell" (fun _ => none)),
  (fiF a_C_Write "value" (fun _ => none)),
  (mkF a_C_Write a_f_OnCell_init),
  (isF a_C_Write),
  (kiF a_C_Write (fun K => .ref (a_C_Write K)) true),
  (kiF a_C_Write (fun K => .ref (a_C_Wait K)) false),
  (kiF a_C_Write (fun K => .ref (a_C_Mark K)) false),
  (kiF a_C_Write (fun K => .ref (a_C_Skip K)) false),
  (kiF a_C_Write (fun K => .ref (a_C_Stop K)) false),
  (kiF a_C_Write (fun K => .ref (a_C_If K)) false),
  (kiF a_C_Write (fun K => .ref (a_C_While K)) false),
  (kiF a_C_Write (fun K => .ref (a_C_Choose K)) false),
  (kiF a_C_Write (fun K => .ref (a_C_Loop K)) false),
  (meF a_C_Write "parts" a_f_Statement_parts),
  (meF a_C_Write "size" a_f_Statement_size)]
def fa_Wait : List Fact := [(clF a_C_Wait),
  (fiF a_C_Wait "cell" (fun _ => none)),
  (fiF a_C_Wait "value" (fun _ => none)),
  (mkF a_C_Wait a_f_OnCell_init),
  (isF a_C_Wait),
  (kiF a_C_Wait (fun K => .ref (a_C_Write K)) false),
  (kiF a_C_Wait (fun K => .ref (a_C_Wait K)) true),
  (kiF a_C_Wait (fun K => .ref (a_C_Mark K)) false),
  (kiF a_C_Wait (fun K => .ref (a_C_Skip K)) false),
  (kiF a_C_Wait (fun K => .ref (a_C_Stop K)) false),
  (kiF a_C_Wait (fun K => .ref (a_C_If K)) false),
  (kiF a_C_Wait (fun K => .ref (a_C_While K)) false),
  (kiF a_C_Wait (fun K => .ref (a_C_Choose K)) false),
  (kiF a_C_Wait (fun K => .ref (a_C_Loop K)) false),
  (meF a_C_Wait "parts" a_f_Statement_parts),
  (meF a_C_Wait "size" a_f_Statement_size)]
def fa_Mark : List Fact := [(clF a_C_Mark),
  (fiF a_C_Mark "name" (fun _ => none)),
  (mkF a_C_Mark a_f_Mark_init),
  (isF a_C_Mark),
  (kiF a_C_Mark (fun K => .ref (a_C_Write K)) false),
  (kiF a_C_Mark (fun K => .ref (a_C_Wait K)) false),
  (kiF a_C_Mark (fun K => .ref (a_C_Mark K)) true),
  (kiF a_C_Mark (fun K => .ref (a_C_Skip K)) false),
  (kiF a_C_Mark (fun K => .ref (a_C_Stop K)) false),
  (kiF a_C_Mark (fun K => .ref (a_C_If K)) false),
  (kiF a_C_Mark (fun K => .ref (a_C_While K)) false),
  (kiF a_C_Mark (fun K => .ref (a_C_Choose K)) false),
  (kiF a_C_Mark (fun K => .ref (a_C_Loop K)) false),
  (meF a_C_Mark "parts" a_f_Statement_parts),
  (meF a_C_Mark "size" a_f_Statement_size)]
def fa_Skip : List Fact := [(clF a_C_Skip),
  (mk0F a_C_Skip),
  (isF a_C_Skip),
  (kiF a_C_Skip (fun K => .ref (a_C_Write K)) false),
  (kiF a_C_Skip (fun K => .ref (a_C_Wait K)) false),
  (kiF a_C_Skip (fun K => .ref (a_C_Mark K)) false),
  (kiF a_C_Skip (fun K => .ref (a_C_Skip K)) true),
  (kiF a_C_Skip (fun K => .ref (a_C_Stop K)) false),
  (kiF a_C_Skip (fun K => .ref (a_C_If K)) false),
  (kiF a_C_Skip (fun K => .ref (a_C_While K)) false),
  (kiF a_C_Skip (fun K => .ref (a_C_Choose K)) false),
  (kiF a_C_Skip (fun K => .ref (a_C_Loop K)) false),
  (meF a_C_Skip "parts" a_f_Statement_parts),
  (meF a_C_Skip "size" a_f_Statement_size)]
def fa_Stop : List Fact := [(clF a_C_Stop),
  (mk0F a_C_Stop),
  (isF a_C_Stop),
  (kiF a_C_Stop (fun K => .ref (a_C_Write K)) false),
  (kiF a_C_Stop (fun K => .ref (a_C_Wait K)) false),
  (kiF a_C_Stop (fun K => .ref (a_C_Mark K)) false),
  (kiF a_C_Stop (fun K => .ref (a_C_Skip K)) false),
  (kiF a_C_Stop (fun K => .ref (a_C_Stop K)) true),
  (kiF a_C_Stop (fun K => .ref (a_C_If K)) false),
  (kiF a_C_Stop (fun K => .ref (a_C_While K)) false),
  (kiF a_C_Stop (fun K => .ref (a_C_Choose K)) false),
  (kiF a_C_Stop (fun K => .ref (a_C_Loop K)) false),
  (meF a_C_Stop "parts" a_f_Statement_parts),
  (meF a_C_Stop "size" a_f_Statement_size)]
def fa_If : List Fact := [(clF a_C_If),
  (fiF a_C_If "yes" (fun _ => none)),
  (fiF a_C_If "no" (fun _ => none)),
  (fiF a_C_If "cell" (fun _ => none)),
  (fiF a_C_If "value" (fun _ => none)),
  (mkF a_C_If a_f_If_init),
  (isF a_C_If),
  (kiF a_C_If (fun K => .ref (a_C_Write K)) false),
  (kiF a_C_If (fun K => .ref (a_C_Wait K)) false),
  (kiF a_C_If (fun K => .ref (a_C_Mark K)) false),
  (kiF a_C_If (fun K => .ref (a_C_Skip K)) false),
  (kiF a_C_If (fun K => .ref (a_C_Stop K)) false),
  (kiF a_C_If (fun K => .ref (a_C_If K)) true),
  (kiF a_C_If (fun K => .ref (a_C_While K)) false),
  (kiF a_C_If (fun K => .ref (a_C_Choose K)) false),
  (kiF a_C_If (fun K => .ref (a_C_Loop K)) false),
  (meF a_C_If "parts" a_f_If_parts),
  (meF a_C_If "size" a_f_Statement_size)]
def fa_While : List Fact := [(clF a_C_While),
  (fiF a_C_While "body" (fun _ => none)),
  (fiF a_C_While "cell" (fun _ => none)),
  (fiF a_C_While "value" (fun _ => none)),
  (mkF a_C_While a_f_While_init),
  (isF a_C_While),
  (kiF a_C_While (fun K => .ref (a_C_Write K)) false),
  (kiF a_C_While (fun K => .ref (a_C_Wait K)) false),
  (kiF a_C_While (fun K => .ref (a_C_Mark K)) false),
  (kiF a_C_While (fun K => .ref (a_C_Skip K)) false),
  (kiF a_C_While (fun K => .ref (a_C_Stop K)) false),
  (kiF a_C_While (fun K => .ref (a_C_If K)) false),
  (kiF a_C_While (fun K => .ref (a_C_While K)) true),
  (kiF a_C_While (fun K => .ref (a_C_Choose K)) false),
  (kiF a_C_While (fun K => .ref (a_C_Loop K)) false),
  (meF a_C_While "parts" a_f_While_parts),
  (meF a_C_While "size" a_f_Statement_size)]
def fa_Choose : List Fact := [(clF a_C_Choose),
  (fiF a_C_Choose "one" (fun _ => none)),
  (fiF a_C_Choose "other" (fun _ => none)),
  (mkF a_C_Choose a_f_Choose_init),
  (isF a_C_Choose),
  (kiF a_C_Choose (fun K => .ref (a_C_Write K)) false),
  (kiF a_C_Choose (fun K => .ref (a_C_Wait K)) false),
  (kiF a_C_Choose (fun K => .ref (a_C_Mark K)) false),
  (kiF a_C_Choose (fun K => .ref (a_C_Skip K)) false),
  (kiF a_C_Choose (fun K => .ref (a_C_Stop K)) false),
  (kiF a_C_Choose (fun K => .ref (a_C_If K)) false),
  (kiF a_C_Choose (fun K => .ref (a_C_While K)) false),
  (kiF a_C_Choose (fun K => .ref (a_C_Choose K)) true),
  (kiF a_C_Choose (fun K => .ref (a_C_Loop K)) false),
  (meF a_C_Choose "parts" a_f_Choose_parts),
  (meF a_C_Choose "size" a_f_Statement_size)]
def fa_Loop : List Fact := [(clF a_C_Loop),
  (fiF a_C_Loop "body" (fun _ => none)),
  (mkF a_C_Loop a_f_Loop_init),
  (isF a_C_Loop),
  (kiF a_C_Loop (fun K => .ref (a_C_Write K)) false),
  (kiF a_C_Loop (fun K => .ref (a_C_Wait K)) false),
  (kiF a_C_Loop (fun K => .ref (a_C_Mark K)) false),
  (kiF a_C_Loop (fun K => .ref (a_C_Skip K)) false),
  (kiF a_C_Loop (fun K => .ref (a_C_Stop K)) false),
  (kiF a_C_Loop (fun K => .ref (a_C_If K)) false),
  (kiF a_C_Loop (fun K => .ref (a_C_While K)) false),
  (kiF a_C_Loop (fun K => .ref (a_C_Choose K)) false),
  (kiF a_C_Loop (fun K => .ref (a_C_Loop K)) true),
  (meF a_C_Loop "parts" a_f_Loop_parts),
  (meF a_C_Loop "size" a_f_Statement_size)]
def fa_Program : List Fact := [(clF a_C_Program),
  (fiF a_C_Program "row" (fun _ => none)),
  (mkF a_C_Program a_f_Program_init),
  (isF a_C_Program),
  (kiF a_C_Program (fun K => .ref (a_C_Write K)) false),
  (kiF a_C_Program (fun K => .ref (a_C_Wait K)) false),
  (kiF a_C_Program (fun K => .ref (a_C_Mark K)) false),
  (kiF a_C_Program (fun K => .ref (a_C_Skip K)) false),
  (kiF a_C_Program (fun K => .ref (a_C_Stop K)) false),
  (kiF a_C_Program (fun K => .ref (a_C_If K)) false),
  (kiF a_C_Program (fun K => .ref (a_C_While K)) false),
  (kiF a_C_Program (fun K => .ref (a_C_Choose K)) false),
  (kiF a_C_Program (fun K => .ref (a_C_Loop K)) false),
  (meF a_C_Program "size" a_f_Program_size),
  (meF a_C_Program "deep" a_f_Program_deep)]
def fa_Machine : List Fact := [(clF a_C_Machine),
  (fiF a_C_Machine "plan" (fun _ => none)),
  (fiF a_C_Machine "text" (fun _ => none)),
  (fiF a_C_Machine "places" (fun _ => none)),
  (fiF a_C_Machine "exits" (fun _ => none)),
  (mkF a_C_Machine a_f_Machine_init),
  (isF a_C_Machine),
  (kiF a_C_Machine (fun K => .ref (a_C_Write K)) false),
  (kiF a_C_Machine (fun K => .ref (a_C_Wait K)) false),
  (kiF a_C_Machine (fun K => .ref (a_C_Mark K)) false),
  (kiF a_C_Machine (fun K => .ref (a_C_Skip K)) false),
  (kiF a_C_Machine (fun K => .ref (a_C_Stop K)) false),
  (kiF a_C_Machine (fun K => .ref (a_C_If K)) false),
  (kiF a_C_Machine (fun K => .ref (a_C_While K)) false),
  (kiF a_C_Machine (fun K => .ref (a_C_Choose K)) false),
  (kiF a_C_Machine (fun K => .ref (a_C_Loop K)) false),
  (meF a_C_Machine "number_row" a_f_Machine_number_row),
  (meF a_C_Machine "lay_row" a_f_Machine_lay_row),
  (meF a_C_Machine "begin_of" a_f_Machine_begin_of),
  (meF a_C_Machine "lay" a_f_Machine_lay),
  (meF a_C_Machine "steps_of" a_f_Machine_steps_of),
  (meF a_C_Machine "rooms" a_f_Machine_rooms),
  (meF a_C_Machine "asked" a_f_Machine_asked),
  (meF a_C_Machine "steps" a_f_Machine_steps),
  (meF a_C_Machine "mark_of" a_f_Machine_mark_of)]
def fa_Board : List Fact := [(clF a_C_Board),
  (fiF a_C_Board "names" (fun _ => none)),
  (fiF a_C_Board "rows" (fun _ => none)),
  (mkF a_C_Board a_f_Board_init),
  (isF a_C_Board),
  (kiF a_C_Board (fun K => .ref (a_C_Write K)) false),
  (kiF a_C_Board (fun K => .ref (a_C_Wait K)) false),
  (kiF a_C_Board (fun K => .ref (a_C_Mark K)) false),
  (kiF a_C_Board (fun K => .ref (a_C_Skip K)) false),
  (kiF a_C_Board (fun K => .ref (a_C_Stop K)) false),
  (kiF a_C_Board (fun K => .ref (a_C_If K)) false),
  (kiF a_C_Board (fun K => .ref (a_C_While K)) false),
  (kiF a_C_Board (fun K => .ref (a_C_Choose K)) false),
  (kiF a_C_Board (fun K => .ref (a_C_Loop K)) false),
  (meF a_C_Board "values_of" a_f_Board_values_of),
  (meF a_C_Board "asked" a_f_Board_asked),
  (meF a_C_Board "others" a_f_Board_others)]
def fa_code : List Fact := [(codeF ("BadCount", some "__init__") "BadCount.__init__"),
  (codeF ("NoName", some "__init__") "NoName.__init__"),
  (codeF ("NoCell", some "__init__") "NoCell.__init__"),
  (codeF ("NoValue", some "__init__") "NoValue.__init__"),
  (codeF ("NoRoom", some "__init__") "NoRoom.__init__"),
  (codeF ("is_name", none) "is_name"),
  (codeF ("asked_names", none) "asked_names"),
  (codeF ("asked_once", none) "asked_once"),
  (codeF ("asked_size", none) "asked_size"),
  (codeF ("Statement", some "parts") "Statement.parts"),
  (codeF ("Statement", some "size") "Statement.size"),
  (codeF ("OnCell", some "__init__") "OnCell.__init__"),
  (codeF ("Mark", some "__init__") "Mark.__init__"),
  (codeF ("If", some "__init__") "If.__init__"),
  (codeF ("If", some "parts") "If.parts"),
  (codeF ("While", some "__init__") "While.__init__"),
  (codeF ("While", some "parts") "While.parts"),
  (codeF ("Choose", some "__init__") "Choose.__init__"),
  (codeF ("Choose", some "parts") "Choose.parts"),
  (codeF ("Loop", some "__init__") "Loop.__init__"),
  (codeF ("Loop", some "parts") "Loop.parts"),
  (codeF ("Program", some "__init__") "Program.__init__"),
  (codeF ("Program", some "size") "Program.size"),
  (codeF ("Program", some "deep") "Program.deep"),
  (codeF ("looks_rooms", none) "looks"),
  (codeF ("Machine", some "__init__") "Machine.__init__"),
  (codeF ("Machine", some "number_row") "Machine.number_row"),
  (codeF ("Machine", some "lay_row") "Machine.lay_row"),
  (codeF ("Machine", some "begin_of") "Machine.begin_of"),
  (codeF ("Machine", some "lay") "Machine.lay"),
  (codeF ("Machine", some "steps_of") "Machine.steps_of"),
  (codeF ("Machine", some "rooms") "Machine.rooms"),
  (codeF ("Machine", some "asked") "Machine.asked"),
  (codeF ("Machine", some "steps") "Machine.steps"),
  (codeF ("Machine", some "mark_of") "Machine.mark_of"),
  (codeF ("asked_cells", none) "asked_cells"),
  (codeF ("Board", some "__init__") "Board.__init__"),
  (codeF ("Board", some "values_of") "Board.values_of"),
  (codeF ("Board", some "asked") "Board.asked"),
  (codeF ("Board", some "others") "Board.others"),
  (codeF ("looks_lefts", none) "looks"),
  (codeF ("left_of_cell", none) "left_of_cell"),
  (codeF ("left", none) "left"),
  (codeF ("_law_cell_at", none) "_law_cell_at"),
  (codeF ("_law_state", none) "_law_state"),
  (codeF ("_law_digit", none) "_law_digit"),
  (codeF ("_law_name", none) "_law_name"),
  (codeF ("_law_names", none) "_law_names"),
  (codeF ("_law_simple", none) "_law_simple"),
  (codeF ("_law_made", none) "_law_made"),
  (codeF ("_law_built", none) "_law_built"),
  (codeF ("_law_nest", none) "_law_nest"),
  (codeF ("_law_deep", none) "_law_deep"),
  (codeF ("law", none) "law")]
def facts : List (List Fact) := [fa_top, fa_glo, fa_BoardError, fa_BadCount, fa_NoName, fa_Twice, fa_NoCell, fa_NoValue, fa_NoRoom, fa_Statement, fa_OnCell, fa_Write, fa_Wait, fa_Mark, fa_Skip, fa_Stop, fa_If, fa_While, fa_Choose, fa_Loop, fa_Program, fa_Machine, fa_Board, fa_code]
def dd_BadCount_init : He.FnD := dOf ("BadCount", some "__init__") "__init__" "BadCount.__init__" s_BadCount_init
def dd_NoName_init : He.FnD := dOf ("NoName", some "__init__") "__init__" "NoName.__init__" s_NoName_init
def dd_NoCell_init : He.FnD := dOf ("NoCell", some "__init__") "__init__" "NoCell.__init__" s_NoCell_init
def dd_NoValue_init : He.FnD := dOf ("NoValue", some "__init__") "__init__" "NoValue.__init__" s_NoValue_init
def dd_NoRoom_init : He.FnD := dOf ("NoRoom", some "__init__") "__init__" "NoRoom.__init__" s_NoRoom_init
def dd_is_name : He.FnD := dOf ("is_name", none) "is_name" "is_name" s_is_name
def dd_asked_names : He.FnD := dOf ("asked_names", none) "asked_names" "asked_names" s_asked_names
def dd_asked_once : He.FnD := dOf ("asked_once", none) "asked_once" "asked_once" s_asked_once
def dd_asked_size : He.FnD := dOf ("asked_size", none) "asked_size" "asked_size" s_asked_size
def dd_Statement_parts : He.FnD := dOf ("Statement", some "parts") "parts" "Statement.parts" s_Statement_parts
def dd_Statement_size : He.FnD := dOf ("Statement", some "size") "size" "Statement.size" s_Statement_size
def dd_OnCell_init : He.FnD := dOf ("OnCell", some "__init__") "__init__" "OnCell.__init__" s_OnCell_init
def dd_Mark_init : He.FnD := dOf ("Mark", some "__init__") "__init__" "Mark.__init__" s_Mark_init
def dd_If_init : He.FnD := dOf ("If", some "__init__") "__init__" "If.__init__" s_If_init
def dd_If_parts : He.FnD := dOf ("If", some "parts") "parts" "If.parts" s_If_parts
def dd_While_init : He.FnD := dOf ("While", some "__init__") "__init__" "While.__init__" s_While_init
def dd_While_parts : He.FnD := dOf ("While", some "parts") "parts" "While.parts" s_While_parts
def dd_Choose_init : He.FnD := dOf ("Choose", some "__init__") "__init__" "Choose.__init__" s_Choose_init
def dd_Choose_parts : He.FnD := dOf ("Choose", some "parts") "parts" "Choose.parts" s_Choose_parts
def dd_Loop_init : He.FnD := dOf ("Loop", some "__init__") "__init__" "Loop.__init__" s_Loop_init
def dd_Loop_parts : He.FnD := dOf ("Loop", some "parts") "parts" "Loop.parts" s_Loop_parts
def dd_Program_init : He.FnD := dOf ("Program", some "__init__") "__init__" "Program.__init__" s_Program_init
def dd_Program_size : He.FnD := dOf ("Program", some "size") "size" "Program.size" s_Program_size
def dd_Program_deep : He.FnD := dOf ("Program", some "deep") "deep" "Program.deep" s_Program_deep
def dd_looks_rooms : He.FnD := dOf ("looks_rooms", none) "looks" "looks" s_looks_rooms
def dd_Machine_init : He.FnD := dOf ("Machine", some "__init__") "__init__" "Machine.__init__" s_Machine_init
def dd_Machine_number_row : He.FnD := dOf ("Machine", some "number_row") "number_row" "Machine.number_row" s_Machine_number_row
def dd_Machine_lay_row : He.FnD := dOf ("Machine", some "lay_row") "lay_row" "Machine.lay_row" s_Machine_lay_row
def dd_Machine_begin_of : He.FnD := dOf ("Machine", some "begin_of") "begin_of" "Machine.begin_of" s_Machine_begin_of
def dd_Machine_lay : He.FnD := dOf ("Machine", some "lay") "lay" "Machine.lay" s_Machine_lay
def dd_Machine_steps_of : He.FnD := dOf ("Machine", some "steps_of") "steps_of" "Machine.steps_of" s_Machine_steps_of
def dd_Machine_rooms : He.FnD := dOf ("Machine", some "rooms") "rooms" "Machine.rooms" s_Machine_rooms
def dd_Machine_asked : He.FnD := dOf ("Machine", some "asked") "asked" "Machine.asked" s_Machine_asked
def dd_Machine_steps : He.FnD := dOf ("Machine", some "steps") "steps" "Machine.steps" s_Machine_steps
def dd_Machine_mark_of : He.FnD := dOf ("Machine", some "mark_of") "mark_of" "Machine.mark_of" s_Machine_mark_of
def dd_asked_cells : He.FnD := dOf ("asked_cells", none) "asked_cells" "asked_cells" s_asked_cells
def dd_Board_init : He.FnD := dOf ("Board", some "__init__") "__init__" "Board.__init__" s_Board_init
def dd_Board_values_of : He.FnD := dOf ("Board", some "values_of") "values_of" "Board.values_of" s_Board_values_of
def dd_Board_asked : He.FnD := dOf ("Board", some "asked") "asked" "Board.asked" s_Board_asked
def dd_Board_others : He.FnD := dOf ("Board", some "others") "others" "Board.others" s_Board_others
def dd_looks_lefts : He.FnD := dOf ("looks_lefts", none) "looks" "looks" s_looks_lefts
def dd_left_of_cell : He.FnD := dOf ("left_of_cell", none) "left_of_cell" "left_of_cell" s_left_of_cell
def dd_left : He.FnD := dOf ("left", none) "left" "left" s_left
def dd_law_cell_at : He.FnD := dOf ("_law_cell_at", none) "_law_cell_at" "_law_cell_at" s_law_cell_at
def dd_law_state : He.FnD := dOf ("_law_state", none) "_law_state" "_law_state" s_law_state
def dd_law_digit : He.FnD := dOf ("_law_digit", none) "_law_digit" "_law_digit" s_law_digit
def dd_law_name : He.FnD := dOf ("_law_name", none) "_law_name" "_law_name" s_law_name
def dd_law_names : He.FnD := dOf ("_law_names", none) "_law_names" "_law_names" s_law_names
def dd_law_simple : He.FnD := dOf ("_law_simple", none) "_law_simple" "_law_simple" s_law_simple
def dd_law_made : He.FnD := dOf ("_law_made", none) "_law_made" "_law_made" s_law_made
def dd_law_built : He.FnD := dOf ("_law_built", none) "_law_built" "_law_built" s_law_built
def dd_law_nest : He.FnD := dOf ("_law_nest", none) "_law_nest" "_law_nest" s_law_nest
def dd_law_deep : He.FnD := dOf ("_law_deep", none) "_law_deep" "_law_deep" s_law_deep
def dd_law : He.FnD := dOf ("law", none) "law" "law" s_law
def fnsL : List He.FnD := [dd_BadCount_init, dd_NoName_init, dd_NoCell_init, dd_NoValue_init, dd_NoRoom_init, dd_is_name, dd_asked_names, dd_asked_once, dd_asked_size, dd_Statement_parts, dd_Statement_size, dd_OnCell_init, dd_Mark_init, dd_If_init, dd_If_parts, dd_While_init, dd_While_parts, dd_Choose_init, dd_Choose_parts, dd_Loop_init, dd_Loop_parts, dd_Program_init, dd_Program_size, dd_Program_deep, dd_looks_rooms, dd_Machine_init, dd_Machine_number_row, dd_Machine_lay_row, dd_Machine_begin_of, dd_Machine_lay, dd_Machine_steps_of, dd_Machine_rooms, dd_Machine_asked, dd_Machine_steps, dd_Machine_mark_of, dd_asked_cells, dd_Board_init, dd_Board_values_of, dd_Board_asked, dd_Board_others, dd_looks_lefts, dd_left_of_cell, dd_left, dd_law_cell_at, dd_law_state, dd_law_digit, dd_law_name, dd_law_names, dd_law_simple, dd_law_made, dd_law_built, dd_law_nest, dd_law_deep, dd_law]
/-- what the top holds -/
structure Tx (K : PySem.W.Frag) (mg : Str → Option Value) : Prop where
  ex : ∃ h : Heap, K.In h ∧ h.Ns mainGlobals mg
  c : Held facts fnsL K
section
variable {K : PySem.W.Frag} {mg : Str → Option Value}
noncomputable def Tx.hp (T : Tx K mg) : Heap := T.ex.choose
theorem Tx.X (T : Tx K mg) : K.In T.hp := T.ex.choose_spec.1
theorem Tx.G (T : Tx K mg) : T.hp.Ns mainGlobals mg := T.ex.choose_spec.2
@[irreducible] def Tx.f_BadCount_init (_ : Tx K mg) : Addr := a_f_BadCount_init K
@[irreducible] def Tx.f_NoName_init (_ : Tx K mg) : Addr := a_f_NoName_init K
@[irreducible] def Tx.f_NoCell_init (_ : Tx K mg) : Addr := a_f_NoCell_init K
@[irreducible] def Tx.f_NoValue_init (_ : Tx K mg) : Addr := a_f_NoValue_init K
@[irreducible] def Tx.f_NoRoom_init (_ : Tx K mg) : Addr := a_f_NoRoom_init K
@[irreducible] def Tx.f_is_name (_ : Tx K mg) : Addr := a_f_is_name K
@[irreducible] def Tx.f_asked_names (_ : Tx K mg) : Addr := a_f_asked_names K
@[irreducible] def Tx.f_asked_once (_ : Tx K mg) : Addr := a_f_asked_once K
@[irreducible] def Tx.f_asked_size (_ : Tx K mg) : Addr := a_f_asked_size K
@[irreducible] def Tx.f_Statement_parts (_ : Tx K mg) : Addr := a_f_Statement_parts K
@[irreducible] def Tx.f_Statement_size (_ : Tx K mg) : Addr := a_f_Statement_size K
@[irreducible] def Tx.f_OnCell_init (_ : Tx K mg) : Addr := a_f_OnCell_init K
@[irreducible] def Tx.f_Mark_init (_ : Tx K mg) : Addr := a_f_Mark_init K
@[irreducible] def Tx.f_If_init (_ : Tx K mg) : Addr := a_f_If_init K
@[irreducible] def Tx.f_If_parts (_ : Tx K mg) : Addr := a_f_If_parts K
@[irreducible] def Tx.f_While_init (_ : Tx K mg) : Addr := a_f_While_init K
@[irreducible] def Tx.f_While_parts (_ : Tx K mg) : Addr := a_f_While_parts K
@[irreducible] def Tx.f_Choose_init (_ : Tx K mg) : Addr := a_f_Choose_init K
@[irreducible] def Tx.f_Choose_parts (_ : Tx K mg) : Addr := a_f_Choose_parts K
@[irreducible] def Tx.f_Loop_init (_ : Tx K mg) : Addr := a_f_Loop_init K
@[irreducible] def Tx.f_Loop_parts (_ : Tx K mg) : Addr := a_f_Loop_parts K
@[irreducible] def Tx.f_Program_init (_ : Tx K mg) : Addr := a_f_Program_init K
@[irreducible] def Tx.f_Program_size (_ : Tx K mg) : Addr := a_f_Program_size K
@[irreducible] def Tx.f_Program_deep (_ : Tx K mg) : Addr := a_f_Program_deep K
@[irreducible] def Tx.f_looks_rooms (_ : Tx K mg) : Addr := a_f_looks_rooms K
@[irreducible] def Tx.f_Machine_init (_ : Tx K mg) : Addr := a_f_Machine_init K
@[irreducible] def Tx.f_Machine_number_row (_ : Tx K mg) : Addr := a_f_Machine_number_row K
@[irreducible] def Tx.f_Machine_lay_row (_ : Tx K mg) : Addr := a_f_Machine_lay_row K
@[irreducible] def Tx.f_Machine_begin_of (_ : Tx K mg) : Addr := a_f_Machine_begin_of K
@[irreducible] def Tx.f_Machine_lay (_ : Tx K mg) : Addr := a_f_Machine_lay K
@[irreducible] def Tx.f_Machine_steps_of (_ : Tx K mg) : Addr := a_f_Machine_steps_of K
@[irreducible] def Tx.f_Machine_rooms (_ : Tx K mg) : Addr := a_f_Machine_rooms K
@[irreducible] def Tx.f_Machine_asked (_ : Tx K mg) : Addr := a_f_Machine_asked K
@[irreducible] def Tx.f_Machine_steps (_ : Tx K mg) : Addr := a_f_Machine_steps K
@[irreducible] def Tx.f_Machine_mark_of (_ : Tx K mg) : Addr := a_f_Machine_mark_of K
@[irreducible] def Tx.f_asked_cells (_ : Tx K mg) : Addr := a_f_asked_cells K
@[irreducible] def Tx.f_Board_init (_ : Tx K mg) : Addr := a_f_Board_init K
@[irreducible] def Tx.f_Board_values_of (_ : Tx K mg) : Addr := a_f_Board_values_of K
@[irreducible] def Tx.f_Board_asked (_ : Tx K mg) : Addr := a_f_Board_asked K
@[irreducible] def Tx.f_Board_others (_ : Tx K mg) : Addr := a_f_Board_others K
@[irreducible] def Tx.f_looks_lefts (_ : Tx K mg) : Addr := a_f_looks_lefts K
@[irreducible] def Tx.f_left_of_cell (_ : Tx K mg) : Addr := a_f_left_of_cell K
@[irreducible] def Tx.f_left (_ : Tx K mg) : Addr := a_f_left K
@[irreducible] def Tx.f_law_cell_at (_ : Tx K mg) : Addr := a_f_law_cell_at K
@[irreducible] def Tx.f_law_state (_ : Tx K mg) : Addr := a_f_law_state K
@[irreducible] def Tx.f_law_digit (_ : Tx K mg) : Addr := a_f_law_digit K
@[irreducible] def Tx.f_law_name (_ : Tx K mg) : Addr := a_f_law_name K
@[irreducible] def Tx.f_law_names (_ : Tx K mg) : Addr := a_f_law_names K
@[irreducible] def Tx.f_law_simple (_ : Tx K mg) : Addr := a_f_law_simple K
@[irreducible] def Tx.f_law_made (_ : Tx K mg) : Addr := a_f_law_made K
@[irreducible] def Tx.f_law_built (_ : Tx K mg) : Addr := a_f_law_built K
@[irreducible] def Tx.f_law_nest (_ : Tx K mg) : Addr := a_f_law_nest K
@[irreducible] def Tx.f_law_deep (_ : Tx K mg) : Addr := a_f_law_deep K
@[irreducible] def Tx.f_law (_ : Tx K mg) : Addr := a_f_law K
@[irreducible] def Tx.C_BoardError (_ : Tx K mg) : Addr := a_C_BoardError K
@[irreducible] def Tx.C_BadCount (_ : Tx K mg) : Addr := a_C_BadCount K
@[irreducible] def Tx.C_NoName (_ : Tx K mg) : Addr := a_C_NoName K
@[irreducible] def Tx.C_Twice (_ : Tx K mg) : Addr := a_C_Twice K
@[irreducible] def Tx.C_NoCell (_ : Tx K mg) : Addr := a_C_NoCell K
@[irreducible] def Tx.C_NoValue (_ : Tx K mg) : Addr := a_C_NoValue K
@[irreducible] def Tx.C_NoRoom (_ : Tx K mg) : Addr := a_C_NoRoom K
@[irreducible] def Tx.C_Statement (_ : Tx K mg) : Addr := a_C_Statement K
@[irreducible] def Tx.C_OnCell (_ : Tx K mg) : Addr := a_C_OnCell K
@[irreducible] def Tx.C_Write (_ : Tx K mg) : Addr := a_C_Write K
@[irreducible] def Tx.C_Wait (_ : Tx K mg) : Addr := a_C_Wait K
@[irreducible] def Tx.C_Mark (_ : Tx K mg) : Addr := a_C_Mark K
@[irreducible] def Tx.C_Skip (_ : Tx K mg) : Addr := a_C_Skip K
@[irreducible] def Tx.C_Stop (_ : Tx K mg) : Addr := a_C_Stop K
@[irreducible] def Tx.C_If (_ : Tx K mg) : Addr := a_C_If K
@[irreducible] def Tx.C_While (_ : Tx K mg) : Addr := a_C_While K
@[irreducible] def Tx.C_Choose (_ : Tx K mg) : Addr := a_C_Choose K
@[irreducible] def Tx.C_Loop (_ : Tx K mg) : Addr := a_C_Loop K
@[irreducible] def Tx.C_Program (_ : Tx K mg) : Addr := a_C_Program K
@[irreducible] def Tx.C_Machine (_ : Tx K mg) : Addr := a_C_Machine K
@[irreducible] def Tx.C_Board (_ : Tx K mg) : Addr := a_C_Board K
theorem Tx.l_BadCount_init (T : Tx K mg) : FnRaw K "__init__" "BadCount.__init__" s_BadCount_init T.f_BadCount_init := by unfold Tx.f_BadCount_init; exact fnX (T.c.def_ 0 rfl) (T.c.at 23 0 rfl rfl)
@[irreducible] noncomputable def Tx.d_BadCount_init (T : Tx K mg) : FuncData := T.l_BadCount_init.choose
theorem Tx.F_BadCount_init (T : Tx K mg) : Fun K "__init__" "BadCount.__init__" s_BadCount_init T.f_BadCount_init T.d_BadCount_init := by unfold Tx.d_BadCount_init; exact T.l_BadCount_init.choose_spec
theorem Tx.b_BadCount_init (T : Tx K mg) : Binds K T.d_BadCount_init ["self", "what", "count"] [] := T.F_BadCount_init.binds (ps := ["self", "what", "count"]) fun _ _ _ _ _ _ us hl => match us, hl with | [_, _, _], _ => by kernel_rfl
theorem Tx.l_NoName_init (T : Tx K mg) : FnRaw K "__init__" "NoName.__init__" s_NoName_init T.f_NoName_init := by unfold Tx.f_NoName_init; exact fnX (T.c.def_ 1 rfl) (T.c.at 23 1 rfl rfl)
@[irreducible] noncomputable def Tx.d_NoName_init (T : Tx K mg) : FuncData := T.l_NoName_init.choose
theorem Tx.F_NoName_init (T : Tx K mg) : Fun K "__init__" "NoName.__init__" s_NoName_init T.f_NoName_init T.d_NoName_init := by unfold Tx.d_NoName_init; exact T.l_NoName_init.choose_spec
theorem Tx.b_NoName_init (T : Tx K mg) : Binds K T.d_NoName_init ["self", "name"] [] := T.F_NoName_init.binds (ps := ["self", "name"]) fun _ _ _ _ _ _ us hl => match us, hl with | [_, _], _ => by kernel_rfl
theorem Tx.l_NoCell_init (T : Tx K mg) : FnRaw K "__init__" "NoCell.__init__" s_NoCell_init T.f_NoCell_init := by unfold Tx.f_NoCell_init; exact fnX (T.c.def_ 2 rfl) (T.c.at 23 2 rfl rfl)
@[irreducible] noncomputable def Tx.d_NoCell_init (T : Tx K mg) : FuncData := T.l_NoCell_init.choose
theorem Tx.F_NoCell_init (T : Tx K mg) : Fun K "__init__" "NoCell.__init__" s_NoCell_init T.f_NoCell_init T.d_NoCell_init := by unfold Tx.d_NoCell_init; exact T.l_NoCell_init.choose_spec
theorem Tx.b_NoCell_init (T : Tx K mg) : Binds K T.d_NoCell_init ["self", "name"] [] := T.F_NoCell_init.binds (ps := ["self", "name"]) fun _ _ _ _ _ _ us hl => match us, hl with | [_, _], _ => by kernel_rfl
theorem Tx.l_NoValue_init (T : Tx K mg) : FnRaw K "__init__" "NoValue.__init__" s_NoValue_init T.f_NoValue_init := by unfold Tx.f_NoValue_init; exact fnX (T.c.def_ 3 rfl) (T.c.at 23 3 rfl rfl)
@[irreducible] noncomputable def Tx.d_NoValue_init (T : Tx K mg) : FuncData := T.l_NoValue_init.choose
theorem Tx.F_NoValue_init (T : Tx K mg) : Fun K "__init__" "NoValue.__init__" s_NoValue_init T.f_NoValue_init T.d_NoValue_init := by unfold Tx.d_NoValue_init; exact T.l_NoValue_init.choose_spec
theorem Tx.b_NoValue_init (T : Tx K mg) : Binds K T.d_NoValue_init ["self", "cell", "value"] [] := T.F_NoValue_init.binds (ps := ["self", "cell", "value"]) fun _ _ _ _ _ _ us hl => match us, hl with | [_, _, _], _ => by kernel_rfl
theorem Tx.l_NoRoom_init (T : Tx K mg) : FnRaw K "__init__" "NoRoom.__init__" s_NoRoom_init T.f_NoRoom_init := by unfold Tx.f_NoRoom_init; exact fnX (T.c.def_ 4 rfl) (T.c.at 23 4 rfl rfl)
@[irreducible] noncomputable def Tx.d_NoRoom_init (T : Tx K mg) : FuncData := T.l_NoRoom_init.choose
theorem Tx.F_NoRoom_init (T : Tx K mg) : Fun K "__init__" "NoRoom.__init__" s_NoRoom_init T.f_NoRoom_init T.d_NoRoom_init := by unfold Tx.d_NoRoom_init; exact T.l_NoRoom_init.choose_spec
theorem Tx.b_NoRoom_init (T : Tx K mg) : Binds K T.d_NoRoom_init ["self", "room"] [] := T.F_NoRoom_init.binds (ps := ["self", "room"]) fun _ _ _ _ _ _ us hl => match us, hl with | [_, _], _ => by kernel_rfl
theorem Tx.l_is_name (T : Tx K mg) : FnRaw K "is_name" "is_name" s_is_name T.f_is_name := by unfold Tx.f_is_name; exact fnX (T.c.def_ 5 rfl) (T.c.at 23 5 rfl rfl)
@[irreducible] noncomputable def Tx.d_is_name (T : Tx K mg) : FuncData := T.l_is_name.choose
theorem Tx.F_is_name (T : Tx K mg) : Fun K "is_name" "is_name" s_is_name T.f_is_name T.d_is_name := by unfold Tx.d_is_name; exact T.l_is_name.choose_spec
theorem Tx.b_is_name (T : Tx K mg) : Binds K T.d_is_name ["text"] [] := T.F_is_name.binds (ps := ["text"]) fun _ _ _ _ _ _ us hl => match us, hl with | [_], _ => by kernel_rfl
theorem Tx.l_asked_names (T : Tx K mg) : FnRaw K "asked_names" "asked_names" s_asked_names T.f_asked_names := by unfold Tx.f_asked_names; exact fnX (T.c.def_ 6 rfl) (T.c.at 23 6 rfl rfl)
@[irreducible] noncomputable def Tx.d_asked_names (T : Tx K mg) : FuncData := T.l_asked_names.choose
theorem Tx.F_asked_names (T : Tx K mg) : Fun K "asked_names" "asked_names" s_asked_names T.f_asked_names T.d_asked_names := by unfold Tx.d_asked_names; exact T.l_asked_names.choose_spec
theorem Tx.b_asked_names (T : Tx K mg) : Binds K T.d_asked_names ["texts"] [] := T.F_asked_names.binds (ps := ["texts"]) fun _ _ _ _ _ _ us hl => match us, hl with | [_], _ => by kernel_rfl
theorem Tx.l_asked_once (T : Tx K mg) : FnRaw K "asked_once" "asked_once" s_asked_once T.f_asked_once := by unfold Tx.f_asked_once; exact fnX (T.c.def_ 7 rfl) (T.c.at 23 7 rfl rfl)
@[irreducible] noncomputable def Tx.d_asked_once (T : Tx K mg) : FuncData := T.l_asked_once.choose
theorem Tx.F_asked_once (T : Tx K mg) : Fun K "asked_once" "asked_once" s_asked_once T.f_asked_once T.d_asked_once := by unfold Tx.d_asked_once; exact T.l_asked_once.choose_spec
theorem Tx.b_asked_once (T : Tx K mg) : Binds K T.d_asked_once ["names"] [] := T.F_asked_once.binds (ps := ["names"]) fun _ _ _ _ _ _ us hl => match us, hl with | [_], _ => by kernel_rfl
theorem Tx.l_asked_size (T : Tx K mg) : FnRaw K "asked_size" "asked_size" s_asked_size T.f_asked_size := by unfold Tx.f_asked_size; exact fnX (T.c.def_ 8 rfl) (T.c.at 23 8 rfl rfl)
@[irreducible] noncomputable def Tx.d_asked_size (T : Tx K mg) : FuncData := T.l_asked_size.choose
theorem Tx.F_asked_size (T : Tx K mg) : Fun K "asked_size" "asked_size" s_asked_size T.f_asked_size T.d_asked_size := by unfold Tx.d_asked_size; exact T.l_asked_size.choose_spec
theorem Tx.b_asked_size (T : Tx K mg) : Binds K T.d_asked_size ["size", "deep"] [] := T.F_asked_size.binds (ps := ["size", "deep"]) fun _ _ _ _ _ _ us hl => match us, hl with | [_, _], _ => by kernel_rfl
theorem Tx.l_Statement_parts (T : Tx K mg) : FnRaw K "parts" "Statement.parts" s_Statement_parts T.f_Statement_parts := by unfold Tx.f_Statement_parts; exact fnX (T.c.def_ 9 rfl) (T.c.at 23 9 rfl rfl)
@[irreducible] noncomputable def Tx.d_Statement_parts (T : Tx K mg) : FuncData := T.l_Statement_parts.choose
theorem Tx.F_Statement_parts (T : Tx K mg) : Fun K "parts" "Statement.parts" s_Statement_parts T.f_Statement_parts T.d_Statement_parts := by unfold Tx.d_Statement_parts; exact T.l_Statement_parts.choose_spec
theorem Tx.b_Statement_parts (T : Tx K mg) : Binds K T.d_Statement_parts ["self"] [] := T.F_Statement_parts.binds (ps := ["self"]) fun _ _ _ _ _ _ us hl => match us, hl with | [_], _ => by kernel_rfl
theorem Tx.l_Statement_size (T : Tx K mg) : FnRaw K "size" "Statement.size" s_Statement_size T.f_Statement_size := by unfold Tx.f_Statement_size; exact fnX (T.c.def_ 10 rfl) (T.c.at 23 10 rfl rfl)
@[irreducible] noncomputable def Tx.d_Statement_size (T : Tx K mg) : FuncData := T.l_Statement_size.choose
theorem Tx.F_Statement_size (T : Tx K mg) : Fun K "size" "Statement.size" s_Statement_size T.f_Statement_size T.d_Statement_size := by unfold Tx.d_Statement_size; exact T.l_Statement_size.choose_spec
theorem Tx.b_Statement_size (T : Tx K mg) : Binds K T.d_Statement_size ["self"] [] := T.F_Statement_size.binds (ps := ["self"]) fun _ _ _ _ _ _ us hl => match us, hl with | [_], _ => by kernel_rfl
theorem Tx.l_OnCell_init (T : Tx K mg) : FnRaw K "__init__" "OnCell.__init__" s_OnCell_init T.f_OnCell_init := by unfold Tx.f_OnCell_init; exact fnX (T.c.def_ 11 rfl) (T.c.at 23 11 rfl rfl)
@[irreducible] noncomputable def Tx.d_OnCell_init (T : Tx K mg) : FuncData := T.l_OnCell_init.choose
theorem Tx.F_OnCell_init (T : Tx K mg) : Fun K "__init__" "OnCell.__init__" s_OnCell_init T.f_OnCell_init T.d_OnCell_init := by unfold Tx.d_OnCell_init; exact T.l_OnCell_init.choose_spec
theorem Tx.b_OnCell_init (T : Tx K mg) : Binds K T.d_OnCell_init ["self", "cell", "value"] [] := T.F_OnCell_init.binds (ps := ["self", "cell", "value"]) fun _ _ _ _ _ _ us hl => match us, hl with | [_, _, _], _ => by kernel_rfl
theorem Tx.l_Mark_init (T : Tx K mg) : FnRaw K "__init__" "Mark.__init__" s_Mark_init T.f_Mark_init := by unfold Tx.f_Mark_init; exact fnX (T.c.def_ 12 rfl) (T.c.at 23 12 rfl rfl)
@[irreducible] noncomputable def Tx.d_Mark_init (T : Tx K mg) : FuncData := T.l_Mark_init.choose
theorem Tx.F_Mark_init (T : Tx K mg) : Fun K "__init__" "Mark.__init__" s_Mark_init T.f_Mark_init T.d_Mark_init := by unfold Tx.d_Mark_init; exact T.l_Mark_init.choose_spec
theorem Tx.b_Mark_init (T : Tx K mg) : Binds K T.d_Mark_init ["self", "name"] [] := T.F_Mark_init.binds (ps := ["self", "name"]) fun _ _ _ _ _ _ us hl => match us, hl with | [_, _], _ => by kernel_rfl
theorem Tx.l_If_init (T : Tx K mg) : FnRaw K "__init__" "If.__init__" s_If_init T.f_If_init := by unfold Tx.f_If_init; exact fnX (T.c.def_ 13 rfl) (T.c.at 23 13 rfl rfl)
@[irreducible] noncomputable def Tx.d_If_init (T : Tx K mg) : FuncData := T.l_If_init.choose
theorem Tx.F_If_init (T : Tx K mg) : Fun K "__init__" "If.__init__" s_If_init T.f_If_init T.d_If_init := by unfold Tx.d_If_init; exact T.l_If_init.choose_spec
theorem Tx.b_If_init (T : Tx K mg) : Binds K T.d_If_init ["self", "cell", "value", "yes", "no"] [] := T.F_If_init.binds (ps := ["self", "cell", "value", "yes", "no"]) fun _ _ _ _ _ _ us hl => match us, hl with | [_, _, _, _, _], _ => by kernel_rfl
theorem Tx.l_If_parts (T : Tx K mg) : FnRaw K "parts" "If.parts" s_If_parts T.f_If_parts := by unfold Tx.f_If_parts; exact fnX (T.c.def_ 14 rfl) (T.c.at 23 14 rfl rfl)
@[irreducible] noncomputable def Tx.d_If_parts (T : Tx K mg) : FuncData := T.l_If_parts.choose
theorem Tx.F_If_parts (T : Tx K mg) : Fun K "parts" "If.parts" s_If_parts T.f_If_parts T.d_If_parts := by unfold Tx.d_If_parts; exact T.l_If_parts.choose_spec
theorem Tx.b_If_parts (T : Tx K mg) : Binds K T.d_If_parts ["self"] [] := T.F_If_parts.binds (ps := ["self"]) fun _ _ _ _ _ _ us hl => match us, hl with | [_], _ => by kernel_rfl
theorem Tx.l_While_init (T : Tx K mg) : FnRaw K "__init__" "While.__init__" s_While_init T.f_While_init := by unfold Tx.f_While_init; exact fnX (T.c.def_ 15 rfl) (T.c.at 23 15 rfl rfl)
@[irreducible] noncomputable def Tx.d_While_init (T : Tx K mg) : FuncData := T.l_While_init.choose
theorem Tx.F_While_init (T : Tx K mg) : Fun K "__init__" "While.__init__" s_While_init T.f_While_init T.d_While_init := by unfold Tx.d_While_init; exact T.l_While_init.choose_spec
theorem Tx.b_While_init (T : Tx K mg) : Binds K T.d_While_init ["self", "cell", "value", "body"] [] := T.F_While_init.binds (ps := ["self", "cell", "value", "body"]) fun _ _ _ _ _ _ us hl => match us, hl with | [_, _, _, _], _ => by kernel_rfl
theorem Tx.l_While_parts (T : Tx K mg) : FnRaw K "parts" "While.parts" s_While_parts T.f_While_parts := by unfold Tx.f_While_parts; exact fnX (T.c.def_ 16 rfl) (T.c.at 23 16 rfl rfl)
@[irreducible] noncomputable def Tx.d_While_parts (T : Tx K mg) : FuncData := T.l_While_parts.choose
theorem Tx.F_While_parts (T : Tx K mg) : Fun K "parts" "While.parts" s_While_parts T.f_While_parts T.d_While_parts := by unfold Tx.d_While_parts; exact T.l_While_parts.choose_spec
theorem Tx.b_While_parts (T : Tx K mg) : Binds K T.d_While_parts ["self"] [] := T.F_While_parts.binds (ps := ["self"]) fun _ _ _ _ _ _ us hl => match us, hl with | [_], _ => by kernel_rfl
theorem Tx.l_Choose_init (T : Tx K mg) : FnRaw K "__init__" "Choose.__init__" s_Choose_init T.f_Choose_init := by unfold Tx.f_Choose_init; exact fnX (T.c.def_ 17 rfl) (T.c.at 23 17 rfl rfl)
@[irreducible] noncomputable def Tx.d_Choose_init (T : Tx K mg) : FuncData := T.l_Choose_init.choose
theorem Tx.F_Choose_init (T : Tx K mg) : Fun K "__init__" "Choose.__init__" s_Choose_init T.f_Choose_init T.d_Choose_init := by unfold Tx.d_Choose_init; exact T.l_Choose_init.choose_spec
theorem Tx.b_Choose_init (T : Tx K mg) : Binds K T.d_Choose_init ["self", "one", "other"] [] := T.F_Choose_init.binds (ps := ["self", "one", "other"]) fun _ _ _ _ _ _ us hl => match us, hl with | [_, _, _], _ => by kernel_rfl
theorem Tx.l_Choose_parts (T : Tx K mg) : FnRaw K "parts" "Choose.parts" s_Choose_parts T.f_Choose_parts := by unfold Tx.f_Choose_parts; exact fnX (T.c.def_ 18 rfl) (T.c.at 23 18 rfl rfl)
@[irreducible] noncomputable def Tx.d_Choose_parts (T : Tx K mg) : FuncData := T.l_Choose_parts.choose
theorem Tx.F_Choose_parts (T : Tx K mg) : Fun K "parts" "Choose.parts" s_Choose_parts T.f_Choose_parts T.d_Choose_parts := by unfold Tx.d_Choose_parts; exact T.l_Choose_parts.choose_spec
theorem Tx.b_Choose_parts (T : Tx K mg) : Binds K T.d_Choose_parts ["self"] [] := T.F_Choose_parts.binds (ps := ["self"]) fun _ _ _ _ _ _ us hl => match us, hl with | [_], _ => by kernel_rfl
theorem Tx.l_Loop_init (T : Tx K mg) : FnRaw K "__init__" "Loop.__init__" s_Loop_init T.f_Loop_init := by unfold Tx.f_Loop_init; exact fnX (T.c.def_ 19 rfl) (T.c.at 23 19 rfl rfl)
@[irreducible] noncomputable def Tx.d_Loop_init (T : Tx K mg) : FuncData := T.l_Loop_init.choose
theorem Tx.F_Loop_init (T : Tx K mg) : Fun K "__init__" "Loop.__init__" s_Loop_init T.f_Loop_init T.d_Loop_init := by unfold Tx.d_Loop_init; exact T.l_Loop_init.choose_spec
theorem Tx.b_Loop_init (T : Tx K mg) : Binds K T.d_Loop_init ["self", "body"] [] := T.F_Loop_init.binds (ps := ["self", "body"]) fun _ _ _ _ _ _ us hl => match us, hl with | [_, _], _ => by kernel_rfl
theorem Tx.l_Loop_parts (T : Tx K mg) : FnRaw K "parts" "Loop.parts" s_Loop_parts T.f_Loop_parts := by unfold Tx.f_Loop_parts; exact fnX (T.c.def_ 20 rfl) (T.c.at 23 20 rfl rfl)
@[irreducible] noncomputable def Tx.d_Loop_parts (T : Tx K mg) : FuncData := T.l_Loop_parts.choose
theorem Tx.F_Loop_parts (T : Tx K mg) : Fun K "parts" "Loop.parts" s_Loop_parts T.f_Loop_parts T.d_Loop_parts := by unfold Tx.d_Loop_parts; exact T.l_Loop_parts.choose_spec
theorem Tx.b_Loop_parts (T : Tx K mg) : Binds K T.d_Loop_parts ["self"] [] := T.F_Loop_parts.binds (ps := ["self"]) fun _ _ _ _ _ _ us hl => match us, hl with | [_], _ => by kernel_rfl
theorem Tx.l_Program_init (T : Tx K mg) : FnRaw K "__init__" "Program.__init__" s_Program_init T.f_Program_init := by unfold Tx.f_Program_init; exact fnX (T.c.def_ 21 rfl) (T.c.at 23 21 rfl rfl)
@[irreducible] noncomputable def Tx.d_Program_init (T : Tx K mg) : FuncData := T.l_Program_init.choose
theorem Tx.F_Program_init (T : Tx K mg) : Fun K "__init__" "Program.__init__" s_Program_init T.f_Program_init T.d_Program_init := by unfold Tx.d_Program_init; exact T.l_Program_init.choose_spec
theorem Tx.b_Program_init (T : Tx K mg) : Binds K T.d_Program_init ["self", "statements"] [] := T.F_Program_init.binds (ps := ["self", "statements"]) fun _ _ _ _ _ _ us hl => match us, hl with | [_, _], _ => by kernel_rfl
theorem Tx.l_Program_size (T : Tx K mg) : FnRaw K "size" "Program.size" s_Program_size T.f_Program_size := by unfold Tx.f_Program_size; exact fnX (T.c.def_ 22 rfl) (T.c.at 23 22 rfl rfl)
@[irreducible] noncomputable def Tx.d_Program_size (T : Tx K mg) : FuncData := T.l_Program_size.choose
theorem Tx.F_Program_size (T : Tx K mg) : Fun K "size" "Program.size" s_Program_size T.f_Program_size T.d_Program_size := by unfold Tx.d_Program_size; exact T.l_Program_size.choose_spec
theorem Tx.b_Program_size (T : Tx K mg) : Binds K T.d_Program_size ["self"] [] := T.F_Program_size.binds (ps := ["self"]) fun _ _ _ _ _ _ us hl => match us, hl with | [_], _ => by kernel_rfl
theorem Tx.l_Program_deep (T : Tx K mg) : FnRaw K "deep" "Program.deep" s_Program_deep T.f_Program_deep := by unfold Tx.f_Program_deep; exact fnX (T.c.def_ 23 rfl) (T.c.at 23 23 rfl rfl)
@[irreducible] noncomputable def Tx.d_Program_deep (T : Tx K mg) : FuncData := T.l_Program_deep.choose
theorem Tx.F_Program_deep (T : Tx K mg) : Fun K "deep" "Program.deep" s_Program_deep T.f_Program_deep T.d_Program_deep := by unfold Tx.d_Program_deep; exact T.l_Program_deep.choose_spec
theorem Tx.b_Program_deep (T : Tx K mg) : Binds K T.d_Program_deep ["self"] [] := T.F_Program_deep.binds (ps := ["self"]) fun _ _ _ _ _ _ us hl => match us, hl with | [_], _ => by kernel_rfl
theorem Tx.l_looks_rooms (T : Tx K mg) : FnRaw K "looks" "looks" s_looks_rooms T.f_looks_rooms := by unfold Tx.f_looks_rooms; exact fnX (T.c.def_ 24 rfl) (T.c.at 23 24 rfl rfl)
@[irreducible] noncomputable def Tx.d_looks_rooms (T : Tx K mg) : FuncData := T.l_looks_rooms.choose
theorem Tx.F_looks_rooms (T : Tx K mg) : Fun K "looks" "looks" s_looks_rooms T.f_looks_rooms T.d_looks_rooms := by unfold Tx.d_looks_rooms; exact T.l_looks_rooms.choose_spec
theorem Tx.b_looks_rooms (T : Tx K mg) : Binds K T.d_looks_rooms ["board", "statement", "then", "other"] [] := T.F_looks_rooms.binds (ps := ["board", "statement", "then", "other"]) fun _ _ _ _ _ _ us hl => match us, hl with | [_, _, _, _], _ => by kernel_rfl
theorem Tx.l_Machine_init (T : Tx K mg) : FnRaw K "__init__" "Machine.__init__" s_Machine_init T.f_Machine_init := by unfold Tx.f_Machine_init; exact fnX (T.c.def_ 25 rfl) (T.c.at 23 25 rfl rfl)
@[irreducible] noncomputable def Tx.d_Machine_init (T : Tx K mg) : FuncData := T.l_Machine_init.choose
theorem Tx.F_Machine_init (T : Tx K mg) : Fun K "__init__" "Machine.__init__" s_Machine_init T.f_Machine_init T.d_Machine_init := by unfold Tx.d_Machine_init; exact T.l_Machine_init.choose_spec
theorem Tx.b_Machine_init (T : Tx K mg) : Binds K T.d_Machine_init ["self", "board", "program"] [] := T.F_Machine_init.binds (ps := ["self", "board", "program"]) fun _ _ _ _ _ _ us hl => match us, hl with | [_, _, _], _ => by kernel_rfl
theorem Tx.l_Machine_number_row (T : Tx K mg) : FnRaw K "number_row" "Machine.number_row" s_Machine_number_row T.f_Machine_number_row := by unfold Tx.f_Machine_number_row; exact fnX (T.c.def_ 26 rfl) (T.c.at 23 26 rfl rfl)
@[irreducible] noncomputable def Tx.d_Machine_number_row (T : Tx K mg) : FuncData := T.l_Machine_number_row.choose
theorem Tx.F_Machine_number_row (T : Tx K mg) : Fun K "number_row" "Machine.number_row" s_Machine_number_row T.f_Machine_number_row T.d_Machine_number_row := by unfold Tx.d_Machine_number_row; exact T.l_Machine_number_row.choose_spec
theorem Tx.b_Machine_number_row (T : Tx K mg) : Binds K T.d_Machine_number_row ["self", "program"] [] := T.F_Machine_number_row.binds (ps := ["self", "program"]) fun _ _ _ _ _ _ us hl => match us, hl with | [_, _], _ => by kernel_rfl
theorem Tx.l_Machine_lay_row (T : Tx K mg) : FnRaw K "lay_row" "Machine.lay_row" s_Machine_lay_row T.f_Machine_lay_row := by unfold Tx.f_Machine_lay_row; exact fnX (T.c.def_ 27 rfl) (T.c.at 23 27 rfl rfl)
@[irreducible] noncomputable def Tx.d_Machine_lay_row (T : Tx K mg) : FuncData := T.l_Machine_lay_row.choose
theorem Tx.F_Machine_lay_row (T : Tx K mg) : Fun K "lay_row" "Machine.lay_row" s_Machine_lay_row T.f_Machine_lay_row T.d_Machine_lay_row := by unfold Tx.d_Machine_lay_row; exact T.l_Machine_lay_row.choose_spec
theorem Tx.b_Machine_lay_row (T : Tx K mg) : Binds K T.d_Machine_lay_row ["self", "program", "first", "behind"] [] := T.F_Machine_lay_row.binds (ps := ["self", "program", "first", "behind"]) fun _ _ _ _ _ _ us hl => match us, hl with | [_, _, _, _], _ => by kernel_rfl
theorem Tx.l_Machine_begin_of (T : Tx K mg) : FnRaw K "begin_of" "Machine.begin_of" s_Machine_begin_of T.f_Machine_begin_of := by unfold Tx.f_Machine_begin_of; exact fnX (T.c.def_ 28 rfl) (T.c.at 23 28 rfl rfl)
@[irreducible] noncomputable def Tx.d_Machine_begin_of (T : Tx K mg) : FuncData := T.l_Machine_begin_of.choose
theorem Tx.F_Machine_begin_of (T : Tx K mg) : Fun K "begin_of" "Machine.begin_of" s_Machine_begin_of T.f_Machine_begin_of T.d_Machine_begin_of := by unfold Tx.d_Machine_begin_of; exact T.l_Machine_begin_of.choose_spec
theorem Tx.b_Machine_begin_of (T : Tx K mg) : Binds K T.d_Machine_begin_of ["self", "program", "first", "behind"] [] := T.F_Machine_begin_of.binds (ps := ["self", "program", "first", "behind"]) fun _ _ _ _ _ _ us hl => match us, hl with | [_, _, _, _], _ => by kernel_rfl
theorem Tx.l_Machine_lay (T : Tx K mg) : FnRaw K "lay" "Machine.lay" s_Machine_lay T.f_Machine_lay := by unfold Tx.f_Machine_lay; exact fnX (T.c.def_ 29 rfl) (T.c.at 23 29 rfl rfl)
@[irreducible] noncomputable def Tx.d_Machine_lay (T : Tx K mg) : FuncData := T.l_Machine_lay.choose
theorem Tx.F_Machine_lay (T : Tx K mg) : Fun K "lay" "Machine.lay" s_Machine_lay T.f_Machine_lay T.d_Machine_lay := by unfold Tx.d_Machine_lay; exact T.l_Machine_lay.choose_spec
theorem Tx.b_Machine_lay (T : Tx K mg) : Binds K T.d_Machine_lay ["self", "statement", "at", "goal"] [] := T.F_Machine_lay.binds (ps := ["self", "statement", "at", "goal"]) fun _ _ _ _ _ _ us hl => match us, hl with | [_, _, _, _], _ => by kernel_rfl
theorem Tx.l_Machine_steps_of (T : Tx K mg) : FnRaw K "steps_of" "Machine.steps_of" s_Machine_steps_of T.f_Machine_steps_of := by unfold Tx.f_Machine_steps_of; exact fnX (T.c.def_ 30 rfl) (T.c.at 23 30 rfl rfl)
@[irreducible] noncomputable def Tx.d_Machine_steps_of (T : Tx K mg) : FuncData := T.l_Machine_steps_of.choose
theorem Tx.F_Machine_steps_of (T : Tx K mg) : Fun K "steps_of" "Machine.steps_of" s_Machine_steps_of T.f_Machine_steps_of T.d_Machine_steps_of := by unfold Tx.d_Machine_steps_of; exact T.l_Machine_steps_of.choose_spec
theorem Tx.b_Machine_steps_of (T : Tx K mg) : Binds K T.d_Machine_steps_of ["self", "statement", "begins", "goal"] [] := T.F_Machine_steps_of.binds (ps := ["self", "statement", "begins", "goal"]) fun _ _ _ _ _ _ us hl => match us, hl with | [_, _, _, _], _ => by kernel_rfl
theorem Tx.l_Machine_rooms (T : Tx K mg) : FnRaw K "rooms" "Machine.rooms" s_Machine_rooms T.f_Machine_rooms := by unfold Tx.f_Machine_rooms; exact fnX (T.c.def_ 31 rfl) (T.c.at 23 31 rfl rfl)
@[irreducible] noncomputable def Tx.d_Machine_rooms (T : Tx K mg) : FuncData := T.l_Machine_rooms.choose
theorem Tx.F_Machine_rooms (T : Tx K mg) : Fun K "rooms" "Machine.rooms" s_Machine_rooms T.f_Machine_rooms T.d_Machine_rooms := by unfold Tx.d_Machine_rooms; exact T.l_Machine_rooms.choose_spec
theorem Tx.b_Machine_rooms (T : Tx K mg) : Binds K T.d_Machine_rooms ["self"] [] := T.F_Machine_rooms.binds (ps := ["self"]) fun _ _ _ _ _ _ us hl => match us, hl with | [_], _ => by kernel_rfl
theorem Tx.l_Machine_asked (T : Tx K mg) : FnRaw K "asked" "Machine.asked" s_Machine_asked T.f_Machine_asked := by unfold Tx.f_Machine_asked; exact fnX (T.c.def_ 32 rfl) (T.c.at 23 32 rfl rfl)
@[irreducible] noncomputable def Tx.d_Machine_asked (T : Tx K mg) : FuncData := T.l_Machine_asked.choose
theorem Tx.F_Machine_asked (T : Tx K mg) : Fun K "asked" "Machine.asked" s_Machine_asked T.f_Machine_asked T.d_Machine_asked := by unfold Tx.d_Machine_asked; exact T.l_Machine_asked.choose_spec
theorem Tx.b_Machine_asked (T : Tx K mg) : Binds K T.d_Machine_asked ["self", "room"] [] := T.F_Machine_asked.binds (ps := ["self", "room"]) fun _ _ _ _ _ _ us hl => match us, hl with | [_, _], _ => by kernel_rfl
theorem Tx.l_Machine_steps (T : Tx K mg) : FnRaw K "steps" "Machine.steps" s_Machine_steps T.f_Machine_steps := by unfold Tx.f_Machine_steps; exact fnX (T.c.def_ 33 rfl) (T.c.at 23 33 rfl rfl)
@[irreducible] noncomputable def Tx.d_Machine_steps (T : Tx K mg) : FuncData := T.l_Machine_steps.choose
theorem Tx.F_Machine_steps (T : Tx K mg) : Fun K "steps" "Machine.steps" s_Machine_steps T.f_Machine_steps T.d_Machine_steps := by unfold Tx.d_Machine_steps; exact T.l_Machine_steps.choose_spec
theorem Tx.b_Machine_steps (T : Tx K mg) : Binds K T.d_Machine_steps ["self", "room"] [] := T.F_Machine_steps.binds (ps := ["self", "room"]) fun _ _ _ _ _ _ us hl => match us, hl with | [_, _], _ => by kernel_rfl
theorem Tx.l_Machine_mark_of (T : Tx K mg) : FnRaw K "mark_of" "Machine.mark_of" s_Machine_mark_of T.f_Machine_mark_of := by unfold Tx.f_Machine_mark_of; exact fnX (T.c.def_ 34 rfl) (T.c.at 23 34 rfl rfl)
@[irreducible] noncomputable def Tx.d_Machine_mark_of (T : Tx K mg) : FuncData := T.l_Machine_mark_of.choose
theorem Tx.F_Machine_mark_of (T : Tx K mg) : Fun K "mark_of" "Machine.mark_of" s_Machine_mark_of T.f_Machine_mark_of T.d_Machine_mark_of := by unfold Tx.d_Machine_mark_of; exact T.l_Machine_mark_of.choose_spec
theorem Tx.b_Machine_mark_of (T : Tx K mg) : Binds K T.d_Machine_mark_of ["self", "room"] [] := T.F_Machine_mark_of.binds (ps := ["self", "room"]) fun _ _ _ _ _ _ us hl => match us, hl with | [_, _], _ => by kernel_rfl
theorem Tx.l_asked_cells (T : Tx K mg) : FnRaw K "asked_cells" "asked_cells" s_asked_cells T.f_asked_cells := by unfold Tx.f_asked_cells; exact fnX (T.c.def_ 35 rfl) (T.c.at 23 35 rfl rfl)
@[irreducible] noncomputable def Tx.d_asked_cells (T : Tx K mg) : FuncData := T.l_asked_cells.choose
theorem Tx.F_asked_cells (T : Tx K mg) : Fun K "asked_cells" "asked_cells" s_asked_cells T.f_asked_cells T.d_asked_cells := by unfold Tx.d_asked_cells; exact T.l_asked_cells.choose_spec
theorem Tx.b_asked_cells (T : Tx K mg) : Binds K T.d_asked_cells ["cells"] [] := T.F_asked_cells.binds (ps := ["cells"]) fun _ _ _ _ _ _ us hl => match us, hl with | [_], _ => by kernel_rfl
theorem Tx.l_Board_init (T : Tx K mg) : FnRaw K "__init__" "Board.__init__" s_Board_init T.f_Board_init := by unfold Tx.f_Board_init; exact fnX (T.c.def_ 36 rfl) (T.c.at 23 36 rfl rfl)
@[irreducible] noncomputable def Tx.d_Board_init (T : Tx K mg) : FuncData := T.l_Board_init.choose
theorem Tx.F_Board_init (T : Tx K mg) : Fun K "__init__" "Board.__init__" s_Board_init T.f_Board_init T.d_Board_init := by unfold Tx.d_Board_init; exact T.l_Board_init.choose_spec
theorem Tx.b_Board_init (T : Tx K mg) : Binds K T.d_Board_init ["self", "cells"] [] := T.F_Board_init.binds (ps := ["self", "cells"]) fun _ _ _ _ _ _ us hl => match us, hl with | [_, _], _ => by kernel_rfl
theorem Tx.l_Board_values_of (T : Tx K mg) : FnRaw K "values_of" "Board.values_of" s_Board_values_of T.f_Board_values_of := by unfold Tx.f_Board_values_of; exact fnX (T.c.def_ 37 rfl) (T.c.at 23 37 rfl rfl)
@[irreducible] noncomputable def Tx.d_Board_values_of (T : Tx K mg) : FuncData := T.l_Board_values_of.choose
theorem Tx.F_Board_values_of (T : Tx K mg) : Fun K "values_of" "Board.values_of" s_Board_values_of T.f_Board_values_of T.d_Board_values_of := by unfold Tx.d_Board_values_of; exact T.l_Board_values_of.choose_spec
theorem Tx.b_Board_values_of (T : Tx K mg) : Binds K T.d_Board_values_of ["self", "cell"] [] := T.F_Board_values_of.binds (ps := ["self", "cell"]) fun _ _ _ _ _ _ us hl => match us, hl with | [_, _], _ => by kernel_rfl
theorem Tx.l_Board_asked (T : Tx K mg) : FnRaw K "asked" "Board.asked" s_Board_asked T.f_Board_asked := by unfold Tx.f_Board_asked; exact fnX (T.c.def_ 38 rfl) (T.c.at 23 38 rfl rfl)
@[irreducible] noncomputable def Tx.d_Board_asked (T : Tx K mg) : FuncData := T.l_Board_asked.choose
theorem Tx.F_Board_asked (T : Tx K mg) : Fun K "asked" "Board.asked" s_Board_asked T.f_Board_asked T.d_Board_asked := by unfold Tx.d_Board_asked; exact T.l_Board_asked.choose_spec
theorem Tx.b_Board_asked (T : Tx K mg) : Binds K T.d_Board_asked ["self", "cell", "value"] [] := T.F_Board_asked.binds (ps := ["self", "cell", "value"]) fun _ _ _ _ _ _ us hl => match us, hl with | [_, _, _], _ => by kernel_rfl
theorem Tx.l_Board_others (T : Tx K mg) : FnRaw K "others" "Board.others" s_Board_others T.f_Board_others := by unfold Tx.f_Board_others; exact fnX (T.c.def_ 39 rfl) (T.c.at 23 39 rfl rfl)
@[irreducible] noncomputable def Tx.d_Board_others (T : Tx K mg) : FuncData := T.l_Board_others.choose
theorem Tx.F_Board_others (T : Tx K mg) : Fun K "others" "Board.others" s_Board_others T.f_Board_others T.d_Board_others := by unfold Tx.d_Board_others; exact T.l_Board_others.choose_spec
theorem Tx.b_Board_others (T : Tx K mg) : Binds K T.d_Board_others ["self", "cell", "value"] [] := T.F_Board_others.binds (ps := ["self", "cell", "value"]) fun _ _ _ _ _ _ us hl => match us, hl with | [_, _, _], _ => by kernel_rfl
theorem Tx.l_looks_lefts (T : Tx K mg) : FnRaw K "looks" "looks" s_looks_lefts T.f_looks_lefts := by unfold Tx.f_looks_lefts; exact fnX (T.c.def_ 40 rfl) (T.c.at 23 40 rfl rfl)
@[irreducible] noncomputable def Tx.d_looks_lefts (T : Tx K mg) : FuncData := T.l_looks_lefts.choose
theorem Tx.F_looks_lefts (T : Tx K mg) : Fun K "looks" "looks" s_looks_lefts T.f_looks_lefts T.d_looks_lefts := by unfold Tx.d_looks_lefts; exact T.l_looks_lefts.choose_spec
theorem Tx.b_looks_lefts (T : Tx K mg) : Binds K T.d_looks_lefts ["board", "statement", "then", "other"] [] := T.F_looks_lefts.binds (ps := ["board", "statement", "then", "other"]) fun _ _ _ _ _ _ us hl => match us, hl with | [_, _, _, _], _ => by kernel_rfl
theorem Tx.l_left_of_cell (T : Tx K mg) : FnRaw K "left_of_cell" "left_of_cell" s_left_of_cell T.f_left_of_cell := by unfold Tx.f_left_of_cell; exact fnX (T.c.def_ 41 rfl) (T.c.at 23 41 rfl rfl)
@[irreducible] noncomputable def Tx.d_left_of_cell (T : Tx K mg) : FuncData := T.l_left_of_cell.choose
theorem Tx.F_left_of_cell (T : Tx K mg) : Fun K "left_of_cell" "left_of_cell" s_left_of_cell T.f_left_of_cell T.d_left_of_cell := by unfold Tx.d_left_of_cell; exact T.l_left_of_cell.choose_spec
theorem Tx.b_left_of_cell (T : Tx K mg) : Binds K T.d_left_of_cell ["board", "statement", "row"] [] := T.F_left_of_cell.binds (ps := ["board", "statement", "row"]) fun _ _ _ _ _ _ us hl => match us, hl with | [_, _, _], _ => by kernel_rfl
theorem Tx.l_left (T : Tx K mg) : FnRaw K "left" "left" s_left T.f_left := by unfold Tx.f_left; exact fnX (T.c.def_ 42 rfl) (T.c.at 23 42 rfl rfl)
@[irreducible] noncomputable def Tx.d_left (T : Tx K mg) : FuncData := T.l_left.choose
theorem Tx.F_left (T : Tx K mg) : Fun K "left" "left" s_left T.f_left T.d_left := by unfold Tx.d_left; exact T.l_left.choose_spec
theorem Tx.b_left (T : Tx K mg) : Binds K T.d_left ["board", "row"] [] := T.F_left.binds (ps := ["board", "row"]) fun _ _ _ _ _ _ us hl => match us, hl with | [_, _], _ => by kernel_rfl
theorem Tx.l_law_cell_at (T : Tx K mg) : FnRaw K "_law_cell_at" "_law_cell_at" s_law_cell_at T.f_law_cell_at := by unfold Tx.f_law_cell_at; exact fnX (T.c.def_ 43 rfl) (T.c.at 23 43 rfl rfl)
@[irreducible] noncomputable def Tx.d_law_cell_at (T : Tx K mg) : FuncData := T.l_law_cell_at.choose
theorem Tx.F_law_cell_at (T : Tx K mg) : Fun K "_law_cell_at" "_law_cell_at" s_law_cell_at T.f_law_cell_at T.d_law_cell_at := by unfold Tx.d_law_cell_at; exact T.l_law_cell_at.choose_spec
theorem Tx.b_law_cell_at (T : Tx K mg) : Binds K T.d_law_cell_at ["_law_script", "_law_k"] [] := T.F_law_cell_at.binds (ps := ["_law_script", "_law_k"]) fun _ _ _ _ _ _ us hl => match us, hl with | [_, _], _ => by kernel_rfl
theorem Tx.l_law_state (T : Tx K mg) : FnRaw K "_law_state" "_law_state" s_law_state T.f_law_state := by unfold Tx.f_law_state; exact fnX (T.c.def_ 44 rfl) (T.c.at 23 44 rfl rfl)
@[irreducible] noncomputable def Tx.d_law_state (T : Tx K mg) : FuncData := T.l_law_state.choose
theorem Tx.F_law_state (T : Tx K mg) : Fun K "_law_state" "_law_state" s_law_state T.f_law_state T.d_law_state := by unfold Tx.d_law_state; exact T.l_law_state.choose_spec
theorem Tx.b_law_state (T : Tx K mg) : Binds K T.d_law_state ["_law_cell"] [] := T.F_law_state.binds (ps := ["_law_cell"]) fun _ _ _ _ _ _ us hl => match us, hl with | [_], _ => by kernel_rfl
theorem Tx.l_law_digit (T : Tx K mg) : FnRaw K "_law_digit" "_law_digit" s_law_digit T.f_law_digit := by unfold Tx.f_law_digit; exact fnX (T.c.def_ 45 rfl) (T.c.at 23 45 rfl rfl)
@[irreducible] noncomputable def Tx.d_law_digit (T : Tx K mg) : FuncData := T.l_law_digit.choose
theorem Tx.F_law_digit (T : Tx K mg) : Fun K "_law_digit" "_law_digit" s_law_digit T.f_law_digit T.d_law_digit := by unfold Tx.d_law_digit; exact T.l_law_digit.choose_spec
theorem Tx.b_law_digit (T : Tx K mg) : Binds K T.d_law_digit ["_law_state_here", "_law_base"] [] := T.F_law_digit.binds (ps := ["_law_state_here", "_law_base"]) fun _ _ _ _ _ _ us hl => match us, hl with | [_, _], _ => by kernel_rfl
theorem Tx.l_law_name (T : Tx K mg) : FnRaw K "_law_name" "_law_name" s_law_name T.f_law_name := by unfold Tx.f_law_name; exact fnX (T.c.def_ 46 rfl) (T.c.at 23 46 rfl rfl)
@[irreducible] noncomputable def Tx.d_law_name (T : Tx K mg) : FuncData := T.l_law_name.choose
theorem Tx.F_law_name (T : Tx K mg) : Fun K "_law_name" "_law_name" s_law_name T.f_law_name T.d_law_name := by unfold Tx.d_law_name; exact T.l_law_name.choose_spec
theorem Tx.b_law_name (T : Tx K mg) : Binds K T.d_law_name ["_law_s", "_law_taken"] [] := T.F_law_name.binds (ps := ["_law_s", "_law_taken"]) fun _ _ _ _ _ _ us hl => match us, hl with | [_, _], _ => by kernel_rfl
theorem Tx.l_law_names (T : Tx K mg) : FnRaw K "_law_names" "_law_names" s_law_names T.f_law_names := by unfold Tx.f_law_names; exact fnX (T.c.def_ 47 rfl) (T.c.at 23 47 rfl rfl)
@[irreducible] noncomputable def Tx.d_law_names (T : Tx K mg) : FuncData := T.l_law_names.choose
theorem Tx.F_law_names (T : Tx K mg) : Fun K "_law_names" "_law_names" s_law_names T.f_law_names T.d_law_names := by unfold Tx.d_law_names; exact T.l_law_names.choose_spec
theorem Tx.b_law_names (T : Tx K mg) : Binds K T.d_law_names ["_law_s", "_law_many"] [] := T.F_law_names.binds (ps := ["_law_s", "_law_many"]) fun _ _ _ _ _ _ us hl => match us, hl with | [_, _], _ => by kernel_rfl
theorem Tx.l_law_simple (T : Tx K mg) : FnRaw K "_law_simple" "_law_simple" s_law_simple T.f_law_simple := by unfold Tx.f_law_simple; exact fnX (T.c.def_ 48 rfl) (T.c.at 23 48 rfl rfl)
@[irreducible] noncomputable def Tx.d_law_simple (T : Tx K mg) : FuncData := T.l_law_simple.choose
theorem Tx.F_law_simple (T : Tx K mg) : Fun K "_law_simple" "_law_simple" s_law_simple T.f_law_simple T.d_law_simple := by unfold Tx.d_law_simple; exact T.l_law_simple.choose_spec
theorem Tx.b_law_simple (T : Tx K mg) : Binds K T.d_law_simple ["_law_s", "_law_m", "_law_kind", "_law_cell", "_law_value"] [] := T.F_law_simple.binds (ps := ["_law_s", "_law_m", "_law_kind", "_law_cell", "_law_value"]) fun _ _ _ _ _ _ us hl => match us, hl with | [_, _, _, _, _], _ => by kernel_rfl
theorem Tx.l_law_made (T : Tx K mg) : FnRaw K "_law_made" "_law_made" s_law_made T.f_law_made := by unfold Tx.f_law_made; exact fnX (T.c.def_ 49 rfl) (T.c.at 23 49 rfl rfl)
@[irreducible] noncomputable def Tx.d_law_made (T : Tx K mg) : FuncData := T.l_law_made.choose
theorem Tx.F_law_made (T : Tx K mg) : Fun K "_law_made" "_law_made" s_law_made T.f_law_made T.d_law_made := by unfold Tx.d_law_made; exact T.l_law_made.choose_spec
theorem Tx.b_law_made (T : Tx K mg) : Binds K T.d_law_made ["_law_word", "_law_cell", "_law_value", "_law_some"] [] := T.F_law_made.binds (ps := ["_law_word", "_law_cell", "_law_value", "_law_some"]) fun _ _ _ _ _ _ us hl => match us, hl with | [_, _, _, _], _ => by kernel_rfl
theorem Tx.l_law_built (T : Tx K mg) : FnRaw K "_law_built" "_law_built" s_law_built T.f_law_built := by unfold Tx.f_law_built; exact fnX (T.c.def_ 50 rfl) (T.c.at 23 50 rfl rfl)
@[irreducible] noncomputable def Tx.d_law_built (T : Tx K mg) : FuncData := T.l_law_built.choose
theorem Tx.F_law_built (T : Tx K mg) : Fun K "_law_built" "_law_built" s_law_built T.f_law_built T.d_law_built := by unfold Tx.d_law_built; exact T.l_law_built.choose_spec
theorem Tx.b_law_built (T : Tx K mg) : Binds K T.d_law_built ["_law_row_here"] [] := T.F_law_built.binds (ps := ["_law_row_here"]) fun _ _ _ _ _ _ us hl => match us, hl with | [_], _ => by kernel_rfl
theorem Tx.l_law_nest (T : Tx K mg) : FnRaw K "_law_nest" "_law_nest" s_law_nest T.f_law_nest := by unfold Tx.f_law_nest; exact fnX (T.c.def_ 51 rfl) (T.c.at 23 51 rfl rfl)
@[irreducible] noncomputable def Tx.d_law_nest (T : Tx K mg) : FuncData := T.l_law_nest.choose
theorem Tx.F_law_nest (T : Tx K mg) : Fun K "_law_nest" "_law_nest" s_law_nest T.f_law_nest T.d_law_nest := by unfold Tx.d_law_nest; exact T.l_law_nest.choose_spec
theorem Tx.b_law_nest (T : Tx K mg) : Binds K T.d_law_nest ["_law_s", "_law_m", "_law_row_here"] [] := T.F_law_nest.binds (ps := ["_law_s", "_law_m", "_law_row_here"]) fun _ _ _ _ _ _ us hl => match us, hl with | [_, _, _], _ => by kernel_rfl
theorem Tx.l_law_deep (T : Tx K mg) : FnRaw K "_law_deep" "_law_deep" s_law_deep T.f_law_deep := by unfold Tx.f_law_deep; exact fnX (T.c.def_ 52 rfl) (T.c.at 23 52 rfl rfl)
@[irreducible] noncomputable def Tx.d_law_deep (T : Tx K mg) : FuncData := T.l_law_deep.choose
theorem Tx.F_law_deep (T : Tx K mg) : Fun K "_law_deep" "_law_deep" s_law_deep T.f_law_deep T.d_law_deep := by unfold Tx.d_law_deep; exact T.l_law_deep.choose_spec
theorem Tx.b_law_deep (T : Tx K mg) : Binds K T.d_law_deep ["_law_s", "_law_m"] [] := T.F_law_deep.binds (ps := ["_law_s", "_law_m"]) fun _ _ _ _ _ _ us hl => match us, hl with | [_, _], _ => by kernel_rfl
theorem Tx.l_law (T : Tx K mg) : FnRaw K "law" "law" s_law T.f_law := by unfold Tx.f_law; exact fnX (T.c.def_ 53 rfl) (T.c.at 23 53 rfl rfl)
@[irreducible] noncomputable def Tx.d_law (T : Tx K mg) : FuncData := T.l_law.choose
theorem Tx.F_law (T : Tx K mg) : Fun K "law" "law" s_law T.f_law T.d_law := by unfold Tx.d_law; exact T.l_law.choose_spec
theorem Tx.b_law (T : Tx K mg) : Binds K T.d_law ["_law_script"] [] := T.F_law.binds (ps := ["_law_script"]) fun _ _ _ _ _ _ us hl => match us, hl with | [_], _ => by kernel_rfl
theorem Tx.z_len (T : Tx K mg) : mg "len" = none := by have H := T.c.at 0 0 rfl rfl; exact He.free_ok T.X T.G H
theorem Tx.z_abs (T : Tx K mg) : mg "abs" = none := by have H := T.c.at 0 1 rfl rfl; exact He.free_ok T.X T.G H
theorem Tx.z_int (T : Tx K mg) : mg "int" = none := by have H := T.c.at 0 2 rfl rfl; exact He.free_ok T.X T.G H
theorem Tx.z_str (T : Tx K mg) : mg "str" = none := by have H := T.c.at 0 3 rfl rfl; exact He.free_ok T.X T.G H
theorem Tx.z_max (T : Tx K mg) : mg "max" = none := by have H := T.c.at 0 4 rfl rfl; exact He.free_ok T.X T.G H
theorem Tx.z_list (T : Tx K mg) : mg "list" = none := by have H := T.c.at 0 5 rfl rfl; exact He.free_ok T.X T.G H
theorem Tx.z_tuple (T : Tx K mg) : mg "tuple" = none := by have H := T.c.at 0 6 rfl rfl; exact He.free_ok T.X T.G H
theorem Tx.z_sum (T : Tx K mg) : mg "sum" = none := by have H := T.c.at 0 7 rfl rfl; exact He.free_ok T.X T.G H
theorem Tx.z_all (T : Tx K mg) : mg "all" = none := by have H := T.c.at 0 8 rfl rfl; exact He.free_ok T.X T.G H
theorem Tx.z_range (T : Tx K mg) : mg "range" = none := by have H := T.c.at 0 9 rfl rfl; exact He.free_ok T.X T.G H
theorem Tx.z_enumerate (T : Tx K mg) : mg "enumerate" = none := by have H := T.c.at 0 10 rfl rfl; exact He.free_ok T.X T.G H
theorem Tx.z_isinstance (T : Tx K mg) : mg "isinstance" = none := by have H := T.c.at 0 11 rfl rfl; exact He.free_ok T.X T.G H
theorem Tx.c_LETTERS (T : Tx K mg) : ∃ t, mg "LETTERS" = some (.str "abcdefghijklmnopqrstuvwxyz" t) := by have H := T.c.at 0 12 rfl rfl; exact He.str_ok T.X T.G H
theorem Tx.c_FIGURES (T : Tx K mg) : ∃ t, mg "FIGURES" = some (.str "0123456789" t) := by have H := T.c.at 0 13 rfl rfl; exact He.str_ok T.X T.G H
theorem Tx.c_LONGEST (T : Tx K mg) : ∃ t, mg "LONGEST" = some (.int 10 t) := by have H := T.c.at 0 14 rfl rfl; exact He.int_ok T.X T.G H
theorem Tx.c_MOST_STATEMENTS (T : Tx K mg) : ∃ t, mg "MOST_STATEMENTS" = some (.int 24 t) := by have H := T.c.at 0 15 rfl rfl; exact He.int_ok T.X T.G H
theorem Tx.c_MOST_DEEP (T : Tx K mg) : ∃ t, mg "MOST_DEEP" = some (.int 6 t) := by have H := T.c.at 0 16 rfl rfl; exact He.int_ok T.X T.G H
theorem Tx.c_GO (T : Tx K mg) : ∃ l, mg "GO" = some (.ref l) ∧ ∀ G, Rep K G (.ref l) (.tup ((["go"] : List Str).map D.str)) := by have H := T.c.at 0 17 rfl rfl; exact tuF_ok T.X T.G H (by decide +kernel)
theorem Tx.c_MOST_CELLS (T : Tx K mg) : ∃ t, mg "MOST_CELLS" = some (.int 3 t) := by have H := T.c.at 0 18 rfl rfl; exact He.int_ok T.X T.G H
theorem Tx.c_LEAST_VALUES (T : Tx K mg) : ∃ t, mg "LEAST_VALUES" = some (.int 2 t) := by have H := T.c.at 0 19 rfl rfl; exact He.int_ok T.X T.G H
theorem Tx.c_MOST_VALUES (T : Tx K mg) : ∃ t, mg "MOST_VALUES" = some (.int 4 t) := by have H := T.c.at 0 20 rfl rfl; exact He.int_ok T.X T.G H
theorem Tx.g_is_name (T : Tx K mg) : mg "is_name" = some (.ref T.f_is_name) := by have H := T.c.at 1 0 rfl rfl; unfold Tx.f_is_name; exact He.glo_ok T.X T.G H
theorem Tx.g_asked_names (T : Tx K mg) : mg "asked_names" = some (.ref T.f_asked_names) := by have H := T.c.at 1 1 rfl rfl; unfold Tx.f_asked_names; exact He.glo_ok T.X T.G H
theorem Tx.g_asked_once (T : Tx K mg) : mg "asked_once" = some (.ref T.f_asked_once) := by have H := T.c.at 1 2 rfl rfl; unfold Tx.f_asked_once; exact He.glo_ok T.X T.G H
theorem Tx.g_asked_size (T : Tx K mg) : mg "asked_size" = some (.ref T.f_asked_size) := by have H := T.c.at 1 3 rfl rfl; unfold Tx.f_asked_size; exact He.glo_ok T.X T.G H
theorem Tx.g_looks_rooms (T : Tx K mg) : mg "looks_rooms" = some (.ref T.f_looks_rooms) := by have H := T.c.at 1 4 rfl rfl; unfold Tx.f_looks_rooms; exact He.glo_ok T.X T.G H
theorem Tx.g_asked_cells (T : Tx K mg) : mg "asked_cells" = some (.ref T.f_asked_cells) := by have H := T.c.at 1 5 rfl rfl; unfold Tx.f_asked_cells; exact He.glo_ok T.X T.G H
theorem Tx.g_looks_lefts (T : Tx K mg) : mg "looks_lefts" = some (.ref T.f_looks_lefts) := by have H := T.c.at 1 6 rfl rfl; unfold Tx.f_looks_lefts; exact He.glo_ok T.X T.G H
theorem Tx.g_left_of_cell (T : Tx K mg) : mg "left_of_cell" = some (.ref T.f_left_of_cell) := by have H := T.c.at 1 7 rfl rfl; unfold Tx.f_left_of_cell; exact He.glo_ok T.X T.G H
theorem Tx.g_left (T : Tx K mg) : mg "left" = some (.ref T.f_left) := by have H := T.c.at 1 8 rfl rfl; unfold Tx.f_left; exact He.glo_ok T.X T.G H
theorem Tx.g_law_cell_at (T : Tx K mg) : mg "_law_cell_at" = some (.ref T.f_law_cell_at) := by have H := T.c.at 1 9 rfl rfl; unfold Tx.f_law_cell_at; exact He.glo_ok T.X T.G H
theorem Tx.g_law_state (T : Tx K mg) : mg "_law_state" = some (.ref T.f_law_state) := by have H := T.c.at 1 10 rfl rfl; unfold Tx.f_law_state; exact He.glo_ok T.X T.G H
theorem Tx.g_law_digit (T : Tx K mg) : mg "_law_digit" = some (.ref T.f_law_digit) := by have H := T.c.at 1 11 rfl rfl; unfold Tx.f_law_digit; exact He.glo_ok T.X T.G H
theorem Tx.g_law_name (T : Tx K mg) : mg "_law_name" = some (.ref T.f_law_name) := by have H := T.c.at 1 12 rfl rfl; unfold Tx.f_law_name; exact He.glo_ok T.X T.G H
theorem Tx.g_law_names (T : Tx K mg) : mg "_law_names" = some (.ref T.f_law_names) := by have H := T.c.at 1 13 rfl rfl; unfold Tx.f_law_names; exact He.glo_ok T.X T.G H
theorem Tx.g_law_simple (T : Tx K mg) : mg "_law_simple" = some (.ref T.f_law_simple) := by have H := T.c.at 1 14 rfl rfl; unfold Tx.f_law_simple; exact He.glo_ok T.X T.G H
theorem Tx.g_law_made (T : Tx K mg) : mg "_law_made" = some (.ref T.f_law_made) := by have H := T.c.at 1 15 rfl rfl; unfold Tx.f_law_made; exact He.glo_ok T.X T.G H
theorem Tx.g_law_built (T : Tx K mg) : mg "_law_built" = some (.ref T.f_law_built) := by have H := T.c.at 1 16 rfl rfl; unfold Tx.f_law_built; exact He.glo_ok T.X T.G H
theorem Tx.g_law_nest (T : Tx K mg) : mg "_law_nest" = some (.ref T.f_law_nest) := by have H := T.c.at 1 17 rfl rfl; unfold Tx.f_law_nest; exact He.glo_ok T.X T.G H
theorem Tx.g_law_deep (T : Tx K mg) : mg "_law_deep" = some (.ref T.f_law_deep) := by have H := T.c.at 1 18 rfl rfl; unfold Tx.f_law_deep; exact He.glo_ok T.X T.G H
theorem Tx.g_law (T : Tx K mg) : mg "law" = some (.ref T.f_law) := by have H := T.c.at 1 19 rfl rfl; unfold Tx.f_law; exact He.glo_ok T.X T.G H
theorem Tx.g_BoardError (T : Tx K mg) : mg "BoardError" = some (.ref T.C_BoardError) := by have H := T.c.at 1 20 rfl rfl; unfold Tx.C_BoardError; exact He.glo_ok T.X T.G H
theorem Tx.xe_BoardError (T : Tx K mg) : XfC K T.C_BoardError ∧ ExcC K T.C_BoardError := by have H := T.c.at 2 0 rfl rfl; unfold Tx.C_BoardError; exact exF2_ok (C := a_C_BoardError) H
theorem Tx.x_BoardError (T : Tx K mg) : XfC K T.C_BoardError := T.xe_BoardError.1
theorem Tx.e_BoardError (T : Tx K mg) : ExcC K T.C_BoardError := T.xe_BoardError.2
theorem Tx.g_BadCount (T : Tx K mg) : mg "BadCount" = some (.ref T.C_BadCount) := by have H := T.c.at 1 21 rfl rfl; unfold Tx.C_BadCount; exact He.glo_ok T.X T.G H
theorem Tx.xe_BadCount (T : Tx K mg) : XfC K T.C_BadCount ∧ ExcC K T.C_BadCount := by have H := T.c.at 3 0 rfl rfl; unfold Tx.C_BadCount; exact exF2_ok (C := a_C_BadCount) H
theorem Tx.x_BadCount (T : Tx K mg) : XfC K T.C_BadCount := T.xe_BadCount.1
theorem Tx.e_BadCount (T : Tx K mg) : ExcC K T.C_BadCount := T.xe_BadCount.2
theorem Tx.o_BadCount (T : Tx K mg) : OexC K T.C_BadCount := by have H := T.c.at 3 1 rfl rfl; unfold Tx.C_BadCount; exact oxF_ok (C := a_C_BadCount) H
theorem Tx.i_BadCount (T : Tx K mg) : PySem.W.findIn K (.ref T.C_BadCount) "__init__" = some (some (.ref T.f_BadCount_init)) := by have H := T.c.at 3 2 rfl rfl; unfold Tx.C_BadCount; unfold Tx.f_BadCount_init; exact fiF_ok (C := a_C_BadCount) H
theorem Tx.t_BadCount (T : Tx K mg) : PySem.W.typeIn K (.ref T.f_BadCount_init) = some (.type "function") := by have H := T.c.at 3 3 rfl rfl; unfold Tx.f_BadCount_init; exact tyF_ok (C := a_f_BadCount_init) H
theorem Tx.n_BadCount_what (T : Tx K mg) : PySem.W.findIn K (.ref T.C_BadCount) "what" = some none := by have H := T.c.at 3 4 rfl rfl; unfold Tx.C_BadCount; exact fiF_ok (C := a_C_BadCount) H
theorem Tx.n_BadCount_count (T : Tx K mg) : PySem.W.findIn K (.ref T.C_BadCount) "count" = some none := by have H := T.c.at 3 5 rfl rfl; unfold Tx.C_BadCount; exact fiF_ok (C := a_C_BadCount) H
theorem Tx.g_NoName (T : Tx K mg) : mg "NoName" = some (.ref T.C_NoName) := by have H := T.c.at 1 22 rfl rfl; unfold Tx.C_NoName; exact He.glo_ok T.X T.G H
theorem Tx.xe_NoName (T : Tx K mg) : XfC K T.C_NoName ∧ ExcC K T.C_NoName := by have H := T.c.at 4 0 rfl rfl; unfold Tx.C_NoName; exact exF2_ok (C := a_C_NoName) H
theorem Tx.x_NoName (T : Tx K mg) : XfC K T.C_NoName := T.xe_NoName.1
theorem Tx.e_NoName (T : Tx K mg) : ExcC K T.C_NoName := T.xe_NoName.2
theorem Tx.o_NoName (T : Tx K mg) : OexC K T.C_NoName := by have H := T.c.at 4 1 rfl rfl; unfold Tx.C_NoName; exact oxF_ok (C := a_C_NoName) H
theorem Tx.i_NoName (T : Tx K mg) : PySem.W.findIn K (.ref T.C_NoName) "__init__" = some (some (.ref T.f_NoName_init)) := by have H := T.c.at 4 2 rfl rfl; unfold Tx.C_NoName; unfold Tx.f_NoName_init; exact fiF_ok (C := a_C_NoName) H
theorem Tx.t_NoName (T : Tx K mg) : PySem.W.typeIn K (.ref T.f_NoName_init) = some (.type "function") := by have H := T.c.at 4 3 rfl rfl; unfold Tx.f_NoName_init; exact tyF_ok (C := a_f_NoName_init) H
theorem Tx.n_NoName_name (T : Tx K mg) : PySem.W.findIn K (.ref T.C_NoName) "name" = some none := by have H := T.c.at 4 4 rfl rfl; unfold Tx.C_NoName; exact fiF_ok (C := a_C_NoName) H
theorem Tx.g_Twice (T : Tx K mg) : mg "Twice" = some (.ref T.C_Twice) := by have H := T.c.at 1 23 rfl rfl; unfold Tx.C_Twice; exact He.glo_ok T.X T.G H
theorem Tx.xe_Twice (T : Tx K mg) : XfC K T.C_Twice ∧ ExcC K T.C_Twice := by have H := T.c.at 5 0 rfl rfl; unfold Tx.C_Twice; exact exF2_ok (C := a_C_Twice) H
theorem Tx.x_Twice (T : Tx K mg) : XfC K T.C_Twice := T.xe_Twice.1
theorem Tx.e_Twice (T : Tx K mg) : ExcC K T.C_Twice := T.xe_Twice.2
theorem Tx.n_Twice_name (T : Tx K mg) : PySem.W.findIn K (.ref T.C_Twice) "name" = some none := by have H := T.c.at 5 1 rfl rfl; unfold Tx.C_Twice; exact fiF_ok (C := a_C_Twice) H
theorem Tx.g_NoCell (T : Tx K mg) : mg "NoCell" = some (.ref T.C_NoCell) := by have H := T.c.at 1 24 rfl rfl; unfold Tx.C_NoCell; exact He.glo_ok T.X T.G H
theorem Tx.xe_NoCell (T : Tx K mg) : XfC K T.C_NoCell ∧ ExcC K T.C_NoCell := by have H := T.c.at 6 0 rfl rfl; unfold Tx.C_NoCell; exact exF2_ok (C := a_C_NoCell) H
theorem Tx.x_NoCell (T : Tx K mg) : XfC K T.C_NoCell := T.xe_NoCell.1
theorem Tx.e_NoCell (T : Tx K mg) : ExcC K T.C_NoCell := T.xe_NoCell.2
theorem Tx.o_NoCell (T : Tx K mg) : OexC K T.C_NoCell := by have H := T.c.at 6 1 rfl rfl; unfold Tx.C_NoCell; exact oxF_ok (C := a_C_NoCell) H
theorem Tx.i_NoCell (T : Tx K mg) : PySem.W.findIn K (.ref T.C_NoCell) "__init__" = some (some (.ref T.f_NoCell_init)) := by have H := T.c.at 6 2 rfl rfl; unfold Tx.C_NoCell; unfold Tx.f_NoCell_init; exact fiF_ok (C := a_C_NoCell) H
theorem Tx.t_NoCell (T : Tx K mg) : PySem.W.typeIn K (.ref T.f_NoCell_init) = some (.type "function") := by have H := T.c.at 6 3 rfl rfl; unfold Tx.f_NoCell_init; exact tyF_ok (C := a_f_NoCell_init) H
theorem Tx.n_NoCell_name (T : Tx K mg) : PySem.W.findIn K (.ref T.C_NoCell) "name" = some none := by have H := T.c.at 6 4 rfl rfl; unfold Tx.C_NoCell; exact fiF_ok (C := a_C_NoCell) H
theorem Tx.g_NoValue (T : Tx K mg) : mg "NoValue" = some (.ref T.C_NoValue) := by have H := T.c.at 1 25 rfl rfl; unfold Tx.C_NoValue; exact He.glo_ok T.X T.G H
theorem Tx.xe_NoValue (T : Tx K mg) : XfC K T.C_NoValue ∧ ExcC K T.C_NoValue := by have H := T.c.at 7 0 rfl rfl; unfold Tx.C_NoValue; exact exF2_ok (C := a_C_NoValue) H
theorem Tx.x_NoValue (T : Tx K mg) : XfC K T.C_NoValue := T.xe_NoValue.1
theorem Tx.e_NoValue (T : Tx K mg) : ExcC K T.C_NoValue := T.xe_NoValue.2
theorem Tx.o_NoValue (T : Tx K mg) : OexC K T.C_NoValue := by have H := T.c.at 7 1 rfl rfl; unfold Tx.C_NoValue; exact oxF_ok (C := a_C_NoValue) H
theorem Tx.i_NoValue (T : Tx K mg) : PySem.W.findIn K (.ref T.C_NoValue) "__init__" = some (some (.ref T.f_NoValue_init)) := by have H := T.c.at 7 2 rfl rfl; unfold Tx.C_NoValue; unfold Tx.f_NoValue_init; exact fiF_ok (C := a_C_NoValue) H
theorem Tx.t_NoValue (T : Tx K mg) : PySem.W.typeIn K (.ref T.f_NoValue_init) = some (.type "function") := by have H := T.c.at 7 3 rfl rfl; unfold Tx.f_NoValue_init; exact tyF_ok (C := a_f_NoValue_init) H
theorem Tx.n_NoValue_cell (T : Tx K mg) : PySem.W.findIn K (.ref T.C_NoValue) "cell" = some none := by have H := T.c.at 7 4 rfl rfl; unfold Tx.C_NoValue; exact fiF_ok (C := a_C_NoValue) H
theorem Tx.n_NoValue_value (T : Tx K mg) : PySem.W.findIn K (.ref T.C_NoValue) "value" = some none := by have H := T.c.at 7 5 rfl rfl; unfold Tx.C_NoValue; exact fiF_ok (C := a_C_NoValue) H
theorem Tx.g_NoRoom (T : Tx K mg) : mg "NoRoom" = some (.ref T.C_NoRoom) := by have H := T.c.at 1 26 rfl rfl; unfold Tx.C_NoRoom; exact He.glo_ok T.X T.G H
theorem Tx.xe_NoRoom (T : Tx K mg) : XfC K T.C_NoRoom ∧ ExcC K T.C_NoRoom := by have H := T.c.at 8 0 rfl rfl; unfold Tx.C_NoRoom; exact exF2_ok (C := a_C_NoRoom) H
theorem Tx.x_NoRoom (T : Tx K mg) : XfC K T.C_NoRoom := T.xe_NoRoom.1
theorem Tx.e_NoRoom (T : Tx K mg) : ExcC K T.C_NoRoom := T.xe_NoRoom.2
theorem Tx.o_NoRoom (T : Tx K mg) : OexC K T.C_NoRoom := by have H := T.c.at 8 1 rfl rfl; unfold Tx.C_NoRoom; exact oxF_ok (C := a_C_NoRoom) H
theorem Tx.i_NoRoom (T : Tx K mg) : PySem.W.findIn K (.ref T.C_NoRoom) "__init__" = some (some (.ref T.f_NoRoom_init)) := by have H := T.c.at 8 2 rfl rfl; unfold Tx.C_NoRoom; unfold Tx.f_NoRoom_init; exact fiF_ok (C := a_C_NoRoom) H
theorem Tx.t_NoRoom (T : Tx K mg) : PySem.W.typeIn K (.ref T.f_NoRoom_init) = some (.type "function") := by have H := T.c.at 8 3 rfl rfl; unfold Tx.f_NoRoom_init; exact tyF_ok (C := a_f_NoRoom_init) H
theorem Tx.n_NoRoom_room (T : Tx K mg) : PySem.W.findIn K (.ref T.C_NoRoom) "room" = some none := by have H := T.c.at 8 4 rfl rfl; unfold Tx.C_NoRoom; exact fiF_ok (C := a_C_NoRoom) H
theorem Tx.g_Statement (T : Tx K mg) : mg "Statement" = some (.ref T.C_Statement) := by have H := T.c.at 1 27 rfl rfl; unfold Tx.C_Statement; exact He.glo_ok T.X T.G H
theorem Tx.cl_Statement (T : Tx K mg) : Cls K T.C_Statement := by have H := T.c.at 9 0 rfl rfl; unfold Tx.C_Statement; exact clF_ok (C := a_C_Statement) H
theorem Tx.mk_Statement (T : Tx K mg) : Mk00 K T.C_Statement := by have H := T.c.at 9 1 rfl rfl; unfold Tx.C_Statement; exact mk0F_ok (C := a_C_Statement) H
theorem Tx.is0_Statement (T : Tx K mg) : IsC0 K T.C_Statement := by have H := T.c.at 9 2 rfl rfl; unfold Tx.C_Statement; exact isF_ok (C := a_C_Statement) H
theorem Tx.is_Statement (T : Tx K mg) : IsC K T.C_Statement := T.is0_Statement.is T.cl_Statement
theorem Tx.k_Statement_Write (T : Tx K mg) : PySem.W.kitOne K (.ref T.C_Statement) (.ref T.C_Write) = some false := by have H := T.c.at 9 3 rfl rfl; unfold Tx.C_Statement; unfold Tx.C_Write; exact kiF_ok (C := a_C_Statement) (v := fun K => .ref (a_C_Write K)) H
theorem Tx.k_Statement_Wait (T : Tx K mg) : PySem.W.kitOne K (.ref T.C_Statement) (.ref T.C_Wait) = some false := by have H := T.c.at 9 4 rfl rfl; unfold Tx.C_Statement; unfold Tx.C_Wait; exact kiF_ok (C := a_C_Statement) (v := fun K => .ref (a_C_Wait K)) H
theorem Tx.k_Statement_Mark (T : Tx K mg) : PySem.W.kitOne K (.ref T.C_Statement) (.ref T.C_Mark) = some false := by have H := T.c.at 9 5 rfl rfl; unfold Tx.C_Statement; unfold Tx.C_Mark; exact kiF_ok (C := a_C_Statement) (v := fun K => .ref (a_C_Mark K)) H
theorem Tx.k_Statement_Skip (T : Tx K mg) : PySem.W.kitOne K (.ref T.C_Statement) (.ref T.C_Skip) = some false := by have H := T.c.at 9 6 rfl rfl; unfold Tx.C_Statement; unfold Tx.C_Skip; exact kiF_ok (C := a_C_Statement) (v := fun K => .ref (a_C_Skip K)) H
theorem Tx.k_Statement_Stop (T : Tx K mg) : PySem.W.kitOne K (.ref T.C_Statement) (.ref T.C_Stop) = some false := by have H := T.c.at 9 7 rfl rfl; unfold Tx.C_Statement; unfold Tx.C_Stop; exact kiF_ok (C := a_C_Statement) (v := fun K => .ref (a_C_Stop K)) H
theorem Tx.k_Statement_If (T : Tx K mg) : PySem.W.kitOne K (.ref T.C_Statement) (.ref T.C_If) = some false := by have H := T.c.at 9 8 rfl rfl; unfold Tx.C_Statement; unfold Tx.C_If; exact kiF_ok (C := a_C_Statement) (v := fun K => .ref (a_C_If K)) H
theorem Tx.k_Statement_While (T : Tx K mg) : PySem.W.kitOne K (.ref T.C_Statement) (.ref T.C_While) = some false := by have H := T.c.at 9 9 rfl rfl; unfold Tx.C_Statement; unfold Tx.C_While; exact kiF_ok (C := a_C_Statement) (v := fun K => .ref (a_C_While K)) H
theorem Tx.k_Statement_Choose (T : Tx K mg) : PySem.W.kitOne K (.ref T.C_Statement) (.ref T.C_Choose) = some false := by have H := T.c.at 9 10 rfl rfl; unfold Tx.C_Statement; unfold Tx.C_Choose; exact kiF_ok (C := a_C_Statement) (v := fun K => .ref (a_C_Choose K)) H
theorem Tx.k_Statement_Loop (T : Tx K mg) : PySem.W.kitOne K (.ref T.C_Statement) (.ref T.C_Loop) = some false := by have H := T.c.at 9 11 rfl rfl; unfold Tx.C_Statement; unfold Tx.C_Loop; exact kiF_ok (C := a_C_Statement) (v := fun K => .ref (a_C_Loop K)) H
theorem Tx.m_Statement_parts (T : Tx K mg) : Meth K T.C_Statement "parts" T.f_Statement_parts := by have H := T.c.at 9 12 rfl rfl; unfold Tx.C_Statement; unfold Tx.f_Statement_parts; exact meF_ok (C := a_C_Statement) (f := a_f_Statement_parts) H
theorem Tx.m_Statement_size (T : Tx K mg) : Meth K T.C_Statement "size" T.f_Statement_size := by have H := T.c.at 9 13 rfl rfl; unfold Tx.C_Statement; unfold Tx.f_Statement_size; exact meF_ok (C := a_C_Statement) (f := a_f_Statement_size) H
theorem Tx.g_OnCell (T : Tx K mg) : mg "OnCell" = some (.ref T.C_OnCell) := by have H := T.c.at 1 28 rfl rfl; unfold Tx.C_OnCell; exact He.glo_ok T.X T.G H
theorem Tx.cl_OnCell (T : Tx K mg) : Cls K T.C_OnCell := by have H := T.c.at 10 0 rfl rfl; unfold Tx.C_OnCell; exact clF_ok (C := a_C_OnCell) H
theorem Tx.n_OnCell_cell (T : Tx K mg) : NoAttr K T.C_OnCell "cell" := by have H := T.c.at 10 1 rfl rfl; unfold Tx.C_OnCell; exact fiF_ok (C := a_C_OnCell) H
theorem Tx.n_OnCell_value (T : Tx K mg) : NoAttr K T.C_OnCell "value" := by have H := T.c.at 10 2 rfl rfl; unfold Tx.C_OnCell; exact fiF_ok (C := a_C_OnCell) H
theorem Tx.mk_OnCell (T : Tx K mg) : Mk K T.C_OnCell T.f_OnCell_init := by have H := T.c.at 10 3 rfl rfl; unfold Tx.C_OnCell; unfold Tx.f_OnCell_init; exact mkF_ok (C := a_C_OnCell) (f := a_f_OnCell_init) H
theorem Tx.is0_OnCell (T : Tx K mg) : IsC0 K T.C_OnCell := by have H := T.c.at 10 4 rfl rfl; unfold Tx.C_OnCell; exact isF_ok (C := a_C_OnCell) H
theorem Tx.is_OnCell (T : Tx K mg) : IsC K T.C_OnCell := T.is0_OnCell.is T.cl_OnCell
theorem Tx.k_OnCell_Write (T : Tx K mg) : PySem.W.kitOne K (.ref T.C_OnCell) (.ref T.C_Write) = some false := by have H := T.c.at 10 5 rfl rfl; unfold Tx.C_OnCell; unfold Tx.C_Write; exact kiF_ok (C := a_C_OnCell) (v := fun K => .ref (a_C_Write K)) H
theorem Tx.k_OnCell_Wait (T : Tx K mg) : PySem.W.kitOne K (.ref T.C_OnCell) (.ref T.C_Wait) = some false := by have H := T.c.at 10 6 rfl rfl; unfold Tx.C_OnCell; unfold Tx.C_Wait; exact kiF_ok (C := a_C_OnCell) (v := fun K => .ref (a_C_Wait K)) H
theorem Tx.k_OnCell_Mark (T : Tx K mg) : PySem.W.kitOne K (.ref T.C_OnCell) (.ref T.C_Mark) = some false := by have H := T.c.at 10 7 rfl rfl; unfold Tx.C_OnCell; unfold Tx.C_Mark; exact kiF_ok (C := a_C_OnCell) (v := fun K => .ref (a_C_Mark K)) H
theorem Tx.k_OnCell_Skip (T : Tx K mg) : PySem.W.kitOne K (.ref T.C_OnCell) (.ref T.C_Skip) = some false := by have H := T.c.at 10 8 rfl rfl; unfold Tx.C_OnCell; unfold Tx.C_Skip; exact kiF_ok (C := a_C_OnCell) (v := fun K => .ref (a_C_Skip K)) H
theorem Tx.k_OnCell_Stop (T : Tx K mg) : PySem.W.kitOne K (.ref T.C_OnCell) (.ref T.C_Stop) = some false := by have H := T.c.at 10 9 rfl rfl; unfold Tx.C_OnCell; unfold Tx.C_Stop; exact kiF_ok (C := a_C_OnCell) (v := fun K => .ref (a_C_Stop K)) H
theorem Tx.k_OnCell_If (T : Tx K mg) : PySem.W.kitOne K (.ref T.C_OnCell) (.ref T.C_If) = some false := by have H := T.c.at 10 10 rfl rfl; unfold Tx.C_OnCell; unfold Tx.C_If; exact kiF_ok (C := a_C_OnCell) (v := fun K => .ref (a_C_If K)) H
theorem Tx.k_OnCell_While (T : Tx K mg) : PySem.W.kitOne K (.ref T.C_OnCell) (.ref T.C_While) = some false := by have H := T.c.at 10 11 rfl rfl; unfold Tx.C_OnCell; unfold Tx.C_While; exact kiF_ok (C := a_C_OnCell) (v := fun K => .ref (a_C_While K)) H
theorem Tx.k_OnCell_Choose (T : Tx K mg) : PySem.W.kitOne K (.ref T.C_OnCell) (.ref T.C_Choose) = some false := by have H := T.c.at 10 12 rfl rfl; unfold Tx.C_OnCell; unfold Tx.C_Choose; exact kiF_ok (C := a_C_OnCell) (v := fun K => .ref (a_C_Choose K)) H
theorem Tx.k_OnCell_Loop (T : Tx K mg) : PySem.W.kitOne K (.ref T.C_OnCell) (.ref T.C_Loop) = some false := by have H := T.c.at 10 13 rfl rfl; unfold Tx.C_OnCell; unfold Tx.C_Loop; exact kiF_ok (C := a_C_OnCell) (v := fun K => .ref (a_C_Loop K)) H
theorem Tx.m_OnCell_parts (T : Tx K mg) : Meth K T.C_OnCell "parts" T.f_Statement_parts := by have H := T.c.at 10 14 rfl rfl; unfold Tx.C_OnCell; unfold Tx.f_Statement_parts; exact meF_ok (C := a_C_OnCell) (f := a_f_Statement_parts) H
theorem Tx.m_OnCell_size (T : Tx K mg) : Meth K T.C_OnCell "size" T.f_Statement_size := by have H := T.c.at 10 15 rfl rfl; unfold Tx.C_OnCell; unfold Tx.f_Statement_size; exact meF_ok (C := a_C_OnCell) (f := a_f_Statement_size) H
theorem Tx.g_Write (T : Tx K mg) : mg "Write" = some (.ref T.C_Write) := by have H := T.c.at 1 29 rfl rfl; unfold Tx.C_Write; exact He.glo_ok T.X T.G H
theorem Tx.cl_Write (T : Tx K mg) : Cls K T.C_Write := by have H := T.c.at 11 0 rfl rfl; unfold Tx.C_Write; exact clF_ok (C := a_C_Write) H
theorem Tx.n_Write_cell (T : Tx K mg) : NoAttr K T.C_Write "cell" := by have H := T.c.at 11 1 rfl rfl; unfold Tx.C_Write; exact fiF_ok (C := a_C_Write) H
theorem Tx.n_Write_value (T : Tx K mg) : NoAttr K T.C_Write "value" := by have H := T.c.at 11 2 rfl rfl; unfold Tx.C_Write; exact fiF_ok (C := a_C_Write) H
theorem Tx.mk_Write (T : Tx K mg) : Mk K T.C_Write T.f_OnCell_init := by have H := T.c.at 11 3 rfl rfl; unfold Tx.C_Write; unfold Tx.f_OnCell_init; exact mkF_ok (C := a_C_Write) (f := a_f_OnCell_init) H
theorem Tx.is0_Write (T : Tx K mg) : IsC0 K T.C_Write := by have H := T.c.at 11 4 rfl rfl; unfold Tx.C_Write; exact isF_ok (C := a_C_Write) H
theorem Tx.is_Write (T : Tx K mg) : IsC K T.C_Write := T.is0_Write.is T.cl_Write
theorem Tx.k_Write_Write (T : Tx K mg) : PySem.W.kitOne K (.ref T.C_Write) (.ref T.C_Write) = some true := by have H := T.c.at 11 5 rfl rfl; unfold Tx.C_Write; exact kiF_ok (C := a_C_Write) (v := fun K => .ref (a_C_Write K)) H
theorem Tx.k_Write_Wait (T : Tx K mg) : PySem.W.kitOne K (.ref T.C_Write) (.ref T.C_Wait) = some false := by have H := T.c.at 11 6 rfl rfl; unfold Tx.C_Write; unfold Tx.C_Wait; exact kiF_ok (C := a_C_Write) (v := fun K => .ref (a_C_Wait K)) H
theorem Tx.k_Write_Mark (T : Tx K mg) : PySem.W.kitOne K (.ref T.C_Write) (.ref T.C_Mark) = some false := by have H := T.c.at 11 7 rfl rfl; unfold Tx.C_Write; unfold Tx.C_Mark; exact kiF_ok (C := a_C_Write) (v := fun K => .ref (a_C_Mark K)) H
theorem Tx.k_Write_Skip (T : Tx K mg) : PySem.W.kitOne K (.ref T.C_Write) (.ref T.C_Skip) = some false := by have H := T.c.at 11 8 rfl rfl; unfold Tx.C_Write; unfold Tx.C_Skip; exact kiF_ok (C := a_C_Write) (v := fun K => .ref (a_C_Skip K)) H
theorem Tx.k_Write_Stop (T : Tx K mg) : PySem.W.kitOne K (.ref T.C_Write) (.ref T.C_Stop) = some false := by have H := T.c.at 11 9 rfl rfl; unfold Tx.C_Write; unfold Tx.C_Stop; exact kiF_ok (C := a_C_Write) (v := fun K => .ref (a_C_Stop K)) H
theorem Tx.k_Write_If (T : Tx K mg) : PySem.W.kitOne K (.ref T.C_Write) (.ref T.C_If) = some false := by have H := T.c.at 11 10 rfl rfl; unfold Tx.C_Write; unfold Tx.C_If; exact kiF_ok (C := a_C_Write) (v := fun K => .ref (a_C_If K)) H
theorem Tx.k_Write_While (T : Tx K mg) : PySem.W.kitOne K (.ref T.C_Write) (.ref T.C_While) = some false := by have H := T.c.at 11 11 rfl rfl; unfold Tx.C_Write; unfold Tx.C_While; exact kiF_ok (C := a_C_Write) (v := fun K => .ref (a_C_While K)) H
theorem Tx.k_Write_Choose (T : Tx K mg) : PySem.W.kitOne K (.ref T.C_Write) (.ref T.C_Choose) = some false := by have H := T.c.at 11 12 rfl rfl; unfold Tx.C_Write; unfold Tx.C_Choose; exact kiF_ok (C := a_C_Write) (v := fun K => .ref (a_C_Choose K)) H
theorem Tx.k_Write_Loop (T : Tx K mg) : PySem.W.kitOne K (.ref T.C_Write) (.ref T.C_Loop) = some false := by have H := T.c.at 11 13 rfl rfl; unfold Tx.C_Write; unfold Tx.C_Loop; exact kiF_ok (C := a_C_Write) (v := fun K => .ref (a_C_Loop K)) H
theorem Tx.m_Write_parts (T : Tx K mg) : Meth K T.C_Write "parts" T.f_Statement_parts := by have H := T.c.at 11 14 rfl rfl; unfold Tx.C_Write; unfold Tx.f_Statement_parts; exact meF_ok (C := a_C_Write) (f := a_f_Statement_parts) H
theorem Tx.m_Write_size (T : Tx K mg) : Meth K T.C_Write "size" T.f_Statement_size := by have H := T.c.at 11 15 rfl rfl; unfold Tx.C_Write; unfold Tx.f_Statement_size; exact meF_ok (C := a_C_Write) (f := a_f_Statement_size) H
theorem Tx.g_Wait (T : Tx K mg) : mg "Wait" = some (.ref T.C_Wait) := by have H := T.c.at 1 30 rfl rfl; unfold Tx.C_Wait; exact He.glo_ok T.X T.G H
theorem Tx.cl_Wait (T : Tx K mg) : Cls K T.C_Wait := by have H := T.c.at 12 0 rfl rfl; unfold Tx.C_Wait; exact clF_ok (C := a_C_Wait) H
theorem Tx.n_Wait_cell (T : Tx K mg) : NoAttr K T.C_Wait "cell" := by have H := T.c.at 12 1 rfl rfl; unfold Tx.C_Wait; exact fiF_ok (C := a_C_Wait) H
theorem Tx.n_Wait_value (T : Tx K mg) : NoAttr K T.C_Wait "value" := by have H := T.c.at 12 2 rfl rfl; unfold Tx.C_Wait; exact fiF_ok (C := a_C_Wait) H
theorem Tx.mk_Wait (T : Tx K mg) : Mk K T.C_Wait T.f_OnCell_init := by have H := T.c.at 12 3 rfl rfl; unfold Tx.C_Wait; unfold Tx.f_OnCell_init; exact mkF_ok (C := a_C_Wait) (f := a_f_OnCell_init) H
theorem Tx.is0_Wait (T : Tx K mg) : IsC0 K T.C_Wait := by have H := T.c.at 12 4 rfl rfl; unfold Tx.C_Wait; exact isF_ok (C := a_C_Wait) H
theorem Tx.is_Wait (T : Tx K mg) : IsC K T.C_Wait := T.is0_Wait.is T.cl_Wait
theorem Tx.k_Wait_Write (T : Tx K mg) : PySem.W.kitOne K (.ref T.C_Wait) (.ref T.C_Write) = some false := by have H := T.c.at 12 5 rfl rfl; unfold Tx.C_Wait; unfold Tx.C_Write; exact kiF_ok (C := a_C_Wait) (v := fun K => .ref (a_C_Write K)) H
theorem Tx.k_Wait_Wait (T : Tx K mg) : PySem.W.kitOne K (.ref T.C_Wait) (.ref T.C_Wait) = some true := by have H := T.c.at 12 6 rfl rfl; unfold Tx.C_Wait; exact kiF_ok (C := a_C_Wait) (v := fun K => .ref (a_C_Wait K)) H
theorem Tx.k_Wait_Mark (T : Tx K mg) : PySem.W.kitOne K (.ref T.C_Wait) (.ref T.C_Mark) = some false := by have H := T.c.at 12 7 rfl rfl; unfold Tx.C_Wait; unfold Tx.C_Mark; exact kiF_ok (C := a_C_Wait) (v := fun K => .ref (a_C_Mark K)) H
theorem Tx.k_Wait_Skip (T : Tx K mg) : PySem.W.kitOne K (.ref T.C_Wait) (.ref T.C_Skip) = some false := by have H := T.c.at 12 8 rfl rfl; unfold Tx.C_Wait; unfold Tx.C_Skip; exact kiF_ok (C := a_C_Wait) (v := fun K => .ref (a_C_Skip K)) H
theorem Tx.k_Wait_Stop (T : Tx K mg) : PySem.W.kitOne K (.ref T.C_Wait) (.ref T.C_Stop) = some false := by have H := T.c.at 12 9 rfl rfl; unfold Tx.C_Wait; unfold Tx.C_Stop; exact kiF_ok (C := a_C_Wait) (v := fun K => .ref (a_C_Stop K)) H
theorem Tx.k_Wait_If (T : Tx K mg) : PySem.W.kitOne K (.ref T.C_Wait) (.ref T.C_If) = some false := by have H := T.c.at 12 10 rfl rfl; unfold Tx.C_Wait; unfold Tx.C_If; exact kiF_ok (C := a_C_Wait) (v := fun K => .ref (a_C_If K)) H
theorem Tx.k_Wait_While (T : Tx K mg) : PySem.W.kitOne K (.ref T.C_Wait) (.ref T.C_While) = some false := by have H := T.c.at 12 11 rfl rfl; unfold Tx.C_Wait; unfold Tx.C_While; exact kiF_ok (C := a_C_Wait) (v := fun K => .ref (a_C_While K)) H
theorem Tx.k_Wait_Choose (T : Tx K mg) : PySem.W.kitOne K (.ref T.C_Wait) (.ref T.C_Choose) = some false := by have H := T.c.at 12 12 rfl rfl; unfold Tx.C_Wait; unfold Tx.C_Choose; exact kiF_ok (C := a_C_Wait) (v := fun K => .ref (a_C_Choose K)) H
theorem Tx.k_Wait_Loop (T : Tx K mg) : PySem.W.kitOne K (.ref T.C_Wait) (.ref T.C_Loop) = some false := by have H := T.c.at 12 13 rfl rfl; unfold Tx.C_Wait; unfold Tx.C_Loop; exact kiF_ok (C := a_C_Wait) (v := fun K => .ref (a_C_Loop K)) H
theorem Tx.m_Wait_parts (T : Tx K mg) : Meth K T.C_Wait "parts" T.f_Statement_parts := by have H := T.c.at 12 14 rfl rfl; unfold Tx.C_Wait; unfold Tx.f_Statement_parts; exact meF_ok (C := a_C_Wait) (f := a_f_Statement_parts) H
theorem Tx.m_Wait_size (T : Tx K mg) : Meth K T.C_Wait "size" T.f_Statement_size := by have H := T.c.at 12 15 rfl rfl; unfold Tx.C_Wait; unfold Tx.f_Statement_size; exact meF_ok (C := a_C_Wait) (f := a_f_Statement_size) H
theorem Tx.g_Mark (T : Tx K mg) : mg "Mark" = some (.ref T.C_Mark) := by have H := T.c.at 1 31 rfl rfl; unfold Tx.C_Mark; exact He.glo_ok T.X T.G H
theorem Tx.cl_Mark (T : Tx K mg) : Cls K T.C_Mark := by have H := T.c.at 13 0 rfl rfl; unfold Tx.C_Mark; exact clF_ok (C := a_C_Mark) H
theorem Tx.n_Mark_name (T : Tx K mg) : NoAttr K T.C_Mark "name" := by have H := T.c.at 13 1 rfl rfl; unfold Tx.C_Mark; exact fiF_ok (C := a_C_Mark) H
theorem Tx.mk_Mark (T : Tx K mg) : Mk K T.C_Mark T.f_Mark_init := by have H := T.c.at 13 2 rfl rfl; unfold Tx.C_Mark; unfold Tx.f_Mark_init; exact mkF_ok (C := a_C_Mark) (f := a_f_Mark_init) H
theorem Tx.is0_Mark (T : Tx K mg) : IsC0 K T.C_Mark := by have H := T.c.at 13 3 rfl rfl; unfold Tx.C_Mark; exact isF_ok (C := a_C_Mark) H
theorem Tx.is_Mark (T : Tx K mg) : IsC K T.C_Mark := T.is0_Mark.is T.cl_Mark
theorem Tx.k_Mark_Write (T : Tx K mg) : PySem.W.kitOne K (.ref T.C_Mark) (.ref T.C_Write) = some false := by have H := T.c.at 13 4 rfl rfl; unfold Tx.C_Mark; unfold Tx.C_Write; exact kiF_ok (C := a_C_Mark) (v := fun K => .ref (a_C_Write K)) H
theorem Tx.k_Mark_Wait (T : Tx K mg) : PySem.W.kitOne K (.ref T.C_Mark) (.ref T.C_Wait) = some false := by have H := T.c.at 13 5 rfl rfl; unfold Tx.C_Mark; unfold Tx.C_Wait; exact kiF_ok (C := a_C_Mark) (v := fun K => .ref (a_C_Wait K)) H
theorem Tx.k_Mark_Mark (T : Tx K mg) : PySem.W.kitOne K (.ref T.C_Mark) (.ref T.C_Mark) = some true := by have H := T.c.at 13 6 rfl rfl; unfold Tx.C_Mark; exact kiF_ok (C := a_C_Mark) (v := fun K => .ref (a_C_Mark K)) H
theorem Tx.k_Mark_Skip (T : Tx K mg) : PySem.W.kitOne K (.ref T.C_Mark) (.ref T.C_Skip) = some false := by have H := T.c.at 13 7 rfl rfl; unfold Tx.C_Mark; unfold Tx.C_Skip; exact kiF_ok (C := a_C_Mark) (v := fun K => .ref (a_C_Skip K)) H
theorem Tx.k_Mark_Stop (T : Tx K mg) : PySem.W.kitOne K (.ref T.C_Mark) (.ref T.C_Stop) = some false := by have H := T.c.at 13 8 rfl rfl; unfold Tx.C_Mark; unfold Tx.C_Stop; exact kiF_ok (C := a_C_Mark) (v := fun K => .ref (a_C_Stop K)) H
theorem Tx.k_Mark_If (T : Tx K mg) : PySem.W.kitOne K (.ref T.C_Mark) (.ref T.C_If) = some false := by have H := T.c.at 13 9 rfl rfl; unfold Tx.C_Mark; unfold Tx.C_If; exact kiF_ok (C := a_C_Mark) (v := fun K => .ref (a_C_If K)) H
theorem Tx.k_Mark_While (T : Tx K mg) : PySem.W.kitOne K (.ref T.C_Mark) (.ref T.C_While) = some false := by have H := T.c.at 13 10 rfl rfl; unfold Tx.C_Mark; unfold Tx.C_While; exact kiF_ok (C := a_C_Mark) (v := fun K => .ref (a_C_While K)) H
theorem Tx.k_Mark_Choose (T : Tx K mg) : PySem.W.kitOne K (.ref T.C_Mark) (.ref T.C_Choose) = some false := by have H := T.c.at 13 11 rfl rfl; unfold Tx.C_Mark; unfold Tx.C_Choose; exact kiF_ok (C := a_C_Mark) (v := fun K => .ref (a_C_Choose K)) H
theorem Tx.k_Mark_Loop (T : Tx K mg) : PySem.W.kitOne K (.ref T.C_Mark) (.ref T.C_Loop) = some false := by have H := T.c.at 13 12 rfl rfl; unfold Tx.C_Mark; unfold Tx.C_Loop; exact kiF_ok (C := a_C_Mark) (v := fun K => .ref (a_C_Loop K)) H
theorem Tx.m_Mark_parts (T : Tx K mg) : Meth K T.C_Mark "parts" T.f_Statement_parts := by have H := T.c.at 13 13 rfl rfl; unfold Tx.C_Mark; unfold Tx.f_Statement_parts; exact meF_ok (C := a_C_Mark) (f := a_f_Statement_parts) H
theorem Tx.m_Mark_size (T : Tx K mg) : Meth K T.C_Mark "size" T.f_Statement_size := by have H := T.c.at 13 14 rfl rfl; unfold Tx.C_Mark; unfold Tx.f_Statement_size; exact meF_ok (C := a_C_Mark) (f := a_f_Statement_size) H
theorem Tx.g_Skip (T : Tx K mg) : mg "Skip" = some (.ref T.C_Skip) := by have H := T.c.at 1 32 rfl rfl; unfold Tx.C_Skip; exact He.glo_ok T.X T.G H
theorem Tx.cl_Skip (T : Tx K mg) : Cls K T.C_Skip := by have H := T.c.at 14 0 rfl rfl; unfold Tx.C_Skip; exact clF_ok (C := a_C_Skip) H
theorem Tx.mk_Skip (T : Tx K mg) : Mk00 K T.C_Skip := by have H := T.c.at 14 1 rfl rfl; unfold Tx.C_Skip; exact mk0F_ok (C := a_C_Skip) H
theorem Tx.is0_Skip (T : Tx K mg) : IsC0 K T.C_Skip := by have H := T.c.at 14 2 rfl rfl; unfold Tx.C_Skip; exact isF_ok (C := a_C_Skip) H
theorem Tx.is_Skip (T : Tx K mg) : IsC K T.C_Skip := T.is0_Skip.is T.cl_Skip
theorem Tx.k_Skip_Write (T : Tx K mg) : PySem.W.kitOne K (.ref T.C_Skip) (.ref T.C_Write) = some false := by have H := T.c.at 14 3 rfl rfl; unfold Tx.C_Skip; unfold Tx.C_Write; exact kiF_ok (C := a_C_Skip) (v := fun K => .ref (a_C_Write K)) H
theorem Tx.k_Skip_Wait (T : Tx K mg) : PySem.W.kitOne K (.ref T.C_Skip) (.ref T.C_Wait) = some false := by have H := T.c.at 14 4 rfl rfl; unfold Tx.C_Skip; unfold Tx.C_Wait; exact kiF_ok (C := a_C_Skip) (v := fun K => .ref (a_C_Wait K)) H
theorem Tx.k_Skip_Mark (T : Tx K mg) : PySem.W.kitOne K (.ref T.C_Skip) (.ref T.C_Mark) = some false := by have H := T.c.at 14 5 rfl rfl; unfold Tx.C_Skip; unfold Tx.C_Mark; exact kiF_ok (C := a_C_Skip) (v := fun K => .ref (a_C_Mark K)) H
theorem Tx.k_Skip_Skip (T : Tx K mg) : PySem.W.kitOne K (.ref T.C_Skip) (.ref T.C_Skip) = some true := by have H := T.c.at 14 6 rfl rfl; unfold Tx.C_Skip; exact kiF_ok (C := a_C_Skip) (v := fun K => .ref (a_C_Skip K)) H
theorem Tx.k_Skip_Stop (T : Tx K mg) : PySem.W.kitOne K (.ref T.C_Skip) (.ref T.C_Stop) = some false := by have H := T.c.at 14 7 rfl rfl; unfold Tx.C_Skip; unfold Tx.C_Stop; exact kiF_ok (C := a_C_Skip) (v := fun K => .ref (a_C_Stop K)) H
theorem Tx.k_Skip_If (T : Tx K mg) : PySem.W.kitOne K (.ref T.C_Skip) (.ref T.C_If) = some false := by have H := T.c.at 14 8 rfl rfl; unfold Tx.C_Skip; unfold Tx.C_If; exact kiF_ok (C := a_C_Skip) (v := fun K => .ref (a_C_If K)) H
theorem Tx.k_Skip_While (T : Tx K mg) : PySem.W.kitOne K (.ref T.C_Skip) (.ref T.C_While) = some false := by have H := T.c.at 14 9 rfl rfl; unfold Tx.C_Skip; unfold Tx.C_While; exact kiF_ok (C := a_C_Skip) (v := fun K => .ref (a_C_While K)) H
theorem Tx.k_Skip_Choose (T : Tx K mg) : PySem.W.kitOne K (.ref T.C_Skip) (.ref T.C_Choose) = some false := by have H := T.c.at 14 10 rfl rfl; unfold Tx.C_Skip; unfold Tx.C_Choose; exact kiF_ok (C := a_C_Skip) (v := fun K => .ref (a_C_Choose K)) H
theorem Tx.k_Skip_Loop (T : Tx K mg) : PySem.W.kitOne K (.ref T.C_Skip) (.ref T.C_Loop) = some false := by have H := T.c.at 14 11 rfl rfl; unfold Tx.C_Skip; unfold Tx.C_Loop; exact kiF_ok (C := a_C_Skip) (v := fun K => .ref (a_C_Loop K)) H
theorem Tx.m_Skip_parts (T : Tx K mg) : Meth K T.C_Skip "parts" T.f_Statement_parts := by have H := T.c.at 14 12 rfl rfl; unfold Tx.C_Skip; unfold Tx.f_Statement_parts; exact meF_ok (C := a_C_Skip) (f := a_f_Statement_parts) H
theorem Tx.m_Skip_size (T : Tx K mg) : Meth K T.C_Skip "size" T.f_Statement_size := by have H := T.c.at 14 13 rfl rfl; unfold Tx.C_Skip; unfold Tx.f_Statement_size; exact meF_ok (C := a_C_Skip) (f := a_f_Statement_size) H
theorem Tx.g_Stop (T : Tx K mg) : mg "Stop" = some (.ref T.C_Stop) := by have H := T.c.at 1 33 rfl rfl; unfold Tx.C_Stop; exact He.glo_ok T.X T.G H
theorem Tx.cl_Stop (T : Tx K mg) : Cls K T.C_Stop := by have H := T.c.at 15 0 rfl rfl; unfold Tx.C_Stop; exact clF_ok (C := a_C_Stop) H
theorem Tx.mk_Stop (T : Tx K mg) : Mk00 K T.C_Stop := by have H := T.c.at 15 1 rfl rfl; unfold Tx.C_Stop; exact mk0F_ok (C := a_C_Stop) H
theorem Tx.is0_Stop (T : Tx K mg) : IsC0 K T.C_Stop := by have H := T.c.at 15 2 rfl rfl; unfold Tx.C_Stop; exact isF_ok (C := a_C_Stop) H
theorem Tx.is_Stop (T : Tx K mg) : IsC K T.C_Stop := T.is0_Stop.is T.cl_Stop
theorem Tx.k_Stop_Write (T : Tx K mg) : PySem.W.kitOne K (.ref T.C_Stop) (.ref T.C_Write) = some false := by have H := T.c.at 15 3 rfl rfl; unfold Tx.C_Stop; unfold Tx.C_Write; exact kiF_ok (C := a_C_Stop) (v := fun K => .ref (a_C_Write K)) H
theorem Tx.k_Stop_Wait (T : Tx K mg) : PySem.W.kitOne K (.ref T.C_Stop) (.ref T.C_Wait) = some false := by have H := T.c.at 15 4 rfl rfl; unfold Tx.C_Stop; unfold Tx.C_Wait; exact kiF_ok (C := a_C_Stop) (v := fun K => .ref (a_C_Wait K)) H
theorem Tx.k_Stop_Mark (T : Tx K mg) : PySem.W.kitOne K (.ref T.C_Stop) (.ref T.C_Mark) = some false := by have H := T.c.at 15 5 rfl rfl; unfold Tx.C_Stop; unfold Tx.C_Mark; exact kiF_ok (C := a_C_Stop) (v := fun K => .ref (a_C_Mark K)) H
theorem Tx.k_Stop_Skip (T : Tx K mg) : PySem.W.kitOne K (.ref T.C_Stop) (.ref T.C_Skip) = some false := by have H := T.c.at 15 6 rfl rfl; unfold Tx.C_Stop; unfold Tx.C_Skip; exact kiF_ok (C := a_C_Stop) (v := fun K => .ref (a_C_Skip K)) H
theorem Tx.k_Stop_Stop (T : Tx K mg) : PySem.W.kitOne K (.ref T.C_Stop) (.ref T.C_Stop) = some true := by have H := T.c.at 15 7 rfl rfl; unfold Tx.C_Stop; exact kiF_ok (C := a_C_Stop) (v := fun K => .ref (a_C_Stop K)) H
theorem Tx.k_Stop_If (T : Tx K mg) : PySem.W.kitOne K (.ref T.C_Stop) (.ref T.C_If) = some false := by have H := T.c.at 15 8 rfl rfl; unfold Tx.C_Stop; unfold Tx.C_If; exact kiF_ok (C := a_C_Stop) (v := fun K => .ref (a_C_If K)) H
theorem Tx.k_Stop_While (T : Tx K mg) : PySem.W.kitOne K (.ref T.C_Stop) (.ref T.C_While) = some false := by have H := T.c.at 15 9 rfl rfl; unfold Tx.C_Stop; unfold Tx.C_While; exact kiF_ok (C := a_C_Stop) (v := fun K => .ref (a_C_While K)) H
theorem Tx.k_Stop_Choose (T : Tx K mg) : PySem.W.kitOne K (.ref T.C_Stop) (.ref T.C_Choose) = some false := by have H := T.c.at 15 10 rfl rfl; unfold Tx.C_Stop; unfold Tx.C_Choose; exact kiF_ok (C := a_C_Stop) (v := fun K => .ref (a_C_Choose K)) H
theorem Tx.k_Stop_Loop (T : Tx K mg) : PySem.W.kitOne K (.ref T.C_Stop) (.ref T.C_Loop) = some false := by have H := T.c.at 15 11 rfl rfl; unfold Tx.C_Stop; unfold Tx.C_Loop; exact kiF_ok (C := a_C_Stop) (v := fun K => .ref (a_C_Loop K)) H
theorem Tx.m_Stop_parts (T : Tx K mg) : Meth K T.C_Stop "parts" T.f_Statement_parts := by have H := T.c.at 15 12 rfl rfl; unfold Tx.C_Stop; unfold Tx.f_Statement_parts; exact meF_ok (C := a_C_Stop) (f := a_f_Statement_parts) H
theorem Tx.m_Stop_size (T : Tx K mg) : Meth K T.C_Stop "size" T.f_Statement_size := by have H := T.c.at 15 13 rfl rfl; unfold Tx.C_Stop; unfold Tx.f_Statement_size; exact meF_ok (C := a_C_Stop) (f := a_f_Statement_size) H
theorem Tx.g_If (T : Tx K mg) : mg "If" = some (.ref T.C_If) := by have H := T.c.at 1 34 rfl rfl; unfold Tx.C_If; exact He.glo_ok T.X T.G H
theorem Tx.cl_If (T : Tx K mg) : Cls K T.C_If := by have H := T.c.at 16 0 rfl rfl; unfold Tx.C_If; exact clF_ok (C := a_C_If) H
theorem Tx.n_If_yes (T : Tx K mg) : NoAttr K T.C_If "yes" := by have H := T.c.at 16 1 rfl rfl; unfold Tx.C_If; exact fiF_ok (C := a_C_If) H
theorem Tx.n_If_no (T : Tx K mg) : NoAttr K T.C_If "no" := by have H := T.c.at 16 2 rfl rfl; unfold Tx.C_If; exact fiF_ok (C := a_C_If) H
theorem Tx.n_If_cell (T : Tx K mg) : NoAttr K T.C_If "cell" := by have H := T.c.at 16 3 rfl rfl; unfold Tx.C_If; exact fiF_ok (C := a_C_If) H
theorem Tx.n_If_value (T : Tx K mg) : NoAttr K T.C_If "value" := by have H := T.c.at 16 4 rfl rfl; unfold Tx.C_If; exact fiF_ok (C := a_C_If) H
theorem Tx.mk_If (T : Tx K mg) : Mk K T.C_If T.f_If_init := by have H := T.c.at 16 5 rfl rfl; unfold Tx.C_If; unfold Tx.f_If_init; exact mkF_ok (C := a_C_If) (f := a_f_If_init) H
theorem Tx.is0_If (T : Tx K mg) : IsC0 K T.C_If := by have H := T.c.at 16 6 rfl rfl; unfold Tx.C_If; exact isF_ok (C := a_C_If) H
theorem Tx.is_If (T : Tx K mg) : IsC K T.C_If := T.is0_If.is T.cl_If
theorem Tx.k_If_Write (T : Tx K mg) : PySem.W.kitOne K (.ref T.C_If) (.ref T.C_Write) = some false := by have H := T.c.at 16 7 rfl rfl; unfold Tx.C_If; unfold Tx.C_Write; exact kiF_ok (C := a_C_If) (v := fun K => .ref (a_C_Write K)) H
theorem Tx.k_If_Wait (T : Tx K mg) : PySem.W.kitOne K (.ref T.C_If) (.ref T.C_Wait) = some false := by have H := T.c.at 16 8 rfl rfl; unfold Tx.C_If; unfold Tx.C_Wait; exact kiF_ok (C := a_C_If) (v := fun K => .ref (a_C_Wait K)) H
theorem Tx.k_If_Mark (T : Tx K mg) : PySem.W.kitOne K (.ref T.C_If) (.ref T.C_Mark) = some false := by have H := T.c.at 16 9 rfl rfl; unfold Tx.C_If; unfold Tx.C_Mark; exact kiF_ok (C := a_C_If) (v := fun K => .ref (a_C_Mark K)) H
theorem Tx.k_If_Skip (T : Tx K mg) : PySem.W.kitOne K (.ref T.C_If) (.ref T.C_Skip) = some false := by have H := T.c.at 16 10 rfl rfl; unfold Tx.C_If; unfold Tx.C_Skip; exact kiF_ok (C := a_C_If) (v := fun K => .ref (a_C_Skip K)) H
theorem Tx.k_If_Stop (T : Tx K mg) : PySem.W.kitOne K (.ref T.C_If) (.ref T.C_Stop) = some false := by have H := T.c.at 16 11 rfl rfl; unfold Tx.C_If; unfold Tx.C_Stop; exact kiF_ok (C := a_C_If) (v := fun K => .ref (a_C_Stop K)) H
theorem Tx.k_If_If (T : Tx K mg) : PySem.W.kitOne K (.ref T.C_If) (.ref T.C_If) = some true := by have H := T.c.at 16 12 rfl rfl; unfold Tx.C_If; exact kiF_ok (C := a_C_If) (v := fun K => .ref (a_C_If K)) H
theorem Tx.k_If_While (T : Tx K mg) : PySem.W.kitOne K (.ref T.C_If) (.ref T.C_While) = some false := by have H := T.c.at 16 13 rfl rfl; unfold Tx.C_If; unfold Tx.C_While; exact kiF_ok (C := a_C_If) (v := fun K => .ref (a_C_While K)) H
theorem Tx.k_If_Choose (T : Tx K mg) : PySem.W.kitOne K (.ref T.C_If) (.ref T.C_Choose) = some false := by have H := T.c.at 16 14 rfl rfl; unfold Tx.C_If; unfold Tx.C_Choose; exact kiF_ok (C := a_C_If) (v := fun K => .ref (a_C_Choose K)) H
theorem Tx.k_If_Loop (T : Tx K mg) : PySem.W.kitOne K (.ref T.C_If) (.ref T.C_Loop) = some false := by have H := T.c.at 16 15 rfl rfl; unfold Tx.C_If; unfold Tx.C_Loop; exact kiF_ok (C := a_C_If) (v := fun K => .ref (a_C_Loop K)) H
theorem Tx.m_If_parts (T : Tx K mg) : Meth K T.C_If "parts" T.f_If_parts := by have H := T.c.at 16 16 rfl rfl; unfold Tx.C_If; unfold Tx.f_If_parts; exact meF_ok (C := a_C_If) (f := a_f_If_parts) H
theorem Tx.m_If_size (T : Tx K mg) : Meth K T.C_If "size" T.f_Statement_size := by have H := T.c.at 16 17 rfl rfl; unfold Tx.C_If; unfold Tx.f_Statement_size; exact meF_ok (C := a_C_If) (f := a_f_Statement_size) H
theorem Tx.g_While (T : Tx K mg) : mg "While" = some (.ref T.C_While) := by have H := T.c.at 1 35 rfl rfl; unfold Tx.C_While; exact He.glo_ok T.X T.G H
theorem Tx.cl_While (T : Tx K mg) : Cls K T.C_While := by have H := T.c.at 17 0 rfl rfl; unfold Tx.C_While; exact clF_ok (C := a_C_While) H
theorem Tx.n_While_body (T : Tx K mg) : NoAttr K T.C_While "body" := by have H := T.c.at 17 1 rfl rfl; unfold Tx.C_While; exact fiF_ok (C := a_C_While) H
theorem Tx.n_While_cell (T : Tx K mg) : NoAttr K T.C_While "cell" := by have H := T.c.at 17 2 rfl rfl; unfold Tx.C_While; exact fiF_ok (C := a_C_While) H
theorem Tx.n_While_value (T : Tx K mg) : NoAttr K T.C_While "value" := by have H := T.c.at 17 3 rfl rfl; unfold Tx.C_While; exact fiF_ok (C := a_C_While) H
theorem Tx.mk_While (T : Tx K mg) : Mk K T.C_While T.f_While_init := by have H := T.c.at 17 4 rfl rfl; unfold Tx.C_While; unfold Tx.f_While_init; exact mkF_ok (C := a_C_While) (f := a_f_While_init) H
theorem Tx.is0_While (T : Tx K mg) : IsC0 K T.C_While := by have H := T.c.at 17 5 rfl rfl; unfold Tx.C_While; exact isF_ok (C := a_C_While) H
theorem Tx.is_While (T : Tx K mg) : IsC K T.C_While := T.is0_While.is T.cl_While
theorem Tx.k_While_Write (T : Tx K mg) : PySem.W.kitOne K (.ref T.C_While) (.ref T.C_Write) = some false := by have H := T.c.at 17 6 rfl rfl; unfold Tx.C_While; unfold Tx.C_Write; exact kiF_ok (C := a_C_While) (v := fun K => .ref (a_C_Write K)) H
theorem Tx.k_While_Wait (T : Tx K mg) : PySem.W.kitOne K (.ref T.C_While) (.ref T.C_Wait) = some false := by have H := T.c.at 17 7 rfl rfl; unfold Tx.C_While; unfold Tx.C_Wait; exact kiF_ok (C := a_C_While) (v := fun K => .ref (a_C_Wait K)) H
theorem Tx.k_While_Mark (T : Tx K mg) : PySem.W.kitOne K (.ref T.C_While) (.ref T.C_Mark) = some false := by have H := T.c.at 17 8 rfl rfl; unfold Tx.C_While; unfold Tx.C_Mark; exact kiF_ok (C := a_C_While) (v := fun K => .ref (a_C_Mark K)) H
theorem Tx.k_While_Skip (T : Tx K mg) : PySem.W.kitOne K (.ref T.C_While) (.ref T.C_Skip) = some false := by have H := T.c.at 17 9 rfl rfl; unfold Tx.C_While; unfold Tx.C_Skip; exact kiF_ok (C := a_C_While) (v := fun K => .ref (a_C_Skip K)) H
theorem Tx.k_While_Stop (T : Tx K mg) : PySem.W.kitOne K (.ref T.C_While) (.ref T.C_Stop) = some false := by have H := T.c.at 17 10 rfl rfl; unfold Tx.C_While; unfold Tx.C_Stop; exact kiF_ok (C := a_C_While) (v := fun K => .ref (a_C_Stop K)) H
theorem Tx.k_While_If (T : Tx K mg) : PySem.W.kitOne K (.ref T.C_While) (.ref T.C_If) = some false := by have H := T.c.at 17 11 rfl rfl; unfold Tx.C_While; unfold Tx.C_If; exact kiF_ok (C := a_C_While) (v := fun K => .ref (a_C_If K)) H
theorem Tx.k_While_While (T : Tx K mg) : PySem.W.kitOne K (.ref T.C_While) (.ref T.C_While) = some true := by have H := T.c.at 17 12 rfl rfl; unfold Tx.C_While; exact kiF_ok (C := a_C_While) (v := fun K => .ref (a_C_While K)) H
theorem Tx.k_While_Choose (T : Tx K mg) : PySem.W.kitOne K (.ref T.C_While) (.ref T.C_Choose) = some false := by have H := T.c.at 17 13 rfl rfl; unfold Tx.C_While; unfold Tx.C_Choose; exact kiF_ok (C := a_C_While) (v := fun K => .ref (a_C_Choose K)) H
theorem Tx.k_While_Loop (T : Tx K mg) : PySem.W.kitOne K (.ref T.C_While) (.ref T.C_Loop) = some false := by have H := T.c.at 17 14 rfl rfl; unfold Tx.C_While; unfold Tx.C_Loop; exact kiF_ok (C := a_C_While) (v := fun K => .ref (a_C_Loop K)) H
theorem Tx.m_While_parts (T : Tx K mg) : Meth K T.C_While "parts" T.f_While_parts := by have H := T.c.at 17 15 rfl rfl; unfold Tx.C_While; unfold Tx.f_While_parts; exact meF_ok (C := a_C_While) (f := a_f_While_parts) H
theorem Tx.m_While_size (T : Tx K mg) : Meth K T.C_While "size" T.f_Statement_size := by have H := T.c.at 17 16 rfl rfl; unfold Tx.C_While; unfold Tx.f_Statement_size; exact meF_ok (C := a_C_While) (f := a_f_Statement_size) H
theorem Tx.g_Choose (T : Tx K mg) : mg "Choose" = some (.ref T.C_Choose) := by have H := T.c.at 1 36 rfl rfl; unfold Tx.C_Choose; exact He.glo_ok T.X T.G H
theorem Tx.cl_Choose (T : Tx K mg) : Cls K T.C_Choose := by have H := T.c.at 18 0 rfl rfl; unfold Tx.C_Choose; exact clF_ok (C := a_C_Choose) H
theorem Tx.n_Choose_one (T : Tx K mg) : NoAttr K T.C_Choose "one" := by have H := T.c.at 18 1 rfl rfl; unfold Tx.C_Choose; exact fiF_ok (C := a_C_Choose) H
theorem Tx.n_Choose_other (T : Tx K mg) : NoAttr K T.C_Choose "other" := by have H := T.c.at 18 2 rfl rfl; unfold Tx.C_Choose; exact fiF_ok (C := a_C_Choose) H
theorem Tx.mk_Choose (T : Tx K mg) : Mk K T.C_Choose T.f_Choose_init := by have H := T.c.at 18 3 rfl rfl; unfold Tx.C_Choose; unfold Tx.f_Choose_init; exact mkF_ok (C := a_C_Choose) (f := a_f_Choose_init) H
theorem Tx.is0_Choose (T : Tx K mg) : IsC0 K T.C_Choose := by have H := T.c.at 18 4 rfl rfl; unfold Tx.C_Choose; exact isF_ok (C := a_C_Choose) H
theorem Tx.is_Choose (T : Tx K mg) : IsC K T.C_Choose := T.is0_Choose.is T.cl_Choose
theorem Tx.k_Choose_Write (T : Tx K mg) : PySem.W.kitOne K (.ref T.C_Choose) (.ref T.C_Write) = some false := by have H := T.c.at 18 5 rfl rfl; unfold Tx.C_Choose; unfold Tx.C_Write; exact kiF_ok (C := a_C_Choose) (v := fun K => .ref (a_C_Write K)) H
theorem Tx.k_Choose_Wait (T : Tx K mg) : PySem.W.kitOne K (.ref T.C_Choose) (.ref T.C_Wait) = some false := by have H := T.c.at 18 6 rfl rfl; unfold Tx.C_Choose; unfold Tx.C_Wait; exact kiF_ok (C := a_C_Choose) (v := fun K => .ref (a_C_Wait K)) H
theorem Tx.k_Choose_Mark (T : Tx K mg) : PySem.W.kitOne K (.ref T.C_Choose) (.ref T.C_Mark) = some false := by have H := T.c.at 18 7 rfl rfl; unfold Tx.C_Choose; unfold Tx.C_Mark; exact kiF_ok (C := a_C_Choose) (v := fun K => .ref (a_C_Mark K)) H
theorem Tx.k_Choose_Skip (T : Tx K mg) : PySem.W.kitOne K (.ref T.C_Choose) (.ref T.C_Skip) = some false := by have H := T.c.at 18 8 rfl rfl; unfold Tx.C_Choose; unfold Tx.C_Skip; exact kiF_ok (C := a_C_Choose) (v := fun K => .ref (a_C_Skip K)) H
theorem Tx.k_Choose_Stop (T : Tx K mg) : PySem.W.kitOne K (.ref T.C_Choose) (.ref T.C_Stop) = some false := by have H := T.c.at 18 9 rfl rfl; unfold Tx.C_Choose; unfold Tx.C_Stop; exact kiF_ok (C := a_C_Choose) (v := fun K => .ref (a_C_Stop K)) H
theorem Tx.k_Choose_If (T : Tx K mg) : PySem.W.kitOne K (.ref T.C_Choose) (.ref T.C_If) = some false := by have H := T.c.at 18 10 rfl rfl; unfold Tx.C_Choose; unfold Tx.C_If; exact kiF_ok (C := a_C_Choose) (v := fun K => .ref (a_C_If K)) H
theorem Tx.k_Choose_While (T : Tx K mg) : PySem.W.kitOne K (.ref T.C_Choose) (.ref T.C_While) = some false := by have H := T.c.at 18 11 rfl rfl; unfold Tx.C_Choose; unfold Tx.C_While; exact kiF_ok (C := a_C_Choose) (v := fun K => .ref (a_C_While K)) H
theorem Tx.k_Choose_Choose (T : Tx K mg) : PySem.W.kitOne K (.ref T.C_Choose) (.ref T.C_Choose) = some true := by have H := T.c.at 18 12 rfl rfl; unfold Tx.C_Choose; exact kiF_ok (C := a_C_Choose) (v := fun K => .ref (a_C_Choose K)) H
theorem Tx.k_Choose_Loop (T : Tx K mg) : PySem.W.kitOne K (.ref T.C_Choose) (.ref T.C_Loop) = some false := by have H := T.c.at 18 13 rfl rfl; unfold Tx.C_Choose; unfold Tx.C_Loop; exact kiF_ok (C := a_C_Choose) (v := fun K => .ref (a_C_Loop K)) H
theorem Tx.m_Choose_parts (T : Tx K mg) : Meth K T.C_Choose "parts" T.f_Choose_parts := by have H := T.c.at 18 14 rfl rfl; unfold Tx.C_Choose; unfold Tx.f_Choose_parts; exact meF_ok (C := a_C_Choose) (f := a_f_Choose_parts) H
theorem Tx.m_Choose_size (T : Tx K mg) : Meth K T.C_Choose "size" T.f_Statement_size := by have H := T.c.at 18 15 rfl rfl; unfold Tx.C_Choose; unfold Tx.f_Statement_size; exact meF_ok (C := a_C_Choose) (f := a_f_Statement_size) H
theorem Tx.g_Loop (T : Tx K mg) : mg "Loop" = some (.ref T.C_Loop) := by have H := T.c.at 1 37 rfl rfl; unfold Tx.C_Loop; exact He.glo_ok T.X T.G H
theorem Tx.cl_Loop (T : Tx K mg) : Cls K T.C_Loop := by have H := T.c.at 19 0 rfl rfl; unfold Tx.C_Loop; exact clF_ok (C := a_C_Loop) H
theorem Tx.n_Loop_body (T : Tx K mg) : NoAttr K T.C_Loop "body" := by have H := T.c.at 19 1 rfl rfl; unfold Tx.C_Loop; exact fiF_ok (C := a_C_Loop) H
theorem Tx.mk_Loop (T : Tx K mg) : Mk K T.C_Loop T.f_Loop_init := by have H := T.c.at 19 2 rfl rfl; unfold Tx.C_Loop; unfold Tx.f_Loop_init; exact mkF_ok (C := a_C_Loop) (f := a_f_Loop_init) H
theorem Tx.is0_Loop (T : Tx K mg) : IsC0 K T.C_Loop := by have H := T.c.at 19 3 rfl rfl; unfold Tx.C_Loop; exact isF_ok (C := a_C_Loop) H
theorem Tx.is_Loop (T : Tx K mg) : IsC K T.C_Loop := T.is0_Loop.is T.cl_Loop
theorem Tx.k_Loop_Write (T : Tx K mg) : PySem.W.kitOne K (.ref T.C_Loop) (.ref T.C_Write) = some false := by have H := T.c.at 19 4 rfl rfl; unfold Tx.C_Loop; unfold Tx.C_Write; exact kiF_ok (C := a_C_Loop) (v := fun K => .ref (a_C_Write K)) H
theorem Tx.k_Loop_Wait (T : Tx K mg) : PySem.W.kitOne K (.ref T.C_Loop) (.ref T.C_Wait) = some false := by have H := T.c.at 19 5 rfl rfl; unfold Tx.C_Loop; unfold Tx.C_Wait; exact kiF_ok (C := a_C_Loop) (v := fun K => .ref (a_C_Wait K)) H
theorem Tx.k_Loop_Mark (T : Tx K mg) : PySem.W.kitOne K (.ref T.C_Loop) (.ref T.C_Mark) = some false := by have H := T.c.at 19 6 rfl rfl; unfold Tx.C_Loop; unfold Tx.C_Mark; exact kiF_ok (C := a_C_Loop) (v := fun K => .ref (a_C_Mark K)) H
theorem Tx.k_Loop_Skip (T : Tx K mg) : PySem.W.kitOne K (.ref T.C_Loop) (.ref T.C_Skip) = some false := by have H := T.c.at 19 7 rfl rfl; unfold Tx.C_Loop; unfold Tx.C_Skip; exact kiF_ok (C := a_C_Loop) (v := fun K => .ref (a_C_Skip K)) H
theorem Tx.k_Loop_Stop (T : Tx K mg) : PySem.W.kitOne K (.ref T.C_Loop) (.ref T.C_Stop) = some false := by have H := T.c.at 19 8 rfl rfl; unfold Tx.C_Loop; unfold Tx.C_Stop; exact kiF_ok (C := a_C_Loop) (v := fun K => .ref (a_C_Stop K)) H
theorem Tx.k_Loop_If (T : Tx K mg) : PySem.W.kitOne K (.ref T.C_Loop) (.ref T.C_If) = some false := by have H := T.c.at 19 9 rfl rfl; unfold Tx.C_Loop; unfold Tx.C_If; exact kiF_ok (C := a_C_Loop) (v := fun K => .ref (a_C_If K)) H
theorem Tx.k_Loop_While (T : Tx K mg) : PySem.W.kitOne K (.ref T.C_Loop) (.ref T.C_While) = some false := by have H := T.c.at 19 10 rfl rfl; unfold Tx.C_Loop; unfold Tx.C_While; exact kiF_ok (C := a_C_Loop) (v := fun K => .ref (a_C_While K)) H
theorem Tx.k_Loop_Choose (T : Tx K mg) : PySem.W.kitOne K (.ref T.C_Loop) (.ref T.C_Choose) = some false := by have H := T.c.at 19 11 rfl rfl; unfold Tx.C_Loop; unfold Tx.C_Choose; exact kiF_ok (C := a_C_Loop) (v := fun K => .ref (a_C_Choose K)) H
theorem Tx.k_Loop_Loop (T : Tx K mg) : PySem.W.kitOne K (.ref T.C_Loop) (.ref T.C_Loop) = some true := by have H := T.c.at 19 12 rfl rfl; unfold Tx.C_Loop; exact kiF_ok (C := a_C_Loop) (v := fun K => .ref (a_C_Loop K)) H
theorem Tx.m_Loop_parts (T : Tx K mg) : Meth K T.C_Loop "parts" T.f_Loop_parts := by have H := T.c.at 19 13 rfl rfl; unfold Tx.C_Loop; unfold Tx.f_Loop_parts; exact meF_ok (C := a_C_Loop) (f := a_f_Loop_parts) H
theorem Tx.m_Loop_size (T : Tx K mg) : Meth K T.C_Loop "size" T.f_Statement_size := by have H := T.c.at 19 14 rfl rfl; unfold Tx.C_Loop; unfold Tx.f_Statement_size; exact meF_ok (C := a_C_Loop) (f := a_f_Statement_size) H
theorem Tx.g_Program (T : Tx K mg) : mg "Program" = some (.ref T.C_Program) := by have H := T.c.at 1 38 rfl rfl; unfold Tx.C_Program; exact He.glo_ok T.X T.G H
theorem Tx.cl_Program (T : Tx K mg) : Cls K T.C_Program := by have H := T.c.at 20 0 rfl rfl; unfold Tx.C_Program; exact clF_ok (C := a_C_Program) H
theorem Tx.n_Program_row (T : Tx K mg) : NoAttr K T.C_Program "row" := by have H := T.c.at 20 1 rfl rfl; unfold Tx.C_Program; exact fiF_ok (C := a_C_Program) H
theorem Tx.mk_Program (T : Tx K mg) : Mk K T.C_Program T.f_Program_init := by have H := T.c.at 20 2 rfl rfl; unfold Tx.C_Program; unfold Tx.f_Program_init; exact mkF_ok (C := a_C_Program) (f := a_f_Program_init) H
theorem Tx.is0_Program (T : Tx K mg) : IsC0 K T.C_Program := by have H := T.c.at 20 3 rfl rfl; unfold Tx.C_Program; exact isF_ok (C := a_C_Program) H
theorem Tx.is_Program (T : Tx K mg) : IsC K T.C_Program := T.is0_Program.is T.cl_Program
theorem Tx.k_Program_Write (T : Tx K mg) : PySem.W.kitOne K (.ref T.C_Program) (.ref T.C_Write) = some false := by have H := T.c.at 20 4 rfl rfl; unfold Tx.C_Program; unfold Tx.C_Write; exact kiF_ok (C := a_C_Program) (v := fun K => .ref (a_C_Write K)) H
theorem Tx.k_Program_Wait (T : Tx K mg) : PySem.W.kitOne K (.ref T.C_Program) (.ref T.C_Wait) = some false := by have H := T.c.at 20 5 rfl rfl; unfold Tx.C_Program; unfold Tx.C_Wait; exact kiF_ok (C := a_C_Program) (v := fun K => .ref (a_C_Wait K)) H
theorem Tx.k_Program_Mark (T : Tx K mg) : PySem.W.kitOne K (.ref T.C_Program) (.ref T.C_Mark) = some false := by have H := T.c.at 20 6 rfl rfl; unfold Tx.C_Program; unfold Tx.C_Mark; exact kiF_ok (C := a_C_Program) (v := fun K => .ref (a_C_Mark K)) H
theorem Tx.k_Program_Skip (T : Tx K mg) : PySem.W.kitOne K (.ref T.C_Program) (.ref T.C_Skip) = some false := by have H := T.c.at 20 7 rfl rfl; unfold Tx.C_Program; unfold Tx.C_Skip; exact kiF_ok (C := a_C_Program) (v := fun K => .ref (a_C_Skip K)) H
theorem Tx.k_Program_Stop (T : Tx K mg) : PySem.W.kitOne K (.ref T.C_Program) (.ref T.C_Stop) = some false := by have H := T.c.at 20 8 rfl rfl; unfold Tx.C_Program; unfold Tx.C_Stop; exact kiF_ok (C := a_C_Program) (v := fun K => .ref (a_C_Stop K)) H
theorem Tx.k_Program_If (T : Tx K mg) : PySem.W.kitOne K (.ref T.C_Program) (.ref T.C_If) = some false := by have H := T.c.at 20 9 rfl rfl; unfold Tx.C_Program; unfold Tx.C_If; exact kiF_ok (C := a_C_Program) (v := fun K => .ref (a_C_If K)) H
theorem Tx.k_Program_While (T : Tx K mg) : PySem.W.kitOne K (.ref T.C_Program) (.ref T.C_While) = some false := by have H := T.c.at 20 10 rfl rfl; unfold Tx.C_Program; unfold Tx.C_While; exact kiF_ok (C := a_C_Program) (v := fun K => .ref (a_C_While K)) H
theorem Tx.k_Program_Choose (T : Tx K mg) : PySem.W.kitOne K (.ref T.C_Program) (.ref T.C_Choose) = some false := by have H := T.c.at 20 11 rfl rfl; unfold Tx.C_Program; unfold Tx.C_Choose; exact kiF_ok (C := a_C_Program) (v := fun K => .ref (a_C_Choose K)) H
theorem Tx.k_Program_Loop (T : Tx K mg) : PySem.W.kitOne K (.ref T.C_Program) (.ref T.C_Loop) = some false := by have H := T.c.at 20 12 rfl rfl; unfold Tx.C_Program; unfold Tx.C_Loop; exact kiF_ok (C := a_C_Program) (v := fun K => .ref (a_C_Loop K)) H
theorem Tx.m_Program_size (T : Tx K mg) : Meth K T.C_Program "size" T.f_Program_size := by have H := T.c.at 20 13 rfl rfl; unfold Tx.C_Program; unfold Tx.f_Program_size; exact meF_ok (C := a_C_Program) (f := a_f_Program_size) H
theorem Tx.m_Program_deep (T : Tx K mg) : Meth K T.C_Program "deep" T.f_Program_deep := by have H := T.c.at 20 14 rfl rfl; unfold Tx.C_Program; unfold Tx.f_Program_deep; exact meF_ok (C := a_C_Program) (f := a_f_Program_deep) H
theorem Tx.g_Machine (T : Tx K mg) : mg "Machine" = some (.ref T.C_Machine) := by have H := T.c.at 1 39 rfl rfl; unfold Tx.C_Machine; exact He.glo_ok T.X T.G H
theorem Tx.cl_Machine (T : Tx K mg) : Cls K T.C_Machine := by have H := T.c.at 21 0 rfl rfl; unfold Tx.C_Machine; exact clF_ok (C := a_C_Machine) H
theorem Tx.n_Machine_plan (T : Tx K mg) : NoAttr K T.C_Machine "plan" := by have H := T.c.at 21 1 rfl rfl; unfold Tx.C_Machine; exact fiF_ok (C := a_C_Machine) H
theorem Tx.n_Machine_text (T : Tx K mg) : NoAttr K T.C_Machine "text" := by have H := T.c.at 21 2 rfl rfl; unfold Tx.C_Machine; exact fiF_ok (C := a_C_Machine) H
theorem Tx.n_Machine_places (T : Tx K mg) : NoAttr K T.C_Machine "places" := by have H := T.c.at 21 3 rfl rfl; unfold Tx.C_Machine; exact fiF_ok (C := a_C_Machine) H
theorem Tx.n_Machine_exits (T : Tx K mg) : NoAttr K T.C_Machine "exits" := by have H := T.c.at 21 4 rfl rfl; unfold Tx.C_Machine; exact fiF_ok (C := a_C_Machine) H
theorem Tx.mk_Machine (T : Tx K mg) : Mk K T.C_Machine T.f_Machine_init := by have H := T.c.at 21 5 rfl rfl; unfold Tx.C_Machine; unfold Tx.f_Machine_init; exact mkF_ok (C := a_C_Machine) (f := a_f_Machine_init) H
theorem Tx.is0_Machine (T : Tx K mg) : IsC0 K T.C_Machine := by have H := T.c.at 21 6 rfl rfl; unfold Tx.C_Machine; exact isF_ok (C := a_C_Machine) H
theorem Tx.is_Machine (T : Tx K mg) : IsC K T.C_Machine := T.is0_Machine.is T.cl_Machine
theorem Tx.k_Machine_Write (T : Tx K mg) : PySem.W.kitOne K (.ref T.C_Machine) (.ref T.C_Write) = some false := by have H := T.c.at 21 7 rfl rfl; unfold Tx.C_Machine; unfold Tx.C_Write; exact kiF_ok (C := a_C_Machine) (v := fun K => .ref (a_C_Write K)) H
theorem Tx.k_Machine_Wait (T : Tx K mg) : PySem.W.kitOne K (.ref T.C_Machine) (.ref T.C_Wait) = some false := by have H := T.c.at 21 8 rfl rfl; unfold Tx.C_Machine; unfold Tx.C_Wait; exact kiF_ok (C := a_C_Machine) (v := fun K => .ref (a_C_Wait K)) H
theorem Tx.k_Machine_Mark (T : Tx K mg) : PySem.W.kitOne K (.ref T.C_Machine) (.ref T.C_Mark) = some false := by have H := T.c.at 21 9 rfl rfl; unfold Tx.C_Machine; unfold Tx.C_Mark; exact kiF_ok (C := a_C_Machine) (v := fun K => .ref (a_C_Mark K)) H
theorem Tx.k_Machine_Skip (T : Tx K mg) : PySem.W.kitOne K (.ref T.C_Machine) (.ref T.C_Skip) = some false := by have H := T.c.at 21 10 rfl rfl; unfold Tx.C_Machine; unfold Tx.C_Skip; exact kiF_ok (C := a_C_Machine) (v := fun K => .ref (a_C_Skip K)) H
theorem Tx.k_Machine_Stop (T : Tx K mg) : PySem.W.kitOne K (.ref T.C_Machine) (.ref T.C_Stop) = some false := by have H := T.c.at 21 11 rfl rfl; unfold Tx.C_Machine; unfold Tx.C_Stop; exact kiF_ok (C := a_C_Machine) (v := fun K => .ref (a_C_Stop K)) H
theorem Tx.k_Machine_If (T : Tx K mg) : PySem.W.kitOne K (.ref T.C_Machine) (.ref T.C_If) = some false := by have H := T.c.at 21 12 rfl rfl; unfold Tx.C_Machine; unfold Tx.C_If; exact kiF_ok (C := a_C_Machine) (v := fun K => .ref (a_C_If K)) H
theorem Tx.k_Machine_While (T : Tx K mg) : PySem.W.kitOne K (.ref T.C_Machine) (.ref T.C_While) = some false := by have H := T.c.at 21 13 rfl rfl; unfold Tx.C_Machine; unfold Tx.C_While; exact kiF_ok (C := a_C_Machine) (v := fun K => .ref (a_C_While K)) H
theorem Tx.k_Machine_Choose (T : Tx K mg) : PySem.W.kitOne K (.ref T.C_Machine) (.ref T.C_Choose) = some false := by have H := T.c.at 21 14 rfl rfl; unfold Tx.C_Machine; unfold Tx.C_Choose; exact kiF_ok (C := a_C_Machine) (v := fun K => .ref (a_C_Choose K)) H
theorem Tx.k_Machine_Loop (T : Tx K mg) : PySem.W.kitOne K (.ref T.C_Machine) (.ref T.C_Loop) = some false := by have H := T.c.at 21 15 rfl rfl; unfold Tx.C_Machine; unfold Tx.C_Loop; exact kiF_ok (C := a_C_Machine) (v := fun K => .ref (a_C_Loop K)) H
theorem Tx.m_Machine_number_row (T : Tx K mg) : Meth K T.C_Machine "number_row" T.f_Machine_number_row := by have H := T.c.at 21 16 rfl rfl; unfold Tx.C_Machine; unfold Tx.f_Machine_number_row; exact meF_ok (C := a_C_Machine) (f := a_f_Machine_number_row) H
theorem Tx.m_Machine_lay_row (T : Tx K mg) : Meth K T.C_Machine "lay_row" T.f_Machine_lay_row := by have H := T.c.at 21 17 rfl rfl; unfold Tx.C_Machine; unfold Tx.f_Machine_lay_row; exact meF_ok (C := a_C_Machine) (f := a_f_Machine_lay_row) H
theorem Tx.m_Machine_begin_of (T : Tx K mg) : Meth K T.C_Machine "begin_of" T.f_Machine_begin_of := by have H := T.c.at 21 18 rfl rfl; unfold Tx.C_Machine; unfold Tx.f_Machine_begin_of; exact meF_ok (C := a_C_Machine) (f := a_f_Machine_begin_of) H
theorem Tx.m_Machine_lay (T : Tx K mg) : Meth K T.C_Machine "lay" T.f_Machine_lay := by have H := T.c.at 21 19 rfl rfl; unfold Tx.C_Machine; unfold Tx.f_Machine_lay; exact meF_ok (C := a_C_Machine) (f := a_f_Machine_lay) H
theorem Tx.m_Machine_steps_of (T : Tx K mg) : Meth K T.C_Machine "steps_of" T.f_Machine_steps_of := by have H := T.c.at 21 20 rfl rfl; unfold Tx.C_Machine; unfold Tx.f_Machine_steps_of; exact meF_ok (C := a_C_Machine) (f := a_f_Machine_steps_of) H
theorem Tx.m_Machine_rooms (T : Tx K mg) : Meth K T.C_Machine "rooms" T.f_Machine_rooms := by have H := T.c.at 21 21 rfl rfl; unfold Tx.C_Machine; unfold Tx.f_Machine_rooms; exact meF_ok (C := a_C_Machine) (f := a_f_Machine_rooms) H
theorem Tx.m_Machine_asked (T : Tx K mg) : Meth K T.C_Machine "asked" T.f_Machine_asked := by have H := T.c.at 21 22 rfl rfl; unfold Tx.C_Machine; unfold Tx.f_Machine_asked; exact meF_ok (C := a_C_Machine) (f := a_f_Machine_asked) H
theorem Tx.m_Machine_steps (T : Tx K mg) : Meth K T.C_Machine "steps" T.f_Machine_steps := by have H := T.c.at 21 23 rfl rfl; unfold Tx.C_Machine; unfold Tx.f_Machine_steps; exact meF_ok (C := a_C_Machine) (f := a_f_Machine_steps) H
theorem Tx.m_Machine_mark_of (T : Tx K mg) : Meth K T.C_Machine "mark_of" T.f_Machine_mark_of := by have H := T.c.at 21 24 rfl rfl; unfold Tx.C_Machine; unfold Tx.f_Machine_mark_of; exact meF_ok (C := a_C_Machine) (f := a_f_Machine_mark_of) H
theorem Tx.g_Board (T : Tx K mg) : mg "Board" = some (.ref T.C_Board) := by have H := T.c.at 1 40 rfl rfl; unfold Tx.C_Board; exact He.glo_ok T.X T.G H
theorem Tx.cl_Board (T : Tx K mg) : Cls K T.C_Board := by have H := T.c.at 22 0 rfl rfl; unfold Tx.C_Board; exact clF_ok (C := a_C_Board) H
theorem Tx.n_Board_names (T : Tx K mg) : NoAttr K T.C_Board "names" := by have H := T.c.at 22 1 rfl rfl; unfold Tx.C_Board; exact fiF_ok (C := a_C_Board) H
theorem Tx.n_Board_rows (T : Tx K mg) : NoAttr K T.C_Board "rows" := by have H := T.c.at 22 2 rfl rfl; unfold Tx.C_Board; exact fiF_ok (C := a_C_Board) H
theorem Tx.mk_Board (T : Tx K mg) : Mk K T.C_Board T.f_Board_init := by have H := T.c.at 22 3 rfl rfl; unfold Tx.C_Board; unfold Tx.f_Board_init; exact mkF_ok (C := a_C_Board) (f := a_f_Board_init) H
theorem Tx.is0_Board (T : Tx K mg) : IsC0 K T.C_Board := by have H := T.c.at 22 4 rfl rfl; unfold Tx.C_Board; exact isF_ok (C := a_C_Board) H
theorem Tx.is_Board (T : Tx K mg) : IsC K T.C_Board := T.is0_Board.is T.cl_Board
theorem Tx.k_Board_Write (T : Tx K mg) : PySem.W.kitOne K (.ref T.C_Board) (.ref T.C_Write) = some false := by have H := T.c.at 22 5 rfl rfl; unfold Tx.C_Board; unfold Tx.C_Write; exact kiF_ok (C := a_C_Board) (v := fun K => .ref (a_C_Write K)) H
theorem Tx.k_Board_Wait (T : Tx K mg) : PySem.W.kitOne K (.ref T.C_Board) (.ref T.C_Wait) = some false := by have H := T.c.at 22 6 rfl rfl; unfold Tx.C_Board; unfold Tx.C_Wait; exact kiF_ok (C := a_C_Board) (v := fun K => .ref (a_C_Wait K)) H
theorem Tx.k_Board_Mark (T : Tx K mg) : PySem.W.kitOne K (.ref T.C_Board) (.ref T.C_Mark) = some false := by have H := T.c.at 22 7 rfl rfl; unfold Tx.C_Board; unfold Tx.C_Mark; exact kiF_ok (C := a_C_Board) (v := fun K => .ref (a_C_Mark K)) H
theorem Tx.k_Board_Skip (T : Tx K mg) : PySem.W.kitOne K (.ref T.C_Board) (.ref T.C_Skip) = some false := by have H := T.c.at 22 8 rfl rfl; unfold Tx.C_Board; unfold Tx.C_Skip; exact kiF_ok (C := a_C_Board) (v := fun K => .ref (a_C_Skip K)) H
theorem Tx.k_Board_Stop (T : Tx K mg) : PySem.W.kitOne K (.ref T.C_Board) (.ref T.C_Stop) = some false := by have H := T.c.at 22 9 rfl rfl; unfold Tx.C_Board; unfold Tx.C_Stop; exact kiF_ok (C := a_C_Board) (v := fun K => .ref (a_C_Stop K)) H
theorem Tx.k_Board_If (T : Tx K mg) : PySem.W.kitOne K (.ref T.C_Board) (.ref T.C_If) = some false := by have H := T.c.at 22 10 rfl rfl; unfold Tx.C_Board; unfold Tx.C_If; exact kiF_ok (C := a_C_Board) (v := fun K => .ref (a_C_If K)) H
theorem Tx.k_Board_While (T : Tx K mg) : PySem.W.kitOne K (.ref T.C_Board) (.ref T.C_While) = some false := by have H := T.c.at 22 11 rfl rfl; unfold Tx.C_Board; unfold Tx.C_While; exact kiF_ok (C := a_C_Board) (v := fun K => .ref (a_C_While K)) H
theorem Tx.k_Board_Choose (T : Tx K mg) : PySem.W.kitOne K (.ref T.C_Board) (.ref T.C_Choose) = some false := by have H := T.c.at 22 12 rfl rfl; unfold Tx.C_Board; unfold Tx.C_Choose; exact kiF_ok (C := a_C_Board) (v := fun K => .ref (a_C_Choose K)) H
theorem Tx.k_Board_Loop (T : Tx K mg) : PySem.W.kitOne K (.ref T.C_Board) (.ref T.C_Loop) = some false := by have H := T.c.at 22 13 rfl rfl; unfold Tx.C_Board; unfold Tx.C_Loop; exact kiF_ok (C := a_C_Board) (v := fun K => .ref (a_C_Loop K)) H
theorem Tx.m_Board_values_of (T : Tx K mg) : Meth K T.C_Board "values_of" T.f_Board_values_of := by have H := T.c.at 22 14 rfl rfl; unfold Tx.C_Board; unfold Tx.f_Board_values_of; exact meF_ok (C := a_C_Board) (f := a_f_Board_values_of) H
theorem Tx.m_Board_asked (T : Tx K mg) : Meth K T.C_Board "asked" T.f_Board_asked := by have H := T.c.at 22 15 rfl rfl; unfold Tx.C_Board; unfold Tx.f_Board_asked; exact meF_ok (C := a_C_Board) (f := a_f_Board_asked) H
theorem Tx.m_Board_others (T : Tx K mg) : Meth K T.C_Board "others" T.f_Board_others := by have H := T.c.at 22 16 rfl rfl; unfold Tx.C_Board; unfold Tx.f_Board_others; exact meF_ok (C := a_C_Board) (f := a_f_Board_others) H
theorem Tx.cr_OnCell (T : Tx K mg) : ClX.CRead K T.C_OnCell (.type "type") := by have H := T.c.at 10 16 rfl rfl; unfold Tx.C_OnCell; exact crF_ok (C := a_C_OnCell) H
theorem Tx.cv_OnCell (T : Tx K mg) : ClX.CVal K T.C_OnCell (.type "type") "__init__" (.ref T.f_OnCell_init) (.ref T.f_OnCell_init) := by have H := T.c.at 10 17 rfl rfl; unfold Tx.C_OnCell; unfold Tx.f_OnCell_init; exact cvF_ok (C := a_C_OnCell) (f := a_f_OnCell_init) H
end

section
open PySem PySem.W PySem.Calls PyProof.Rows
def nmsAll : List PySem.Str := (["_wall", "BoardError", "BadCount", "NoName", "Twice", "NoCell", "NoValue", "NoRoom", "LETTERS", "FIGURES"] : List PySem.Str) ++ (["LONGEST", "is_name", "asked_names", "asked_once", "MOST_STATEMENTS", "MOST_DEEP", "asked_size", "Statement", "OnCell", "Write"] : List PySem.Str) ++ (["Wait", "Mark", "Skip", "Stop", "in_braces", "If", "While", "Choose", "Loop", "Program"] : List PySem.Str) ++ (["GO", "looks", "looks_rooms", "Machine", "MOST_CELLS", "LEAST_VALUES", "MOST_VALUES", "asked_cells", "Board", "looks_lefts"] : List PySem.Str) ++ (["left_of_cell", "left", "_law_cell_at", "_law_state", "_law_digit", "_law_name", "_law_names", "_law_cells", "_law_simple", "_law_statement"] : List PySem.Str) ++ (["_law_row", "_law_program", "_law_made", "_law_built", "_law_nest", "_law_deep"] : List PySem.Str)
def nmsSeen : List PySem.Str := (["BoardError", "BadCount", "NoName", "Twice", "NoCell", "NoValue", "NoRoom", "Statement", "OnCell", "Write"] : List PySem.Str) ++ (["Wait", "Mark", "Skip", "Stop", "If", "While", "Choose", "Loop", "Program", "Machine"] : List PySem.Str) ++ (["Board", "is_name", "asked_names", "asked_once", "asked_size", "looks_rooms", "asked_cells", "looks_lefts", "left_of_cell", "left"] : List PySem.Str) ++ (["_law_cell_at", "_law_state", "_law_digit", "_law_name", "_law_names", "_law_simple", "_law_made", "_law_built", "_law_nest", "_law_deep"] : List PySem.Str) ++ (["law", "GO"] : List PySem.Str)
set_option maxHeartbeats 0 in
theorem runX (w : World) : HandSHeadRun.RunEq (OpenLaw.row PySem.Challenge.rw_manyboard_k23_fullest_programs) (view (OpenLaw.row PySem.Challenge.rw_manyboard_k23_fullest_programs).prog [64]) (hookX nmsSeen facts fnsL) (obX nmsSeen facts fnsL) 16000 nmsAll w := by
  intro os
  kernel_rfl
end

section
variable {P : Program} {w : World} {K : PySem.W.Frag} {mg : Str → Option Value} {base : Heap}
local macro_rules | `(tactic| walk_at "cl") => `(tactic| first | exact (‹Tx _ _›).cl_Statement | exact (‹Tx _ _›).cl_OnCell | exact (‹Tx _ _›).cl_Write | exact (‹Tx _ _›).cl_Wait | exact (‹Tx _ _›).cl_Mark | exact (‹Tx _ _›).cl_Skip | exact (‹Tx _ _›).cl_Stop | exact (‹Tx _ _›).cl_If | exact (‹Tx _ _›).cl_While | exact (‹Tx _ _›).cl_Choose | exact (‹Tx _ _›).cl_Loop | exact (‹Tx _ _›).cl_Program | exact (‹Tx _ _›).cl_Machine | exact (‹Tx _ _›).cl_Board)
local macro_rules | `(tactic| walk_at "no") => `(tactic| first | exact (‹Tx _ _›).n_OnCell_cell | exact (‹Tx _ _›).n_OnCell_value | exact (‹Tx _ _›).n_Write_cell | exact (‹Tx _ _›).n_Write_value | exact (‹Tx _ _›).n_Wait_cell | exact (‹Tx _ _›).n_Wait_value | exact (‹Tx _ _›).n_Mark_name | exact (‹Tx _ _›).n_If_yes | exact (‹Tx _ _›).n_If_no | exact (‹Tx _ _›).n_If_cell | exact (‹Tx _ _›).n_If_value | exact (‹Tx _ _›).n_While_body | exact (‹Tx _ _›).n_While_cell | exact (‹Tx _ _›).n_While_value | exact (‹Tx _ _›).n_Choose_one | exact (‹Tx _ _›).n_Choose_other | exact (‹Tx _ _›).n_Loop_body | exact (‹Tx _ _›).n_Program_row | exact (‹Tx _ _›).n_Machine_plan | exact (‹Tx _ _›).n_Machine_text | exact (‹Tx _ _›).n_Machine_places | exact (‹Tx _ _›).n_Machine_exits | exact (‹Tx _ _›).n_Board_names | exact (‹Tx _ _›).n_Board_rows)
local macro_rules | `(tactic| walk_at "glob") => `(tactic| first | ((with_reducible refine gNa "LETTERS" ?_); refine we_gS (‹Tx _ _›).c_LETTERS rfl (by decide +kernel) ?_) | ((with_reducible refine gNa "FIGURES" ?_); refine we_gS (‹Tx _ _›).c_FIGURES rfl (by decide +kernel) ?_) | ((with_reducible refine gNa "LONGEST" ?_); refine we_gI (‹Tx _ _›).c_LONGEST rfl ?_) | ((with_reducible refine gNa "MOST_STATEMENTS" ?_); refine we_gI (‹Tx _ _›).c_MOST_STATEMENTS rfl ?_) | ((with_reducible refine gNa "MOST_DEEP" ?_); refine we_gI (‹Tx _ _›).c_MOST_DEEP rfl ?_) | ((with_reducible refine gNa "GO" ?_); refine we_globT (‹Tx _ _›).c_GO rfl ?_) | ((with_reducible refine gNa "MOST_CELLS" ?_); refine we_gI (‹Tx _ _›).c_MOST_CELLS rfl ?_) | ((with_reducible refine gNa "LEAST_VALUES" ?_); refine we_gI (‹Tx _ _›).c_LEAST_VALUES rfl ?_) | ((with_reducible refine gNa "MOST_VALUES" ?_); refine we_gI (‹Tx _ _›).c_MOST_VALUES rfl ?_))
local macro_rules | `(tactic| walk_at "blt") => `(tactic| first | ((with_reducible refine gF "len" ?_); refine we_len (‹Tx _ _›).z_len rfl ?_) | ((with_reducible refine gF "abs" ?_); refine we_abs (‹Tx _ _›).z_abs rfl ?_) | ((with_reducible refine gF "int" ?_); refine we_toint (‹Tx _ _›).z_int rfl ?_) | ((with_reducible refine gF "str" ?_); refine we_tostr (‹Tx _ _›).z_str rfl ?_) | ((with_reducible refine gF "list" ?_); refine we_list (‹Tx _ _›).z_list rfl ?_) | ((with_reducible refine gF "tuple" ?_); refine we_tuple (‹Tx _ _›).z_tuple rfl ?_) | ((with_reducible refine gF "sum" ?_); refine we_sum rfl (‹Tx _ _›).z_sum rfl ?_) | ((with_reducible refine gF "all" ?_); refine we_all rfl (‹Tx _ _›).z_all rfl ?_) | ((with_reducible refine gF "max" ?_); refine we_max rfl (‹Tx _ _›).z_max rfl ?_) | ((with_reducible refine gF "max" ?_); refine we_max2S rfl (‹Tx _ _›).z_max rfl ?_) | ((with_reducible refine gX "append" ?_); refine we_append ?_) | ((with_reducible refine gX "extend" ?_); refine we_extend ?_) | ((with_reducible refine gX "join" ?_); refine we_join ?_) | ((with_reducible refine gX "split" ?_); refine we_split ?_))
local macro_rules | `(tactic| walk_at "na") => `(tactic| first | (refine ⟨⟨?_, ?_⟩, ?_⟩; walk_at "cl"; walk_at "no") | (refine ⟨_, _, _, rfl, rfl, ⟨?_, ?_⟩, ?_⟩; walk_at "cl"; walk_at "no") | (refine ⟨_, _, _, rfl, rfl, ?_, ?_, Nat.le_of_ble_eq_true rfl, ?_⟩; walk_at "cl"; walk_at "no"))
local macro_rules | `(tactic| walk_at "w") => `(tactic| ((first | refine w1d ?_ | refine w1c rfl ?_ | refine w1k rfl ?_); (first | refine w1d ?_ | refine w1c rfl ?_ | refine w1k rfl ?_ | skip)))
local macro_rules | `(tactic| walk_at "e") => `(tactic| first
  | ((with_reducible refine gN ?_); first | walk_at "v" | walk_at "glob")
  | ((with_reducible refine gC ?_); first | refine we_int ?_ | refine we_str (by decide +kernel) ?_ | refine we_bl ?_ | refine we_non ?_)
  | ((with_reducible refine gO ?_); first | refine we_add ?_ | refine we_sub1 ?_ | refine we_mul1 ?_ | refine we_fdiv1 ?_ | refine we_mod1 ?_ | refine we_pow1 ?_)
  | ((with_reducible refine gI ?_); first | refine we_slice ?_ | refine we_ix ?_)
  | ((with_reducible refine gL ?_); first | walk_at "call" | walk_at "blt")
  | ((with_reducible refine gM ?_); first | refine we_lt ?_ | refine we_le ?_ | refine we_gt ?_ | refine we_ge ?_ | refine we_eq (by assumption) ?_ | refine we_ne (by assumption) ?_ | refine we_in (by assumption) rfl ?_ | refine we_ni (by assumption) rfl ?_)
  | refine we_or ?_ | refine we_and ?_ | refine we_one ?_ | refine we_not ?_ | refine we_tup ?_ | refine we_fld ?_)
local macro_rules | `(tactic| walk_at "t") => `(tactic| first
  | refine wt_lt ?_ | refine wt_le ?_ | refine wt_gt ?_ | refine wt_ge ?_ | refine wt_lele ?_ | refine wt_eq (by assumption) ?_ | refine wt_ne (by assumption) ?_ | refine wt_not ?_ | refine wt_in (by assumption) rfl ?_ | refine wt_ni (by assumption) rfl ?_ | (refine wt_w ?_; first | refine ww_or ?_ | refine ww_and ?_) | ((with_reducible refine gTc ?_); refine wt_val ?_) | refine wt_val ?_)
local macro_rules | `(tactic| walk_at "st") => `(tactic| first
  | ((with_reducible refine gR ?_); first | walk_at "set" | refine ws_fld ?_ | refine ws_asg ?_)
  | refine ws_if ?_ | refine ws_ret ?_ | refine ws_expr ?_ | walk_at "raise")
local macro_rules | `(tactic| walk_at "x") => `(tactic| (fail_if_success refine gE ?_); (fail_if_success refine gT ?_); (fail_if_success refine gS ?_); first
  | refine i2 ?_ | refine a1 ?_ | refine on1 ?_ | refine dinS ?_ | refine cl1 rfl ?_ | refine cdc rfl ?_ | walk_at "w" | refine wsd rfl ⟨Nat.le_of_ble_eq_true rfl, ?_⟩ | refine eqI ?_ | refine neI ?_ | refine eqS ?_ | refine neS ?_ | refine inSs ?_ | refine niSs ?_ | refine inSe ?_ | refine niSe ?_ | refine addI ?_ | refine ixL rfl ?_ | refine ixT rfl ?_ | ((with_reducible refine gGi ?_); refine wg_item ?_)
  | walk_at "na" | refine ⟨_, _, _, _, _, rfl, rfl, rfl, rfl, rfl, ?_⟩ | refine ⟨_, _, rfl, rfl, (show _ ∧ _ from ⟨by omega, by omega⟩), ?_⟩ | refine ⟨_, _, rfl, rfl, (show (_ : Prop) from by omega), ?_⟩ | refine ⟨_, _, rfl, rfl, ?_⟩ | refine wo_none ?_ | refine wo_some ?_ | refine ⟨_, rfl, ?_⟩)
local macro_rules | `(tactic| walk_at "s") => `(tactic| first
  | (refine gE ?_; walk_at "e")
  | (refine gB ?_; first | refine wb_cons ?_ | refine wb_nil ?_)
  | (refine gS ?_; walk_at "st")
  | (refine gT ?_; walk_at "t")
  | (refine gA ?_; first | refine wa_cons ?_ | refine wa_nil ?_)
  | (refine gW ?_; first | refine ww_or ?_ | refine ww_and ?_ | refine ww_or1 ?_ | refine ww_and1 ?_)
  | walk_at "x")

section
local macro_rules | `(tactic| walk_at "v") => `(tactic| first | ((with_reducible refine gNa "_law_state_here" ?_); refine we_var (i := 0) rfl (vis rfl) rfl ?_) | ((with_reducible refine gNa "_law_base" ?_); refine we_var (i := 1) rfl (vis rfl) rfl ?_) | ((with_reducible refine gNa "_law_found" ?_); refine we_var (i := 2) rfl (vis rfl) rfl ?_) | ((with_reducible refine gNa "_law_more" ?_); refine we_var (i := 3) rfl (vis rfl) rfl ?_))
local macro_rules | `(tactic| walk_at "set") => `(tactic| first | ((with_reducible refine gSn "_law_state_here" ?_); refine ws_set (i := 0) (by assumption) rfl (by first | exact .inl rfl | exact .inr rfl) ?_) | ((with_reducible refine gSn "_law_base" ?_); refine ws_set (i := 1) (by assumption) rfl (by first | exact .inl rfl | exact .inr rfl) ?_) | ((with_reducible refine gSn "_law_found" ?_); refine ws_set (i := 2) (by assumption) rfl (by first | exact .inl rfl | exact .inr rfl) ?_) | ((with_reducible refine gSn "_law_more" ?_); refine ws_set (i := 3) (by assumption) rfl (by first | exact .inl rfl | exact .inr rfl) ?_))
theorem ok_digit (T : Tx K mg) : FnOk P w K mg base (L2.CX P w) 1 T.f_law_digit T.d_law_digit ps_law_digit (spOf K 1 sp_digit) := by
  refine fn_ok T.F_law_digit sc_law_digit (fun xs M R Rx h => by obtain ⟨_, _, rfl, _⟩ := h; rfl) (fun cdv A outer s H E B xs M R Rx hr hB h => ?_)
  obtain ⟨⟨a, b, c⟩, n, rfl, rfl, ok, hb, hR⟩ := h
  have nd := sc_law_digit.nd
  have oa := ok.a
  have ob := ok.b
  have oc := ok.c
  simp only at oa ob oc
  repeat walk_at "s"
  refine ite_b (fun ha => ?_) (fun ha => ?_)
  · repeat walk_at "s"
    exact ⟨rfl, hR (a / n, b, c) _ ⟨Int.ediv_nonneg oa (by omega), ob, oc⟩ (Int.emod_nonneg _ (by omega)) (Int.emod_lt_of_pos _ hb.1)⟩
  · repeat walk_at "s"
    refine ⟨.inl ⟨by show -2 ^ 64 < b; omega, by show b < 2 ^ 64; omega⟩, ?_⟩
    repeat walk_at "s"
    refine ⟨rfl, hR (a, (b * (b / 1009 + 69621) + c) % 2147483629 + 7, c) _ ?_ (Int.emod_nonneg _ (by omega)) (Int.emod_lt_of_pos _ hb.1)⟩
    exact ⟨oa, by constructor <;> (dsimp only; omega), oc⟩
end
section
local macro_rules | `(tactic| walk_at "v") => `(tactic| first | ((with_reducible refine gNa "_law_cell" ?_); refine we_var (i := 0) rfl (vis rfl) rfl ?_))
local macro_rules | `(tactic| walk_at "set") => `(tactic| first | ((with_reducible refine gSn "_law_cell" ?_); refine ws_set (i := 0) (by assumption) rfl (by first | exact .inl rfl | exact .inr rfl) ?_))
theorem ok_state (T : Tx K mg) : FnOk P w K mg base (L2.CX P w) 1 T.f_law_state T.d_law_state ps_law_state (spOf K 0 sp_state) := by
  refine fn_okC T.F_law_state sc_law_state (fun xs M R Rx h => by obtain ⟨_, rfl, _⟩ := h; rfl) (fun cdv A outer s H E B xs M R Rx hr hB h => ?_)
  obtain ⟨n, rfl, rfl, hR⟩ := h
  have nd := sc_law_state.nd
  repeat walk_at "s"
  have hm : 0 ≤ (if n < 0 then -n else n) := by split <;> omega
  generalize (if n < 0 then -n else n) = m at hm
  refine we_lstC ?_
  iterate 3 walk_at "s"
  refine gF "int" ?_
  refine we_toint T.z_int rfl ?_
  refine wa_cons ?_
  refine we_ge ?_
  walk_at "s"
  refine we_pow1 ?_
  iterate 2 walk_at "s"
  refine ⟨10, 18, rfl, rfl, ⟨by omega, by omega, by decide⟩, ?_⟩
  refine ⟨m, 10 ^ (18 : Int).toNat, rfl, rfl, ?_⟩
  generalize decide ((10 : Int) ^ (18 : Int).toNat ≤ m) = bb
  refine wa_nil ?_
  refine a1 (w1d ?_)
  refine ⟨m, _, rfl, rfl, .inr ⟨by split <;> omega, by split <;> omega⟩, ?_⟩
  repeat walk_at "s"
  refine ⟨rfl, hR (_, _, _) ⟨?_, ⟨?_, ?_⟩, ⟨?_, ?_⟩⟩⟩
  · show 0 ≤ m * if bb = true then 1 else 0
    split <;> omega
  all_goals (dsimp only; omega)
end
theorem cal_digit (T : Tx K mg) : Cal P w K mg base "_law_digit" 1 1 sp_digit := ⟨_, _, _, ok_digit T, T.g_law_digit, T.F_law_digit.kp, T.b_law_digit⟩
local macro_rules | `(tactic| walk_at "call") => `(tactic| ((with_reducible refine gF "_law_digit" ?_); refine we_own (k := 1) (n := 1) (S := sp_digit) ?_ ?_ rfl ?_; exact cal_digit ‹Tx _ _›; exact room ‹Room _ _› (by decide)))
theorem cal_state (T : Tx K mg) : Cal P w K mg base "_law_state" 1 0 sp_state := ⟨_, _, _, ok_state T, T.g_law_state, T.F_law_state.kp, T.b_law_state⟩
local macro_rules | `(tactic| walk_at "call") => `(tactic| ((with_reducible refine gF "_law_state" ?_); refine we_own (k := 1) (n := 0) (S := sp_state) ?_ ?_ rfl ?_; exact cal_state ‹Tx _ _›; exact room ‹Room _ _› (by decide)))
local macro_rules | `(tactic| walk_at "dig") => `(tactic| (refine cq rfl ⟨_, _, rfl, rfl, by assumption, ⟨by omega, by omega⟩, fun _ _ _ _ _ => ?_⟩))
local macro_rules | `(tactic| walk_at "dig") => `(tactic| (refine cq rfl ⟨_, _, rfl, rfl, by assumption, ⟨by omega, by omega⟩, fun _ _ _ _ _ => ?_⟩))

/-- a name: 1 to 10 signs, a letter ahead, letters and figures -/
def lets : Str := "abcdefghijklmnopqrstuvwxyz"
def figs : Str := "0123456789"
def signOk (c : Nat) : Bool := decide (c ∈ lets.cps.toList) || decide (c ∈ figs.cps.toList)
def isNm (z : Str) : Bool := match z.cps.toList with
  | [] => false
  | c :: r => decide (r.length ≤ 9) && decide (c ∈ lets.cps.toList) && (c :: r).all signOk
def sp_isname : SpD := fun xs M R _ => ∃ z, xs = [.dat (.str z)] ∧ M = [] ∧ R (.dat (.bl (isNm z))) []
theorem isNm_short {z : Str} (h : isNm z = true) : z.length ≤ 10 ∧ 1 ≤ z.length := by
  unfold isNm at h
  have e : z.length = z.cps.toList.length := by simp [Str.length]
  split at h
  · cases h
  · rename_i c r e2
    rw [e, e2]
    simp only [Bool.and_eq_true, decide_eq_true_eq] at h
    simp only [List.length_cons]
    omega
section
local macro_rules | `(tactic| walk_at "v") => `(tactic| first | ((with_reducible refine gNa "text" ?_); refine we_var (i := 0) rfl (vis rfl) rfl ?_) | ((with_reducible refine gNa "sign" ?_); refine we_var (i := 1) rfl (vis rfl) rfl ?_))
local macro_rules | `(tactic| walk_at "set") => `(tactic| first | ((with_reducible refine gSn "text" ?_); refine ws_set (i := 0) (by assumption) rfl (by first | exact .inl rfl | exact .inr rfl) ?_) | ((with_reducible refine gSn "sign" ?_); refine ws_set (i := 1) (by assumption) rfl (by first | exact .inl rfl | exact .inr rfl) ?_))
theorem ok_isname (T : Tx K mg) : FnOk P w K mg base (L2.CX P w) 1 T.f_is_name T.d_is_name ["text"] (spOf K 0 sp_isname) := by
  refine fn_ok T.F_is_name sc_is_name (fun xs M R Rx h => by obtain ⟨_, rfl, _⟩ := h; rfl) (fun cdv A outer s H E B xs M R Rx hr hB h => ?_)
  obtain ⟨z, rfl, rfl, hR⟩ := h
  have nd := sc_is_name.nd
  repeat walk_at "s"
  have e : z.length = z.cps.toList.length := by simp [Str.length]
  refine ite_b (fun h1 => ?_) (fun h1 => ?_)
  · repeat walk_at "s"
    refine ite_n (fun h2 => ?_) (fun h2 => ?_)
    · refine it_t rfl ?_
      repeat walk_at "s"
      refine ⟨rfl, ?_⟩
      have : isNm z = false := by
        cases ez : isNm z with
        | false => rfl
        | true => have := (isNm_short ez).1; omega
      rw [this] at hR
      exact hR
    cases ez : z.cps.toList with
    | nil => rw [ez] at e; simp at e; omega
    | cons c r =>
    have en : isNm z = (decide (c ∈ lets.cps.toList) && (c :: r).all signOk) := by
      unfold isNm
      rw [ez]
      have : decide (r.length ≤ 9) = true := by
        rw [ez, List.length_cons] at e
        exact decide_eq_true (by omega)
      simp only [this, Bool.true_and]
    rw [en] at hR
    repeat walk_at "s"
    refine ixS (c := c) (by rw [ez]; exact atI_nat (j := 0) rfl) ?_
    repeat walk_at "s"
    refine ite_n (fun h3 => ?_) (fun h3 => ?_)
    · repeat walk_at "s"
      refine ⟨rfl, ?_⟩
      rw [decide_eq_false (show ¬ c ∈ lets.cps.toList from h3)] at hR
      exact hR
    rw [decide_eq_true (show c ∈ lets.cps.toList from h3), Bool.true_and] at hR
    repeat walk_at "s"
    refine we_lc1 (j := 1) rfl nd (blkOk_by rfl) rfl (fun _ _ _ _ _ => .inl rfl) (by decide) (wi_str ?_)
    repeat walk_at "s"
    refine lcq_map (fun d => match d with | .str y => .bl (match y.cps.toList with | [c] => signOk c | _ => false) | _ => .bl false) ?_ ?_ ?_
    · unfold signsD
      rw [List.length_map, ← e]
      exact size_ge (by omega)
    · intro i d hd s H C cl fp B hB
      obtain ⟨c', rfl⟩ : ∃ c', d = .str ⟨#[c']⟩ := by
        unfold signsD at hd
        rw [List.getElem?_map] at hd
        cases e2 : z.cps.toList[i]? with
        | none => rw [e2] at hd; cases hd
        | some c' => rw [e2] at hd; exact ⟨c', (Option.some.inj hd).symm⟩
      repeat walk_at "s"
      refine ite_b (fun h4 => ?_) (fun h4 => ?_)
      · have : signOk c' = true := by unfold signOk; rw [decide_eq_true (show c' ∈ lets.cps.toList from h4)]; rfl
        exact ⟨by show _ = SV.dat (D.bl (signOk c')); rw [this], rfl⟩
      · repeat walk_at "s"
        have : signOk c' = decide (c' ∈ figs.cps.toList) := by unfold signOk; rw [decide_eq_false (show ¬ c' ∈ lets.cps.toList from h4)]; rfl
        exact ⟨by show _ = SV.dat (D.bl (signOk c')); rw [this]; rfl, rfl⟩
    · repeat walk_at "s"
      refine ⟨z.cps.toList.map signOk, ?_, ?_⟩
      · unfold signsD
        rw [List.map_map, List.map_map]
        rfl
      · refine ⟨rfl, ?_⟩
        have : (z.cps.toList.map signOk).all id = (c :: r).all signOk := by rw [ez, List.all_map]; rfl
        rw [← this] at hR
        exact hR
  · repeat walk_at "s"
    refine ⟨rfl, ?_⟩
    have : isNm z = false := by
      cases ez : isNm z with
      | false => rfl
      | true => have := (isNm_short ez).2; omega
    rw [this] at hR
    exact hR
end
theorem cal_isname (T : Tx K mg) : Cal P w K mg base "is_name" 1 0 sp_isname := ⟨_, _, _, ok_isname T, T.g_is_name, T.F_is_name.kp, T.b_is_name⟩
local macro_rules | `(tactic| walk_at "call") => `(tactic| ((with_reducible refine gF "is_name" ?_); refine we_own (k := 1) (n := 0) (S := sp_isname) ?_ ?_ rfl ?_; exact cal_isname ‹Tx _ _›; exact room ‹Room _ _› (by decide)))

theorem ok_NoName_init (T : Tx K mg) : FnOk P w K mg base CX0 1 T.f_NoName_init T.d_NoName_init ["self", "name"] (spX1 K "name") := by
  refine T.F_NoName_init.ok sc_NoName_init (fun vs H Q E h => by obtain ⟨a, C, v, rfl, _⟩ := h; rfl) (fun cdv A outer s H vs Q E hr h => ?_)
  obtain ⟨a, C, v, rfl, hC, hf, ha, k⟩ := h
  exact ⟨_, pss_one (ps_ost (pv 0) (pv 1)), v, rfl, .ref a, rfl, a, C, rfl, hC, hf, .inl ⟨ha, k⟩⟩
theorem rai_NoName (T : Tx K mg) : Rai P w K mg base "NoName" T.C_NoName "name" := ⟨_, _, _, ⟨T.o_NoName, T.g_NoName, T.i_NoName, T.t_NoName⟩, T.n_NoName_name, ok_NoName_init T, T.b_NoName_init⟩
local macro_rules | `(tactic| walk_at "raise") => `(tactic| ((with_reducible refine gRa "NoName" ?_); refine ws_rai (x := "NoName") (C := (‹Tx _ _›).C_NoName) (f := "name") ?_ ?_ rfl rfl ?_; exact rai_NoName ‹Tx _ _›; exact room ‹Room _ _› (by decide)))
/-- the first that is no name -/
def badNm (zs : List Str) : Option Str := zs.find? fun z => !isNm z
def sp_names (CN : Addr) : SpD := fun xs M R Rx => ∃ zs : List Str, xs = [.dat (.lst (zs.map D.str))] ∧ M = [] ∧ (match badNm zs with
  | none => R (.dat .non) []
  | some z => Rx CN [("name", .str z)] [])
theorem str_get {zs : List Str} {i : Nat} {d : D} (h : (zs.map D.str)[i]? = some d) : ∃ z, zs[i]? = some z ∧ d = .str z := by
  rw [List.getElem?_map] at h
  cases e : zs[i]? with
  | none => rw [e] at h; cases h
  | some z => rw [e] at h; exact ⟨z, rfl, (Option.some.inj h).symm⟩
theorem find_at {α : Type} {p : α → Bool} : ∀ {l : List α} {i : Nat} {z : α}, l[i]? = some z → (∀ j y, j < i → l[j]? = some y → p y = false) → p z = true → l.find? p = some z
  | [], _, _, h, _, _ => by simp at h
  | x :: l, 0, z, h, _, hz => by simp at h; subst h; simp [hz]
  | x :: l, i + 1, z, h, hl, hz => by
    have hx := hl 0 x (by omega) (by simp)
    rw [List.find?_cons, hx]
    exact find_at (i := i) (by simpa using h) (fun j y hj hy => hl (j + 1) y (by omega) (by simpa using hy)) hz
theorem find_no {α : Type} {p : α → Bool} {l : List α} (h : ∀ (j : Nat) y, j < l.length → l[j]? = some y → p y = false) : l.find? p = none := by
  rw [List.find?_eq_none]
  intro x hx
  obtain ⟨j, hj⟩ := List.getElem?_of_mem hx
  have := h j x (List.getElem?_eq_some_iff.mp hj).1 hj
  rw [this]
  exact Bool.false_ne_true
section
local macro_rules | `(tactic| walk_at "v") => `(tactic| first | ((with_reducible refine gNa "texts" ?_); refine we_var (i := 0) rfl (vis rfl) rfl ?_) | ((with_reducible refine gNa "text" ?_); refine we_var (i := 1) rfl (vis rfl) rfl ?_))
local macro_rules | `(tactic| walk_at "set") => `(tactic| first | ((with_reducible refine gSn "texts" ?_); refine ws_set (i := 0) (by assumption) rfl (by first | exact .inl rfl | exact .inr rfl) ?_) | ((with_reducible refine gSn "text" ?_); refine ws_set (i := 1) (by assumption) rfl (by first | exact .inl rfl | exact .inr rfl) ?_))
theorem ok_names (T : Tx K mg) : FnOk P w K mg base (L2.CX P w) 3 T.f_asked_names T.d_asked_names ["texts"] (spOf K 0 (sp_names T.C_NoName)) := by
  refine fn_ok T.F_asked_names sc_asked_names (fun xs M R Rx h => by obtain ⟨_, rfl, _⟩ := h; rfl) (fun cdv A outer s H E B xs M R Rx hr hB h => ?_)
  obtain ⟨zs, rfl, rfl, hR⟩ := h
  have nd := sc_asked_names.nd
  walk_at "s"
  refine ws_for rfl (wi_list ?_)
  repeat walk_at "s"
  refine ⟨fun i ss M => (∀ (j : Nat) y, j < i → zs[j]? = some y → isNm y = true) ∧ (∃ o, ss = [some (.dat (.lst (zs.map D.str))), o]) ∧ M = [], ⟨fun j y hj => absurd hj (Nat.not_lt_zero j), ⟨_, rfl⟩, rfl⟩, ?_, ?_⟩
  · rintro i d ss M hd ⟨hz, ⟨o, rfl⟩, rfl⟩
    obtain ⟨z, hi, rfl⟩ := str_get hd
    refine wg_name (i := 1) nd rfl (.inl rfl) ?_
    repeat walk_at "s"
    refine cq rfl ⟨z, rfl, rfl, ?_⟩
    repeat walk_at "s"
    refine ite_v (fun h => ?_) (fun h => ?_)
    · repeat walk_at "s"
      have : badNm zs = some z := find_at hi (fun j y hj hy => by rw [hz j y hj hy]; rfl) h
      rw [this] at hR
      exact ⟨rfl, hR⟩
    · repeat walk_at "s"
      refine ⟨fun j y hj hy => ?_, ⟨_, rfl⟩, rfl⟩
      rcases Nat.lt_succ_iff_lt_or_eq.mp hj with h1 | h1
      · exact hz j y h1 hy
      · subst h1
        rw [hi] at hy
        cases hy
        simpa using h
  · rintro ss M ⟨hz, ⟨o, rfl⟩, rfl⟩
    have : badNm zs = none := find_no fun j y hj hy => by rw [hz j y (by rw [List.length_map]; exact hj) hy]; rfl
    rw [this] at hR
    repeat walk_at "s"
    exact ⟨rfl, hR⟩
end
theorem cal_names (T : Tx K mg) : Cal P w K mg base "asked_names" 3 0 (sp_names T.C_NoName) := ⟨_, _, _, ok_names T, T.g_asked_names, T.F_asked_names.kp, T.b_asked_names⟩
local macro_rules | `(tactic| walk_at "call") => `(tactic| ((with_reducible refine gF "asked_names" ?_); refine we_own (k := 3) (n := 0) (S := (sp_names (‹Tx _ _›).C_NoName)) ?_ ?_ rfl ?_; exact cal_names ‹Tx _ _›; exact room ‹Room _ _› (by decide)))

/-- a statement's own class takes the fields -/
structure FC (K : PySem.W.Frag) (C : Addr) : Prop where
  cl : Cls K C
  cell : NoAttr K C "cell"
  value : NoAttr K C "value"
def sp_OnCell (K : PySem.W.Frag) (CN : Addr) : SpD := fun xs M R Rx => ∃ C a b, xs = [.cel 0, .dat (.str a), .dat (.str b)] ∧ M = [.ins C []] ∧ FC K C ∧ (match badNm [a, b] with
  | none => R (.dat .non) [.ins C [("cell", .dat (.str a)), ("value", .dat (.str b))]]
  | some z => Rx CN [("name", .str z)] [.ins C []])
section
local macro_rules | `(tactic| walk_at "v") => `(tactic| first | ((with_reducible refine gNa "self" ?_); refine we_var (i := 0) rfl (vis rfl) rfl ?_) | ((with_reducible refine gNa "cell" ?_); refine we_var (i := 1) rfl (vis rfl) rfl ?_) | ((with_reducible refine gNa "value" ?_); refine we_var (i := 2) rfl (vis rfl) rfl ?_))
local macro_rules | `(tactic| walk_at "set") => `(tactic| first | ((with_reducible refine gSn "self" ?_); refine ws_set (i := 0) (by assumption) rfl (by first | exact .inl rfl | exact .inr rfl) ?_) | ((with_reducible refine gSn "cell" ?_); refine ws_set (i := 1) (by assumption) rfl (by first | exact .inl rfl | exact .inr rfl) ?_) | ((with_reducible refine gSn "value" ?_); refine ws_set (i := 2) (by assumption) rfl (by first | exact .inl rfl | exact .inr rfl) ?_))
theorem ok_OnCell (T : Tx K mg) : FnOk P w K mg base (L2.CX P w) 4 T.f_OnCell_init T.d_OnCell_init ["self", "cell", "value"] (spOf K 1 (sp_OnCell K T.C_NoName)) := by
  refine fn_ok T.F_OnCell_init sc_OnCell_init (fun xs M R Rx h => by obtain ⟨_, _, _, rfl, _⟩ := h; rfl) (fun cdv A outer s H E B xs M R Rx hr hB h => ?_)
  obtain ⟨C, a, b, rfl, rfl, fc, hR⟩ := h
  have nd := sc_OnCell_init.nd
  repeat walk_at "s"
  refine we_lst ?_
  repeat walk_at "s"
  refine cq rfl ⟨[a, b], rfl, rfl, ?_⟩
  cases e1 : badNm [a, b] with
  | some z =>
    rw [e1] at hR
    exact ⟨rfl, hR⟩
  | none =>
  rw [e1] at hR
  repeat walk_at "s"
  refine ⟨_, _, _, rfl, rfl, fc.cl, fc.cell, Nat.le_of_ble_eq_true rfl, ?_⟩
  repeat walk_at "s"
  refine ⟨_, _, _, rfl, rfl, fc.cl, fc.value, Nat.le_of_ble_eq_true rfl, ?_⟩
  repeat walk_at "s"
  exact ⟨rfl, hR⟩
end
theorem mkr_Write (T : Tx K mg) : Mkr P w K mg base "Write" T.C_Write 4 (sp_OnCell K T.C_NoName) := ⟨_, _, _, T.mk_Write, ok_OnCell T, T.g_Write, T.b_OnCell_init⟩
local macro_rules | `(tactic| walk_at "call") => `(tactic| ((with_reducible refine gF "Write" ?_); refine we_mkr (mkr_Write ‹Tx _ _›) (room ‹Room _ _› (by decide)) rfl ?_))
theorem mkr_Wait (T : Tx K mg) : Mkr P w K mg base "Wait" T.C_Wait 4 (sp_OnCell K T.C_NoName) := ⟨_, _, _, T.mk_Wait, ok_OnCell T, T.g_Wait, T.b_OnCell_init⟩
local macro_rules | `(tactic| walk_at "call") => `(tactic| ((with_reducible refine gF "Wait" ?_); refine we_mkr (mkr_Wait ‹Tx _ _›) (room ‹Room _ _› (by decide)) rfl ?_))
theorem clm_OnCell (T : Tx K mg) : Clm P w K mg base "OnCell" "__init__" 4 1 (sp_OnCell K T.C_NoName) := ⟨_, _, _, _, _, T.g_OnCell, T.cr_OnCell, T.cv_OnCell, T.F_OnCell_init.kp, ok_OnCell T, T.b_OnCell_init⟩
local macro_rules | `(tactic| walk_at "call") => `(tactic| (refine gX "__init__" ?_; refine we_clm (clm_OnCell ‹Tx _ _›) (room ‹Room _ _› (by decide)) rfl ?_))
def sp_If (CI CN : Addr) : SpD := fun xs M R Rx => ∃ a b y n, xs = [.cel 0, .dat (.str a), .dat (.str b), .dat y, .dat n] ∧ M = [.ins CI []] ∧ (match badNm [a, b] with
  | none => R (.dat .non) [.ins CI [("cell", .dat (.str a)), ("value", .dat (.str b)), ("yes", .dat y), ("no", .dat n)]]
  | some z => Rx CN [("name", .str z)] [.ins CI []])
section
local macro_rules | `(tactic| walk_at "v") => `(tactic| first | ((with_reducible refine gNa "self" ?_); refine we_var (i := 0) rfl (vis rfl) rfl ?_) | ((with_reducible refine gNa "cell" ?_); refine we_var (i := 1) rfl (vis rfl) rfl ?_) | ((with_reducible refine gNa "value" ?_); refine we_var (i := 2) rfl (vis rfl) rfl ?_) | ((with_reducible refine gNa "yes" ?_); refine we_var (i := 3) rfl (vis rfl) rfl ?_) | ((with_reducible refine gNa "no" ?_); refine we_var (i := 4) rfl (vis rfl) rfl ?_))
local macro_rules | `(tactic| walk_at "set") => `(tactic| first | ((with_reducible refine gSn "self" ?_); refine ws_set (i := 0) (by assumption) rfl (by first | exact .inl rfl | exact .inr rfl) ?_) | ((with_reducible refine gSn "cell" ?_); refine ws_set (i := 1) (by assumption) rfl (by first | exact .inl rfl | exact .inr rfl) ?_) | ((with_reducible refine gSn "value" ?_); refine ws_set (i := 2) (by assumption) rfl (by first | exact .inl rfl | exact .inr rfl) ?_) | ((with_reducible refine gSn "yes" ?_); refine ws_set (i := 3) (by assumption) rfl (by first | exact .inl rfl | exact .inr rfl) ?_) | ((with_reducible refine gSn "no" ?_); refine ws_set (i := 4) (by assumption) rfl (by first | exact .inl rfl | exact .inr rfl) ?_))
theorem ok_If (T : Tx K mg) : FnOk P w K mg base (L2.CX P w) 5 T.f_If_init T.d_If_init ["self", "cell", "value", "yes", "no"] (spOf K 1 (sp_If T.C_If T.C_NoName)) := by
  refine fn_ok T.F_If_init sc_If_init (fun xs M R Rx h => by obtain ⟨_, _, _, _, rfl, _⟩ := h; rfl) (fun cdv A outer s H E B xs M R Rx hr hB h => ?_)
  obtain ⟨a, b, y, n, rfl, rfl, hR⟩ := h
  have nd := sc_If_init.nd
  repeat walk_at "s"
  refine cq rfl ⟨T.C_If, a, b, rfl, rfl, ⟨T.cl_If, T.n_If_cell, T.n_If_value⟩, ?_⟩
  cases e1 : badNm [a, b] with
  | some z =>
    rw [e1] at hR
    exact ⟨rfl, hR⟩
  | none =>
  rw [e1] at hR
  repeat walk_at "s"
  exact ⟨rfl, hR⟩
end
def sp_While (CI CN : Addr) : SpD := fun xs M R Rx => ∃ a b y, xs = [.cel 0, .dat (.str a), .dat (.str b), .dat y] ∧ M = [.ins CI []] ∧ (match badNm [a, b] with
  | none => R (.dat .non) [.ins CI [("cell", .dat (.str a)), ("value", .dat (.str b)), ("body", .dat y)]]
  | some z => Rx CN [("name", .str z)] [.ins CI []])
section
local macro_rules | `(tactic| walk_at "v") => `(tactic| first | ((with_reducible refine gNa "self" ?_); refine we_var (i := 0) rfl (vis rfl) rfl ?_) | ((with_reducible refine gNa "cell" ?_); refine we_var (i := 1) rfl (vis rfl) rfl ?_) | ((with_reducible refine gNa "value" ?_); refine we_var (i := 2) rfl (vis rfl) rfl ?_) | ((with_reducible refine gNa "body" ?_); refine we_var (i := 3) rfl (vis rfl) rfl ?_))
local macro_rules | `(tactic| walk_at "set") => `(tactic| first | ((with_reducible refine gSn "self" ?_); refine ws_set (i := 0) (by assumption) rfl (by first | exact .inl rfl | exact .inr rfl) ?_) | ((with_reducible refine gSn "cell" ?_); refine ws_set (i := 1) (by assumption) rfl (by first | exact .inl rfl | exact .inr rfl) ?_) | ((with_reducible refine gSn "value" ?_); refine ws_set (i := 2) (by assumption) rfl (by first | exact .inl rfl | exact .inr rfl) ?_) | ((with_reducible refine gSn "body" ?_); refine ws_set (i := 3) (by assumption) rfl (by first | exact .inl rfl | exact .inr rfl) ?_))
theorem ok_While (T : Tx K mg) : FnOk P w K mg base (L2.CX P w) 5 T.f_While_init T.d_While_init ["self", "cell", "value", "body"] (spOf K 1 (sp_While T.C_While T.C_NoName)) := by
  refine fn_ok T.F_While_init sc_While_init (fun xs M R Rx h => by obtain ⟨_, _, _, rfl, _⟩ := h; rfl) (fun cdv A outer s H E B xs M R Rx hr hB h => ?_)
  obtain ⟨a, b, y, rfl, rfl, hR⟩ := h
  have nd := sc_While_init.nd
  repeat walk_at "s"
  refine cq rfl ⟨T.C_While, a, b, rfl, rfl, ⟨T.cl_While, T.n_While_cell, T.n_While_value⟩, ?_⟩
  cases e1 : badNm [a, b] with
  | some z =>
    rw [e1] at hR
    exact ⟨rfl, hR⟩
  | none =>
  rw [e1] at hR
  repeat walk_at "s"
  exact ⟨rfl, hR⟩
end
def sp_Mark (CM CN : Addr) : SpD := fun xs M R Rx => ∃ a, xs = [.cel 0, .dat (.str a)] ∧ M = [.ins CM []] ∧ (match badNm [a] with
  | none => R (.dat .non) [.ins CM [("name", .dat (.str a))]]
  | some z => Rx CN [("name", .str z)] [.ins CM []])
section
local macro_rules | `(tactic| walk_at "v") => `(tactic| first | ((with_reducible refine gNa "self" ?_); refine we_var (i := 0) rfl (vis rfl) rfl ?_) | ((with_reducible refine gNa "name" ?_); refine we_var (i := 1) rfl (vis rfl) rfl ?_))
local macro_rules | `(tactic| walk_at "set") => `(tactic| first | ((with_reducible refine gSn "self" ?_); refine ws_set (i := 0) (by assumption) rfl (by first | exact .inl rfl | exact .inr rfl) ?_) | ((with_reducible refine gSn "name" ?_); refine ws_set (i := 1) (by assumption) rfl (by first | exact .inl rfl | exact .inr rfl) ?_))
theorem ok_Mark (T : Tx K mg) : FnOk P w K mg base (L2.CX P w) 4 T.f_Mark_init T.d_Mark_init ["self", "name"] (spOf K 1 (sp_Mark T.C_Mark T.C_NoName)) := by
  refine fn_ok T.F_Mark_init sc_Mark_init (fun xs M R Rx h => by obtain ⟨_, rfl, _⟩ := h; rfl) (fun cdv A outer s H E B xs M R Rx hr hB h => ?_)
  obtain ⟨a, rfl, rfl, hR⟩ := h
  have nd := sc_Mark_init.nd
  repeat walk_at "s"
  refine we_lst ?_
  repeat walk_at "s"
  refine cq rfl ⟨[a], rfl, rfl, ?_⟩
  cases e1 : badNm [a] with
  | some z =>
    rw [e1] at hR
    exact ⟨rfl, hR⟩
  | none =>
  rw [e1] at hR
  repeat walk_at "s"
  exact ⟨rfl, hR⟩
end
theorem mkr_If (T : Tx K mg) : Mkr P w K mg base "If" T.C_If 5 (sp_If T.C_If T.C_NoName) := ⟨_, _, _, T.mk_If, ok_If T, T.g_If, T.b_If_init⟩
local macro_rules | `(tactic| walk_at "call") => `(tactic| ((with_reducible refine gF "If" ?_); refine we_mkr (mkr_If ‹Tx _ _›) (room ‹Room _ _› (by decide)) rfl ?_))
theorem mkr_While (T : Tx K mg) : Mkr P w K mg base "While" T.C_While 5 (sp_While T.C_While T.C_NoName) := ⟨_, _, _, T.mk_While, ok_While T, T.g_While, T.b_While_init⟩
local macro_rules | `(tactic| walk_at "call") => `(tactic| ((with_reducible refine gF "While" ?_); refine we_mkr (mkr_While ‹Tx _ _›) (room ‹Room _ _› (by decide)) rfl ?_))
theorem mkr_Mark (T : Tx K mg) : Mkr P w K mg base "Mark" T.C_Mark 4 (sp_Mark T.C_Mark T.C_NoName) := ⟨_, _, _, T.mk_Mark, ok_Mark T, T.g_Mark, T.b_Mark_init⟩
local macro_rules | `(tactic| walk_at "call") => `(tactic| ((with_reducible refine gF "Mark" ?_); refine we_mkr (mkr_Mark ‹Tx _ _›) (room ‹Room _ _› (by decide)) rfl ?_))

/-- the classes' places -/
structure TA where
  W : Addr
  T : Addr
  M : Addr
  S : Addr
  O : Addr
  I : Addr
  H : Addr
  C : Addr
  L : Addr
  P : Addr
inductive Stm where
  | write (a b : Str) | wait (a b : Str) | mark (a : Str) | skip | stop
  | iff (a b : Str) (y n : List Stm) | whl (a b : Str) (y : List Stm) | cho (y n : List Stm) | loop (y : List Stm)
def Stm.cls (T : TA) : Stm → Addr
  | .write _ _ => T.W
  | .wait _ _ => T.T
  | .mark _ => T.M
  | .skip => T.S
  | .stop => T.O
  | .iff _ _ _ _ => T.I
  | .whl _ _ _ => T.H
  | .cho _ _ => T.C
  | .loop _ => T.L
mutual
def Stm.fs (T : TA) : Stm → List (Str × D)
  | .write a b => [("cell", .str a), ("value", .str b)]
  | .wait a b => [("cell", .str a), ("value", .str b)]
  | .mark a => [("name", .str a)]
  | .skip => []
  | .stop => []
  | .iff a b y n => [("cell", .str a), ("value", .str b), ("yes", .ins T.P [("row", .tup (stms T y))]), ("no", .ins T.P [("row", .tup (stms T n))])]
  | .whl a b y => [("cell", .str a), ("value", .str b), ("body", .ins T.P [("row", .tup (stms T y))])]
  | .cho y n => [("one", .ins T.P [("row", .tup (stms T y))]), ("other", .ins T.P [("row", .tup (stms T n))])]
  | .loop y => [("body", .ins T.P [("row", .tup (stms T y))])]
def stms (T : TA) : List Stm → List D
  | [] => []
  | s :: r => .ins (s.cls T) (s.fs T) :: stms T r
end
def Stm.d (T : TA) (s : Stm) : D := .ins (s.cls T) (s.fs T)
def prD (T : TA) (r : List Stm) : D := .ins T.P [("row", .tup (stms T r))]
theorem stms_map {T : TA} : ∀ r : List Stm, stms T r = r.map (Stm.d T)
  | [] => by simp [stms]
  | s :: r => by simp only [stms, List.map_cons, Stm.d, stms_map r]
theorem stms_len {T : TA} (r : List Stm) : (stms T r).length = r.length := by rw [stms_map, List.length_map]
def Stm.parts : Stm → List (List Stm)
  | .iff _ _ y n => [y, n]
  | .whl _ _ y => [y]
  | .cho y n => [y, n]
  | .loop y => [y]
  | _ => []
mutual
def Stm.size : Stm → Nat
  | .iff _ _ y n => 1 + (sizes y + sizes n)
  | .whl _ _ y => 1 + sizes y
  | .cho y n => 1 + (sizes y + sizes n)
  | .loop y => 1 + sizes y
  | .write _ _ => 1
  | .wait _ _ => 1
  | .mark _ => 1
  | .skip => 1
  | .stop => 1
def sizes : List Stm → Nat
  | [] => 0
  | s :: r => s.size + sizes r
end
mutual
/-- the depth of the deepest program within -/
def Stm.dp : Stm → Nat
  | .iff _ _ y n => max (1 + dps y) (1 + dps n)
  | .whl _ _ y => 1 + dps y
  | .cho y n => max (1 + dps y) (1 + dps n)
  | .loop y => 1 + dps y
  | .write _ _ => 0
  | .wait _ _ => 0
  | .mark _ => 0
  | .skip => 0
  | .stop => 0
def dps : List Stm → Nat
  | [] => 0
  | s :: r => max s.dp (dps r)
end
theorem sizes_map : ∀ r : List Stm, sizes r = (r.map Stm.size).sum
  | [] => by simp [sizes]
  | s :: r => by simp only [sizes, List.map_cons, List.sum_cons, sizes_map r]
theorem sizes_app (a b : List Stm) : sizes (a ++ b) = sizes a + sizes b := by
  rw [sizes_map, sizes_map, sizes_map, List.map_append, List.sum_append]
theorem size_parts (s : Stm) : s.size = 1 + (s.parts.map sizes).sum := by
  cases s <;> simp [Stm.size, Stm.parts]
theorem dp_parts {s : Stm} {p : List Stm} (h : p ∈ s.parts) : 1 + dps p ≤ s.dp := by
  cases s <;> simp only [Stm.parts, List.mem_cons, List.not_mem_nil, or_false] at h
  · rcases h with rfl | rfl <;> simp only [Stm.dp] <;> omega
  · subst h; simp only [Stm.dp]; omega
  · rcases h with rfl | rfl <;> simp only [Stm.dp] <;> omega
  · subst h; simp only [Stm.dp]; omega
theorem dp_two (y n : List Stm) : ∃ p ∈ [y, n], max (1 + dps y) (1 + dps n) = 1 + dps p := by
  rcases Nat.le_total (1 + dps y) (1 + dps n) with h | h
  · exact ⟨n, by simp, by omega⟩
  · exact ⟨y, by simp, by omega⟩
theorem dp_at : ∀ (s : Stm), s.dp = 0 ∨ ∃ p ∈ s.parts, s.dp = 1 + dps p
  | .iff _ _ y n => .inr (by simp only [Stm.dp, Stm.parts]; exact dp_two y n)
  | .cho y n => .inr (by simp only [Stm.dp, Stm.parts]; exact dp_two y n)
  | .whl _ _ y => .inr ⟨y, List.mem_cons_self .., by simp only [Stm.dp]⟩
  | .loop y => .inr ⟨y, List.mem_cons_self .., by simp only [Stm.dp]⟩
  | .write _ _ => .inl (by simp only [Stm.dp])
  | .wait _ _ => .inl (by simp only [Stm.dp])
  | .mark _ => .inl (by simp only [Stm.dp])
  | .skip => .inl (by simp only [Stm.dp])
  | .stop => .inl (by simp only [Stm.dp])
theorem dps_mem : ∀ {r : List Stm} {s : Stm}, s ∈ r → s.dp ≤ dps r
  | x :: r, s, h => by
    rcases List.mem_cons.mp h with rfl | h
    · simp only [dps]; omega
    · have := dps_mem h
      simp only [dps]; omega
theorem dps_app : ∀ a b : List Stm, dps (a ++ b) = max (dps a) (dps b)
  | [], b => by simp [dps]
  | x :: a, b => by
    show dps (x :: (a ++ b)) = _
    simp only [dps, dps_app a b]
    omega
theorem parts_len (s : Stm) : s.parts.length ≤ 2 := by cases s <;> simp [Stm.parts]
def Tx.ta (T : Tx K mg) : TA := ⟨T.C_Write, T.C_Wait, T.C_Mark, T.C_Skip, T.C_Stop, T.C_If, T.C_While, T.C_Choose, T.C_Loop, T.C_Program⟩

def sp_parts (T : TA) (s : Stm) : SpD := fun xs M R _ => xs = [.dat (s.d T)] ∧ M = [] ∧ R (.dat (.lst (s.parts.map (prD T)))) []
section
local macro_rules | `(tactic| walk_at "v") => `(tactic| first | ((with_reducible refine gNa "self" ?_); refine we_var (i := 0) rfl (vis rfl) rfl ?_))
local macro_rules | `(tactic| walk_at "set") => `(tactic| first | ((with_reducible refine gSn "self" ?_); refine ws_set (i := 0) (by assumption) rfl (by first | exact .inl rfl | exact .inr rfl) ?_))
theorem ok_Statement_parts (T : Tx K mg) (s : Stm) (h : s.parts = []) : FnOk P w K mg base (L2.CX P w) 1 T.f_Statement_parts T.d_Statement_parts ["self"] (spOf K 0 (sp_parts T.ta s)) := by
  refine fn_ok T.F_Statement_parts sc_Statement_parts (fun xs M R Rx h => by obtain ⟨rfl, _⟩ := h; rfl) (fun cdv A outer s H E B xs M R Rx hr hB h => ?_)
  obtain ⟨rfl, rfl, hR⟩ := h
  have nd := sc_Statement_parts.nd
  rw [h] at hR
  repeat walk_at "s"
  refine we_lst ?_
  repeat walk_at "s"
  exact ⟨rfl, hR⟩
end
section
local macro_rules | `(tactic| walk_at "v") => `(tactic| first | ((with_reducible refine gNa "self" ?_); refine we_var (i := 0) rfl (vis rfl) rfl ?_))
local macro_rules | `(tactic| walk_at "set") => `(tactic| first | ((with_reducible refine gSn "self" ?_); refine ws_set (i := 0) (by assumption) rfl (by first | exact .inl rfl | exact .inr rfl) ?_))
theorem ok_If_parts (T : Tx K mg) (a b : Str) (y n : List Stm) : FnOk P w K mg base (L2.CX P w) 1 T.f_If_parts T.d_If_parts ["self"] (spOf K 0 (sp_parts T.ta (.iff a b y n))) := by
  refine fn_ok T.F_If_parts sc_If_parts (fun xs M R Rx h => by obtain ⟨rfl, _⟩ := h; rfl) (fun cdv A outer s H E B xs M R Rx hr hB h => ?_)
  obtain ⟨rfl, rfl, hR⟩ := h
  have nd := sc_If_parts.nd
  repeat walk_at "s"
  refine we_lst ?_
  repeat walk_at "s"
  exact ⟨rfl, hR⟩
end
section
local macro_rules | `(tactic| walk_at "v") => `(tactic| first | ((with_reducible refine gNa "self" ?_); refine we_var (i := 0) rfl (vis rfl) rfl ?_))
local macro_rules | `(tactic| walk_at "set") => `(tactic| first | ((with_reducible refine gSn "self" ?_); refine ws_set (i := 0) (by assumption) rfl (by first | exact .inl rfl | exact .inr rfl) ?_))
theorem ok_While_parts (T : Tx K mg) (a b : Str) (y : List Stm) : FnOk P w K mg base (L2.CX P w) 1 T.f_While_parts T.d_While_parts ["self"] (spOf K 0 (sp_parts T.ta (.whl a b y))) := by
  refine fn_ok T.F_While_parts sc_While_parts (fun xs M R Rx h => by obtain ⟨rfl, _⟩ := h; rfl) (fun cdv A outer s H E B xs M R Rx hr hB h => ?_)
  obtain ⟨rfl, rfl, hR⟩ := h
  have nd := sc_While_parts.nd
  repeat walk_at "s"
  refine we_lst ?_
  repeat walk_at "s"
  exact ⟨rfl, hR⟩
end
section
local macro_rules | `(tactic| walk_at "v") => `(tactic| first | ((with_reducible refine gNa "self" ?_); refine we_var (i := 0) rfl (vis rfl) rfl ?_))
local macro_rules | `(tactic| walk_at "set") => `(tactic| first | ((with_reducible refine gSn "self" ?_); refine ws_set (i := 0) (by assumption) rfl (by first | exact .inl rfl | exact .inr rfl) ?_))
theorem ok_Choose_parts (T : Tx K mg) (y n : List Stm) : FnOk P w K mg base (L2.CX P w) 1 T.f_Choose_parts T.d_Choose_parts ["self"] (spOf K 0 (sp_parts T.ta (.cho y n))) := by
  refine fn_ok T.F_Choose_parts sc_Choose_parts (fun xs M R Rx h => by obtain ⟨rfl, _⟩ := h; rfl) (fun cdv A outer s H E B xs M R Rx hr hB h => ?_)
  obtain ⟨rfl, rfl, hR⟩ := h
  have nd := sc_Choose_parts.nd
  repeat walk_at "s"
  refine we_lst ?_
  repeat walk_at "s"
  exact ⟨rfl, hR⟩
end
section
local macro_rules | `(tactic| walk_at "v") => `(tactic| first | ((with_reducible refine gNa "self" ?_); refine we_var (i := 0) rfl (vis rfl) rfl ?_))
local macro_rules | `(tactic| walk_at "set") => `(tactic| first | ((with_reducible refine gSn "self" ?_); refine ws_set (i := 0) (by assumption) rfl (by first | exact .inl rfl | exact .inr rfl) ?_))
theorem ok_Loop_parts (T : Tx K mg) (y : List Stm) : FnOk P w K mg base (L2.CX P w) 1 T.f_Loop_parts T.d_Loop_parts ["self"] (spOf K 0 (sp_parts T.ta (.loop y))) := by
  refine fn_ok T.F_Loop_parts sc_Loop_parts (fun xs M R Rx h => by obtain ⟨rfl, _⟩ := h; rfl) (fun cdv A outer s H E B xs M R Rx hr hB h => ?_)
  obtain ⟨rfl, rfl, hR⟩ := h
  have nd := sc_Loop_parts.nd
  repeat walk_at "s"
  refine we_lst ?_
  repeat walk_at "s"
  exact ⟨rfl, hR⟩
end
theorem mtd_parts (T : Tx K mg) (s : Stm) : Mtd P w K mg base (s.cls T.ta) "parts" 1 0 (sp_parts T.ta s) := by
  cases s with
  | write a b => exact ⟨_, _, _, T.cl_Write, T.m_Write_parts, ok_Statement_parts T _ rfl, T.b_Statement_parts⟩
  | wait a b => exact ⟨_, _, _, T.cl_Wait, T.m_Wait_parts, ok_Statement_parts T _ rfl, T.b_Statement_parts⟩
  | mark a => exact ⟨_, _, _, T.cl_Mark, T.m_Mark_parts, ok_Statement_parts T _ rfl, T.b_Statement_parts⟩
  | skip => exact ⟨_, _, _, T.cl_Skip, T.m_Skip_parts, ok_Statement_parts T _ rfl, T.b_Statement_parts⟩
  | stop => exact ⟨_, _, _, T.cl_Stop, T.m_Stop_parts, ok_Statement_parts T _ rfl, T.b_Statement_parts⟩
  | iff a b y n => exact ⟨_, _, _, T.cl_If, T.m_If_parts, ok_If_parts T a b y n, T.b_If_parts⟩
  | whl a b y => exact ⟨_, _, _, T.cl_While, T.m_While_parts, ok_While_parts T a b y, T.b_While_parts⟩
  | cho y n => exact ⟨_, _, _, T.cl_Choose, T.m_Choose_parts, ok_Choose_parts T y n, T.b_Choose_parts⟩
  | loop y => exact ⟨_, _, _, T.cl_Loop, T.m_Loop_parts, ok_Loop_parts T y, T.b_Loop_parts⟩

theorem ok_BadCount_init (T : Tx K mg) : FnOk P w K mg base CX0 1 T.f_BadCount_init T.d_BadCount_init ["self", "what", "count"] (spX2 K "what" "count") := by
  refine T.F_BadCount_init.ok sc_BadCount_init (fun vs H Q E h => by obtain ⟨a, C, v, u, rfl, _⟩ := h; rfl) (fun cdv A outer s H vs Q E hr h => ?_)
  obtain ⟨a, C, v, u, rfl, hC, hf, ha, k⟩ := h
  refine ⟨_, pss_cons (ps_ost (pv 0) (pv 1)) (pss_one (ps_ost (pv 0) (pv 2))), v, rfl, .ref a, rfl, a, C, rfl, hC, hf.1, .inl ⟨ha, fun dx h1 h2 => ?_⟩⟩
  refine ⟨u, rfl, .ref a, rfl, a, C, rfl, hC, hf.2, .inr ⟨dx, [("what", v)], upd_same, ?_, (by show 1 ≤ 900; decide), k dx h1 h2⟩⟩
  rw [upd_ne h2]
  exact upd_same
theorem rai_BadCount (T : Tx K mg) : Rai2 P w K mg base "BadCount" T.C_BadCount "what" "count" := ⟨_, _, _, _, ⟨T.o_BadCount, T.g_BadCount, T.i_BadCount, T.t_BadCount⟩, ⟨T.n_BadCount_what, T.n_BadCount_count⟩, ok_BadCount_init T, T.b_BadCount_init⟩
local macro_rules | `(tactic| walk_at "raise") => `(tactic| ((with_reducible refine gRa "BadCount" ?_); refine ws_rai2 (x := "BadCount") (C := (‹Tx _ _›).C_BadCount) (f := "what") (g := "count") ?_ ?_ rfl rfl ?_; exact rai_BadCount ‹Tx _ _›; exact room ‹Room _ _› (by decide)))
def bcD (w : Str) (n : Int) : List (Str × D) := [("count", .int n), ("what", .str w)]
def sp_asize (CB : Addr) : SpD := fun xs M R Rx => ∃ a b : Int, xs = [.dat (.int a), .dat (.int b)] ∧ M = [] ∧ (24 < a → Rx CB (bcD "statements" a) []) ∧ (a ≤ 24 → 6 < b → Rx CB (bcD "depth" b) []) ∧ (a ≤ 24 → b ≤ 6 → R (.dat .non) [])
section
local macro_rules | `(tactic| walk_at "v") => `(tactic| first | ((with_reducible refine gNa "size" ?_); refine we_var (i := 0) rfl (vis rfl) rfl ?_) | ((with_reducible refine gNa "deep" ?_); refine we_var (i := 1) rfl (vis rfl) rfl ?_))
local macro_rules | `(tactic| walk_at "set") => `(tactic| first | ((with_reducible refine gSn "size" ?_); refine ws_set (i := 0) (by assumption) rfl (by first | exact .inl rfl | exact .inr rfl) ?_) | ((with_reducible refine gSn "deep" ?_); refine ws_set (i := 1) (by assumption) rfl (by first | exact .inl rfl | exact .inr rfl) ?_))
theorem ok_asize (T : Tx K mg) : FnOk P w K mg base (L2.CX P w) 3 T.f_asked_size T.d_asked_size ["size", "deep"] (spOf K 0 (sp_asize T.C_BadCount)) := by
  refine fn_ok T.F_asked_size sc_asked_size (fun xs M R Rx h => by obtain ⟨_, _, rfl, _⟩ := h; rfl) (fun cdv A outer s H E B xs M R Rx hr hB h => ?_)
  obtain ⟨a, b, rfl, rfl, h1, h2, h3⟩ := h
  have nd := sc_asked_size.nd
  repeat walk_at "s"
  refine ite_b (fun c => ?_) (fun c => ?_)
  · repeat walk_at "s"
    exact h1 c
  repeat walk_at "s"
  refine ite_b (fun c2 => ?_) (fun c2 => ?_)
  · repeat walk_at "s"
    exact h2 (by omega) c2
  repeat walk_at "s"
  exact ⟨rfl, h3 (by omega) (by omega)⟩
end
theorem cal_asize (T : Tx K mg) : Cal P w K mg base "asked_size" 3 0 (sp_asize T.C_BadCount) := ⟨_, _, _, ok_asize T, T.g_asked_size, T.F_asked_size.kp, T.b_asked_size⟩
local macro_rules | `(tactic| walk_at "call") => `(tactic| ((with_reducible refine gF "asked_size" ?_); refine we_own (k := 3) (n := 0) (S := (sp_asize (‹Tx _ _›).C_BadCount)) ?_ ?_ rfl ?_; exact cal_asize ‹Tx _ _›; exact room ‹Room _ _› (by decide)))
theorem sum_ints (l : List Nat) : (l.map fun (n : Nat) => (n : Int)).sum = (l.sum : Nat) := by
  induction l with
  | nil => rfl
  | cons x l ih => simp only [List.map_cons, List.sum_cons, ih]; omega
def sp_Ssize (T : TA) (s : Stm) : SpD := fun xs M R _ => xs = [.dat (s.d T)] ∧ M = [] ∧ R (.dat (.int s.size)) []
def pCel (T : TA) (r : List Stm) : Cell := .ins T.P [("row", .dat (.tup (stms T r)))]
def sp_Psize (T : TA) (r : List Stm) : SpD := fun xs M R _ => xs = [.dat (prD T r)] ∧ M = [] ∧ R (.dat (.int (sizes r))) []
def sp_PsizeC (T : TA) (r : List Stm) : SpD := fun xs M R _ => xs = [.cel 0] ∧ M = [pCel T r] ∧ R (.dat (.int (sizes r))) [pCel T r]
def sp_Pdeep (T : TA) (r : List Stm) : SpD := fun xs M R _ => xs = [.dat (prD T r)] ∧ M = [] ∧ R (.dat (.int (1 + dps r : Nat))) []
def sp_PdeepC (T : TA) (r : List Stm) : SpD := fun xs M R _ => xs = [.cel 0] ∧ M = [pCel T r] ∧ R (.dat (.int (1 + dps r : Nat))) [pCel T r]
/-- the bounds that the calls need -/
def SmallR (r : List Stm) : Prop := r.length ≤ 1000
mutual
def Stm.small : Stm → Bool
  | .iff _ _ y n => smalls y && smalls n && decide (y.length ≤ 1000) && decide (n.length ≤ 1000)
  | .whl _ _ y => smalls y && decide (y.length ≤ 1000)
  | .cho y n => smalls y && smalls n && decide (y.length ≤ 1000) && decide (n.length ≤ 1000)
  | .loop y => smalls y && decide (y.length ≤ 1000)
  | .write _ _ => true
  | .wait _ _ => true
  | .mark _ => true
  | .skip => true
  | .stop => true
def smalls : List Stm → Bool
  | [] => true
  | s :: r => s.small && smalls r
end
/-- a row whose lengths are bounded, within too -/
def RowOk (r : List Stm) : Prop := smalls r = true ∧ r.length ≤ 1000
theorem smalls_mem : ∀ {r : List Stm} {s : Stm}, smalls r = true → s ∈ r → s.small = true
  | x :: r, s, h, m => by
    simp only [smalls, Bool.and_eq_true] at h
    rcases List.mem_cons.mp m with rfl | m
    · exact h.1
    · exact smalls_mem h.2 m
theorem smalls_app : ∀ {a b : List Stm}, smalls a = true → smalls b = true → smalls (a ++ b) = true
  | [], b, _, h => h
  | x :: a, b, h1, h2 => by
    simp only [smalls, Bool.and_eq_true] at h1
    show smalls (x :: (a ++ b)) = true
    simp only [smalls, Bool.and_eq_true]
    exact ⟨h1.1, smalls_app h1.2 h2⟩
theorem small_parts {s : Stm} {p : List Stm} (h : s.small = true) (m : p ∈ s.parts) : RowOk p := by
  cases s <;> simp only [Stm.parts, List.mem_cons, List.not_mem_nil, or_false] at m <;> simp only [Stm.small, Bool.and_eq_true, decide_eq_true_eq] at h
  · rcases m with rfl | rfl
    · exact ⟨h.1.1.1, h.1.2⟩
    · exact ⟨h.1.1.2, h.2⟩
  · subst m; exact ⟨h.1, h.2⟩
  · rcases m with rfl | rfl
    · exact ⟨h.1.1.1, h.1.2⟩
    · exact ⟨h.1.1.2, h.2⟩
  · subst m; exact ⟨h.1, h.2⟩
section
local macro_rules | `(tactic| walk_at "v") => `(tactic| first | ((with_reducible refine gNa "self" ?_); refine we_var (i := 0) rfl (vis rfl) rfl ?_) | ((with_reducible refine gNa "part" ?_); refine we_var (i := 1) rfl (vis rfl) rfl ?_))
local macro_rules | `(tactic| walk_at "set") => `(tactic| first | ((with_reducible refine gSn "self" ?_); refine ws_set (i := 0) (by assumption) rfl (by first | exact .inl rfl | exact .inr rfl) ?_) | ((with_reducible refine gSn "part" ?_); refine ws_set (i := 1) (by assumption) rfl (by first | exact .inl rfl | exact .inr rfl) ?_))
theorem ok_Ssize (T : Tx K mg) (j : Nat) (s : Stm) (ih : ∀ p ∈ s.parts, Mtd P w K mg base T.C_Program "size" (j + 1) 0 (sp_Psize T.ta p)) : FnOk P w K mg base (L2.CX P w) (j + 2) T.f_Statement_size T.d_Statement_size ["self"] (spOf K 0 (sp_Ssize T.ta s)) := by
  refine fn_ok T.F_Statement_size sc_Statement_size (fun xs M R Rx h => by obtain ⟨rfl, _⟩ := h; rfl) (fun cdv A outer sh H E B xs M R Rx hr hB h => ?_)
  obtain ⟨rfl, rfl, hR⟩ := h
  have nd := sc_Statement_size.nd
  repeat walk_at "s"
  refine we_lc1 (j := 1) rfl nd (blkOk_by rfl) rfl (fun _ _ _ _ _ => .inl rfl) (by decide) (wi_list ?_)
  refine we_mtd0 (mtd_parts T s) (room hr (by omega)) ?_
  walk_at "s"
  refine ⟨by cases s <;> exact ⟨rfl, rfl⟩, cq rfl ⟨rfl, rfl, ?_⟩⟩
  refine ⟨_, rfl, ?_⟩
  refine lcq_mapA (fun p => .int (sizes p)) (size_ge (by have := parts_len s; omega)) ?_ ?_
  · intro i p hp sh H C cl fp B hB
    refine we_mtd0 (ih p (List.mem_of_getElem? hp)) (room hr (by omega)) ?_
    walk_at "s"
    refine ⟨⟨rfl, rfl⟩, cq rfl ⟨rfl, rfl, ?_⟩⟩
    exact ⟨rfl, rfl⟩
  · repeat walk_at "s"
    refine ⟨s.parts.map fun p => ((sizes p : Nat) : Int), by rw [List.map_map]; rfl, ?_⟩
    repeat walk_at "s"
    have : 1 + (s.parts.map fun p => ((sizes p : Nat) : Int)).sum = (s.size : Nat) := by
      rw [size_parts s]
      have := sum_ints (s.parts.map sizes)
      rw [List.map_map] at this
      have h2 : (s.parts.map fun p => ((sizes p : Nat) : Int)).sum = ((s.parts.map sizes).sum : Nat) := this
      rw [h2]
      omega
    rw [← this] at hR
    exact ⟨rfl, hR⟩
end
section
local macro_rules | `(tactic| walk_at "v") => `(tactic| first | ((with_reducible refine gNa "self" ?_); refine we_var (i := 0) rfl (vis rfl) rfl ?_) | ((with_reducible refine gNa "statement" ?_); refine we_var (i := 1) rfl (vis rfl) rfl ?_))
local macro_rules | `(tactic| walk_at "set") => `(tactic| first | ((with_reducible refine gSn "self" ?_); refine ws_set (i := 0) (by assumption) rfl (by first | exact .inl rfl | exact .inr rfl) ?_) | ((with_reducible refine gSn "statement" ?_); refine ws_set (i := 1) (by assumption) rfl (by first | exact .inl rfl | exact .inr rfl) ?_))
theorem ok_Psize (T : Tx K mg) (j : Nat) (r : List Stm) (hl : r.length ≤ 1000) (ih : ∀ s ∈ r, Mtd P w K mg base (s.cls T.ta) "size" (j + 1) 0 (sp_Ssize T.ta s)) : FnOk P w K mg base (L2.CX P w) (j + 2) T.f_Program_size T.d_Program_size ["self"] (spOf K 0 (sp_Psize T.ta r)) := by
  refine fn_ok T.F_Program_size sc_Program_size (fun xs M R Rx h => by obtain ⟨rfl, _⟩ := h; rfl) (fun cdv A outer sh H E B xs M R Rx hr hB h => ?_)
  obtain ⟨rfl, rfl, hR⟩ := h
  have nd := sc_Program_size.nd
  repeat walk_at "s"
  refine we_lc1 (j := 1) rfl nd (blkOk_by rfl) rfl (fun _ _ _ _ _ => .inl rfl) (by decide) (wi_tup ?_)
  repeat walk_at "s"
  rw [stms_map]
  refine lcq_mapA (fun s => .int (Stm.size s)) (size_ge (by omega)) ?_ ?_
  · intro i s hs sh H C cl fp B hB
    refine we_mtd0 (ih s (List.mem_of_getElem? hs)) (room hr (by omega)) ?_
    walk_at "s"
    refine ⟨by cases s <;> exact ⟨rfl, rfl⟩, cq rfl ⟨rfl, rfl, ?_⟩⟩
    exact ⟨rfl, rfl⟩
  · repeat walk_at "s"
    refine ⟨r.map fun s => ((Stm.size s : Nat) : Int), by rw [List.map_map]; rfl, ?_⟩
    have : (r.map fun s => ((Stm.size s : Nat) : Int)).sum = (sizes r : Nat) := by
      rw [sizes_map r]
      have := sum_ints (r.map Stm.size)
      rw [List.map_map] at this
      exact this
    rw [← this] at hR
    exact ⟨rfl, hR⟩
end
section
local macro_rules | `(tactic| walk_at "v") => `(tactic| first | ((with_reducible refine gNa "self" ?_); refine we_var (i := 0) rfl (vis rfl) rfl ?_) | ((with_reducible refine gNa "statement" ?_); refine we_var (i := 1) rfl (vis rfl) rfl ?_))
local macro_rules | `(tactic| walk_at "set") => `(tactic| first | ((with_reducible refine gSn "self" ?_); refine ws_set (i := 0) (by assumption) rfl (by first | exact .inl rfl | exact .inr rfl) ?_) | ((with_reducible refine gSn "statement" ?_); refine ws_set (i := 1) (by assumption) rfl (by first | exact .inl rfl | exact .inr rfl) ?_))
theorem ok_PsizeC (T : Tx K mg) (j : Nat) (r : List Stm) (hl : r.length ≤ 1000) (ih : ∀ s ∈ r, Mtd P w K mg base (s.cls T.ta) "size" (j + 1) 0 (sp_Ssize T.ta s)) : FnOk P w K mg base (L2.CX P w) (j + 2) T.f_Program_size T.d_Program_size ["self"] (spOf K 1 (sp_PsizeC T.ta r)) := by
  refine fn_ok T.F_Program_size sc_Program_size (fun xs M R Rx h => by obtain ⟨rfl, _⟩ := h; rfl) (fun cdv A outer sh H E B xs M R Rx hr hB h => ?_)
  obtain ⟨rfl, rfl, hR⟩ := h
  have nd := sc_Program_size.nd
  repeat walk_at "s"
  refine we_lc1 (j := 1) rfl nd (blkOk_by rfl) rfl (fun _ _ _ _ _ => .inl rfl) (by decide) (wi_tup ?_)
  repeat walk_at "s"
  rw [stms_map]
  refine lcq_mapA (fun s => .int (Stm.size s)) (size_ge (by omega)) ?_ ?_
  · intro i s hs sh H C cl fp B hB
    refine we_mtd0 (ih s (List.mem_of_getElem? hs)) (room hr (by omega)) ?_
    walk_at "s"
    refine ⟨by cases s <;> exact ⟨rfl, rfl⟩, cq rfl ⟨rfl, rfl, ?_⟩⟩
    exact ⟨rfl, rfl⟩
  · repeat walk_at "s"
    refine ⟨r.map fun s => ((Stm.size s : Nat) : Int), by rw [List.map_map]; rfl, ?_⟩
    have : (r.map fun s => ((Stm.size s : Nat) : Int)).sum = (sizes r : Nat) := by
      rw [sizes_map r]
      have := sum_ints (r.map Stm.size)
      rw [List.map_map] at this
      exact this
    rw [← this] at hR
    exact ⟨rfl, hR⟩
end
theorem mtd_size_both (T : Tx K mg) : ∀ k : Nat, (∀ s : Stm, s.dp ≤ k → s.small = true → Mtd P w K mg base (s.cls T.ta) "size" (2 * k + 2) 0 (sp_Ssize T.ta s)) ∧ (∀ r : List Stm, dps r ≤ k → RowOk r → Mtd P w K mg base T.C_Program "size" (2 * k + 3) 0 (sp_Psize T.ta r)) := by
  intro k
  have stp : (∀ s : Stm, s.dp ≤ k → s.small = true → Mtd P w K mg base (s.cls T.ta) "size" (2 * k + 2) 0 (sp_Ssize T.ta s)) → (∀ r : List Stm, dps r ≤ k → RowOk r → Mtd P w K mg base T.C_Program "size" (2 * k + 3) 0 (sp_Psize T.ta r)) := by
    intro h r hr ok
    exact ⟨_, _, _, T.cl_Program, T.m_Program_size, ok_Psize T (2 * k + 1) r ok.2 (fun s m => h s (Nat.le_trans (dps_mem m) hr) (smalls_mem ok.1 m)), T.b_Program_size⟩
  have fin : ∀ s : Stm, (∀ p ∈ s.parts, Mtd P w K mg base T.C_Program "size" (2 * k + 1) 0 (sp_Psize T.ta p)) → Mtd P w K mg base (s.cls T.ta) "size" (2 * k + 2) 0 (sp_Ssize T.ta s) := by
    intro s h
    have F := ok_Ssize (P := P) (w := w) (base := base) T (2 * k) s h
    cases s with
    | write a b => exact ⟨_, _, _, T.cl_Write, T.m_Write_size, F, T.b_Statement_size⟩
    | wait a b => exact ⟨_, _, _, T.cl_Wait, T.m_Wait_size, F, T.b_Statement_size⟩
    | mark a => exact ⟨_, _, _, T.cl_Mark, T.m_Mark_size, F, T.b_Statement_size⟩
    | skip => exact ⟨_, _, _, T.cl_Skip, T.m_Skip_size, F, T.b_Statement_size⟩
    | stop => exact ⟨_, _, _, T.cl_Stop, T.m_Stop_size, F, T.b_Statement_size⟩
    | iff a b y n => exact ⟨_, _, _, T.cl_If, T.m_If_size, F, T.b_Statement_size⟩
    | whl a b y => exact ⟨_, _, _, T.cl_While, T.m_While_size, F, T.b_Statement_size⟩
    | cho y n => exact ⟨_, _, _, T.cl_Choose, T.m_Choose_size, F, T.b_Statement_size⟩
    | loop y => exact ⟨_, _, _, T.cl_Loop, T.m_Loop_size, F, T.b_Statement_size⟩
  induction k with
  | zero =>
    have a : ∀ s : Stm, s.dp ≤ 0 → s.small = true → Mtd P w K mg base (s.cls T.ta) "size" (2 * 0 + 2) 0 (sp_Ssize T.ta s) := fun s h _ => fin s fun p m => by
      have := dp_parts m
      omega
    exact ⟨a, stp a⟩
  | succ k ih =>
    have ih2 := (ih (fun h r hr ok => ⟨_, _, _, T.cl_Program, T.m_Program_size, ok_Psize T (2 * k + 1) r ok.2 (fun s m => h s (Nat.le_trans (dps_mem m) hr) (smalls_mem ok.1 m)), T.b_Program_size⟩) (fun s h => by
      have F := ok_Ssize (P := P) (w := w) (base := base) T (2 * k) s h
      cases s with
      | write a b => exact ⟨_, _, _, T.cl_Write, T.m_Write_size, F, T.b_Statement_size⟩
      | wait a b => exact ⟨_, _, _, T.cl_Wait, T.m_Wait_size, F, T.b_Statement_size⟩
      | mark a => exact ⟨_, _, _, T.cl_Mark, T.m_Mark_size, F, T.b_Statement_size⟩
      | skip => exact ⟨_, _, _, T.cl_Skip, T.m_Skip_size, F, T.b_Statement_size⟩
      | stop => exact ⟨_, _, _, T.cl_Stop, T.m_Stop_size, F, T.b_Statement_size⟩
      | iff a b y n => exact ⟨_, _, _, T.cl_If, T.m_If_size, F, T.b_Statement_size⟩
      | whl a b y => exact ⟨_, _, _, T.cl_While, T.m_While_size, F, T.b_Statement_size⟩
      | cho y n => exact ⟨_, _, _, T.cl_Choose, T.m_Choose_size, F, T.b_Statement_size⟩
      | loop y => exact ⟨_, _, _, T.cl_Loop, T.m_Loop_size, F, T.b_Statement_size⟩)).2
    have a : ∀ s : Stm, s.dp ≤ k + 1 → s.small = true → Mtd P w K mg base (s.cls T.ta) "size" (2 * (k + 1) + 2) 0 (sp_Ssize T.ta s) := fun s h hs => fin s fun p m => ih2 p (by have := dp_parts m; omega) (small_parts hs m)
    exact ⟨a, stp a⟩

theorem dps_nil : dps [] = 0 := by simp [dps]
theorem dps_take {r : List Stm} {i : Nat} {s : Stm} (h : r[i]? = some s) : dps (r.take (i + 1)) = max (dps (r.take i)) s.dp := by
  have e : r.take (i + 1) = r.take i ++ [s] := by
    have := map_take_succ id h
    simpa using this.symm
  rw [e, dps_app]
  simp [dps]
theorem deep_max {s : Stm} {f : Nat} {m : Int} (h1 : m ∈ (f : Int) :: s.parts.map fun p => ((1 + dps p : Nat) : Int)) (h2 : ∀ y, y ∈ (f : Int) :: (s.parts.map fun p => ((1 + dps p : Nat) : Int)) → y ≤ m) : m = ((max f s.dp : Nat) : Int) := by
  have a := h2 _ (List.mem_cons_self ..)
  have b : ∀ p ∈ s.parts, ((1 + dps p : Nat) : Int) ≤ m := fun p hp => h2 _ (List.mem_cons_of_mem _ (List.mem_map_of_mem (f := fun p => ((1 + dps p : Nat) : Int)) hp))
  have up : m ≤ ((max f s.dp : Nat) : Int) := by
    rcases List.mem_cons.mp h1 with e | e
    · rw [e]; omega
    · obtain ⟨p, hp, e⟩ := List.mem_map.mp e
      have := dp_parts hp
      omega
  have lo : ((s.dp : Nat) : Int) ≤ m := by
    rcases dp_at s with e | ⟨p, hp, e⟩
    · rw [e]; omega
    · rw [e]; exact b p hp
  omega
section
local macro_rules | `(tactic| walk_at "v") => `(tactic| first | ((with_reducible refine gNa "self" ?_); refine we_var (i := 0) rfl (vis rfl) rfl ?_) | ((with_reducible refine gNa "found" ?_); refine we_var (i := 1) rfl (vis rfl) rfl ?_) | ((with_reducible refine gNa "statement" ?_); refine we_var (i := 2) rfl (vis rfl) rfl ?_) | ((with_reducible refine gNa "part" ?_); refine we_var (i := 3) rfl (vis rfl) rfl ?_))
local macro_rules | `(tactic| walk_at "set") => `(tactic| first | ((with_reducible refine gSn "self" ?_); refine ws_set (i := 0) (by assumption) rfl (by first | exact .inl rfl | exact .inr rfl) ?_) | ((with_reducible refine gSn "found" ?_); refine ws_set (i := 1) (by assumption) rfl (by first | exact .inl rfl | exact .inr rfl) ?_) | ((with_reducible refine gSn "statement" ?_); refine ws_set (i := 2) (by assumption) rfl (by first | exact .inl rfl | exact .inr rfl) ?_) | ((with_reducible refine gSn "part" ?_); refine ws_set (i := 3) (by assumption) rfl (by first | exact .inl rfl | exact .inr rfl) ?_))
theorem ok_Pdeep (T : Tx K mg) (j : Nat) (r : List Stm) (hl : r.length ≤ 1000) (ih : ∀ s ∈ r, ∀ p ∈ s.parts, Mtd P w K mg base T.C_Program "deep" (j + 1) 0 (sp_Pdeep T.ta p)) : FnOk P w K mg base (L2.CX P w) (j + 2) T.f_Program_deep T.d_Program_deep ["self"] (spOf K 0 (sp_Pdeep T.ta r)) := by
  refine fn_ok T.F_Program_deep sc_Program_deep (fun xs M R Rx h => by obtain ⟨rfl, _⟩ := h; rfl) (fun cdv A outer sh H E B xs M R Rx hr hB h => ?_)
  obtain ⟨rfl, rfl, hR⟩ := h
  have nd := sc_Program_deep.nd
  repeat walk_at "s"
  refine ws_for rfl (wi_tup ?_)
  repeat walk_at "s"
  rw [stms_map]
  refine ⟨fun i ss M => (∃ o1 o2, ss = [some (.dat (prD T.ta r)), some (.dat (.int (dps (r.take i) : Nat))), o1, o2]) ∧ M = [], ⟨⟨none, none, by rw [List.take_zero, dps_nil]; rfl⟩, rfl⟩, ?_, ?_⟩
  · rintro i d ss M hd ⟨⟨o1, o2, rfl⟩, rfl⟩
    obtain ⟨s, hs, rfl⟩ := map_get hd
    refine wg_name (i := 2) nd rfl (.inl rfl) ?_
    repeat walk_at "s"
    refine we_lst ?_
    repeat walk_at "s"
    refine we_lc1 (j := 3) rfl nd (blkOk_by rfl) rfl (fun _ _ _ _ _ => .inl rfl) (by decide) (wi_list ?_)
    refine we_mtd0 (mtd_parts T s) (room hr (by omega)) ?_
    walk_at "s"
    refine ⟨by cases s <;> exact ⟨rfl, rfl⟩, cq rfl ⟨rfl, rfl, ?_⟩⟩
    refine ⟨_, rfl, ?_⟩
    refine lcq_mapA (fun p => .int (1 + dps p : Nat)) (size_ge (by have := parts_len s; omega)) ?_ ?_
    · intro i p hp sh H C cl fp B hB
      refine we_mtd0 (ih s (List.mem_of_getElem? hs) p (List.mem_of_getElem? hp)) (room hr (by omega)) ?_
      walk_at "s"
      refine ⟨⟨rfl, rfl⟩, cq rfl ⟨rfl, rfl, ?_⟩⟩
      exact ⟨rfl, rfl⟩
    · repeat walk_at "s"
      refine addL (size_ge (by rw [List.length_map]; have := parts_len s; show 1 + _ ≤ _; omega)) ?_
      repeat walk_at "s"
      refine ⟨((dps (r.take i) : Nat) : Int) :: s.parts.map fun p => ((1 + dps p : Nat) : Int), by rw [List.map_cons, List.map_map]; rfl, Nat.succ_pos _, fun m h1 h2 => ?_⟩
      have em := deep_max h1 h2
      subst em
      repeat walk_at "s"
      rw [← dps_take hs]
      exact ⟨⟨_, _, rfl⟩, rfl⟩
  · rintro ss M ⟨⟨o1, o2, rfl⟩, rfl⟩
    rw [List.length_map, List.take_length]
    repeat walk_at "s"
    have : (1 : Int) + ((dps r : Nat) : Int) = ((1 + dps r : Nat) : Int) := by omega
    rw [this]
    exact ⟨rfl, hR⟩
end
section
local macro_rules | `(tactic| walk_at "v") => `(tactic| first | ((with_reducible refine gNa "self" ?_); refine we_var (i := 0) rfl (vis rfl) rfl ?_) | ((with_reducible refine gNa "found" ?_); refine we_var (i := 1) rfl (vis rfl) rfl ?_) | ((with_reducible refine gNa "statement" ?_); refine we_var (i := 2) rfl (vis rfl) rfl ?_) | ((with_reducible refine gNa "part" ?_); refine we_var (i := 3) rfl (vis rfl) rfl ?_))
local macro_rules | `(tactic| walk_at "set") => `(tactic| first | ((with_reducible refine gSn "self" ?_); refine ws_set (i := 0) (by assumption) rfl (by first | exact .inl rfl | exact .inr rfl) ?_) | ((with_reducible refine gSn "found" ?_); refine ws_set (i := 1) (by assumption) rfl (by first | exact .inl rfl | exact .inr rfl) ?_) | ((with_reducible refine gSn "statement" ?_); refine ws_set (i := 2) (by assumption) rfl (by first | exact .inl rfl | exact .inr rfl) ?_) | ((with_reducible refine gSn "part" ?_); refine ws_set (i := 3) (by assumption) rfl (by first | exact .inl rfl | exact .inr rfl) ?_))
theorem ok_PdeepC (T : Tx K mg) (j : Nat) (r : List Stm) (hl : r.length ≤ 1000) (ih : ∀ s ∈ r, ∀ p ∈ s.parts, Mtd P w K mg base T.C_Program "deep" (j + 1) 0 (sp_Pdeep T.ta p)) : FnOk P w K mg base (L2.CX P w) (j + 2) T.f_Program_deep T.d_Program_deep ["self"] (spOf K 1 (sp_PdeepC T.ta r)) := by
  refine fn_ok T.F_Program_deep sc_Program_deep (fun xs M R Rx h => by obtain ⟨rfl, _⟩ := h; rfl) (fun cdv A outer sh H E B xs M R Rx hr hB h => ?_)
  obtain ⟨rfl, rfl, hR⟩ := h
  have nd := sc_Program_deep.nd
  repeat walk_at "s"
  refine ws_for rfl (wi_tup ?_)
  repeat walk_at "s"
  rw [stms_map]
  refine ⟨fun i ss M => (∃ o1 o2, ss = [some (.cel 0), some (.dat (.int (dps (r.take i) : Nat))), o1, o2]) ∧ M = [pCel T.ta r], ⟨⟨none, none, by rw [List.take_zero, dps_nil]; rfl⟩, rfl⟩, ?_, ?_⟩
  · rintro i d ss M hd ⟨⟨o1, o2, rfl⟩, rfl⟩
    obtain ⟨s, hs, rfl⟩ := map_get hd
    refine wg_name (i := 2) nd rfl (.inl rfl) ?_
    repeat walk_at "s"
    refine we_lst ?_
    repeat walk_at "s"
    refine we_lc1 (j := 3) rfl nd (blkOk_by rfl) rfl (fun _ _ _ _ _ => .inl rfl) (by decide) (wi_list ?_)
    refine we_mtd0 (mtd_parts T s) (room hr (by omega)) ?_
    walk_at "s"
    refine ⟨by cases s <;> exact ⟨rfl, rfl⟩, cq rfl ⟨rfl, rfl, ?_⟩⟩
    refine ⟨_, rfl, ?_⟩
    refine lcq_mapA (fun p => .int (1 + dps p : Nat)) (size_ge (by have := parts_len s; omega)) ?_ ?_
    · intro i p hp sh H C cl fp B hB
      refine we_mtd0 (ih s (List.mem_of_getElem? hs) p (List.mem_of_getElem? hp)) (room hr (by omega)) ?_
      walk_at "s"
      refine ⟨⟨rfl, rfl⟩, cq rfl ⟨rfl, rfl, ?_⟩⟩
      exact ⟨rfl, rfl⟩
    · repeat walk_at "s"
      refine addL (size_ge (by rw [List.length_map]; have := parts_len s; show 1 + _ ≤ _; omega)) ?_
      repeat walk_at "s"
      refine ⟨((dps (r.take i) : Nat) : Int) :: s.parts.map fun p => ((1 + dps p : Nat) : Int), by rw [List.map_cons, List.map_map]; rfl, Nat.succ_pos _, fun m h1 h2 => ?_⟩
      have em := deep_max h1 h2
      subst em
      repeat walk_at "s"
      rw [← dps_take hs]
      exact ⟨⟨_, _, rfl⟩, rfl⟩
  · rintro ss M ⟨⟨o1, o2, rfl⟩, rfl⟩
    rw [List.length_map, List.take_length]
    repeat walk_at "s"
    have : (1 : Int) + ((dps r : Nat) : Int) = ((1 + dps r : Nat) : Int) := by omega
    rw [this]
    exact ⟨rfl, hR⟩
end
theorem mtd_Pdeep (T : Tx K mg) : ∀ (k : Nat) (r : List Stm), dps r ≤ k → RowOk r → Mtd P w K mg base T.C_Program "deep" (k + 2) 0 (sp_Pdeep T.ta r) := by
  intro k
  induction k with
  | zero =>
    intro r h ok
    exact ⟨_, _, _, T.cl_Program, T.m_Program_deep, ok_Pdeep T 0 r ok.2 (fun s m p hp => by have := dps_mem m; have := dp_parts hp; omega), T.b_Program_deep⟩
  | succ k ih =>
    intro r h ok
    exact ⟨_, _, _, T.cl_Program, T.m_Program_deep, ok_Pdeep T (k + 1) r ok.2 (fun s m p hp => ih p (by have := dps_mem m; have := dp_parts hp; omega) (small_parts (smalls_mem ok.1 m) hp)), T.b_Program_deep⟩
def sp_Choose (CI : Addr) : SpD := fun xs M R Rx => ∃ y n, xs = [.cel 0, .dat y, .dat n] ∧ M = [.ins CI []] ∧ R (.dat .non) [.ins CI [("one", .dat y), ("other", .dat n)]]
section
local macro_rules | `(tactic| walk_at "v") => `(tactic| first | ((with_reducible refine gNa "self" ?_); refine we_var (i := 0) rfl (vis rfl) rfl ?_) | ((with_reducible refine gNa "one" ?_); refine we_var (i := 1) rfl (vis rfl) rfl ?_) | ((with_reducible refine gNa "other" ?_); refine we_var (i := 2) rfl (vis rfl) rfl ?_))
local macro_rules | `(tactic| walk_at "set") => `(tactic| first | ((with_reducible refine gSn "self" ?_); refine ws_set (i := 0) (by assumption) rfl (by first | exact .inl rfl | exact .inr rfl) ?_) | ((with_reducible refine gSn "one" ?_); refine ws_set (i := 1) (by assumption) rfl (by first | exact .inl rfl | exact .inr rfl) ?_) | ((with_reducible refine gSn "other" ?_); refine ws_set (i := 2) (by assumption) rfl (by first | exact .inl rfl | exact .inr rfl) ?_))
theorem ok_Choose (T : Tx K mg) : FnOk P w K mg base (L2.CX P w) 1 T.f_Choose_init T.d_Choose_init ["self", "one", "other"] (spOf K 1 (sp_Choose T.C_Choose)) := by
  refine fn_ok T.F_Choose_init sc_Choose_init (fun xs M R Rx h => by obtain ⟨_, _, rfl, _⟩ := h; rfl) (fun cdv A outer s H E B xs M R Rx hr hB h => ?_)
  obtain ⟨y, n, rfl, rfl, hR⟩ := h
  have nd := sc_Choose_init.nd
  repeat walk_at "s"
  exact ⟨rfl, hR⟩
end
def sp_Loop (CI : Addr) : SpD := fun xs M R Rx => ∃ y, xs = [.cel 0, .dat y] ∧ M = [.ins CI []] ∧ R (.dat .non) [.ins CI [("body", .dat y)]]
section
local macro_rules | `(tactic| walk_at "v") => `(tactic| first | ((with_reducible refine gNa "self" ?_); refine we_var (i := 0) rfl (vis rfl) rfl ?_) | ((with_reducible refine gNa "body" ?_); refine we_var (i := 1) rfl (vis rfl) rfl ?_))
local macro_rules | `(tactic| walk_at "set") => `(tactic| first | ((with_reducible refine gSn "self" ?_); refine ws_set (i := 0) (by assumption) rfl (by first | exact .inl rfl | exact .inr rfl) ?_) | ((with_reducible refine gSn "body" ?_); refine ws_set (i := 1) (by assumption) rfl (by first | exact .inl rfl | exact .inr rfl) ?_))
theorem ok_Loop (T : Tx K mg) : FnOk P w K mg base (L2.CX P w) 1 T.f_Loop_init T.d_Loop_init ["self", "body"] (spOf K 1 (sp_Loop T.C_Loop)) := by
  refine fn_ok T.F_Loop_init sc_Loop_init (fun xs M R Rx h => by obtain ⟨_, rfl, _⟩ := h; rfl) (fun cdv A outer s H E B xs M R Rx hr hB h => ?_)
  obtain ⟨y, rfl, rfl, hR⟩ := h
  have nd := sc_Loop_init.nd
  repeat walk_at "s"
  exact ⟨rfl, hR⟩
end
theorem mkr_Choose (T : Tx K mg) : Mkr P w K mg base "Choose" T.C_Choose 1 (sp_Choose T.C_Choose) := ⟨_, _, _, T.mk_Choose, ok_Choose T, T.g_Choose, T.b_Choose_init⟩
local macro_rules | `(tactic| walk_at "call") => `(tactic| ((with_reducible refine gF "Choose" ?_); refine we_mkr (mkr_Choose ‹Tx _ _›) (room ‹Room _ _› (by decide)) rfl ?_))
theorem mkr_Loop (T : Tx K mg) : Mkr P w K mg base "Loop" T.C_Loop 1 (sp_Loop T.C_Loop) := ⟨_, _, _, T.mk_Loop, ok_Loop T, T.g_Loop, T.b_Loop_init⟩
local macro_rules | `(tactic| walk_at "call") => `(tactic| ((with_reducible refine gF "Loop" ?_); refine we_mkr (mkr_Loop ‹Tx _ _›) (room ‹Room _ _› (by decide)) rfl ?_))
local macro_rules | `(tactic| walk_at "call") => `(tactic| ((with_reducible refine gF "Skip" ?_); refine we_mk00 (‹Tx _ _›).mk_Skip (‹Tx _ _›).g_Skip rfl ?_))
local macro_rules | `(tactic| walk_at "call") => `(tactic| ((with_reducible refine gF "Stop" ?_); refine we_mk00 (‹Tx _ _›).mk_Stop (‹Tx _ _›).g_Stop rfl ?_))
/-- what asked_size says of a row -/
def sp_Prog (T : TA) (CB : Addr) (k : Nat) : SpD := fun xs M R Rx => ∃ r, xs = [.cel 0, .dat (.lst (stms T r))] ∧ M = [.ins T.P []] ∧ (dps r ≤ k ∧ RowOk r) ∧
  (24 < sizes r → Rx CB (bcD "statements" (sizes r)) [pCel T r]) ∧ (sizes r ≤ 24 → 6 < 1 + dps r → Rx CB (bcD "depth" (1 + dps r : Nat)) [pCel T r]) ∧ (sizes r ≤ 24 → 1 + dps r ≤ 6 → R (.dat .non) [pCel T r])
section
local macro_rules | `(tactic| walk_at "v") => `(tactic| first | ((with_reducible refine gNa "self" ?_); refine we_var (i := 0) rfl (vis rfl) rfl ?_) | ((with_reducible refine gNa "statements" ?_); refine we_var (i := 1) rfl (vis rfl) rfl ?_))
local macro_rules | `(tactic| walk_at "set") => `(tactic| first | ((with_reducible refine gSn "self" ?_); refine ws_set (i := 0) (by assumption) rfl (by first | exact .inl rfl | exact .inr rfl) ?_) | ((with_reducible refine gSn "statements" ?_); refine ws_set (i := 1) (by assumption) rfl (by first | exact .inl rfl | exact .inr rfl) ?_))
theorem ok_Prog (T : Tx K mg) (k : Nat) : FnOk P w K mg base (L2.CX P w) (2 * k + 5) T.f_Program_init T.d_Program_init ["self", "statements"] (spOf K 1 (sp_Prog T.ta T.C_BadCount k)) := by
  refine fn_ok T.F_Program_init sc_Program_init (fun xs M R Rx h => by obtain ⟨_, rfl, _⟩ := h; rfl) (fun cdv A outer s H E B xs M R Rx hr hB h => ?_)
  obtain ⟨r, rfl, rfl, ⟨hk, ok⟩, h1, h2, h3⟩ := h
  have nd := sc_Program_init.nd
  have m1 : Mtd P w K mg base T.C_Program "size" (2 * k + 3) 1 (sp_PsizeC T.ta r) := ⟨_, _, _, T.cl_Program, T.m_Program_size, ok_PsizeC T (2 * k + 1) r ok.2 (fun s m => (mtd_size_both T k).1 s (Nat.le_trans (dps_mem m) hk) (smalls_mem ok.1 m)), T.b_Program_size⟩
  have m2 : Mtd P w K mg base T.C_Program "deep" (k + 2) 1 (sp_PdeepC T.ta r) := ⟨_, _, _, T.cl_Program, T.m_Program_deep, ok_PdeepC T k r ok.2 (fun s m p hp => by
    have a1 := dps_mem m
    have a2 := dp_parts hp
    obtain ⟨k', rfl⟩ : ∃ k', k = k' + 1 := ⟨k - 1, by omega⟩
    have := mtd_Pdeep (P := P) (w := w) (base := base) T k' p (by omega) (small_parts (smalls_mem ok.1 m) hp)
    exact this), T.b_Program_deep⟩
  repeat walk_at "s"
  refine we_own (cal_asize T) (room hr (by omega)) rfl ?_
  repeat walk_at "s"
  refine we_mtd0 m1 (room hr (by omega)) ?_
  repeat walk_at "s"
  refine ⟨⟨_, rfl, rfl⟩, cq rfl ⟨rfl, rfl, ?_⟩⟩
  repeat walk_at "s"
  refine we_mtd0 m2 (room hr (by omega)) ?_
  repeat walk_at "s"
  refine ⟨⟨_, rfl, rfl⟩, cq rfl ⟨rfl, rfl, ?_⟩⟩
  repeat walk_at "s"
  refine cq rfl ⟨_, _, rfl, rfl, fun c => ⟨rfl, h1 (by omega)⟩, fun c c2 => ⟨rfl, h2 (by omega) (by omega)⟩, fun c c2 => ?_⟩
  repeat walk_at "s"
  exact ⟨rfl, h3 (by omega) (by omega)⟩
end
theorem mkr_Prog (T : Tx K mg) (k : Nat) : Mkr P w K mg base "Program" T.C_Program (2 * k + 5) (sp_Prog T.ta T.C_BadCount k) := ⟨_, _, _, T.mk_Program, ok_Prog T k, T.g_Program, T.b_Program_init⟩

/-- drawn names: valid, short -/
def strOne (c : Nat) : Str := ⟨#[c]⟩
theorem strI_fig : ∀ n : Nat, n ≤ 9 → strI (n : Int) = strOne (48 + n)
  | 0, _ => by decide +kernel
  | 1, _ => by decide +kernel
  | 2, _ => by decide +kernel
  | 3, _ => by decide +kernel
  | 4, _ => by decide +kernel
  | 5, _ => by decide +kernel
  | 6, _ => by decide +kernel
  | 7, _ => by decide +kernel
  | 8, _ => by decide +kernel
  | 9, _ => by decide +kernel
  | n + 10, h => by omega
theorem fig_sd : ∀ n : Nat, n ≤ 9 → ((n : Int).natAbs.log2 < 1920 ∧ SOk (strI (n : Int)))
  | 0, _ => by decide +kernel
  | 1, _ => by decide +kernel
  | 2, _ => by decide +kernel
  | 3, _ => by decide +kernel
  | 4, _ => by decide +kernel
  | 5, _ => by decide +kernel
  | 6, _ => by decide +kernel
  | 7, _ => by decide +kernel
  | 8, _ => by decide +kernel
  | 9, _ => by decide +kernel
  | n + 10, h => by omega
theorem fig_mem : ∀ n : Nat, n ≤ 9 → 48 + n ∈ figs.cps.toList
  | 0, _ => by decide +kernel
  | 1, _ => by decide +kernel
  | 2, _ => by decide +kernel
  | 3, _ => by decide +kernel
  | 4, _ => by decide +kernel
  | 5, _ => by decide +kernel
  | 6, _ => by decide +kernel
  | 7, _ => by decide +kernel
  | 8, _ => by decide +kernel
  | 9, _ => by decide +kernel
  | n + 10, h => by omega
theorem app_cps (x y : Str) : (x ++ y).cps.toList = x.cps.toList ++ y.cps.toList := by
  show (x.cps ++ y.cps).toList = _
  exact Array.toList_append
theorem isNm_iff {z : Str} : isNm z = true ↔ ∃ c r, z.cps.toList = c :: r ∧ r.length ≤ 9 ∧ c ∈ lets.cps.toList ∧ (c :: r).all signOk = true := by
  unfold isNm
  cases e : z.cps.toList with
  | nil => simp
  | cons c r => simp [and_assoc]
theorem isNm_app {x y : Str} (h : isNm x = true) (hl : x.length + y.length ≤ 10) (hy : y.cps.toList.all signOk = true) : isNm (x ++ y) = true := by
  obtain ⟨c, r, e, h1, h2, h3⟩ := isNm_iff.mp h
  have ex : x.length = x.cps.toList.length := by simp [Str.length]
  have ey : y.length = y.cps.toList.length := by simp [Str.length]
  refine isNm_iff.mpr ⟨c, r ++ y.cps.toList, by rw [app_cps, e]; rfl, ?_, h2, ?_⟩
  · rw [e, List.length_cons] at ex
    rw [List.length_append]
    omega
  · rw [← List.cons_append, List.all_append, h3, hy]
    rfl
theorem sign_one {c : Nat} (h : signOk c = true) : (strOne c).cps.toList.all signOk = true := by
  show [c].all signOk = true
  simp [h]
def alnum : Str := "abcdefghijklmnopqrstuvwxyz0123456789"
theorem alnum_ok : ∀ c ∈ alnum.cps.toList, signOk c = true := by decide +kernel
theorem alnum_let : alnum.cps.toList.take 26 = lets.cps.toList := by decide +kernel
theorem isNm_one {c : Nat} (h : c ∈ lets.cps.toList) : isNm (strOne c) = true := isNm_iff.mpr ⟨c, [], rfl, by simp, h, by simp [signOk, h]⟩
theorem len_one {c : Nat} : (strOne c).length = 1 := rfl
def stemWords : List Str := ["write", "wait", "else", "or", "lead", "with", "holds", "any", "skip", "mark"]
theorem words_ok : ∀ z ∈ stemWords, isNm z = true ∧ z.length ≤ 5 := by decide +kernel
/-- the n-th try -/
def nth (z : Str) (n : Nat) : Str := if n = 0 then z else z ++ strI (n : Int)
theorem nth_inj {z : Str} {i j : Nat} (hi : i ≤ 9) (hj : j ≤ 9) (h : nth z i = nth z j) : i = j := by
  have l : ∀ n, n ≤ 9 → (nth z n).cps.toList = z.cps.toList ++ (if n = 0 then [] else [48 + n]) := fun n hn => by
    unfold nth
    split
    · simp
    · rw [app_cps, strI_fig n hn]; rfl
  have e := congrArg (fun s : Str => s.cps.toList) h
  simp only [l i hi, l j hj] at e
  have e2 := List.append_cancel_left e
  by_cases a : i = 0 <;> by_cases b : j = 0 <;> simp [a, b] at e2 <;> omega
theorem nth_all {z : Str} {zs : List Str} {n : Nat} (hn : n ≤ 9) (h : ∀ j, j ≤ n → nth z j ∈ zs) : n + 1 ≤ zs.length := by
  have nd : ((List.range (n + 1)).map (nth z)).Nodup := by
    rw [List.nodup_iff_pairwise_ne] at *
    rw [List.pairwise_map]
    refine List.Pairwise.imp_of_mem ?_ List.nodup_range
    intro a b ha hb ne e
    rw [List.mem_range] at ha hb
    exact ne (nth_inj (by omega) (by omega) e)
  have := nodup_le nd (zs := zs) fun x hx => by
    obtain ⟨j, hj, rfl⟩ := List.mem_map.mp hx
    rw [List.mem_range] at hj
    exact h j (by omega)
  simpa using this
def sp_lname : SpD := fun xs M R _ => ∃ st, ∃ zs : List Str, xs = [.cel 0, .cel 1] ∧ M = [dC st, .lst (zs.map D.str)] ∧ DOk st ∧ zs.length ≤ 8 ∧ ∀ st' z, DOk st' → isNm z = true → z.length ≤ 6 → z ∉ zs → R (.dat (.str z)) [dC st', .lst (zs.map D.str)]
local macro_rules | `(tactic| walk_at "dg2") => `(tactic| (refine cq rfl ⟨_, _, rfl, rfl, by assumption, ⟨by omega, by omega⟩, fun _ _ _ _ _ => ?_⟩))
section
local macro_rules | `(tactic| walk_at "v") => `(tactic| first | ((with_reducible refine gNa "_law_s" ?_); refine we_var (i := 0) rfl (vis rfl) rfl ?_) | ((with_reducible refine gNa "_law_taken" ?_); refine we_var (i := 1) rfl (vis rfl) rfl ?_) | ((with_reducible refine gNa "_law_some" ?_); refine we_var (i := 2) rfl (vis rfl) rfl ?_) | ((with_reducible refine gNa "_law_kind" ?_); refine we_var (i := 3) rfl (vis rfl) rfl ?_) | ((with_reducible refine gNa "_law_stem" ?_); refine we_var (i := 4) rfl (vis rfl) rfl ?_) | ((with_reducible refine gNa "_law_k" ?_); refine we_var (i := 5) rfl (vis rfl) rfl ?_) | ((with_reducible refine gNa "_law_found" ?_); refine we_var (i := 6) rfl (vis rfl) rfl ?_) | ((with_reducible refine gNa "_law_n" ?_); refine we_var (i := 7) rfl (vis rfl) rfl ?_))
local macro_rules | `(tactic| walk_at "set") => `(tactic| first | ((with_reducible refine gSn "_law_s" ?_); refine ws_set (i := 0) (by assumption) rfl (by first | exact .inl rfl | exact .inr rfl) ?_) | ((with_reducible refine gSn "_law_taken" ?_); refine ws_set (i := 1) (by assumption) rfl (by first | exact .inl rfl | exact .inr rfl) ?_) | ((with_reducible refine gSn "_law_some" ?_); refine ws_set (i := 2) (by assumption) rfl (by first | exact .inl rfl | exact .inr rfl) ?_) | ((with_reducible refine gSn "_law_kind" ?_); refine ws_set (i := 3) (by assumption) rfl (by first | exact .inl rfl | exact .inr rfl) ?_) | ((with_reducible refine gSn "_law_stem" ?_); refine ws_set (i := 4) (by assumption) rfl (by first | exact .inl rfl | exact .inr rfl) ?_) | ((with_reducible refine gSn "_law_k" ?_); refine ws_set (i := 5) (by assumption) rfl (by first | exact .inl rfl | exact .inr rfl) ?_) | ((with_reducible refine gSn "_law_found" ?_); refine ws_set (i := 6) (by assumption) rfl (by first | exact .inl rfl | exact .inr rfl) ?_) | ((with_reducible refine gSn "_law_n" ?_); refine ws_set (i := 7) (by assumption) rfl (by first | exact .inl rfl | exact .inr rfl) ?_))
theorem ok_lname (T : Tx K mg) : FnOk P w K mg base (L2.CX P w) 2 T.f_law_name T.d_law_name ps_law_name (spOf K 2 sp_lname) := by
  refine fn_ok T.F_law_name sc_law_name (fun xs M R Rx h => by obtain ⟨_, _, rfl, _⟩ := h; rfl) (fun cdv A outer s H E B xs M R Rx hr hB h => ?_)
  obtain ⟨st, zs, rfl, rfl, ok, hz, hR⟩ := h
  have nd := sc_law_name.nd
  repeat walk_at "s"
  walk_at "dg2"
  rename_i kind ok1 k0 k1
  repeat walk_at "s"
  walk_at "dg2"
  rename_i fi ok2 f0 f1
  repeat walk_at "s"
  obtain ⟨c, hc⟩ := atI_lt (l := alnum.cps.toList) f0 (by show _ < (36 : Int); omega)
  have hcl : c ∈ lets.cps.toList := by rw [← alnum_let]; exact atI_take hc f0 f1
  refine ixS hc ?_
  repeat walk_at "s"
  refine ws_for rfl (wi_range1 T.z_range rfl ?_)
  repeat walk_at "s"
  walk_at "dg2"
  rename_i mn okm m0 m1
  repeat walk_at "s"
  refine ⟨⟨by omega, by omega⟩, ?_⟩
  refine ⟨fun i ss M => ∃ st z o, DOk st ∧ isNm z = true ∧ z.length ≤ i + 1 ∧ ss = [some (.cel 0), some (.cel 1), some (.dat (.str alnum)), some (.dat (.int kind)), some (.dat (.str z)), o, none, none] ∧ M = [dC st, .lst (zs.map D.str)], ⟨_, _, _, okm, isNm_one hcl, Nat.le_refl 1, rfl, rfl⟩, ?_, ?_⟩
  · rintro i d ss M hd ⟨st, z, o, ok, nm, hl, rfl, rfl⟩
    obtain ⟨hi, rfl⟩ := rangeD_get hd
    refine wg_name (i := 5) nd rfl (.inl rfl) ?_
    repeat walk_at "s"
    walk_at "dg2"
    rename_i gi okg g0 g1
    repeat walk_at "s"
    refine ix_str (by assumption) (by show _ < (36 : Int); omega) (fun c hc => ?_)
    repeat walk_at "s"
    refine addS (size_ge (by show _ + 1 ≤ 1000000; omega)) ?_
    repeat walk_at "s"
    exact ⟨_, _, _, by assumption, isNm_app nm (by show _ + 1 ≤ 10; omega) (sign_one (alnum_ok c hc)), by rw [str_len_app]; show _ + 1 ≤ _; omega, rfl, rfl⟩
  rintro ss M ⟨st, z, o, ok, nm, hl, rfl, rfl⟩
  rw [rangeD_len] at hl
  refine wb_cut (fun ss M => ∃ st z o, DOk st ∧ isNm z = true ∧ z.length ≤ 5 ∧ ss = [some (.cel 0), some (.cel 1), some (.dat (.str alnum)), some (.dat (.int kind)), some (.dat (.str z)), o, none, none] ∧ M = [dC st, .lst (zs.map D.str)]) ?_ ?_
  · walk_at "s"
    repeat walk_at "s"
    refine ite_b (fun c => ?_) (fun c => ?_)
    · repeat walk_at "s"
      refine we_lst ?_
      repeat walk_at "s"
      walk_at "dg2"
      repeat walk_at "s"
      refine ix_lst (by assumption) (by show _ < (10 : Int); omega) (fun d hd => ?_)
      obtain ⟨z', hz', rfl⟩ : ∃ z, z ∈ stemWords ∧ d = .str z := by
        obtain ⟨z, hz, e⟩ := List.mem_map.mp (show d ∈ stemWords.map D.str from hd)
        exact ⟨z, hz, e.symm⟩
      repeat walk_at "s"
      exact ⟨_, z', _, by assumption, (words_ok z' hz').1, (words_ok z' hz').2, rfl, rfl⟩
    · repeat walk_at "s"
      exact ⟨_, z, _, ok, nm, by omega, rfl, rfl⟩
  rintro ss M ⟨st, z, o, ok, nm, hl, rfl, rfl⟩
  iterate 6 walk_at "s"
  refine wb_cut (fun ss M => ∃ n : Nat, n ≤ 9 ∧ nth z n ∉ zs ∧ ss = [some (.cel 0), some (.cel 1), some (.dat (.str alnum)), some (.dat (.int kind)), some (.dat (.str z)), o, some (.dat (.str (nth z n))), some (.dat (.int n))] ∧ M = [dC st, .lst (zs.map D.str)]) ?_ ?_
  · refine ws_while (fun m ss M => ∃ n : Nat, m + n = zs.length ∧ (∀ j, j < n → nth z j ∈ zs) ∧ ss = [some (.cel 0), some (.cel 1), some (.dat (.str alnum)), some (.dat (.int kind)), some (.dat (.str z)), o, some (.dat (.str (nth z n))), some (.dat (.int n))] ∧ M = [dC st, .lst (zs.map D.str)]) zs.length ⟨0, rfl, fun j hj => absurd hj (Nat.not_lt_zero j), rfl, rfl⟩ ?_
    rintro m ss M ⟨n, hn, hj, rfl, rfl⟩
    refine wt_in (by assumption) rfl ?_
    repeat walk_at "s"
    refine inLc rfl rfl (strs_pl zs) ?_
    rw [strs_any]
    refine ite_b (fun c => ?_) (fun c => ?_)
    · have h9 : n + 1 ≤ zs.length := nth_all (by omega) fun j hj' => by
        rcases Nat.lt_or_eq_of_le hj' with h | h
        · exact hj j h
        · subst h; exact c
      repeat walk_at "s"
      rw [show (n : Int) + 1 = ((n + 1 : Nat) : Int) by omega]
      refine ⟨fig_sd (n + 1) (by omega), ?_⟩
      repeat walk_at "s"
      refine addS (size_ge (by rw [strI_fig (n + 1) (by omega)]; show _ + 1 ≤ _; omega)) ?_
      repeat walk_at "s"
      refine ⟨m - 1, by omega, n + 1, by omega, fun j hj' => ?_, rfl, rfl⟩
      rcases Nat.lt_succ_iff_lt_or_eq.mp hj' with h | h
      · exact hj j h
      · subst h; exact c
    · exact ⟨n, by omega, c, rfl, rfl⟩
  · rintro ss M ⟨n, hn, c, rfl, rfl⟩
    repeat walk_at "s"
    refine ⟨rfl, hR _ _ ok ?_ ?_ c⟩
    · unfold nth
      split
      · exact nm
      · rw [strI_fig n hn]
        exact isNm_app nm (by show _ + 1 ≤ 10; omega) (sign_one (by unfold signOk; rw [decide_eq_true (fig_mem n hn), Bool.or_true]))
    · unfold nth
      split
      · omega
      · rw [strI_fig n hn, str_len_app]
        show _ + 1 ≤ 6
        omega
end
theorem cal_lname (T : Tx K mg) : Cal P w K mg base "_law_name" 2 2 sp_lname := ⟨_, _, _, ok_lname T, T.g_law_name, T.F_law_name.kp, T.b_law_name⟩
local macro_rules | `(tactic| walk_at "call") => `(tactic| ((with_reducible refine gF "_law_name" ?_); refine we_own (k := 2) (n := 2) (S := sp_lname) ?_ ?_ rfl ?_; exact cal_lname ‹Tx _ _›; exact room ‹Room _ _› (by decide)))
/-- so many names, unlike -/
def sp_lnames : SpD := fun xs M R _ => ∃ st n, xs = [.cel 0, .dat (.int n)] ∧ M = [dC st] ∧ DOk st ∧ (0 ≤ n ∧ n ≤ 8) ∧ ∀ st' (zs : List Str), DOk st' → (zs.length : Int) = n → zs.Nodup → (∀ z ∈ zs, isNm z = true ∧ z.length ≤ 6) → R (.cel 1) [dC st', .lst (zs.map D.str)]
section
local macro_rules | `(tactic| walk_at "v") => `(tactic| first | ((with_reducible refine gNa "_law_s" ?_); refine we_var (i := 0) rfl (vis rfl) rfl ?_) | ((with_reducible refine gNa "_law_many" ?_); refine we_var (i := 1) rfl (vis rfl) rfl ?_) | ((with_reducible refine gNa "_law_found" ?_); refine we_var (i := 2) rfl (vis rfl) rfl ?_) | ((with_reducible refine gNa "_law_k" ?_); refine we_var (i := 3) rfl (vis rfl) rfl ?_))
local macro_rules | `(tactic| walk_at "set") => `(tactic| first | ((with_reducible refine gSn "_law_s" ?_); refine ws_set (i := 0) (by assumption) rfl (by first | exact .inl rfl | exact .inr rfl) ?_) | ((with_reducible refine gSn "_law_many" ?_); refine ws_set (i := 1) (by assumption) rfl (by first | exact .inl rfl | exact .inr rfl) ?_) | ((with_reducible refine gSn "_law_found" ?_); refine ws_set (i := 2) (by assumption) rfl (by first | exact .inl rfl | exact .inr rfl) ?_) | ((with_reducible refine gSn "_law_k" ?_); refine ws_set (i := 3) (by assumption) rfl (by first | exact .inl rfl | exact .inr rfl) ?_))
theorem ok_lnames (T : Tx K mg) : FnOk P w K mg base (L2.CX P w) 3 T.f_law_names T.d_law_names ps_law_names (spOf K 1 sp_lnames) := by
  refine fn_okC T.F_law_names sc_law_names (fun xs M R Rx h => by obtain ⟨_, _, rfl, _⟩ := h; rfl) (fun cdv A outer s H E B xs M R Rx hr hB h => ?_)
  obtain ⟨st, n, rfl, rfl, ok, hn, hR⟩ := h
  have nd := sc_law_names.nd
  iterate 2 walk_at "s"
  refine we_lstC ?_
  repeat walk_at "s"
  refine ws_for rfl (wi_range1 T.z_range rfl ?_)
  repeat walk_at "s"
  refine ⟨⟨by omega, by omega⟩, ?_⟩
  refine ⟨fun i ss M => ∃ st, ∃ zs : List Str, ∃ o, DOk st ∧ zs.length = i ∧ zs.Nodup ∧ (∀ z ∈ zs, isNm z = true ∧ z.length ≤ 6) ∧ ss = [some (.cel 0), some (.dat (.int n)), some (.cel 1), o] ∧ M = [dC st, .lst (zs.map D.str)], ⟨st, [], none, ok, rfl, List.nodup_nil, (fun _ m => (by cases m)), rfl, rfl⟩, ?_, ?_⟩
  · rintro i d ss M hd ⟨st, zs, o, ok, hl, zn, zo, rfl, rfl⟩
    obtain ⟨hi, rfl⟩ := rangeD_get hd
    refine wg_name (i := 3) nd rfl (.inl rfl) ?_
    repeat walk_at "s"
    refine cq rfl ⟨st, zs, rfl, rfl, ok, by omega, fun st2 z ok2 nm hz no => ?_⟩
    repeat walk_at "s"
    refine ⟨size_ge (by show (zs.map D.str).length + 1 ≤ _; rw [List.length_map]; omega), ?_⟩
    repeat walk_at "s"
    refine ⟨st2, zs ++ [z], _, ok2, by simp [hl], ?_, ?_, rfl, by rw [List.map_append]; rfl⟩
    · rw [List.nodup_append]
      refine ⟨zn, by simp, fun a ha b hb e => ?_⟩
      rw [List.mem_singleton] at hb
      subst e; subst hb; exact no ha
    · intro y hy
      rcases List.mem_append.mp hy with h | h
      · exact zo y h
      · rw [List.mem_singleton] at h; subst h; exact ⟨nm, hz⟩
  · rintro ss M ⟨st, zs, o, ok, hl, zn, zo, rfl, rfl⟩
    rw [rangeD_len] at hl
    repeat walk_at "s"
    exact ⟨rfl, hR _ zs ok (by omega) zn zo⟩
end
theorem cal_lnames (T : Tx K mg) : Cal P w K mg base "_law_names" 3 1 sp_lnames := ⟨_, _, _, ok_lnames T, T.g_law_names, T.F_law_names.kp, T.b_law_names⟩
local macro_rules | `(tactic| walk_at "call") => `(tactic| ((with_reducible refine gF "_law_names" ?_); refine we_own (k := 3) (n := 1) (S := sp_lnames) ?_ ?_ rfl ?_; exact cal_lnames ‹Tx _ _›; exact room ‹Room _ _› (by decide)))

theorem stms_app {T : TA} (a b : List Stm) : stms T (a ++ b) = stms T a ++ stms T b := by rw [stms_map, stms_map, stms_map, List.map_append]
theorem cutD_pre {xs : List D} {k : Int} (h0 : 0 ≤ k) (h1 : k ≤ xs.length) : cutD xs none (some k) = xs.take k.toNat := by
  obtain ⟨m, rfl⟩ := Int.eq_ofNat_of_zero_le h0
  unfold cutD
  rw [HT.sIx_none, HT.sIx_nat, List.drop_zero, Nat.sub_zero, Int.toNat_natCast, Nat.min_eq_left (by omega)]
theorem cutD_suf {xs : List D} {k : Int} (h0 : 0 ≤ k) (h1 : k ≤ xs.length) : cutD xs (some k) none = xs.drop k.toNat := by
  obtain ⟨m, rfl⟩ := Int.eq_ofNat_of_zero_le h0
  unfold cutD
  rw [HT.sIx_none, HT.sIx_nat, Int.toNat_natCast, Nat.min_eq_left (by omega)]
  exact List.take_of_length_le (by rw [List.length_drop]; exact Nat.le_refl _)
theorem smalls_split : ∀ (a b : List Stm), smalls (a ++ b) = (smalls a && smalls b)
  | [], b => by simp [smalls]
  | x :: a, b => by
    show smalls (x :: (a ++ b)) = _
    simp only [smalls, smalls_split a b, Bool.and_assoc]
theorem split_facts (r : List Stm) (k : Nat) : sizes (r.take k) + sizes (r.drop k) = sizes r ∧ max (dps (r.take k)) (dps (r.drop k)) = dps r ∧ (smalls r = true → smalls (r.take k) = true ∧ smalls (r.drop k) = true) := by
  have e : r.take k ++ r.drop k = r := List.take_append_drop k r
  refine ⟨by rw [← sizes_app, e], by rw [← dps_app, e], fun h => ?_⟩
  rw [← e, smalls_split, Bool.and_eq_true] at h
  exact h
theorem pre_stms {T : TA} {r : List Stm} {k : Int} (h0 : 0 ≤ k) (h1 : k ≤ (stms T r).length) : cutD (stms T r) none (some k) = stms T (r.take k.toNat) := by
  rw [cutD_pre h0 h1, stms_map, stms_map, List.map_take]
theorem suf_stms {T : TA} {r : List Stm} {k : Int} (h0 : 0 ≤ k) (h1 : k ≤ (stms T r).length) : cutD (stms T r) (some k) none = stms T (r.drop k.toNat) := by
  rw [cutD_suf h0 h1, stms_map, stms_map, List.map_drop]

/-- Program(xs), xs a list of ours -/
def sp_ProgS (T : TA) (k : Nat) : SpD := fun xs M R Rx => ∃ r, xs = [.cel 0, .cel 1] ∧ M = [.ins T.P [], .lst (stms T r)] ∧ (dps r ≤ k ∧ RowOk r) ∧ sizes r ≤ 24 ∧ 1 + dps r ≤ 6 ∧ R (.dat .non) [pCel T r, .lst (stms T r)]
section
local macro_rules | `(tactic| walk_at "v") => `(tactic| first | ((with_reducible refine gNa "self" ?_); refine we_var (i := 0) rfl (vis rfl) rfl ?_) | ((with_reducible refine gNa "statements" ?_); refine we_var (i := 1) rfl (vis rfl) rfl ?_))
local macro_rules | `(tactic| walk_at "set") => `(tactic| first | ((with_reducible refine gSn "self" ?_); refine ws_set (i := 0) (by assumption) rfl (by first | exact .inl rfl | exact .inr rfl) ?_) | ((with_reducible refine gSn "statements" ?_); refine ws_set (i := 1) (by assumption) rfl (by first | exact .inl rfl | exact .inr rfl) ?_))
theorem ok_ProgS (T : Tx K mg) (k : Nat) : FnOk P w K mg base (L2.CX P w) (2 * k + 5) T.f_Program_init T.d_Program_init ["self", "statements"] (spOf K 2 (sp_ProgS T.ta k)) := by
  refine fn_ok T.F_Program_init sc_Program_init (fun xs M R Rx h => by obtain ⟨_, rfl, _⟩ := h; rfl) (fun cdv A outer s H E B xs M R Rx hr hB h => ?_)
  obtain ⟨r, rfl, rfl, ⟨hk, ok⟩, h1, h2, h3⟩ := h
  have nd := sc_Program_init.nd
  have m1 : Mtd P w K mg base T.C_Program "size" (2 * k + 3) 1 (sp_PsizeC T.ta r) := ⟨_, _, _, T.cl_Program, T.m_Program_size, ok_PsizeC T (2 * k + 1) r ok.2 (fun s m => (mtd_size_both T k).1 s (Nat.le_trans (dps_mem m) hk) (smalls_mem ok.1 m)), T.b_Program_size⟩
  have m2 : Mtd P w K mg base T.C_Program "deep" (k + 2) 1 (sp_PdeepC T.ta r) := ⟨_, _, _, T.cl_Program, T.m_Program_deep, ok_PdeepC T k r ok.2 (fun s m p hp => by
    have a1 := dps_mem m
    have a2 := dp_parts hp
    obtain ⟨k', rfl⟩ : ∃ k', k = k' + 1 := ⟨k - 1, by omega⟩
    have := mtd_Pdeep (P := P) (w := w) (base := base) T k' p (by omega) (small_parts (smalls_mem ok.1 m) hp)
    exact this), T.b_Program_deep⟩
  repeat walk_at "s"
  refine we_own (cal_asize T) (room hr (by omega)) rfl ?_
  repeat walk_at "s"
  refine we_mtd0 m1 (room hr (by omega)) ?_
  repeat walk_at "s"
  refine ⟨⟨_, rfl, rfl⟩, cq rfl ⟨rfl, rfl, ?_⟩⟩
  repeat walk_at "s"
  refine we_mtd0 m2 (room hr (by omega)) ?_
  repeat walk_at "s"
  refine ⟨⟨_, rfl, rfl⟩, cq rfl ⟨rfl, rfl, ?_⟩⟩
  repeat walk_at "s"
  refine cq rfl ⟨_, _, rfl, rfl, fun c => absurd c (by omega), fun c c2 => absurd c2 (by omega), fun c c2 => ?_⟩
  repeat walk_at "s"
  exact ⟨rfl, h3⟩

end
theorem valD_none {kvs : List (Key × D)} {k : Key} (h : ∀ kv ∈ kvs, kv.1 ≠ k) : valD kvs k = none := by
  unfold valD
  have : (kvs.find? fun kv => decide (kv.1 = k)) = none := by
    rw [List.find?_eq_none]
    intro x hx
    simpa using h x hx
  rw [this]
  rfl
theorem putD_new {kvs : List (Key × D)} {k : Key} {v : D} (h : ∀ kv ∈ kvs, kv.1 ≠ k) : putD kvs k v = kvs ++ [(k, v)] := by
  unfold putD
  rw [if_neg]
  rw [List.any_eq_true]
  rintro ⟨x, hx, e⟩
  exact h x hx (by simpa using e)
theorem nodup_take {α : Type} {l : List α} {i : Nat} {z : α} (nd : l.Nodup) (h : l[i]? = some z) : ∀ y ∈ l.take i, y ≠ z := by
  intro y hy e
  subst e
  obtain ⟨j, hj⟩ := List.getElem?_of_mem hy
  rw [List.getElem?_take] at hj
  split at hj
  · rename_i hlt
    have := (List.getElem?_inj (List.getElem?_eq_some_iff.mp hj).1 nd).mp (hj.trans h.symm)
    omega
  · cases hj
def seenD (zs : List Str) : List (Key × D) := zs.map fun z => (Sum.inr z, D.bl true)
def sp_once : SpD := fun xs M R _ => ∃ zs : List Str, xs = [.dat (.lst (zs.map D.str))] ∧ M = [] ∧ zs.Nodup ∧ zs.length ≤ 1000 ∧ R (.dat .non) []
theorem seen_no {zs : List Str} {i : Nat} {z : Str} (nd : zs.Nodup) (h : zs[i]? = some z) : ∀ kv ∈ seenD (zs.take i), kv.1 ≠ Sum.inr z := by
  intro kv hk e
  unfold seenD at hk
  obtain ⟨y, hy, rfl⟩ := List.mem_map.mp hk
  exact nodup_take nd h y hy (Sum.inr.inj e)
section
local macro_rules | `(tactic| walk_at "v") => `(tactic| first | ((with_reducible refine gNa "names" ?_); refine we_var (i := 0) rfl (vis rfl) rfl ?_) | ((with_reducible refine gNa "seen" ?_); refine we_var (i := 1) rfl (vis rfl) rfl ?_) | ((with_reducible refine gNa "name" ?_); refine we_var (i := 2) rfl (vis rfl) rfl ?_))
local macro_rules | `(tactic| walk_at "set") => `(tactic| first | ((with_reducible refine gSn "names" ?_); refine ws_set (i := 0) (by assumption) rfl (by first | exact .inl rfl | exact .inr rfl) ?_) | ((with_reducible refine gSn "seen" ?_); refine ws_set (i := 1) (by assumption) rfl (by first | exact .inl rfl | exact .inr rfl) ?_) | ((with_reducible refine gSn "name" ?_); refine ws_set (i := 2) (by assumption) rfl (by first | exact .inl rfl | exact .inr rfl) ?_))
theorem ok_once (T : Tx K mg) : FnOk P w K mg base (L2.CX P w) 3 T.f_asked_once T.d_asked_once ["names"] (spOf K 0 sp_once) := by
  refine fn_ok T.F_asked_once sc_asked_once (fun xs M R Rx h => by obtain ⟨_, rfl, _⟩ := h; rfl) (fun cdv A outer s H E B xs M R Rx hr hB h => ?_)
  obtain ⟨zs, rfl, rfl, zn, zl, hR⟩ := h
  have nd := sc_asked_once.nd
  repeat walk_at "s"
  refine we_dnew ?_
  repeat walk_at "s"
  refine ws_for rfl (wi_list ?_)
  repeat walk_at "s"
  refine ⟨fun i ss M => (∃ o, ss = [some (.dat (.lst (zs.map D.str))), some (.cel 0), o]) ∧ M = [.dic (seenD (zs.take i))], ⟨⟨_, rfl⟩, rfl⟩, ?_, ?_⟩
  · rintro i d ss M hd ⟨⟨o, rfl⟩, rfl⟩
    obtain ⟨z, hi, rfl⟩ := str_get hd
    have no := seen_no zn hi
    have hlt := (List.getElem?_eq_some_iff.mp hi).1
    refine wg_name (i := 2) nd rfl (.inl rfl) ?_
    walk_at "s"
    refine ws_if (wt_din (by assumption) rfl ?_)
    repeat walk_at "s"
    refine it_f (by rw [valD_none no]; rfl) ?_
    iterate 2 walk_at "s"
    refine ws_dput (by assumption) ?_
    repeat walk_at "s"
    refine ⟨.bl true, Sum.inr z, rfl, rfl, ?_⟩
    refine cdc rfl ⟨?_, ?_⟩
    · show (seenD (zs.take i)).length < sizeLine
      unfold seenD
      rw [List.length_map, List.length_take]
      exact Nat.lt_of_le_of_lt (Nat.min_le_left _ _) (Nat.lt_of_lt_of_le hlt (size_ge (by omega)))
    · repeat walk_at "s"
      refine ⟨⟨_, rfl⟩, ?_⟩
      rw [putD_new no]
      have : seenD (zs.take i) ++ [(Sum.inr z, D.bl true)] = seenD (zs.take (i + 1)) := map_take_succ (fun z => ((Sum.inr z : Key), D.bl true)) hi
      rw [this]
      rfl
  · rintro ss M ⟨⟨o, rfl⟩, rfl⟩
    repeat walk_at "s"
    exact ⟨rfl, hR⟩
end
theorem cal_once (T : Tx K mg) : Cal P w K mg base "asked_once" 3 0 sp_once := ⟨_, _, _, ok_once T, T.g_asked_once, T.F_asked_once.kp, T.b_asked_once⟩
local macro_rules | `(tactic| walk_at "call") => `(tactic| ((with_reducible refine gF "asked_once" ?_); refine we_own (k := 3) (n := 0) (S := sp_once) ?_ ?_ rfl ?_; exact cal_once ‹Tx _ _›; exact room ‹Room _ _› (by decide)))
/-- a cell as it is handed in: its name, its values -/
def cD (c : Str × List Str) : D := .tup [.str c.1, .lst (c.2.map D.str)]
def cNs (c : Str × List Str) : List Str := c.1 :: c.2
/-- cells as a board takes them, but for the names -/
structure CsOk (cs : List (Str × List Str)) : Prop where
  len : 1 ≤ cs.length ∧ cs.length ≤ 3
  vals : ∀ c ∈ cs, 2 ≤ c.2.length ∧ c.2.length ≤ 4 ∧ c.2.Nodup
  nms : (cs.map (·.1)).Nodup
def sp_cells (CN : Addr) : SpD := fun xs M R Rx => ∃ cs : List (Str × List Str), xs = [.dat (.lst (cs.map cD))] ∧ M = [] ∧ CsOk cs ∧ (match badNm (cs.flatMap cNs) with
  | none => R (.dat .non) []
  | some z => Rx CN [("name", .str z)] [])
theorem cD_get {cs : List (Str × List Str)} {i : Nat} {d : D} (h : (cs.map cD)[i]? = some d) : ∃ c, cs[i]? = some c ∧ d = .tup [.str c.1, .lst (c.2.map D.str)] := by
  rw [List.getElem?_map] at h
  cases e : cs[i]? with
  | none => rw [e] at h; cases h
  | some z => rw [e] at h; exact ⟨z, rfl, (Option.some.inj h).symm⟩
theorem take_at {α : Type} : ∀ {l : List α} {i : Nat} {d : α}, l[i]? = some d → l.take (i + 1) = l.take i ++ [d]
  | [], _, _, h => by simp at h
  | x :: l, 0, d, h => by simp at h; subst h; simp
  | x :: l, i + 1, d, h => by
    have := take_at (l := l) (i := i) (d := d) (by simpa using h)
    rw [List.take_succ_cons, this]
    rfl
theorem bad_app (a b : List Str) : badNm (a ++ b) = (badNm a).or (badNm b) := by
  unfold badNm
  rw [List.find?_append]
theorem bad_at {cs : List (Str × List Str)} {i : Nat} {c : Str × List Str} (h : cs[i]? = some c) (hn : badNm ((cs.take i).flatMap cNs) = none) :
    badNm ((cs.take (i + 1)).flatMap cNs) = (badNm [c.1]).or (badNm c.2) ∧ badNm (cs.flatMap cNs) = ((badNm [c.1]).or (badNm c.2)).or (badNm ((cs.drop (i + 1)).flatMap cNs)) := by
  have h1 : badNm ((cs.take (i + 1)).flatMap cNs) = (badNm [c.1]).or (badNm c.2) := by
    rw [take_at h, List.flatMap_append, bad_app, hn]
    show badNm (List.flatMap cNs [c]) = _
    have : List.flatMap cNs [c] = [c.1] ++ c.2 := by simp [cNs]
    rw [this, bad_app]
  refine ⟨h1, ?_⟩
  have e : cs = cs.take (i + 1) ++ cs.drop (i + 1) := (List.take_append_drop _ _).symm
  conv => lhs; rw [e]
  rw [List.flatMap_append, bad_app, h1]
section
local macro_rules | `(tactic| walk_at "v") => `(tactic| first | ((with_reducible refine gNa "cells" ?_); refine we_var (i := 0) rfl (vis rfl) rfl ?_) | ((with_reducible refine gNa "name" ?_); refine we_var (i := 1) rfl (vis rfl) rfl ?_) | ((with_reducible refine gNa "values" ?_); refine we_var (i := 2) rfl (vis rfl) rfl ?_))
local macro_rules | `(tactic| walk_at "set") => `(tactic| first | ((with_reducible refine gSn "cells" ?_); refine ws_set (i := 0) (by assumption) rfl (by first | exact .inl rfl | exact .inr rfl) ?_) | ((with_reducible refine gSn "name" ?_); refine ws_set (i := 1) (by assumption) rfl (by first | exact .inl rfl | exact .inr rfl) ?_) | ((with_reducible refine gSn "values" ?_); refine ws_set (i := 2) (by assumption) rfl (by first | exact .inl rfl | exact .inr rfl) ?_))
theorem ok_cells (T : Tx K mg) : FnOk P w K mg base (L2.CX P w) 4 T.f_asked_cells T.d_asked_cells ["cells"] (spOf K 0 (sp_cells T.C_NoName)) := by
  refine fn_ok T.F_asked_cells sc_asked_cells (fun xs M R Rx h => by obtain ⟨_, rfl, _⟩ := h; rfl) (fun cdv A outer s H E B xs M R Rx hr hB h => ?_)
  obtain ⟨cs, rfl, rfl, ok, hR⟩ := h
  have nd := sc_asked_cells.nd
  have hl := ok.len
  have el : (cs.map cD).length = cs.length := List.length_map ..
  repeat walk_at "s"
  refine it_t (decide_eq_true (by omega)) ?_
  repeat walk_at "s"
  refine it_f (by rw [decide_eq_true (show ((cs.map cD).length : Int) ≤ 3 by omega)]; rfl) ?_
  repeat walk_at "s"
  refine ws_for rfl (wi_list ?_)
  repeat walk_at "s"
  refine ⟨fun i ss M => badNm ((cs.take i).flatMap cNs) = none ∧ (∃ o1 o2, ss = [some (.dat (.lst (cs.map cD))), o1, o2]) ∧ M = [], ⟨rfl, ⟨_, _, rfl⟩, rfl⟩, ?_, ?_⟩
  · rintro i d ss M hd ⟨hn, ⟨o1, o2, rfl⟩, rfl⟩
    obtain ⟨c, hi, rfl⟩ := cD_get hd
    obtain ⟨b1, b2⟩ := bad_at hi hn
    obtain ⟨v1, v2, v3⟩ := ok.vals c (List.mem_of_getElem? hi)
    refine wg_tup2 rfl ?_
    refine wg_name (i := 1) nd rfl (.inl rfl) ?_
    refine wg_name (i := 2) nd rfl (.inl rfl) ?_
    repeat walk_at "s"
    refine we_lst ?_
    repeat walk_at "s"
    refine cq rfl ⟨[c.1], rfl, rfl, ?_⟩
    cases e1 : badNm [c.1] with
    | some z =>
      refine ⟨rfl, ?_⟩
      rw [b2, e1] at hR
      exact hR
    | none =>
    repeat walk_at "s"
    refine it_t (decide_eq_true (by rw [List.length_map]; omega)) ?_
    repeat walk_at "s"
    refine it_f (by rw [decide_eq_true (show ((c.2.map D.str).length : Int) ≤ 4 by rw [List.length_map]; omega)]; rfl) ?_
    repeat walk_at "s"
    refine cq rfl ⟨c.2, rfl, rfl, ?_⟩
    cases e2 : badNm c.2 with
    | some z =>
      refine ⟨rfl, ?_⟩
      rw [b2, e1, e2] at hR
      exact hR
    | none =>
    repeat walk_at "s"
    refine cq rfl ⟨c.2, rfl, rfl, v3, by omega, ?_⟩
    repeat walk_at "s"
    exact ⟨by rw [b1, e1, e2]; rfl, ⟨_, _, rfl⟩, rfl⟩
  · rintro ss M ⟨hn, ⟨o1, o2, rfl⟩, rfl⟩
    rw [el, List.take_length] at hn
    rw [hn] at hR
    repeat walk_at "s"
    refine we_lc2 (i := 1) (j := 2) rfl nd (blkOk_by rfl) rfl rfl (by decide) (fun _ _ _ _ _ => .inl rfl) (fun _ _ _ _ _ => .inl rfl) (by decide) (wi_list ?_)
    repeat walk_at "s"
    refine lcq_map2 (fun d => match d with | .tup [a, _] => a | x => x) (by rw [el]; exact size_ge (by omega)) ?_ ?_
    · intro i d hd
      obtain ⟨c, hi, rfl⟩ := cD_get hd
      refine ⟨_, _, rfl, ?_⟩
      intro s H C cl fp B hB
      repeat walk_at "s"
      exact ⟨rfl, rfl⟩
    · repeat walk_at "s"
      refine cq rfl ⟨cs.map (·.1), ?_, rfl, ok.nms, by rw [List.length_map]; omega, ?_⟩
      · rw [List.map_map, List.map_map]
        rfl
      · repeat walk_at "s"
        exact ⟨rfl, hR⟩
end
theorem cal_cells (T : Tx K mg) : Cal P w K mg base "asked_cells" 4 0 (sp_cells T.C_NoName) := ⟨_, _, _, ok_cells T, T.g_asked_cells, T.F_asked_cells.kp, T.b_asked_cells⟩
local macro_rules | `(tactic| walk_at "call") => `(tactic| ((with_reducible refine gF "asked_cells" ?_); refine we_own (k := 4) (n := 0) (S := (sp_cells (‹Tx _ _›).C_NoName)) ?_ ?_ rfl ?_; exact cal_cells ‹Tx _ _›; exact room ‹Room _ _› (by decide)))
/-- a board: its names, its rows -/
def bNs (cs : List (Str × List Str)) : List D := cs.map fun c => .str c.1
def bRows (cs : List (Str × List Str)) : List (Key × D) := cs.map fun c => (Sum.inr c.1, D.tup (c.2.map D.str))
def bD (CB : Addr) (cs : List (Str × List Str)) : D := .ins CB [("names", .tup (bNs cs)), ("rows", .dic (bRows cs))]
def sp_Board (CB CN : Addr) : SpD := fun xs M R Rx => ∃ cs : List (Str × List Str), xs = [.cel 0, .dat (.lst (cs.map cD))] ∧ M = [.ins CB []] ∧ CsOk cs ∧ (match badNm (cs.flatMap cNs) with
  | none => R (.dat .non) [.ins CB [("names", .dat (.tup (bNs cs))), ("rows", .dat (.dic (bRows cs)))]]
  | some z => Rx CN [("name", .str z)] [.ins CB []])
theorem bRows_no {cs : List (Str × List Str)} {i : Nat} {c : Str × List Str} (nd : (cs.map (·.1)).Nodup) (h : cs[i]? = some c) : ∀ kv ∈ bRows (cs.take i), kv.1 ≠ Sum.inr c.1 := by
  intro kv hk e
  unfold bRows at hk
  obtain ⟨y, hy, rfl⟩ := List.mem_map.mp hk
  refine nodup_take nd (z := c.1) (i := i) (by rw [List.getElem?_map, h]; rfl) y.1 ?_ (Sum.inr.inj e)
  rw [← List.map_take]
  exact List.mem_map_of_mem hy
section
local macro_rules | `(tactic| walk_at "v") => `(tactic| first | ((with_reducible refine gNa "self" ?_); refine we_var (i := 0) rfl (vis rfl) rfl ?_) | ((with_reducible refine gNa "cells" ?_); refine we_var (i := 1) rfl (vis rfl) rfl ?_) | ((with_reducible refine gNa "name" ?_); refine we_var (i := 2) rfl (vis rfl) rfl ?_) | ((with_reducible refine gNa "values" ?_); refine we_var (i := 3) rfl (vis rfl) rfl ?_))
local macro_rules | `(tactic| walk_at "set") => `(tactic| first | ((with_reducible refine gSn "self" ?_); refine ws_set (i := 0) (by assumption) rfl (by first | exact .inl rfl | exact .inr rfl) ?_) | ((with_reducible refine gSn "cells" ?_); refine ws_set (i := 1) (by assumption) rfl (by first | exact .inl rfl | exact .inr rfl) ?_) | ((with_reducible refine gSn "name" ?_); refine ws_set (i := 2) (by assumption) rfl (by first | exact .inl rfl | exact .inr rfl) ?_) | ((with_reducible refine gSn "values" ?_); refine ws_set (i := 3) (by assumption) rfl (by first | exact .inl rfl | exact .inr rfl) ?_))
theorem ok_Board (T : Tx K mg) : FnOk P w K mg base (L2.CX P w) 5 T.f_Board_init T.d_Board_init ["self", "cells"] (spOf K 1 (sp_Board T.C_Board T.C_NoName)) := by
  refine fn_ok T.F_Board_init sc_Board_init (fun xs M R Rx h => by obtain ⟨_, rfl, _⟩ := h; rfl) (fun cdv A outer s H E B xs M R Rx hr hB h => ?_)
  obtain ⟨cs, rfl, rfl, ok, hR⟩ := h
  have nd := sc_Board_init.nd
  have hl := ok.len
  have el : (cs.map cD).length = cs.length := List.length_map ..
  repeat walk_at "s"
  refine cq rfl ⟨cs, rfl, rfl, ok, ?_⟩
  cases e1 : badNm (cs.flatMap cNs) with
  | some z =>
    rw [e1] at hR
    exact ⟨rfl, hR⟩
  | none =>
  rw [e1] at hR
  repeat walk_at "s"
  refine we_lc2 (i := 2) (j := 3) rfl nd (blkOk_by rfl) rfl rfl (by decide) (fun _ _ _ _ _ => .inl rfl) (fun _ _ _ _ _ => .inl rfl) (by decide) (wi_list ?_)
  repeat walk_at "s"
  refine lcq_map2 (fun d => match d with | .tup [a, _] => a | x => x) (by rw [el]; exact size_ge (by omega)) ?_ ?_
  · intro i d hd
    obtain ⟨c, hi, rfl⟩ := cD_get hd
    refine ⟨_, _, rfl, ?_⟩
    intro s H C cl fp B hB
    repeat walk_at "s"
    exact ⟨rfl, rfl⟩
  have en : (cs.map cD).map (fun d => match d with | .tup [a, _] => a | x => x) = bNs cs := by
    unfold bNs
    rw [List.map_map]
    rfl
  rw [en]
  repeat walk_at "s"
  refine we_dnew ?_
  repeat walk_at "s"
  refine ws_for rfl (wi_list ?_)
  repeat walk_at "s"
  refine ⟨fun i ss M => (∃ o1 o2, ss = [some (.cel 0), some (.dat (.lst (cs.map cD))), o1, o2]) ∧ M = [.ins T.C_Board [("names", .dat (.tup (bNs cs))), ("rows", .cel 1)], .dic (bRows (cs.take i))], ⟨⟨_, _, rfl⟩, rfl⟩, ?_, ?_⟩
  · rintro i d ss M hd ⟨⟨o1, o2, rfl⟩, rfl⟩
    obtain ⟨c, hi, rfl⟩ := cD_get hd
    have no := bRows_no ok.nms hi
    refine wg_tup2 rfl ?_
    refine wg_name (i := 2) nd rfl (.inl rfl) ?_
    refine wg_name (i := 3) nd rfl (.inl rfl) ?_
    walk_at "s"
    refine ws_dput (by assumption) ?_
    repeat walk_at "s"
    refine ⟨_, Sum.inr c.1, rfl, rfl, ?_⟩
    refine cdc rfl ⟨?_, ?_⟩
    · show (bRows (cs.take i)).length < sizeLine
      unfold bRows
      rw [List.length_map, List.length_take]
      exact Nat.lt_of_le_of_lt (Nat.min_le_right _ _) (Nat.lt_of_le_of_lt hl.2 (by decide))
    · repeat walk_at "s"
      refine ⟨⟨_, _, rfl⟩, ?_⟩
      rw [putD_new no]
      have : bRows (cs.take i) ++ [(Sum.inr c.1, D.tup (c.2.map D.str))] = bRows (cs.take (i + 1)) := map_take_succ (fun (c : Str × List Str) => ((Sum.inr c.1 : Key), D.tup (c.2.map D.str))) hi
      rw [this]
      rfl
  · rintro ss M ⟨⟨o1, o2, rfl⟩, rfl⟩
    rw [el, List.take_length]
    refine wb_freeze 1 (Nat.le_of_eq hB) rfl rfl ?_
    walk_at "s"
    exact ⟨rfl, hR⟩
end
theorem mkr_Board (T : Tx K mg) : Mkr P w K mg base "Board" T.C_Board 5 (sp_Board T.C_Board T.C_NoName) := ⟨_, _, _, T.mk_Board, ok_Board T, T.g_Board, T.b_Board_init⟩
local macro_rules | `(tactic| walk_at "call") => `(tactic| ((with_reducible refine gF "Board" ?_); refine we_mkr (mkr_Board ‹Tx _ _›) (room ‹Room _ _› (by decide)) rfl ?_))

theorem ok_NoCell_init (T : Tx K mg) : FnOk P w K mg base CX0 1 T.f_NoCell_init T.d_NoCell_init ["self", "name"] (spX1 K "name") := by
  refine T.F_NoCell_init.ok sc_NoCell_init (fun vs H Q E h => by obtain ⟨a, C, v, rfl, _⟩ := h; rfl) (fun cdv A outer s H vs Q E hr h => ?_)
  obtain ⟨a, C, v, rfl, hC, hf, ha, k⟩ := h
  exact ⟨_, pss_one (ps_ost (pv 0) (pv 1)), v, rfl, .ref a, rfl, a, C, rfl, hC, hf, .inl ⟨ha, k⟩⟩
theorem rai_NoCell (T : Tx K mg) : Rai P w K mg base "NoCell" T.C_NoCell "name" := ⟨_, _, _, ⟨T.o_NoCell, T.g_NoCell, T.i_NoCell, T.t_NoCell⟩, T.n_NoCell_name, ok_NoCell_init T, T.b_NoCell_init⟩
local macro_rules | `(tactic| walk_at "raise") => `(tactic| ((with_reducible refine gRa "NoCell" ?_); refine ws_rai (x := "NoCell") (C := (‹Tx _ _›).C_NoCell) (f := "name") ?_ ?_ rfl rfl ?_; exact rai_NoCell ‹Tx _ _›; exact room ‹Room _ _› (by decide)))
theorem ok_NoValue_init (T : Tx K mg) : FnOk P w K mg base CX0 1 T.f_NoValue_init T.d_NoValue_init ["self", "cell", "value"] (spX2 K "cell" "value") := by
  refine T.F_NoValue_init.ok sc_NoValue_init (fun vs H Q E h => by obtain ⟨a, C, v, u, rfl, _⟩ := h; rfl) (fun cdv A outer s H vs Q E hr h => ?_)
  obtain ⟨a, C, v, u, rfl, hC, hf, ha, k⟩ := h
  refine ⟨_, pss_cons (ps_ost (pv 0) (pv 1)) (pss_one (ps_ost (pv 0) (pv 2))), v, rfl, .ref a, rfl, a, C, rfl, hC, hf.1, .inl ⟨ha, fun dx h1 h2 => ?_⟩⟩
  refine ⟨u, rfl, .ref a, rfl, a, C, rfl, hC, hf.2, .inr ⟨dx, [("cell", v)], upd_same, ?_, (by show 1 ≤ 900; decide), k dx h1 h2⟩⟩
  rw [upd_ne h2]
  exact upd_same
theorem rai_NoValue (T : Tx K mg) : Rai2 P w K mg base "NoValue" T.C_NoValue "cell" "value" := ⟨_, _, _, _, ⟨T.o_NoValue, T.g_NoValue, T.i_NoValue, T.t_NoValue⟩, ⟨T.n_NoValue_cell, T.n_NoValue_value⟩, ok_NoValue_init T, T.b_NoValue_init⟩
local macro_rules | `(tactic| walk_at "raise") => `(tactic| ((with_reducible refine gRa "NoValue" ?_); refine ws_rai2 (x := "NoValue") (C := (‹Tx _ _›).C_NoValue) (f := "cell") (g := "value") ?_ ?_ rfl rfl ?_; exact rai_NoValue ‹Tx _ _›; exact room ‹Room _ _› (by decide)))
/-- the values of a cell -/
def cVals (cs : List (Str × List Str)) (c : Str) : Option (List Str) := (cs.find? fun x => decide (x.1 = c)).map (·.2)
theorem bRows_look (c : Str) : ∀ cs : List (Str × List Str), valD (bRows cs) (Sum.inr c) = (cVals cs c).map fun vs => D.tup (vs.map D.str)
  | [] => rfl
  | x :: cs => by
    show valD ((Sum.inr x.1, D.tup (x.2.map D.str)) :: bRows cs) (Sum.inr c) = _
    by_cases e : x.1 = c
    · rw [valD_pos (by rw [e])]
      unfold cVals
      simp [e]
    · rw [valD_neg (fun z => e (Sum.inr.inj z)), bRows_look c cs]
      unfold cVals
      simp [e]
def sp_bvals (CB CC : Addr) : SpD := fun xs M R Rx => ∃ cs c, xs = [.dat (bD CB cs), .dat (.str c)] ∧ M = [] ∧ (match cVals cs c with
  | some vs => R (.dat (.lst (vs.map D.str))) []
  | none => Rx CC [("name", .str c)] [])
section
local macro_rules | `(tactic| walk_at "v") => `(tactic| first | ((with_reducible refine gNa "self" ?_); refine we_var (i := 0) rfl (vis rfl) rfl ?_) | ((with_reducible refine gNa "cell" ?_); refine we_var (i := 1) rfl (vis rfl) rfl ?_))
local macro_rules | `(tactic| walk_at "set") => `(tactic| first | ((with_reducible refine gSn "self" ?_); refine ws_set (i := 0) (by assumption) rfl (by first | exact .inl rfl | exact .inr rfl) ?_) | ((with_reducible refine gSn "cell" ?_); refine ws_set (i := 1) (by assumption) rfl (by first | exact .inl rfl | exact .inr rfl) ?_))
theorem ok_bvals (T : Tx K mg) : FnOk P w K mg base (L2.CX P w) 3 T.f_Board_values_of T.d_Board_values_of ["self", "cell"] (spOf K 0 (sp_bvals T.C_Board T.C_NoCell)) := by
  refine fn_ok T.F_Board_values_of sc_Board_values_of (fun xs M R Rx h => by obtain ⟨_, _, rfl, _⟩ := h; rfl) (fun cdv A outer s H E B xs M R Rx hr hB h => ?_)
  obtain ⟨cs, c, rfl, rfl, hR⟩ := h
  have nd := sc_Board_values_of.nd
  have hv := bRows_look c cs
  walk_at "s"
  refine ws_if (wt_dni (by assumption) rfl ?_)
  repeat walk_at "s"
  cases e : cVals cs c with
  | none =>
    rw [e] at hR hv
    refine it_t (by rw [hv]; rfl) ?_
    repeat walk_at "s"
    exact ⟨rfl, hR⟩
  | some vs =>
    rw [e] at hR hv
    refine it_f (by rw [hv]; rfl) ?_
    iterate 5 walk_at "s"
    refine we_dget (by assumption) ?_
    repeat walk_at "s"
    refine ⟨_, _, _, rfl, rfl, hv, ?_⟩
    repeat walk_at "s"
    exact ⟨rfl, hR⟩
end
theorem mtd_bvals (T : Tx K mg) : Mtd P w K mg base T.C_Board "values_of" 3 0 (sp_bvals T.C_Board T.C_NoCell) := ⟨_, _, _, T.cl_Board, T.m_Board_values_of, ok_bvals T, T.b_Board_values_of⟩
def sp_basked (CB CC CV : Addr) : SpD := fun xs M R Rx => ∃ cs c v, xs = [.dat (bD CB cs), .dat (.str c), .dat (.str v)] ∧ M = [] ∧ (match cVals cs c with
  | none => Rx CC [("name", .str c)] []
  | some vs => (v ∈ vs → R (.dat .non) []) ∧ (v ∉ vs → Rx CV [("value", .str v), ("cell", .str c)] []))
section
local macro_rules | `(tactic| walk_at "v") => `(tactic| first | ((with_reducible refine gNa "self" ?_); refine we_var (i := 0) rfl (vis rfl) rfl ?_) | ((with_reducible refine gNa "cell" ?_); refine we_var (i := 1) rfl (vis rfl) rfl ?_) | ((with_reducible refine gNa "value" ?_); refine we_var (i := 2) rfl (vis rfl) rfl ?_))
local macro_rules | `(tactic| walk_at "set") => `(tactic| first | ((with_reducible refine gSn "self" ?_); refine ws_set (i := 0) (by assumption) rfl (by first | exact .inl rfl | exact .inr rfl) ?_) | ((with_reducible refine gSn "cell" ?_); refine ws_set (i := 1) (by assumption) rfl (by first | exact .inl rfl | exact .inr rfl) ?_) | ((with_reducible refine gSn "value" ?_); refine ws_set (i := 2) (by assumption) rfl (by first | exact .inl rfl | exact .inr rfl) ?_))
theorem ok_basked (T : Tx K mg) : FnOk P w K mg base (L2.CX P w) 4 T.f_Board_asked T.d_Board_asked ["self", "cell", "value"] (spOf K 0 (sp_basked T.C_Board T.C_NoCell T.C_NoValue)) := by
  refine fn_ok T.F_Board_asked sc_Board_asked (fun xs M R Rx h => by obtain ⟨_, _, _, rfl, _⟩ := h; rfl) (fun cdv A outer s H E B xs M R Rx hr hB h => ?_)
  obtain ⟨cs, c, v, rfl, rfl, hR⟩ := h
  have nd := sc_Board_asked.nd
  walk_at "s"
  refine ws_if (wt_ni (by assumption) rfl ?_)
  walk_at "s"
  refine we_mtd (mtd_bvals T) (room hr (by decide)) ?_
  walk_at "s"
  refine ⟨⟨rfl, rfl⟩, ?_⟩
  repeat walk_at "s"
  refine cq rfl ⟨cs, c, rfl, rfl, ?_⟩
  cases e : cVals cs c with
  | none =>
    rw [e] at hR
    exact ⟨rfl, hR⟩
  | some vs =>
    rw [e] at hR
    refine niLs rfl (strs_pl vs) ?_
    rw [strs_any]
    refine ite_n (fun h => ?_) (fun h => ?_)
    · repeat walk_at "s"
      exact hR.2 h
    · repeat walk_at "s"
      exact ⟨rfl, hR.1 h⟩
end
theorem mtd_basked (T : Tx K mg) : Mtd P w K mg base T.C_Board "asked" 4 0 (sp_basked T.C_Board T.C_NoCell T.C_NoValue) := ⟨_, _, _, T.cl_Board, T.m_Board_asked, ok_basked T, T.b_Board_asked⟩
def oth (vs : List Str) (v : Str) : List Str := vs.filter fun z => !decide (z = v)
def sp_bothers (CB : Addr) : SpD := fun xs M R Rx => ∃ cs c v vs, xs = [.dat (bD CB cs), .dat (.str c), .dat (.str v)] ∧ M = [] ∧ cVals cs c = some vs ∧ vs.length ≤ 1000 ∧ R (.dat (.lst ((oth vs v).map D.str))) []
section
local macro_rules | `(tactic| walk_at "v") => `(tactic| first | ((with_reducible refine gNa "self" ?_); refine we_var (i := 0) rfl (vis rfl) rfl ?_) | ((with_reducible refine gNa "cell" ?_); refine we_var (i := 1) rfl (vis rfl) rfl ?_) | ((with_reducible refine gNa "value" ?_); refine we_var (i := 2) rfl (vis rfl) rfl ?_) | ((with_reducible refine gNa "one" ?_); refine we_var (i := 3) rfl (vis rfl) rfl ?_))
local macro_rules | `(tactic| walk_at "set") => `(tactic| first | ((with_reducible refine gSn "self" ?_); refine ws_set (i := 0) (by assumption) rfl (by first | exact .inl rfl | exact .inr rfl) ?_) | ((with_reducible refine gSn "cell" ?_); refine ws_set (i := 1) (by assumption) rfl (by first | exact .inl rfl | exact .inr rfl) ?_) | ((with_reducible refine gSn "value" ?_); refine ws_set (i := 2) (by assumption) rfl (by first | exact .inl rfl | exact .inr rfl) ?_) | ((with_reducible refine gSn "one" ?_); refine ws_set (i := 3) (by assumption) rfl (by first | exact .inl rfl | exact .inr rfl) ?_))
theorem ok_bothers (T : Tx K mg) : FnOk P w K mg base (L2.CX P w) 4 T.f_Board_others T.d_Board_others ["self", "cell", "value"] (spOf K 0 (sp_bothers T.C_Board)) := by
  refine fn_ok T.F_Board_others sc_Board_others (fun xs M R Rx h => by obtain ⟨_, _, _, _, rfl, _⟩ := h; rfl) (fun cdv A outer s H E B xs M R Rx hr hB h => ?_)
  obtain ⟨cs, c, v, vs, rfl, rfl, e, hl, hR⟩ := h
  have nd := sc_Board_others.nd
  iterate 2 walk_at "s"
  refine we_lc1 (j := 3) rfl nd (blkOk_by rfl) rfl (fun _ _ _ _ _ => .inl rfl) (by decide) (wi_list ?_)
  refine we_mtd (mtd_bvals T) (room hr (by decide)) ?_
  walk_at "s"
  refine ⟨⟨rfl, rfl⟩, ?_⟩
  repeat walk_at "s"
  refine cq rfl ⟨cs, c, rfl, rfl, ?_⟩
  rw [e]
  refine ⟨_, rfl, ?_⟩
  refine lcq_filter (l := vs) (g := D.str) D.str (fun z => !decide (z = v)) (size_ge (by omega)) ?_ ?_ ?_
  · intro i z hz s H C cl fp B hB
    repeat walk_at "s"
    exact ⟨rfl, rfl⟩
  · intro i z hz _ s H C cl fp B hB
    repeat walk_at "s"
    exact ⟨rfl, rfl⟩
  · exact ⟨rfl, hR⟩
end
theorem mtd_bothers (T : Tx K mg) : Mtd P w K mg base T.C_Board "others" 4 0 (sp_bothers T.C_Board) := ⟨_, _, _, T.cl_Board, T.m_Board_others, ok_bothers T, T.b_Board_others⟩

def Stm.word : Stm → Str
  | .write _ _ => "write"
  | .wait _ _ => "wait"
  | .mark _ => "mark"
  | .skip => "skip"
  | .stop => "stop"
  | .iff _ _ _ _ => "if"
  | .whl _ _ _ => "while"
  | .cho _ _ => "choose"
  | .loop _ => "loop"
theorem bad2 {a b : Str} (h1 : isNm a = true) (h2 : isNm b = true) : badNm [a, b] = none := by unfold badNm; simp [h1, h2]
theorem bad1 {a : Str} (h1 : isNm a = true) : badNm [a] = none := by unfold badNm; simp [h1]
/-- the second and the third part of a row that tells a statement -/
def Stm.fits : Stm → D → D → Prop
  | .write a b, dc, dv => dc = .str a ∧ dv = .str b ∧ isNm a = true ∧ isNm b = true
  | .wait a b, dc, dv => dc = .str a ∧ dv = .str b ∧ isNm a = true ∧ isNm b = true
  | .iff a b _ _, dc, dv => dc = .str a ∧ dv = .str b ∧ isNm a = true ∧ isNm b = true
  | .whl a b _, dc, dv => dc = .str a ∧ dv = .str b ∧ isNm a = true ∧ isNm b = true
  | .mark a, dc, _ => dc = .str a ∧ isNm a = true
  | _, _, _ => True
local macro_rules | `(tactic| walk_at "br") => `(tactic| first | walk_at "s" | refine it_t (by decide +kernel) ?_ | refine it_f (by decide +kernel) ?_)
def sp_lmade (T : TA) : SpD := fun xs M R _ => ∃ (s : Stm) (dc dv : D), xs = [.dat (.str s.word), .dat dc, .dat dv, .dat (.lst (s.parts.map (prD T)))] ∧ M = [] ∧ s.fits dc dv ∧ R (.dat (s.d T)) []
section
local macro_rules | `(tactic| walk_at "v") => `(tactic| first | ((with_reducible refine gNa "_law_word" ?_); refine we_var (i := 0) rfl (vis rfl) rfl ?_) | ((with_reducible refine gNa "_law_cell" ?_); refine we_var (i := 1) rfl (vis rfl) rfl ?_) | ((with_reducible refine gNa "_law_value" ?_); refine we_var (i := 2) rfl (vis rfl) rfl ?_) | ((with_reducible refine gNa "_law_some" ?_); refine we_var (i := 3) rfl (vis rfl) rfl ?_))
local macro_rules | `(tactic| walk_at "set") => `(tactic| first | ((with_reducible refine gSn "_law_word" ?_); refine ws_set (i := 0) (by assumption) rfl (by first | exact .inl rfl | exact .inr rfl) ?_) | ((with_reducible refine gSn "_law_cell" ?_); refine ws_set (i := 1) (by assumption) rfl (by first | exact .inl rfl | exact .inr rfl) ?_) | ((with_reducible refine gSn "_law_value" ?_); refine ws_set (i := 2) (by assumption) rfl (by first | exact .inl rfl | exact .inr rfl) ?_) | ((with_reducible refine gSn "_law_some" ?_); refine ws_set (i := 3) (by assumption) rfl (by first | exact .inl rfl | exact .inr rfl) ?_))
theorem ok_lmade (T : Tx K mg) : FnOk P w K mg base (L2.CX P w) 7 T.f_law_made T.d_law_made ps_law_made (spOf K 0 (sp_lmade T.ta)) := by
  refine fn_ok T.F_law_made sc_law_made (fun xs M R Rx h => by obtain ⟨_, _, _, rfl, _⟩ := h; rfl) (fun cdv A outer sh H E B xs M R Rx hr hB h => ?_)
  obtain ⟨s, dc, dv, rfl, rfl, hf, hR⟩ := h
  have nd := sc_law_made.nd
  cases s with
  | write a b =>
    obtain ⟨rfl, rfl, h1, h2⟩ := hf
    repeat walk_at "br"
    refine mq rfl ⟨_, a, b, rfl, rfl, ⟨T.cl_Write, T.n_Write_cell, T.n_Write_value⟩, ?_⟩
    rw [bad2 h1 h2]
    exact ⟨rfl, _, _, rfl, rfl, rfl, hR⟩
  | wait a b =>
    obtain ⟨rfl, rfl, h1, h2⟩ := hf
    repeat walk_at "br"
    refine mq rfl ⟨_, a, b, rfl, rfl, ⟨T.cl_Wait, T.n_Wait_cell, T.n_Wait_value⟩, ?_⟩
    rw [bad2 h1 h2]
    exact ⟨rfl, _, _, rfl, rfl, rfl, hR⟩
  | mark a =>
    obtain ⟨rfl, h1⟩ := hf
    repeat walk_at "br"
    refine mq rfl ⟨a, rfl, rfl, ?_⟩
    rw [bad1 h1]
    exact ⟨rfl, _, _, rfl, rfl, rfl, hR⟩
  | skip =>
    repeat walk_at "br"
    exact ⟨rfl, hR⟩
  | stop =>
    repeat walk_at "br"
    exact ⟨rfl, hR⟩
  | iff a b y n =>
    obtain ⟨rfl, rfl, h1, h2⟩ := hf
    repeat walk_at "br"
    refine mq rfl ⟨a, b, _, _, rfl, rfl, ?_⟩
    rw [bad2 h1 h2]
    exact ⟨rfl, _, _, rfl, rfl, rfl, hR⟩
  | whl a b y =>
    obtain ⟨rfl, rfl, h1, h2⟩ := hf
    repeat walk_at "br"
    refine mq rfl ⟨a, b, _, rfl, rfl, ?_⟩
    rw [bad2 h1 h2]
    exact ⟨rfl, _, _, rfl, rfl, rfl, hR⟩
  | cho y n =>
    repeat walk_at "br"
    refine mq rfl ⟨_, _, rfl, rfl, ?_⟩
    exact ⟨rfl, _, _, rfl, rfl, rfl, hR⟩
  | loop y =>
    repeat walk_at "br"
    refine mq rfl ⟨_, rfl, rfl, ?_⟩
    exact ⟨rfl, _, _, rfl, rfl, rfl, hR⟩
end
theorem cal_lmade (T : Tx K mg) : Cal P w K mg base "_law_made" 7 0 (sp_lmade T.ta) := ⟨_, _, _, ok_lmade T, T.g_law_made, T.F_law_made.kp, T.b_law_made⟩
local macro_rules | `(tactic| walk_at "call") => `(tactic| ((with_reducible refine gF "_law_made" ?_); refine we_own (k := 7) (n := 0) (S := (sp_lmade (‹Tx _ _›).ta)) ?_ ?_ rfl ?_; exact cal_lmade ‹Tx _ _›; exact room ‹Room _ _› (by decide)))

theorem size_pos (s : Stm) : 1 ≤ s.size := by cases s <;> simp only [Stm.size] <;> omega
theorem len_sizes : ∀ r : List Stm, r.length ≤ sizes r
  | [] => by simp [sizes]
  | s :: r => by
    have := len_sizes r
    have := size_pos s
    simp only [sizes, List.length_cons]
    omega
mutual
theorem small_sz : ∀ s : Stm, s.size ≤ 1000 → s.small = true
  | .iff a b y n, h => by
    have h1 := len_sizes y
    have h2 := len_sizes n
    simp only [Stm.size] at h
    simp only [Stm.small, Bool.and_eq_true, decide_eq_true_eq]
    exact ⟨⟨⟨smalls_sz y (by omega), smalls_sz n (by omega)⟩, by omega⟩, by omega⟩
  | .whl a b y, h => by
    have h1 := len_sizes y
    simp only [Stm.size] at h
    simp only [Stm.small, Bool.and_eq_true, decide_eq_true_eq]
    exact ⟨smalls_sz y (by omega), by omega⟩
  | .cho y n, h => by
    have h1 := len_sizes y
    have h2 := len_sizes n
    simp only [Stm.size] at h
    simp only [Stm.small, Bool.and_eq_true, decide_eq_true_eq]
    exact ⟨⟨⟨smalls_sz y (by omega), smalls_sz n (by omega)⟩, by omega⟩, by omega⟩
  | .loop y, h => by
    have h1 := len_sizes y
    simp only [Stm.size] at h
    simp only [Stm.small, Bool.and_eq_true, decide_eq_true_eq]
    exact ⟨smalls_sz y (by omega), by omega⟩
  | .write _ _, _ => by simp only [Stm.small]
  | .wait _ _, _ => by simp only [Stm.small]
  | .mark _, _ => by simp only [Stm.small]
  | .skip, _ => by simp only [Stm.small]
  | .stop, _ => by simp only [Stm.small]
theorem smalls_sz : ∀ r : List Stm, sizes r ≤ 1000 → smalls r = true
  | [], _ => by simp only [smalls]
  | s :: r, h => by
    simp only [sizes] at h
    simp only [smalls, Bool.and_eq_true]
    exact ⟨small_sz s (by omega), smalls_sz r (by omega)⟩
end
theorem rowOk_sz {r : List Stm} (h : sizes r ≤ 1000) : RowOk r := ⟨smalls_sz r h, Nat.le_trans (len_sizes r) h⟩
theorem sum_mem {l : List Nat} {n : Nat} (h : n ∈ l) : n ≤ l.sum := by
  induction l with
  | nil => cases h
  | cons x l ih =>
    rw [List.sum_cons]
    rcases List.mem_cons.mp h with rfl | h
    · omega
    · have := ih h; omega
theorem size_part {s : Stm} {p : List Stm} (h : p ∈ s.parts) : sizes p + 1 ≤ s.size := by
  rw [size_parts s]
  have := sum_mem (List.mem_map_of_mem (f := sizes) h)
  omega
theorem size_mem {r : List Stm} {s : Stm} (h : s ∈ r) : s.size ≤ sizes r := by
  rw [sizes_map]
  exact sum_mem (List.mem_map_of_mem (f := Stm.size) h)
/-- a tuple that tells a statement: its word, cell, value, the rows within -/
def OneR : Nat → Stm → D → Prop
  | 0, _, _ => False
  | k + 1, s, d => ∃ (dc dv : D) (qs : List (List Stm × D)), d = .tup [.str s.word, dc, dv, .tup (qs.map (·.2))] ∧ s.fits dc dv ∧ s.parts = qs.map (·.1) ∧
      ∀ q ∈ qs, ∃ ps : List (Stm × D), q.1 = ps.map (·.1) ∧ q.2 = .lst (ps.map (·.2)) ∧ ∀ p ∈ ps, OneR k p.1 p.2
def RowR (k : Nat) (r : List Stm) (d : D) : Prop := ∃ ps : List (Stm × D), r = ps.map (·.1) ∧ d = .lst (ps.map (·.2)) ∧ ∀ p ∈ ps, OneR k p.1 p.2

/-- the second and the third part of a drawn statement's tuple -/
def Stm.dc : Stm → D
  | .write a _ => .str a
  | .wait a _ => .str a
  | .iff a _ _ _ => .str a
  | .whl a _ _ => .str a
  | .mark a => .str a
  | _ => .non
def Stm.dv : Stm → D
  | .write _ b => .str b
  | .wait _ b => .str b
  | .iff _ b _ _ => .str b
  | .whl _ b _ => .str b
  | _ => .non
mutual
/-- a drawn statement's tuple -/
def Stm.tD : Stm → D
  | .write a b => .tup [.str "write", .str a, .str b, .tup []]
  | .wait a b => .tup [.str "wait", .str a, .str b, .tup []]
  | .mark a => .tup [.str "mark", .str a, .non, .tup []]
  | .skip => .tup [.str "skip", .non, .non, .tup []]
  | .stop => .tup [.str "stop", .non, .non, .tup []]
  | .iff a b y n => .tup [.str "if", .str a, .str b, .tup [.lst (tDs y), .lst (tDs n)]]
  | .whl a b y => .tup [.str "while", .str a, .str b, .tup [.lst (tDs y)]]
  | .cho y n => .tup [.str "choose", .non, .non, .tup [.lst (tDs y), .lst (tDs n)]]
  | .loop y => .tup [.str "loop", .non, .non, .tup [.lst (tDs y)]]
def tDs : List Stm → List D
  | [] => []
  | s :: r => s.tD :: tDs r
end
theorem tDs_map : ∀ r : List Stm, tDs r = r.map Stm.tD
  | [] => by simp [tDs]
  | s :: r => by simp only [tDs, List.map_cons, tDs_map r]
theorem tD_eq (s : Stm) : s.tD = .tup [.str s.word, s.dc, s.dv, .tup (s.parts.map fun p => .lst (tDs p))] := by
  cases s <;> simp [Stm.tD, Stm.word, Stm.dc, Stm.dv, Stm.parts]

/-- _law_built, by a loop -/
def sp_lbuiltL (T : TA) (k : Nat) : SpD := fun xs M R _ => ∃ (ps : List (Stm × D)), xs = [.dat (.lst (ps.map (·.2)))] ∧ M = [] ∧ (∀ p ∈ ps, OneR k p.1 p.2) ∧ sizes (ps.map (·.1)) ≤ 24 ∧ dps (ps.map (·.1)) ≤ 5 ∧ R (.dat (prD T (ps.map (·.1)))) []
section
local macro_rules | `(tactic| walk_at "v") => `(tactic| first | ((with_reducible refine gNa "_law_row_here" ?_); refine we_var (i := 0) rfl (vis rfl) rfl ?_) | ((with_reducible refine gNa "_law_found" ?_); refine we_var (i := 1) rfl (vis rfl) rfl ?_) | ((with_reducible refine gNa "_law_word" ?_); refine we_var (i := 2) rfl (vis rfl) rfl ?_) | ((with_reducible refine gNa "_law_cell" ?_); refine we_var (i := 3) rfl (vis rfl) rfl ?_) | ((with_reducible refine gNa "_law_value" ?_); refine we_var (i := 4) rfl (vis rfl) rfl ?_) | ((with_reducible refine gNa "_law_parts" ?_); refine we_var (i := 5) rfl (vis rfl) rfl ?_) | ((with_reducible refine gNa "_law_part" ?_); refine we_var (i := 6) rfl (vis rfl) rfl ?_))
local macro_rules | `(tactic| walk_at "set") => `(tactic| first | ((with_reducible refine gSn "_law_row_here" ?_); refine ws_set (i := 0) (by assumption) rfl (by first | exact .inl rfl | exact .inr rfl) ?_) | ((with_reducible refine gSn "_law_found" ?_); refine ws_set (i := 1) (by assumption) rfl (by first | exact .inl rfl | exact .inr rfl) ?_) | ((with_reducible refine gSn "_law_word" ?_); refine ws_set (i := 2) (by assumption) rfl (by first | exact .inl rfl | exact .inr rfl) ?_) | ((with_reducible refine gSn "_law_cell" ?_); refine ws_set (i := 3) (by assumption) rfl (by first | exact .inl rfl | exact .inr rfl) ?_) | ((with_reducible refine gSn "_law_value" ?_); refine ws_set (i := 4) (by assumption) rfl (by first | exact .inl rfl | exact .inr rfl) ?_) | ((with_reducible refine gSn "_law_parts" ?_); refine ws_set (i := 5) (by assumption) rfl (by first | exact .inl rfl | exact .inr rfl) ?_) | ((with_reducible refine gSn "_law_part" ?_); refine ws_set (i := 6) (by assumption) rfl (by first | exact .inl rfl | exact .inr rfl) ?_))
theorem ok_lbuiltL (T : Tx K mg) (k : Nat) (ih : ∀ j, k = j + 1 → Cal P w K mg base "_law_built" (j + 17) 0 (sp_lbuiltL T.ta j)) : FnOk P w K mg base (L2.CX P w) (k + 17) T.f_law_built T.d_law_built ps_law_built (spOf K 0 (sp_lbuiltL T.ta k)) := by
  refine fn_ok T.F_law_built sc_law_built (fun xs M R Rx h => by obtain ⟨_, rfl, _⟩ := h; rfl) (fun cdv A outer sh H E B xs M R Rx hr hB h => ?_)
  obtain ⟨ps, rfl, rfl, ho, hz, hd, hR⟩ := h
  have nd := sc_law_built.nd
  have hl := len_sizes (ps.map (·.1))
  rw [List.length_map] at hl
  walk_at "s"
  refine ws_set (i := 1) nd rfl (.inl rfl) ?_
  refine we_lstC ?_
  repeat walk_at "s"
  refine ws_for rfl (wi_list ?_)
  repeat walk_at "s"
  refine ⟨fun i ss M => (∃ o2 o3 o4 o5, ss = [some (.dat (.lst (ps.map (·.2)))), some (.cel 0), o2, o3, o4, o5, none]) ∧ M = [.lst ((ps.take i).map fun p => Stm.d T.ta p.1)], ⟨⟨none, none, none, none, rfl⟩, rfl⟩, ?_, ?_⟩
  · rintro i d ss M hdd ⟨⟨o2, o3, o4, o5, rfl⟩, rfl⟩
    obtain ⟨p, hp, rfl⟩ := map_get hdd
    have hm := List.mem_of_getElem? hp
    cases k with
    | zero => exact (ho p hm).elim
    | succ j =>
    have C := ih j rfl
    obtain ⟨dc, dv, qs, e1, hf, hpp, hq⟩ := ho p hm
    obtain ⟨s, d⟩ := p
    replace e1 : d = .tup [.str s.word, dc, dv, .tup (qs.map (·.2))] := e1
    replace hf : s.fits dc dv := hf
    replace hpp : s.parts = qs.map (·.1) := hpp
    subst e1
    have hpm : s ∈ ps.map (·.1) := List.mem_map_of_mem hm
    have z1 := size_mem hpm
    have z2 := dps_mem hpm
    have hl2 : qs.length ≤ 2 := by
      have := parts_len s
      rw [hpp, List.length_map] at this
      exact this
    refine wg_tup4 rfl ?_
    refine wg_name (i := 2) nd rfl (.inl rfl) ?_
    refine wg_name (i := 3) nd rfl (.inl rfl) ?_
    refine wg_name (i := 4) nd rfl (.inl rfl) ?_
    refine wg_name (i := 5) nd rfl (.inl rfl) ?_
    walk_at "s"
    refine ws_expr ?_
    refine we_append ?_
    walk_at "s"
    refine cl1 rfl ?_
    refine wa_cons ?_
    refine we_own (cal_lmade T) (room hr (by omega)) rfl ?_
    repeat walk_at "s"
    refine we_lc1 (j := 6) rfl nd (blkOk_by rfl) rfl (fun _ _ _ _ _ => .inl rfl) (by decide) (wi_tup ?_)
    repeat walk_at "s"
    refine lcq_mapA (l := qs) (g := fun q => q.2) (fun q => prD T.ta q.1) (size_ge (by omega)) ?_ ?_
    · intro i2 q hi2 sh H C' cl fp B hB
      refine we_own C (room hr (by omega)) rfl ?_
      repeat walk_at "s"
      have hqm := List.mem_of_getElem? hi2
      obtain ⟨rs, e3, e4, h5⟩ := hq q hqm
      have hpm : q.1 ∈ s.parts := by rw [hpp]; exact List.mem_map_of_mem hqm
      have := size_part hpm
      have := dp_parts hpm
      rw [e3] at *
      refine cq rfl ⟨rs, by rw [e4], rfl, h5, by omega, by omega, ?_⟩
      exact ⟨rfl, rfl⟩
    · repeat walk_at "s"
      refine cq rfl ⟨s, dc, dv, ?_, rfl, hf, ?_⟩
      · rw [hpp, List.map_map]
        rfl
      · repeat walk_at "s"
        refine ⟨size_ge (by show ((ps.take i).map _).length + 1 ≤ _; rw [List.length_map, List.length_take]; omega), ?_⟩
        repeat walk_at "s"
        exact ⟨⟨_, _, _, _, rfl⟩, congrArg (fun l => [Cell.lst l]) (map_take_succ (fun p : Stm × D => Stm.d T.ta p.1) hp)⟩
  · rintro ss M ⟨⟨o2, o3, o4, o5, rfl⟩, rfl⟩
    rw [List.length_map, List.take_length]
    have es : (ps.map fun p => Stm.d T.ta p.1) = stms T.ta (ps.map (·.1)) := by rw [stms_map, List.map_map]; rfl
    rw [es]
    walk_at "s"
    refine ws_ret ?_
    refine we_makeS [0] T.mk_Program (ok_ProgS T 5) (room hr (by omega)) T.g_Program T.b_Program_init rfl ?_
    iterate 3 walk_at "s"
    refine ⟨rfl, ⟨ps.map (·.1), rfl, rfl, ⟨hd, rowOk_sz (by omega)⟩, hz, by omega, ?_⟩⟩
    exact ⟨rfl, rfl, _, _, rfl, rfl, rfl, hR⟩
end
theorem cal_builtL (T : Tx K mg) : ∀ k, Cal P w K mg base "_law_built" (k + 17) 0 (sp_lbuiltL T.ta k) := by
  intro k
  induction k with
  | zero => exact ⟨_, _, _, ok_lbuiltL T 0 (fun j e => by omega), T.g_law_built, T.F_law_built.kp, T.b_law_built⟩
  | succ k ih => exact ⟨_, _, _, ok_lbuiltL T (k + 1) (fun j e => by
      obtain rfl : k = j := by omega
      exact ih), T.g_law_built, T.F_law_built.kp, T.b_law_built⟩

def Stm.isWrite : Stm → Bool
  | .write _ _ => true
  | _ => false
theorem k_isWrite (T : Tx K mg) (s : Stm) : PySem.W.kitOne K (.ref (s.cls T.ta)) (.ref T.C_Write) = some s.isWrite := by
  cases s with
  | write a b => exact T.k_Write_Write
  | wait a b => exact T.k_Wait_Write
  | mark a => exact T.k_Mark_Write
  | skip => exact T.k_Skip_Write
  | stop => exact T.k_Stop_Write
  | iff a b y n => exact T.k_If_Write
  | whl a b y => exact T.k_While_Write
  | cho y n => exact T.k_Choose_Write
  | loop y => exact T.k_Loop_Write
def Stm.isWait : Stm → Bool
  | .wait _ _ => true
  | _ => false
theorem k_isWait (T : Tx K mg) (s : Stm) : PySem.W.kitOne K (.ref (s.cls T.ta)) (.ref T.C_Wait) = some s.isWait := by
  cases s with
  | write a b => exact T.k_Write_Wait
  | wait a b => exact T.k_Wait_Wait
  | mark a => exact T.k_Mark_Wait
  | skip => exact T.k_Skip_Wait
  | stop => exact T.k_Stop_Wait
  | iff a b y n => exact T.k_If_Wait
  | whl a b y => exact T.k_While_Wait
  | cho y n => exact T.k_Choose_Wait
  | loop y => exact T.k_Loop_Wait
def Stm.isMark : Stm → Bool
  | .mark _ => true
  | _ => false
theorem k_isMark (T : Tx K mg) (s : Stm) : PySem.W.kitOne K (.ref (s.cls T.ta)) (.ref T.C_Mark) = some s.isMark := by
  cases s with
  | write a b => exact T.k_Write_Mark
  | wait a b => exact T.k_Wait_Mark
  | mark a => exact T.k_Mark_Mark
  | skip => exact T.k_Skip_Mark
  | stop => exact T.k_Stop_Mark
  | iff a b y n => exact T.k_If_Mark
  | whl a b y => exact T.k_While_Mark
  | cho y n => exact T.k_Choose_Mark
  | loop y => exact T.k_Loop_Mark
def Stm.isSkip : Stm → Bool
  | .skip => true
  | _ => false
theorem k_isSkip (T : Tx K mg) (s : Stm) : PySem.W.kitOne K (.ref (s.cls T.ta)) (.ref T.C_Skip) = some s.isSkip := by
  cases s with
  | write a b => exact T.k_Write_Skip
  | wait a b => exact T.k_Wait_Skip
  | mark a => exact T.k_Mark_Skip
  | skip => exact T.k_Skip_Skip
  | stop => exact T.k_Stop_Skip
  | iff a b y n => exact T.k_If_Skip
  | whl a b y => exact T.k_While_Skip
  | cho y n => exact T.k_Choose_Skip
  | loop y => exact T.k_Loop_Skip
def Stm.isStop : Stm → Bool
  | .stop => true
  | _ => false
theorem k_isStop (T : Tx K mg) (s : Stm) : PySem.W.kitOne K (.ref (s.cls T.ta)) (.ref T.C_Stop) = some s.isStop := by
  cases s with
  | write a b => exact T.k_Write_Stop
  | wait a b => exact T.k_Wait_Stop
  | mark a => exact T.k_Mark_Stop
  | skip => exact T.k_Skip_Stop
  | stop => exact T.k_Stop_Stop
  | iff a b y n => exact T.k_If_Stop
  | whl a b y => exact T.k_While_Stop
  | cho y n => exact T.k_Choose_Stop
  | loop y => exact T.k_Loop_Stop
def Stm.isIf : Stm → Bool
  | .iff _ _ _ _ => true
  | _ => false
theorem k_isIf (T : Tx K mg) (s : Stm) : PySem.W.kitOne K (.ref (s.cls T.ta)) (.ref T.C_If) = some s.isIf := by
  cases s with
  | write a b => exact T.k_Write_If
  | wait a b => exact T.k_Wait_If
  | mark a => exact T.k_Mark_If
  | skip => exact T.k_Skip_If
  | stop => exact T.k_Stop_If
  | iff a b y n => exact T.k_If_If
  | whl a b y => exact T.k_While_If
  | cho y n => exact T.k_Choose_If
  | loop y => exact T.k_Loop_If
def Stm.isWhile : Stm → Bool
  | .whl _ _ _ => true
  | _ => false
theorem k_isWhile (T : Tx K mg) (s : Stm) : PySem.W.kitOne K (.ref (s.cls T.ta)) (.ref T.C_While) = some s.isWhile := by
  cases s with
  | write a b => exact T.k_Write_While
  | wait a b => exact T.k_Wait_While
  | mark a => exact T.k_Mark_While
  | skip => exact T.k_Skip_While
  | stop => exact T.k_Stop_While
  | iff a b y n => exact T.k_If_While
  | whl a b y => exact T.k_While_While
  | cho y n => exact T.k_Choose_While
  | loop y => exact T.k_Loop_While
def Stm.isChoose : Stm → Bool
  | .cho _ _ => true
  | _ => false
theorem k_isChoose (T : Tx K mg) (s : Stm) : PySem.W.kitOne K (.ref (s.cls T.ta)) (.ref T.C_Choose) = some s.isChoose := by
  cases s with
  | write a b => exact T.k_Write_Choose
  | wait a b => exact T.k_Wait_Choose
  | mark a => exact T.k_Mark_Choose
  | skip => exact T.k_Skip_Choose
  | stop => exact T.k_Stop_Choose
  | iff a b y n => exact T.k_If_Choose
  | whl a b y => exact T.k_While_Choose
  | cho y n => exact T.k_Choose_Choose
  | loop y => exact T.k_Loop_Choose
def Stm.isLoop : Stm → Bool
  | .loop _ => true
  | _ => false
theorem k_isLoop (T : Tx K mg) (s : Stm) : PySem.W.kitOne K (.ref (s.cls T.ta)) (.ref T.C_Loop) = some s.isLoop := by
  cases s with
  | write a b => exact T.k_Write_Loop
  | wait a b => exact T.k_Wait_Loop
  | mark a => exact T.k_Mark_Loop
  | skip => exact T.k_Skip_Loop
  | stop => exact T.k_Stop_Loop
  | iff a b y n => exact T.k_If_Loop
  | whl a b y => exact T.k_While_Loop
  | cho y n => exact T.k_Choose_Loop
  | loop y => exact T.k_Loop_Loop
theorem stm_isc (T : Tx K mg) (s : Stm) : IsC K (s.cls T.ta) := by
  cases s with
  | write a b => exact T.is_Write
  | wait a b => exact T.is_Wait
  | mark a => exact T.is_Mark
  | skip => exact T.is_Skip
  | stop => exact T.is_Stop
  | iff a b y n => exact T.is_If
  | whl a b y => exact T.is_While
  | cho y n => exact T.is_Choose
  | loop y => exact T.is_Loop

inductive Act where
  | go | put (a b : Str) | look (a b : Str)
def Act.d : Act → D
  | .go => .tup [.str "go"]
  | .put a b => .tup [.str "put", .str a, .str b]
  | .look a b => .tup [.str "look", .str a, .str b]
/-- the values of a cell, or none -/
def cValsD (cs : List (Str × List Str)) (c : Str) : List Str := (cVals cs c).getD []
def CvOk (cs : List (Str × List Str)) : Prop := ∀ c vs, cVals cs c = some vs → vs.length ≤ 1000
theorem oth_len (vs : List Str) (v : Str) : (oth vs v).length ≤ vs.length := List.length_filter_le _ _
def Stm.names : Stm → Option (Str × Str)
  | .write a b => some (a, b)
  | .wait a b => some (a, b)
  | .iff a b _ _ => some (a, b)
  | .whl a b _ => some (a, b)
  | _ => none
theorem any_ms (T : Tx K mg) (s : Stm) : PySem.W.kitAny K (.ref (s.cls T.ta)) [.ref T.C_Mark, .ref T.C_Skip] = some (s.isMark || s.isSkip) := by
  simp only [PySem.W.kitAny, k_isMark T s, k_isSkip T s]
  cases s <;> rfl

/-- a step: its act, what is left -/
def stepD (T : TA) (p : Act × List Stm) : D := .tup [p.1.d, .lst (stms T p.2)]
/-- what is left of a row -/
def lefts (cs : List (Str × List Str)) : List Stm → List (Act × List Stm)
  | [] => []
  | s :: r => match s with
    | .stop => []
    | .mark _ => [(.go, r)]
    | .skip => [(.go, r)]
    | .cho y n => [(.go, y ++ r), (.go, n ++ r)]
    | .loop y => [(.go, y ++ s :: r)]
    | .write a b => [(.put a b, r)]
    | .wait a b => [(.look a b, r)]
    | .iff a b y n => (.look a b, y ++ r) :: (oth (cValsD cs a) b).map fun v => (.look a v, n ++ r)
    | .whl a b y => (.look a b, y ++ s :: r) :: (oth (cValsD cs a) b).map fun v => (.look a v, r)
def leftD (T : TA) (cs : List (Str × List Str)) (row : List Stm) : D := .lst ((lefts cs row).map (stepD T))
theorem stms_cons (T : TA) (s : Stm) (r : List Stm) : stms T (s :: r) = s.d T :: stms T r := by simp only [stms, Stm.d]
def sp_looks_lefts (T : TA) (CB : Addr) (s : Stm) : SpD := fun xs M R _ => ∃ cs a b y n vs, s.names = some (a, b) ∧ xs = [.dat (bD CB cs), .dat (s.d T), .dat (.lst (stms T y)), .dat (.lst (stms T n))] ∧ M = [] ∧ cVals cs a = some vs ∧ vs.length ≤ 1000 ∧
  R (.dat (.lst ((((.look a b, y) : Act × List Stm) :: (oth vs b).map fun v => ((.look a v, n) : Act × List Stm)).map (stepD T)))) []
section
local macro_rules | `(tactic| walk_at "v") => `(tactic| first | ((with_reducible refine gNa "board" ?_); refine we_var (i := 0) rfl (vis rfl) rfl ?_) | ((with_reducible refine gNa "statement" ?_); refine we_var (i := 1) rfl (vis rfl) rfl ?_) | ((with_reducible refine gNa "then" ?_); refine we_var (i := 2) rfl (vis rfl) rfl ?_) | ((with_reducible refine gNa "other" ?_); refine we_var (i := 3) rfl (vis rfl) rfl ?_) | ((with_reducible refine gNa "found" ?_); refine we_var (i := 4) rfl (vis rfl) rfl ?_) | ((with_reducible refine gNa "value" ?_); refine we_var (i := 5) rfl (vis rfl) rfl ?_))
local macro_rules | `(tactic| walk_at "set") => `(tactic| first | ((with_reducible refine gSn "board" ?_); refine ws_set (i := 0) (by assumption) rfl (by first | exact .inl rfl | exact .inr rfl) ?_) | ((with_reducible refine gSn "statement" ?_); refine ws_set (i := 1) (by assumption) rfl (by first | exact .inl rfl | exact .inr rfl) ?_) | ((with_reducible refine gSn "then" ?_); refine ws_set (i := 2) (by assumption) rfl (by first | exact .inl rfl | exact .inr rfl) ?_) | ((with_reducible refine gSn "other" ?_); refine ws_set (i := 3) (by assumption) rfl (by first | exact .inl rfl | exact .inr rfl) ?_) | ((with_reducible refine gSn "found" ?_); refine ws_set (i := 4) (by assumption) rfl (by first | exact .inl rfl | exact .inr rfl) ?_) | ((with_reducible refine gSn "value" ?_); refine ws_set (i := 5) (by assumption) rfl (by first | exact .inl rfl | exact .inr rfl) ?_))
theorem ok_looks_iff (T : Tx K mg) (a b : Str) (yy nn : List Stm) : FnOk P w K mg base (L2.CX P w) 5 T.f_looks_lefts T.d_looks_lefts ["board", "statement", "then", "other"] (spOf K 0 (sp_looks_lefts T.ta T.C_Board (.iff a b yy nn))) := by
  refine fn_ok T.F_looks_lefts sc_looks_lefts (fun xs M R Rx h => by obtain ⟨_, _, _, _, _, _, _, rfl, _⟩ := h; rfl) (fun cdv A outer sh H E B xs M R Rx hr hB h => ?_)
  obtain ⟨cs, a, b, y, n, vs, hab, rfl, rfl, hv, hl, hR⟩ := h
  cases hab
  have nd := sc_looks_lefts.nd
  walk_at "s"
  refine ws_set (i := 4) nd rfl (.inl rfl) ?_
  refine we_lstC ?_
  repeat walk_at "s"
  refine ws_for rfl (wi_list ?_)
  refine we_mtd (mtd_bothers T) (room hr (by decide)) ?_
  walk_at "s"
  refine ⟨⟨rfl, rfl⟩, ?_⟩
  repeat walk_at "s"
  refine cq rfl ⟨cs, a, b, vs, rfl, rfl, hv, hl, ?_⟩
  refine ⟨_, rfl, ?_⟩
  refine ⟨fun i ss M => (∃ o, ss = [some (.dat (bD T.C_Board cs)), some (.dat (Stm.d T.ta (.iff a b yy nn))), some (.dat (.lst (stms T.ta y))), some (.dat (.lst (stms T.ta n))), some (.cel 0), o]) ∧ M = [.lst ((((.look a b, y) : Act × List Stm) :: ((oth vs b).take i).map fun v => ((.look a v, n) : Act × List Stm)).map (stepD T.ta))], ⟨⟨none, rfl⟩, rfl⟩, ?_, ?_⟩
  · rintro i d ss M hd ⟨⟨o, rfl⟩, rfl⟩
    obtain ⟨z, hz, rfl⟩ := map_get hd
    refine wg_name (i := 5) nd rfl (.inl rfl) ?_
    repeat walk_at "s"
    refine ⟨size_ge (by have := oth_len vs b; simp only [List.length_map, List.length_cons, List.length_take]; omega), ?_⟩
    repeat walk_at "s"
    refine ⟨⟨_, rfl⟩, ?_⟩
    have e := map_take_succ (fun v => stepD T.ta (.look a v, n)) hz
    simp only [List.map_cons, List.map_map, List.cons_append] at e ⊢
    exact congrArg (fun l => [Cell.lst (stepD T.ta (.look a b, y) :: l)]) e
  · rintro ss M ⟨⟨o, rfl⟩, rfl⟩
    walk_at "s"
    refine ws_ret (WE.frz ?_)
    walk_at "s"
    refine ⟨0, _, rfl, by rw [hB]; exact Nat.le_refl 0, rfl, ?_⟩
    rw [List.length_map, List.take_length]
    exact ⟨rfl, hR⟩
end
theorem cal_looks_iff (T : Tx K mg) (a b : Str) (yy nn : List Stm) : Cal P w K mg base "looks_lefts" 5 0 (sp_looks_lefts T.ta T.C_Board (.iff a b yy nn)) := ⟨_, _, _, ok_looks_iff T a b yy nn, T.g_looks_lefts, T.F_looks_lefts.kp, T.b_looks_lefts⟩
section
local macro_rules | `(tactic| walk_at "v") => `(tactic| first | ((with_reducible refine gNa "board" ?_); refine we_var (i := 0) rfl (vis rfl) rfl ?_) | ((with_reducible refine gNa "statement" ?_); refine we_var (i := 1) rfl (vis rfl) rfl ?_) | ((with_reducible refine gNa "then" ?_); refine we_var (i := 2) rfl (vis rfl) rfl ?_) | ((with_reducible refine gNa "other" ?_); refine we_var (i := 3) rfl (vis rfl) rfl ?_) | ((with_reducible refine gNa "found" ?_); refine we_var (i := 4) rfl (vis rfl) rfl ?_) | ((with_reducible refine gNa "value" ?_); refine we_var (i := 5) rfl (vis rfl) rfl ?_))
local macro_rules | `(tactic| walk_at "set") => `(tactic| first | ((with_reducible refine gSn "board" ?_); refine ws_set (i := 0) (by assumption) rfl (by first | exact .inl rfl | exact .inr rfl) ?_) | ((with_reducible refine gSn "statement" ?_); refine ws_set (i := 1) (by assumption) rfl (by first | exact .inl rfl | exact .inr rfl) ?_) | ((with_reducible refine gSn "then" ?_); refine ws_set (i := 2) (by assumption) rfl (by first | exact .inl rfl | exact .inr rfl) ?_) | ((with_reducible refine gSn "other" ?_); refine ws_set (i := 3) (by assumption) rfl (by first | exact .inl rfl | exact .inr rfl) ?_) | ((with_reducible refine gSn "found" ?_); refine ws_set (i := 4) (by assumption) rfl (by first | exact .inl rfl | exact .inr rfl) ?_) | ((with_reducible refine gSn "value" ?_); refine ws_set (i := 5) (by assumption) rfl (by first | exact .inl rfl | exact .inr rfl) ?_))
theorem ok_looks_whl (T : Tx K mg) (a b : Str) (yy : List Stm) : FnOk P w K mg base (L2.CX P w) 5 T.f_looks_lefts T.d_looks_lefts ["board", "statement", "then", "other"] (spOf K 0 (sp_looks_lefts T.ta T.C_Board (.whl a b yy))) := by
  refine fn_ok T.F_looks_lefts sc_looks_lefts (fun xs M R Rx h => by obtain ⟨_, _, _, _, _, _, _, rfl, _⟩ := h; rfl) (fun cdv A outer sh H E B xs M R Rx hr hB h => ?_)
  obtain ⟨cs, a, b, y, n, vs, hab, rfl, rfl, hv, hl, hR⟩ := h
  cases hab
  have nd := sc_looks_lefts.nd
  walk_at "s"
  refine ws_set (i := 4) nd rfl (.inl rfl) ?_
  refine we_lstC ?_
  repeat walk_at "s"
  refine ws_for rfl (wi_list ?_)
  refine we_mtd (mtd_bothers T) (room hr (by decide)) ?_
  walk_at "s"
  refine ⟨⟨rfl, rfl⟩, ?_⟩
  repeat walk_at "s"
  refine cq rfl ⟨cs, a, b, vs, rfl, rfl, hv, hl, ?_⟩
  refine ⟨_, rfl, ?_⟩
  refine ⟨fun i ss M => (∃ o, ss = [some (.dat (bD T.C_Board cs)), some (.dat (Stm.d T.ta (.whl a b yy))), some (.dat (.lst (stms T.ta y))), some (.dat (.lst (stms T.ta n))), some (.cel 0), o]) ∧ M = [.lst ((((.look a b, y) : Act × List Stm) :: ((oth vs b).take i).map fun v => ((.look a v, n) : Act × List Stm)).map (stepD T.ta))], ⟨⟨none, rfl⟩, rfl⟩, ?_, ?_⟩
  · rintro i d ss M hd ⟨⟨o, rfl⟩, rfl⟩
    obtain ⟨z, hz, rfl⟩ := map_get hd
    refine wg_name (i := 5) nd rfl (.inl rfl) ?_
    repeat walk_at "s"
    refine ⟨size_ge (by have := oth_len vs b; simp only [List.length_map, List.length_cons, List.length_take]; omega), ?_⟩
    repeat walk_at "s"
    refine ⟨⟨_, rfl⟩, ?_⟩
    have e := map_take_succ (fun v => stepD T.ta (.look a v, n)) hz
    simp only [List.map_cons, List.map_map, List.cons_append] at e ⊢
    exact congrArg (fun l => [Cell.lst (stepD T.ta (.look a b, y) :: l)]) e
  · rintro ss M ⟨⟨o, rfl⟩, rfl⟩
    walk_at "s"
    refine ws_ret (WE.frz ?_)
    walk_at "s"
    refine ⟨0, _, rfl, by rw [hB]; exact Nat.le_refl 0, rfl, ?_⟩
    rw [List.length_map, List.take_length]
    exact ⟨rfl, hR⟩
end
theorem cal_looks_whl (T : Tx K mg) (a b : Str) (yy : List Stm) : Cal P w K mg base "looks_lefts" 5 0 (sp_looks_lefts T.ta T.C_Board (.whl a b yy)) := ⟨_, _, _, ok_looks_whl T a b yy, T.g_looks_lefts, T.F_looks_lefts.kp, T.b_looks_lefts⟩

/-- refused, or answered -/
def askedQ (cs : List (Str × List Str)) (CC CV : Addr) (a b : Str) (Rx : Addr → List (Str × D) → Mem → Prop) (q : Prop) : Prop := match cVals cs a with
  | none => Rx CC [("name", .str a)] []
  | some vs => (b ∈ vs → q) ∧ (b ∉ vs → Rx CV [("value", .str b), ("cell", .str a)] [])
def sp_loc (T : TA) (CB CC CV : Addr) (s : Stm) (r : List Stm) : SpD := fun xs M R Rx => ∃ cs a b, s.names = some (a, b) ∧ xs = [.dat (bD CB cs), .dat (s.d T), .dat (.lst (stms T (s :: r)))] ∧ M = [] ∧ CvOk cs ∧ RowOk (s :: r) ∧ askedQ cs CC CV a b Rx (R (.dat (leftD T cs (s :: r))) [])
section
local macro_rules | `(tactic| walk_at "v") => `(tactic| first | ((with_reducible refine gNa "board" ?_); refine we_var (i := 0) rfl (vis rfl) rfl ?_) | ((with_reducible refine gNa "statement" ?_); refine we_var (i := 1) rfl (vis rfl) rfl ?_) | ((with_reducible refine gNa "row" ?_); refine we_var (i := 2) rfl (vis rfl) rfl ?_) | ((with_reducible refine gNa "rest" ?_); refine we_var (i := 3) rfl (vis rfl) rfl ?_))
local macro_rules | `(tactic| walk_at "set") => `(tactic| first | ((with_reducible refine gSn "board" ?_); refine ws_set (i := 0) (by assumption) rfl (by first | exact .inl rfl | exact .inr rfl) ?_) | ((with_reducible refine gSn "statement" ?_); refine ws_set (i := 1) (by assumption) rfl (by first | exact .inl rfl | exact .inr rfl) ?_) | ((with_reducible refine gSn "row" ?_); refine ws_set (i := 2) (by assumption) rfl (by first | exact .inl rfl | exact .inr rfl) ?_) | ((with_reducible refine gSn "rest" ?_); refine ws_set (i := 3) (by assumption) rfl (by first | exact .inl rfl | exact .inr rfl) ?_))
theorem ok_loc_write (T : Tx K mg) (a b : Str) (r : List Stm) : FnOk P w K mg base (L2.CX P w) 6 T.f_left_of_cell T.d_left_of_cell ["board", "statement", "row"] (spOf K 0 (sp_loc T.ta T.C_Board T.C_NoCell T.C_NoValue (.write a b) r)) := by
  refine fn_ok T.F_left_of_cell sc_left_of_cell (fun xs M R Rx h => by obtain ⟨_, _, _, _, rfl, _⟩ := h; rfl) (fun cdv A outer sh H E B xs M R Rx hr hB h => ?_)
  obtain ⟨cs, a, b, hab, rfl, rfl, cv, rok, hR⟩ := h
  cases hab
  have nd := sc_left_of_cell.nd
  have ic := stm_isc T (.write a b)
  have hlen := rok.2
  rw [List.length_cons] at hlen
  walk_at "s"
  refine ws_expr ?_
  refine we_mtd (mtd_basked T) (room hr (by decide)) ?_
  walk_at "s"
  refine ⟨⟨rfl, rfl⟩, ?_⟩
  repeat walk_at "s"
  refine cq rfl ⟨cs, a, b, rfl, rfl, ?_⟩
  unfold askedQ at hR
  cases e : cVals cs a with
  | none =>
    rw [e] at hR
    exact ⟨rfl, hR⟩
  | some vs =>
  rw [e] at hR
  refine ⟨fun hm => ?_, fun hm => ⟨rfl, hR.2 hm⟩⟩
  have hR := hR.1 hm
  have ev : cValsD cs a = vs := by unfold cValsD; rw [e]; rfl
  have hc : cutD (stms T.ta (.write a b :: r)) (some 1) none = stms T.ta r := by
    rw [suf_stms (by omega) (by rw [stms_len, List.length_cons]; omega)]
    rfl
  repeat walk_at "s"
  rw [hc]
  repeat walk_at "s"
  refine we_isI T.z_isinstance rfl ?_
  repeat walk_at "s"
  refine we_globR rfl T.g_Write ?_
  repeat walk_at "s"
  refine ⟨_, _, _, _, _, rfl, ClsV.own _, ⟨rfl, ic⟩, k_isWrite T _, ?_⟩
  refine ⟨_, rfl, it_t rfl ?_⟩
  walk_at "s"
  refine ws_ret (we_lst ?_)
  repeat walk_at "s"
  exact ⟨rfl, hR⟩
end
theorem cal_loc_write (T : Tx K mg) (a b : Str) (r : List Stm) : Cal P w K mg base "left_of_cell" 6 0 (sp_loc T.ta T.C_Board T.C_NoCell T.C_NoValue (.write a b) r) := ⟨_, _, _, ok_loc_write T a b r, T.g_left_of_cell, T.F_left_of_cell.kp, T.b_left_of_cell⟩
section
local macro_rules | `(tactic| walk_at "v") => `(tactic| first | ((with_reducible refine gNa "board" ?_); refine we_var (i := 0) rfl (vis rfl) rfl ?_) | ((with_reducible refine gNa "statement" ?_); refine we_var (i := 1) rfl (vis rfl) rfl ?_) | ((with_reducible refine gNa "row" ?_); refine we_var (i := 2) rfl (vis rfl) rfl ?_) | ((with_reducible refine gNa "rest" ?_); refine we_var (i := 3) rfl (vis rfl) rfl ?_))
local macro_rules | `(tactic| walk_at "set") => `(tactic| first | ((with_reducible refine gSn "board" ?_); refine ws_set (i := 0) (by assumption) rfl (by first | exact .inl rfl | exact .inr rfl) ?_) | ((with_reducible refine gSn "statement" ?_); refine ws_set (i := 1) (by assumption) rfl (by first | exact .inl rfl | exact .inr rfl) ?_) | ((with_reducible refine gSn "row" ?_); refine ws_set (i := 2) (by assumption) rfl (by first | exact .inl rfl | exact .inr rfl) ?_) | ((with_reducible refine gSn "rest" ?_); refine ws_set (i := 3) (by assumption) rfl (by first | exact .inl rfl | exact .inr rfl) ?_))
theorem ok_loc_wait (T : Tx K mg) (a b : Str) (r : List Stm) : FnOk P w K mg base (L2.CX P w) 6 T.f_left_of_cell T.d_left_of_cell ["board", "statement", "row"] (spOf K 0 (sp_loc T.ta T.C_Board T.C_NoCell T.C_NoValue (.wait a b) r)) := by
  refine fn_ok T.F_left_of_cell sc_left_of_cell (fun xs M R Rx h => by obtain ⟨_, _, _, _, rfl, _⟩ := h; rfl) (fun cdv A outer sh H E B xs M R Rx hr hB h => ?_)
  obtain ⟨cs, a, b, hab, rfl, rfl, cv, rok, hR⟩ := h
  cases hab
  have nd := sc_left_of_cell.nd
  have ic := stm_isc T (.wait a b)
  have hlen := rok.2
  rw [List.length_cons] at hlen
  walk_at "s"
  refine ws_expr ?_
  refine we_mtd (mtd_basked T) (room hr (by decide)) ?_
  walk_at "s"
  refine ⟨⟨rfl, rfl⟩, ?_⟩
  repeat walk_at "s"
  refine cq rfl ⟨cs, a, b, rfl, rfl, ?_⟩
  unfold askedQ at hR
  cases e : cVals cs a with
  | none =>
    rw [e] at hR
    exact ⟨rfl, hR⟩
  | some vs =>
  rw [e] at hR
  refine ⟨fun hm => ?_, fun hm => ⟨rfl, hR.2 hm⟩⟩
  have hR := hR.1 hm
  have ev : cValsD cs a = vs := by unfold cValsD; rw [e]; rfl
  have hc : cutD (stms T.ta (.wait a b :: r)) (some 1) none = stms T.ta r := by
    rw [suf_stms (by omega) (by rw [stms_len, List.length_cons]; omega)]
    rfl
  repeat walk_at "s"
  rw [hc]
  repeat walk_at "s"
  refine we_isI T.z_isinstance rfl ?_
  repeat walk_at "s"
  refine we_globR rfl T.g_Write ?_
  repeat walk_at "s"
  refine ⟨_, _, _, _, _, rfl, ClsV.own _, ⟨rfl, ic⟩, k_isWrite T _, ?_⟩
  refine ⟨_, rfl, it_f rfl ?_⟩
  repeat walk_at "s"
  refine we_isI T.z_isinstance rfl ?_
  repeat walk_at "s"
  refine we_globR rfl T.g_Wait ?_
  repeat walk_at "s"
  refine ⟨_, _, _, _, _, rfl, ClsV.own _, ⟨rfl, ic⟩, k_isWait T _, ?_⟩
  refine ⟨_, rfl, it_t rfl ?_⟩
  walk_at "s"
  refine ws_ret (we_lst ?_)
  repeat walk_at "s"
  exact ⟨rfl, hR⟩
end
theorem cal_loc_wait (T : Tx K mg) (a b : Str) (r : List Stm) : Cal P w K mg base "left_of_cell" 6 0 (sp_loc T.ta T.C_Board T.C_NoCell T.C_NoValue (.wait a b) r) := ⟨_, _, _, ok_loc_wait T a b r, T.g_left_of_cell, T.F_left_of_cell.kp, T.b_left_of_cell⟩
section
local macro_rules | `(tactic| walk_at "v") => `(tactic| first | ((with_reducible refine gNa "board" ?_); refine we_var (i := 0) rfl (vis rfl) rfl ?_) | ((with_reducible refine gNa "statement" ?_); refine we_var (i := 1) rfl (vis rfl) rfl ?_) | ((with_reducible refine gNa "row" ?_); refine we_var (i := 2) rfl (vis rfl) rfl ?_) | ((with_reducible refine gNa "rest" ?_); refine we_var (i := 3) rfl (vis rfl) rfl ?_))
local macro_rules | `(tactic| walk_at "set") => `(tactic| first | ((with_reducible refine gSn "board" ?_); refine ws_set (i := 0) (by assumption) rfl (by first | exact .inl rfl | exact .inr rfl) ?_) | ((with_reducible refine gSn "statement" ?_); refine ws_set (i := 1) (by assumption) rfl (by first | exact .inl rfl | exact .inr rfl) ?_) | ((with_reducible refine gSn "row" ?_); refine ws_set (i := 2) (by assumption) rfl (by first | exact .inl rfl | exact .inr rfl) ?_) | ((with_reducible refine gSn "rest" ?_); refine ws_set (i := 3) (by assumption) rfl (by first | exact .inl rfl | exact .inr rfl) ?_))
theorem ok_loc_iff (T : Tx K mg) (a b : Str) (y n : List Stm) (r : List Stm) : FnOk P w K mg base (L2.CX P w) 6 T.f_left_of_cell T.d_left_of_cell ["board", "statement", "row"] (spOf K 0 (sp_loc T.ta T.C_Board T.C_NoCell T.C_NoValue (.iff a b y n) r)) := by
  refine fn_ok T.F_left_of_cell sc_left_of_cell (fun xs M R Rx h => by obtain ⟨_, _, _, _, rfl, _⟩ := h; rfl) (fun cdv A outer sh H E B xs M R Rx hr hB h => ?_)
  obtain ⟨cs, a, b, hab, rfl, rfl, cv, rok, hR⟩ := h
  cases hab
  have nd := sc_left_of_cell.nd
  have ic := stm_isc T (.iff a b y n)
  have hlen := rok.2
  rw [List.length_cons] at hlen
  walk_at "s"
  refine ws_expr ?_
  refine we_mtd (mtd_basked T) (room hr (by decide)) ?_
  walk_at "s"
  refine ⟨⟨rfl, rfl⟩, ?_⟩
  repeat walk_at "s"
  refine cq rfl ⟨cs, a, b, rfl, rfl, ?_⟩
  unfold askedQ at hR
  cases e : cVals cs a with
  | none =>
    rw [e] at hR
    exact ⟨rfl, hR⟩
  | some vs =>
  rw [e] at hR
  refine ⟨fun hm => ?_, fun hm => ⟨rfl, hR.2 hm⟩⟩
  have hR := hR.1 hm
  have ev : cValsD cs a = vs := by unfold cValsD; rw [e]; rfl
  have hc : cutD (stms T.ta (.iff a b y n :: r)) (some 1) none = stms T.ta r := by
    rw [suf_stms (by omega) (by rw [stms_len, List.length_cons]; omega)]
    rfl
  repeat walk_at "s"
  rw [hc]
  repeat walk_at "s"
  refine we_isI T.z_isinstance rfl ?_
  repeat walk_at "s"
  refine we_globR rfl T.g_Write ?_
  repeat walk_at "s"
  refine ⟨_, _, _, _, _, rfl, ClsV.own _, ⟨rfl, ic⟩, k_isWrite T _, ?_⟩
  refine ⟨_, rfl, it_f rfl ?_⟩
  repeat walk_at "s"
  refine we_isI T.z_isinstance rfl ?_
  repeat walk_at "s"
  refine we_globR rfl T.g_Wait ?_
  repeat walk_at "s"
  refine ⟨_, _, _, _, _, rfl, ClsV.own _, ⟨rfl, ic⟩, k_isWait T _, ?_⟩
  refine ⟨_, rfl, it_f rfl ?_⟩
  repeat walk_at "s"
  refine we_isI T.z_isinstance rfl ?_
  repeat walk_at "s"
  refine we_globR rfl T.g_If ?_
  repeat walk_at "s"
  refine ⟨_, _, _, _, _, rfl, ClsV.own _, ⟨rfl, ic⟩, k_isIf T _, ?_⟩
  refine ⟨_, rfl, it_t rfl ?_⟩
  have rp : ∀ {p : List Stm}, p ∈ Stm.parts (.iff a b y n) → RowOk p := fun m => small_parts (smalls_mem rok.1 (List.mem_cons_self ..)) m
  have ry := (rp (p := y) (by simp [Stm.parts])).2
  have rn := (rp (p := n) (by simp [Stm.parts])).2
  iterate 1 walk_at "s"
  refine ws_ret ?_
  refine we_own (cal_looks_iff T a b y n) (room hr (by decide)) rfl ?_
  repeat walk_at "s"
  refine addL (size_ge (by simp only [stms_len, List.length_cons]; omega)) ?_
  rw [← stms_app]
  repeat walk_at "s"
  refine addL (size_ge (by simp only [stms_len]; omega)) ?_
  rw [← stms_app]
  repeat walk_at "s"
  refine cq rfl ⟨cs, a, b, y ++ r, n ++ r, vs, rfl, rfl, rfl, e, cv a vs e, ?_⟩
  refine ⟨rfl, ?_⟩
  unfold leftD at hR
  simp only [lefts, ev] at hR
  exact hR
end
theorem cal_loc_iff (T : Tx K mg) (a b : Str) (y n : List Stm) (r : List Stm) : Cal P w K mg base "left_of_cell" 6 0 (sp_loc T.ta T.C_Board T.C_NoCell T.C_NoValue (.iff a b y n) r) := ⟨_, _, _, ok_loc_iff T a b y n r, T.g_left_of_cell, T.F_left_of_cell.kp, T.b_left_of_cell⟩
section
local macro_rules | `(tactic| walk_at "v") => `(tactic| first | ((with_reducible refine gNa "board" ?_); refine we_var (i := 0) rfl (vis rfl) rfl ?_) | ((with_reducible refine gNa "statement" ?_); refine we_var (i := 1) rfl (vis rfl) rfl ?_) | ((with_reducible refine gNa "row" ?_); refine we_var (i := 2) rfl (vis rfl) rfl ?_) | ((with_reducible refine gNa "rest" ?_); refine we_var (i := 3) rfl (vis rfl) rfl ?_))
local macro_rules | `(tactic| walk_at "set") => `(tactic| first | ((with_reducible refine gSn "board" ?_); refine ws_set (i := 0) (by assumption) rfl (by first | exact .inl rfl | exact .inr rfl) ?_) | ((with_reducible refine gSn "statement" ?_); refine ws_set (i := 1) (by assumption) rfl (by first | exact .inl rfl | exact .inr rfl) ?_) | ((with_reducible refine gSn "row" ?_); refine ws_set (i := 2) (by assumption) rfl (by first | exact .inl rfl | exact .inr rfl) ?_) | ((with_reducible refine gSn "rest" ?_); refine ws_set (i := 3) (by assumption) rfl (by first | exact .inl rfl | exact .inr rfl) ?_))
theorem ok_loc_whl (T : Tx K mg) (a b : Str) (y : List Stm) (r : List Stm) : FnOk P w K mg base (L2.CX P w) 6 T.f_left_of_cell T.d_left_of_cell ["board", "statement", "row"] (spOf K 0 (sp_loc T.ta T.C_Board T.C_NoCell T.C_NoValue (.whl a b y) r)) := by
  refine fn_ok T.F_left_of_cell sc_left_of_cell (fun xs M R Rx h => by obtain ⟨_, _, _, _, rfl, _⟩ := h; rfl) (fun cdv A outer sh H E B xs M R Rx hr hB h => ?_)
  obtain ⟨cs, a, b, hab, rfl, rfl, cv, rok, hR⟩ := h
  cases hab
  have nd := sc_left_of_cell.nd
  have ic := stm_isc T (.whl a b y)
  have hlen := rok.2
  rw [List.length_cons] at hlen
  walk_at "s"
  refine ws_expr ?_
  refine we_mtd (mtd_basked T) (room hr (by decide)) ?_
  walk_at "s"
  refine ⟨⟨rfl, rfl⟩, ?_⟩
  repeat walk_at "s"
  refine cq rfl ⟨cs, a, b, rfl, rfl, ?_⟩
  unfold askedQ at hR
  cases e : cVals cs a with
  | none =>
    rw [e] at hR
    exact ⟨rfl, hR⟩
  | some vs =>
  rw [e] at hR
  refine ⟨fun hm => ?_, fun hm => ⟨rfl, hR.2 hm⟩⟩
  have hR := hR.1 hm
  have ev : cValsD cs a = vs := by unfold cValsD; rw [e]; rfl
  have hc : cutD (stms T.ta (.whl a b y :: r)) (some 1) none = stms T.ta r := by
    rw [suf_stms (by omega) (by rw [stms_len, List.length_cons]; omega)]
    rfl
  repeat walk_at "s"
  rw [hc]
  repeat walk_at "s"
  refine we_isI T.z_isinstance rfl ?_
  repeat walk_at "s"
  refine we_globR rfl T.g_Write ?_
  repeat walk_at "s"
  refine ⟨_, _, _, _, _, rfl, ClsV.own _, ⟨rfl, ic⟩, k_isWrite T _, ?_⟩
  refine ⟨_, rfl, it_f rfl ?_⟩
  repeat walk_at "s"
  refine we_isI T.z_isinstance rfl ?_
  repeat walk_at "s"
  refine we_globR rfl T.g_Wait ?_
  repeat walk_at "s"
  refine ⟨_, _, _, _, _, rfl, ClsV.own _, ⟨rfl, ic⟩, k_isWait T _, ?_⟩
  refine ⟨_, rfl, it_f rfl ?_⟩
  repeat walk_at "s"
  refine we_isI T.z_isinstance rfl ?_
  repeat walk_at "s"
  refine we_globR rfl T.g_If ?_
  repeat walk_at "s"
  refine ⟨_, _, _, _, _, rfl, ClsV.own _, ⟨rfl, ic⟩, k_isIf T _, ?_⟩
  refine ⟨_, rfl, it_f rfl ?_⟩
  have rp : ∀ {p : List Stm}, p ∈ Stm.parts (.whl a b y) → RowOk p := fun m => small_parts (smalls_mem rok.1 (List.mem_cons_self ..)) m
  have ry := (rp (p := y) (by simp [Stm.parts])).2
  iterate 2 walk_at "s"
  refine ws_ret ?_
  refine we_own (cal_looks_whl T a b y) (room hr (by decide)) rfl ?_
  repeat walk_at "s"
  refine addL (size_ge (by simp only [stms_len, List.length_cons]; omega)) ?_
  rw [← stms_app]
  repeat walk_at "s"
  refine cq rfl ⟨cs, a, b, y ++ .whl a b y :: r, r, vs, rfl, rfl, rfl, e, cv a vs e, ?_⟩
  refine ⟨rfl, ?_⟩
  unfold leftD at hR
  simp only [lefts, ev] at hR
  exact hR
end
theorem cal_loc_whl (T : Tx K mg) (a b : Str) (y : List Stm) (r : List Stm) : Cal P w K mg base "left_of_cell" 6 0 (sp_loc T.ta T.C_Board T.C_NoCell T.C_NoValue (.whl a b y) r) := ⟨_, _, _, ok_loc_whl T a b y r, T.g_left_of_cell, T.F_left_of_cell.kp, T.b_left_of_cell⟩

def sp_left (T : TA) (CB CC CV : Addr) : SpD := fun xs M R Rx => ∃ cs row, xs = [.dat (bD CB cs), .dat (.lst (stms T row))] ∧ M = [] ∧ CvOk cs ∧ RowOk row ∧ (match row.head?.bind Stm.names with
  | some (a, b) => askedQ cs CC CV a b Rx (R (.dat (leftD T cs row)) [])
  | none => R (.dat (leftD T cs row)) [])
theorem loc_mono {cs : List (Str × List Str)} {CC CV : Addr} {a b : Str} {Rx Rx' : Addr → List (Str × D) → Mem → Prop} {q q' : Prop} (h1 : ∀ C fs (M : Mem), M = [] → Rx C fs [] → Rx' C fs []) (h2 : q → q') (h : askedQ cs CC CV a b Rx q) : askedQ cs CC CV a b Rx' q' := by
  unfold askedQ at h ⊢
  cases e : cVals cs a with
  | none => rw [e] at h; exact h1 _ _ [] rfl h
  | some vs => rw [e] at h; exact ⟨fun m => h2 (h.1 m), fun m => h1 _ _ [] rfl (h.2 m)⟩
section
local macro_rules | `(tactic| walk_at "v") => `(tactic| first | ((with_reducible refine gNa "board" ?_); refine we_var (i := 0) rfl (vis rfl) rfl ?_) | ((with_reducible refine gNa "row" ?_); refine we_var (i := 1) rfl (vis rfl) rfl ?_) | ((with_reducible refine gNa "statement" ?_); refine we_var (i := 2) rfl (vis rfl) rfl ?_) | ((with_reducible refine gNa "rest" ?_); refine we_var (i := 3) rfl (vis rfl) rfl ?_))
local macro_rules | `(tactic| walk_at "set") => `(tactic| first | ((with_reducible refine gSn "board" ?_); refine ws_set (i := 0) (by assumption) rfl (by first | exact .inl rfl | exact .inr rfl) ?_) | ((with_reducible refine gSn "row" ?_); refine ws_set (i := 1) (by assumption) rfl (by first | exact .inl rfl | exact .inr rfl) ?_) | ((with_reducible refine gSn "statement" ?_); refine ws_set (i := 2) (by assumption) rfl (by first | exact .inl rfl | exact .inr rfl) ?_) | ((with_reducible refine gSn "rest" ?_); refine ws_set (i := 3) (by assumption) rfl (by first | exact .inl rfl | exact .inr rfl) ?_))
theorem ok_left (T : Tx K mg) : FnOk P w K mg base (L2.CX P w) 7 T.f_left T.d_left ["board", "row"] (spOf K 0 (sp_left T.ta T.C_Board T.C_NoCell T.C_NoValue)) := by
  refine fn_ok T.F_left sc_left (fun xs M R Rx h => by obtain ⟨_, _, rfl, _⟩ := h; rfl) (fun cdv A outer sh H E B xs M R Rx hr hB h => ?_)
  obtain ⟨cs, row, rfl, rfl, cv, rok, hR⟩ := h
  have nd := sc_left.nd
  cases row with
  | nil =>
    repeat walk_at "s"
    refine we_lst ?_
    repeat walk_at "s"
    exact ⟨rfl, hR⟩
  | cons s r =>
  have ic := stm_isc T s
  have hlen := rok.2
  rw [List.length_cons] at hlen
  have hc : cutD (stms T.ta (s :: r)) (some 1) none = stms T.ta r := by
    rw [suf_stms (by omega) (by rw [stms_len, List.length_cons]; omega)]
    rfl
  have hx0 : atI (stms T.ta (s :: r)) 0 = some (s.d T.ta) := by rw [stms_cons]; exact atI_nat (j := 0) rfl
  have rp : ∀ {p : List Stm}, p ∈ s.parts → p.length ≤ 1000 := fun m => (small_parts (smalls_mem rok.1 (List.mem_cons_self ..)) m).2
  walk_at "s"
  refine ws_if ?_
  repeat walk_at "s"
  refine we_isI T.z_isinstance rfl ?_
  repeat walk_at "s"
  refine ixL (d := s.d T.ta) hx0 ?_
  repeat walk_at "s"
  refine we_globR rfl T.g_Stop ?_
  repeat walk_at "s"
  refine ⟨_, _, _, _, _, rfl, ClsV.own _, ⟨rfl, ic⟩, k_isStop T _, ?_⟩
  refine ⟨_, rfl, ?_⟩
  cases hs : s.isStop with
  | true =>
    obtain rfl : s = .stop := by cases s <;> first | rfl | cases hs
    refine it_t rfl ?_
    walk_at "s"
    refine ws_ret (we_lst ?_)
    repeat walk_at "s"
    exact ⟨rfl, hR⟩
  | false =>
  refine it_f rfl ?_
  repeat walk_at "s"
  refine ixL (d := s.d T.ta) hx0 ?_
  repeat walk_at "s"
  rw [hc]
  repeat walk_at "s"
  refine we_isT T.z_isinstance rfl ?_
  repeat walk_at "s"
  refine we_globR rfl T.g_Mark ?_
  repeat walk_at "s"
  refine we_globR rfl T.g_Skip ?_
  repeat walk_at "s"
  refine ⟨[_, _], [_, _], _, s.isMark || s.isSkip, rfl, (by show 2 ≤ sizeLine; decide), .cons (ClsV.own _) (.cons (ClsV.own _) .nil), ⟨rfl, ic⟩, any_ms T s, ?_⟩
  refine ⟨_, rfl, ?_⟩
  cases hs2 : s.isMark || s.isSkip with
  | true =>
    refine it_t rfl ?_
    walk_at "s"
    refine ws_ret (we_lst ?_)
    repeat walk_at "s"
    cases s with
    | mark a => exact ⟨rfl, hR⟩
    | skip => exact ⟨rfl, hR⟩
    | _ => cases hs2
  | false =>
  refine it_f rfl ?_
  repeat walk_at "s"
  refine we_isI T.z_isinstance rfl ?_
  repeat walk_at "s"
  refine we_globR rfl T.g_Choose ?_
  repeat walk_at "s"
  refine ⟨_, _, _, _, _, rfl, ClsV.own _, ⟨rfl, ic⟩, k_isChoose T _, ?_⟩
  refine ⟨_, rfl, ?_⟩
  cases hs3 : s.isChoose with
  | true =>
    cases s with
    | cho y n =>
      have ry := rp (p := y) (by simp [Stm.parts])
      have rn := rp (p := n) (by simp [Stm.parts])
      refine it_t rfl ?_
      walk_at "s"
      refine ws_ret (we_lst ?_)
      repeat walk_at "s"
      refine addL (size_ge (by simp only [stms_len]; omega)) ?_
      rw [← stms_app]
      repeat walk_at "s"
      refine addL (size_ge (by simp only [stms_len]; omega)) ?_
      rw [← stms_app]
      repeat walk_at "s"
      exact ⟨rfl, hR⟩
    | _ => cases hs3
  | false =>
  refine it_f rfl ?_
  repeat walk_at "s"
  refine we_isI T.z_isinstance rfl ?_
  repeat walk_at "s"
  refine we_globR rfl T.g_Loop ?_
  repeat walk_at "s"
  refine ⟨_, _, _, _, _, rfl, ClsV.own _, ⟨rfl, ic⟩, k_isLoop T _, ?_⟩
  refine ⟨_, rfl, ?_⟩
  cases hs4 : s.isLoop with
  | true =>
    cases s with
    | loop y =>
      have ry := rp (p := y) (by simp [Stm.parts])
      refine it_t rfl ?_
      walk_at "s"
      refine ws_ret (we_lst ?_)
      repeat walk_at "s"
      refine addL (size_ge (by simp only [stms_len, List.length_cons]; omega)) ?_
      rw [← stms_app]
      repeat walk_at "s"
      exact ⟨rfl, hR⟩
    | _ => cases hs4
  | false =>
  refine it_f rfl ?_
  iterate 2 walk_at "s"
  refine ws_ret ?_
  cases s with
  | write a b =>
    refine we_own (cal_loc_write T a b r) (room hr (by decide)) rfl ?_
    repeat walk_at "s"
    refine cq rfl ⟨cs, a, b, rfl, rfl, rfl, cv, rok, ?_⟩
    exact loc_mono (fun C fs M _ q => ⟨rfl, q⟩) (fun q => ⟨rfl, q⟩) hR
  | wait a b =>
    refine we_own (cal_loc_wait T a b r) (room hr (by decide)) rfl ?_
    repeat walk_at "s"
    refine cq rfl ⟨cs, a, b, rfl, rfl, rfl, cv, rok, ?_⟩
    exact loc_mono (fun C fs M _ q => ⟨rfl, q⟩) (fun q => ⟨rfl, q⟩) hR
  | iff a b y n =>
    refine we_own (cal_loc_iff T a b y n r) (room hr (by decide)) rfl ?_
    repeat walk_at "s"
    refine cq rfl ⟨cs, a, b, rfl, rfl, rfl, cv, rok, ?_⟩
    exact loc_mono (fun C fs M _ q => ⟨rfl, q⟩) (fun q => ⟨rfl, q⟩) hR
  | whl a b y =>
    refine we_own (cal_loc_whl T a b y r) (room hr (by decide)) rfl ?_
    repeat walk_at "s"
    refine cq rfl ⟨cs, a, b, rfl, rfl, rfl, cv, rok, ?_⟩
    exact loc_mono (fun C fs M _ q => ⟨rfl, q⟩) (fun q => ⟨rfl, q⟩) hR
  | mark a => cases hs2
  | skip => cases hs2
  | stop => cases hs
  | cho y n => cases hs3
  | loop y => cases hs4
end
theorem cal_left (T : Tx K mg) : Cal P w K mg base "left" 7 0 (sp_left T.ta T.C_Board T.C_NoCell T.C_NoValue) := ⟨_, _, _, ok_left T, T.g_left, T.F_left.kp, T.b_left⟩
local macro_rules | `(tactic| walk_at "call") => `(tactic| ((with_reducible refine gF "left" ?_); refine we_own (k := 7) (n := 0) (S := (sp_left (‹Tx _ _›).ta (‹Tx _ _›).C_Board (‹Tx _ _›).C_NoCell (‹Tx _ _›).C_NoValue)) ?_ ?_ rfl ?_; exact cal_left ‹Tx _ _›; exact room ‹Room _ _› (by decide)))

mutual
/-- the statements in the order of the text -/
def Stm.flat : Stm → List Stm
  | .iff a b y n => .iff a b y n :: (flats y ++ flats n)
  | .whl a b y => .whl a b y :: flats y
  | .cho y n => .cho y n :: (flats y ++ flats n)
  | .loop y => .loop y :: flats y
  | .write a b => [.write a b]
  | .wait a b => [.wait a b]
  | .mark a => [.mark a]
  | .skip => [.skip]
  | .stop => [.stop]
def flats : List Stm → List Stm
  | [] => []
  | s :: r => s.flat ++ flats r
end
theorem flat_eq (s : Stm) : s.flat = s :: s.parts.flatMap flats := by
  cases s <;> simp [Stm.flat, Stm.parts]
theorem flats_app : ∀ a b : List Stm, flats (a ++ b) = flats a ++ flats b
  | [], b => by simp [flats]
  | x :: a, b => by
    show flats (x :: (a ++ b)) = _
    simp only [flats, flats_app a b, List.append_assoc]
theorem flats_len_of {r : List Stm} (h : ∀ s ∈ r, s.flat.length = s.size) : (flats r).length = sizes r := by
  induction r with
  | nil => simp [flats, sizes]
  | cons x r ih =>
    simp only [flats, sizes, List.length_append]
    rw [h x (List.mem_cons_self ..), ih fun s m => h s (List.mem_cons_of_mem _ m)]
mutual
theorem flat_len : ∀ s : Stm, s.flat.length = s.size
  | .iff a b y n => by simp only [Stm.flat, Stm.size, List.length_cons, List.length_append, flats_len y, flats_len n]; omega
  | .whl a b y => by simp only [Stm.flat, Stm.size, List.length_cons, flats_len y]; omega
  | .cho y n => by simp only [Stm.flat, Stm.size, List.length_cons, List.length_append, flats_len y, flats_len n]; omega
  | .loop y => by simp only [Stm.flat, Stm.size, List.length_cons, flats_len y]; omega
  | .write _ _ => by simp [Stm.flat, Stm.size]
  | .wait _ _ => by simp [Stm.flat, Stm.size]
  | .mark _ => by simp [Stm.flat, Stm.size]
  | .skip => by simp [Stm.flat, Stm.size]
  | .stop => by simp [Stm.flat, Stm.size]
theorem flats_len : ∀ r : List Stm, (flats r).length = sizes r
  | [] => by simp [flats, sizes]
  | x :: r => by simp only [flats, sizes, List.length_append, flat_len x, flats_len r]
end
/-- a machine that is being made: its board, its program, its places -/
def mcA (CM : Addr) (b p : D) : Cell := .ins CM [("plan", .dat b), ("text", .dat p), ("places", .cel 1)]
def sp_number (T : TA) (CM : Addr) (k : Nat) : SpD := fun xs M R _ => ∃ b p r acc, xs = [.cel 0, .dat (prD T r)] ∧ M = [mcA CM b p, .lst (stms T acc)] ∧ dps r ≤ k ∧ acc.length + sizes r ≤ 1000 ∧ R (.dat .non) [mcA CM b p, .lst (stms T (acc ++ flats r))]
theorem sizes_take_le (r : List Stm) (i : Nat) : sizes (r.take i) ≤ sizes r := by
  have := (split_facts r i).1
  omega
section
local macro_rules | `(tactic| walk_at "v") => `(tactic| first | ((with_reducible refine gNa "self" ?_); refine we_var (i := 0) rfl (vis rfl) rfl ?_) | ((with_reducible refine gNa "program" ?_); refine we_var (i := 1) rfl (vis rfl) rfl ?_) | ((with_reducible refine gNa "statement" ?_); refine we_var (i := 2) rfl (vis rfl) rfl ?_) | ((with_reducible refine gNa "part" ?_); refine we_var (i := 3) rfl (vis rfl) rfl ?_))
local macro_rules | `(tactic| walk_at "set") => `(tactic| first | ((with_reducible refine gSn "self" ?_); refine ws_set (i := 0) (by assumption) rfl (by first | exact .inl rfl | exact .inr rfl) ?_) | ((with_reducible refine gSn "program" ?_); refine ws_set (i := 1) (by assumption) rfl (by first | exact .inl rfl | exact .inr rfl) ?_) | ((with_reducible refine gSn "statement" ?_); refine ws_set (i := 2) (by assumption) rfl (by first | exact .inl rfl | exact .inr rfl) ?_) | ((with_reducible refine gSn "part" ?_); refine ws_set (i := 3) (by assumption) rfl (by first | exact .inl rfl | exact .inr rfl) ?_))
theorem ok_number (T : Tx K mg) (k : Nat) (ih : ∀ j, k = j + 1 → Mtd P w K mg base T.C_Machine "number_row" (j + 3) 2 (sp_number T.ta T.C_Machine j)) : FnOk P w K mg base (L2.CX P w) (k + 3) T.f_Machine_number_row T.d_Machine_number_row ["self", "program"] (spOf K 2 (sp_number T.ta T.C_Machine k)) := by
  refine fn_ok T.F_Machine_number_row sc_Machine_number_row (fun xs M R Rx h => by obtain ⟨_, _, _, _, rfl, _⟩ := h; rfl) (fun cdv A outer sh H E B xs M R Rx hr hB h => ?_)
  obtain ⟨b, p, r, acc, rfl, rfl, hk, hz, hR⟩ := h
  have nd := sc_Machine_number_row.nd
  walk_at "s"
  refine ws_for rfl (wi_tup ?_)
  repeat walk_at "s"
  refine ⟨fun i ss M => (∃ o1 o2, ss = [some (.cel 0), some (.dat (prD T.ta r)), o1, o2]) ∧ M = [mcA T.C_Machine b p, .lst (stms T.ta (acc ++ flats (r.take i)))], ⟨⟨none, none, rfl⟩, by simp [flats]⟩, ?_, ?_⟩
  · rintro i d ss M hd ⟨⟨o1, o2, rfl⟩, rfl⟩
    rw [stms_map] at hd
    obtain ⟨s, hs, rfl⟩ := map_get hd
    have hm := List.mem_of_getElem? hs
    have e1 : r.take (i + 1) = r.take i ++ [s] := by simpa using (map_take_succ id hs).symm
    have z1 : sizes (r.take i) + s.size ≤ sizes r := by
      have := sizes_take_le r (i + 1)
      rw [e1, sizes_app] at this
      simp only [sizes] at this
      omega
    have z2 := size_parts s
    refine wg_name (i := 2) nd rfl (.inl rfl) ?_
    repeat walk_at "s"
    refine ⟨size_ge (by show (stms T.ta (acc ++ flats (r.take i))).length + 1 ≤ _; rw [stms_len, List.length_append, flats_len]; omega), ?_⟩
    walk_at "s"
    refine ws_for rfl (wi_list ?_)
    refine we_mtd0 (mtd_parts T s) (room hr (by omega)) ?_
    walk_at "s"
    refine ⟨by cases s <;> exact ⟨rfl, rfl⟩, cq rfl ⟨rfl, rfl, ?_⟩⟩
    refine ⟨_, rfl, ?_⟩
    have es : stms T.ta (acc ++ flats (r.take i)) ++ [Stm.d T.ta s] = stms T.ta (acc ++ flats (r.take i) ++ [s]) := by
      have h := stms_app (T := T.ta) (acc ++ flats (r.take i)) [s]
      rw [h]
      simp only [stms, Stm.d]
    refine ⟨fun j ss M => (∃ o2, ss = [some (.cel 0), some (.dat (prD T.ta r)), some (.dat (Stm.d T.ta s)), o2]) ∧ M = [mcA T.C_Machine b p, .lst (stms T.ta (acc ++ flats (r.take i) ++ [s] ++ (s.parts.take j).flatMap flats))], ⟨⟨_, rfl⟩, ?_⟩, ?_, ?_⟩
    · simp only [List.take_zero, List.flatMap_nil, List.append_nil]
      exact congrArg (fun l => [mcA T.C_Machine b p, Cell.lst l]) es
    · rintro j d ss M hd2 ⟨⟨o3, rfl⟩, rfl⟩
      obtain ⟨q, hq, rfl⟩ := map_get hd2
      have hqm := List.mem_of_getElem? hq
      have a1 := dp_parts hqm
      have a2 := dps_mem hm
      obtain ⟨j', rfl⟩ : ∃ j', k = j' + 1 := ⟨k - 1, by omega⟩
      have e2 : s.parts.take (j + 1) = s.parts.take j ++ [q] := by simpa using (map_take_succ id hq).symm
      have z3 : ((s.parts.take (j + 1)).flatMap flats).length + 1 ≤ s.size := by
        have h1 := flat_len s
        rw [flat_eq, List.length_cons] at h1
        have h2 : s.parts.flatMap flats = (s.parts.take (j + 1)).flatMap flats ++ (s.parts.drop (j + 1)).flatMap flats := by rw [← List.flatMap_append, List.take_append_drop]
        rw [h2, List.length_append] at h1
        omega
      have e3 : (s.parts.take (j + 1)).flatMap flats = (s.parts.take j).flatMap flats ++ flats q := by
        rw [e2, List.flatMap_append]
        simp
      rw [e3, List.length_append, flats_len] at z3
      refine wg_name (i := 3) nd rfl (.inl rfl) ?_
      walk_at "s"
      refine ws_expr ?_
      refine we_mtd (ih j' rfl) (room hr (by omega)) ?_
      walk_at "s"
      refine ⟨⟨_, rfl, rfl⟩, ?_⟩
      repeat walk_at "s"
      refine cq rfl ⟨b, p, q, _, rfl, rfl, by omega, ?_, ?_⟩
      · simp only [List.length_append, flats_len, List.length_singleton]
        omega
      · repeat walk_at "s"
        refine ⟨⟨_, rfl⟩, ?_⟩
        rw [e3, ← List.append_assoc]
        rfl
    · rintro ss M ⟨⟨o3, rfl⟩, rfl⟩
      repeat walk_at "s"
      refine ⟨⟨_, _, rfl⟩, ?_⟩
      rw [List.length_map, List.take_length, e1, flats_app]
      have e4 : flats [s] = s :: s.parts.flatMap flats := by simp only [flats, List.append_nil]; exact flat_eq s
      rw [e4]
      simp only [List.append_assoc, List.singleton_append]
  · rintro ss M ⟨⟨o1, o2, rfl⟩, rfl⟩
    rw [stms_len, List.take_length]
    repeat walk_at "s"
    exact ⟨rfl, hR⟩
end
theorem mtd_number (T : Tx K mg) : ∀ k, Mtd P w K mg base T.C_Machine "number_row" (k + 3) 2 (sp_number T.ta T.C_Machine k) := by
  intro k
  induction k with
  | zero => exact ⟨_, _, _, T.cl_Machine, T.m_Machine_number_row, ok_number T 0 (fun j e => by omega), T.b_Machine_number_row⟩
  | succ k ih => exact ⟨_, _, _, T.cl_Machine, T.m_Machine_number_row, ok_number T (k + 1) (fun j e => by
      obtain rfl : k = j := by omega
      exact ih), T.b_Machine_number_row⟩

def goD (p : Act × Int) : D := .tup [p.1.d, .int p.2]
/-- the steps of a statement whose parts begin at these rooms -/
def Stm.steps (cs : List (Str × List Str)) (bs : List Int) (goal : Int) : Stm → List (Act × Int)
  | .write a b => [(.put a b, goal)]
  | .wait a b => [(.look a b, goal)]
  | .mark _ => [(.go, goal)]
  | .skip => [(.go, goal)]
  | .stop => []
  | .iff a b _ _ => (.look a b, bs.getD 0 0) :: (oth (cValsD cs a) b).map fun v => (.look a v, bs.getD 1 0)
  | .whl a b _ => (.look a b, bs.getD 0 0) :: (oth (cValsD cs a) b).map fun v => (.look a v, goal)
  | .cho _ _ => bs.map fun b => (.go, b)
  | .loop _ => bs.map fun b => (.go, b)
def sp_mlooks (T : TA) (CB : Addr) (s : Stm) : SpD := fun xs M R _ => ∃ cs a b y n vs, s.names = some (a, b) ∧ xs = [.dat (bD CB cs), .dat (s.d T), .dat (.int y), .dat (.int n)] ∧ M = [] ∧ cVals cs a = some vs ∧ vs.length ≤ 1000 ∧
  R (.dat (.lst ((((.look a b, y) : Act × Int) :: (oth vs b).map fun v => ((.look a v, n) : Act × Int)).map goD))) []
section
local macro_rules | `(tactic| walk_at "v") => `(tactic| first | ((with_reducible refine gNa "board" ?_); refine we_var (i := 0) rfl (vis rfl) rfl ?_) | ((with_reducible refine gNa "statement" ?_); refine we_var (i := 1) rfl (vis rfl) rfl ?_) | ((with_reducible refine gNa "then" ?_); refine we_var (i := 2) rfl (vis rfl) rfl ?_) | ((with_reducible refine gNa "other" ?_); refine we_var (i := 3) rfl (vis rfl) rfl ?_) | ((with_reducible refine gNa "found" ?_); refine we_var (i := 4) rfl (vis rfl) rfl ?_) | ((with_reducible refine gNa "value" ?_); refine we_var (i := 5) rfl (vis rfl) rfl ?_))
local macro_rules | `(tactic| walk_at "set") => `(tactic| first | ((with_reducible refine gSn "board" ?_); refine ws_set (i := 0) (by assumption) rfl (by first | exact .inl rfl | exact .inr rfl) ?_) | ((with_reducible refine gSn "statement" ?_); refine ws_set (i := 1) (by assumption) rfl (by first | exact .inl rfl | exact .inr rfl) ?_) | ((with_reducible refine gSn "then" ?_); refine ws_set (i := 2) (by assumption) rfl (by first | exact .inl rfl | exact .inr rfl) ?_) | ((with_reducible refine gSn "other" ?_); refine ws_set (i := 3) (by assumption) rfl (by first | exact .inl rfl | exact .inr rfl) ?_) | ((with_reducible refine gSn "found" ?_); refine ws_set (i := 4) (by assumption) rfl (by first | exact .inl rfl | exact .inr rfl) ?_) | ((with_reducible refine gSn "value" ?_); refine ws_set (i := 5) (by assumption) rfl (by first | exact .inl rfl | exact .inr rfl) ?_))
theorem ok_mlooks_iff (T : Tx K mg) (a b : Str) (yy nn : List Stm) : FnOk P w K mg base (L2.CX P w) 5 T.f_looks_rooms T.d_looks_rooms ["board", "statement", "then", "other"] (spOf K 0 (sp_mlooks T.ta T.C_Board (.iff a b yy nn))) := by
  refine fn_ok T.F_looks_rooms sc_looks_rooms (fun xs M R Rx h => by obtain ⟨_, _, _, _, _, _, _, rfl, _⟩ := h; rfl) (fun cdv A outer sh H E B xs M R Rx hr hB h => ?_)
  obtain ⟨cs, a, b, y, n, vs, hab, rfl, rfl, hv, hl, hR⟩ := h
  cases hab
  have nd := sc_looks_rooms.nd
  walk_at "s"
  refine ws_set (i := 4) nd rfl (.inl rfl) ?_
  refine we_lstC ?_
  repeat walk_at "s"
  refine ws_for rfl (wi_list ?_)
  refine we_mtd (mtd_bothers T) (room hr (by decide)) ?_
  walk_at "s"
  refine ⟨⟨rfl, rfl⟩, ?_⟩
  repeat walk_at "s"
  refine cq rfl ⟨cs, a, b, vs, rfl, rfl, hv, hl, ?_⟩
  refine ⟨_, rfl, ?_⟩
  refine ⟨fun i ss M => (∃ o, ss = [some (.dat (bD T.C_Board cs)), some (.dat (Stm.d T.ta (.iff a b yy nn))), some (.dat (.int y)), some (.dat (.int n)), some (.cel 0), o]) ∧ M = [.lst ((((.look a b, y) : Act × Int) :: ((oth vs b).take i).map fun v => ((.look a v, n) : Act × Int)).map goD)], ⟨⟨none, rfl⟩, rfl⟩, ?_, ?_⟩
  · rintro i d ss M hd ⟨⟨o, rfl⟩, rfl⟩
    obtain ⟨z, hz, rfl⟩ := map_get hd
    refine wg_name (i := 5) nd rfl (.inl rfl) ?_
    repeat walk_at "s"
    refine ⟨size_ge (by have := oth_len vs b; simp only [List.length_map, List.length_cons, List.length_take]; omega), ?_⟩
    repeat walk_at "s"
    refine ⟨⟨_, rfl⟩, ?_⟩
    have e := map_take_succ (fun v => goD (.look a v, n)) hz
    simp only [List.map_cons, List.map_map, List.cons_append] at e ⊢
    exact congrArg (fun l => [Cell.lst (goD (.look a b, y) :: l)]) e
  · rintro ss M ⟨⟨o, rfl⟩, rfl⟩
    walk_at "s"
    refine ws_ret (WE.frz ?_)
    walk_at "s"
    refine ⟨0, _, rfl, by rw [hB]; exact Nat.le_refl 0, rfl, ?_⟩
    rw [List.length_map, List.take_length]
    exact ⟨rfl, hR⟩
end
theorem cal_mlooks_iff (T : Tx K mg) (a b : Str) (yy nn : List Stm) : Cal P w K mg base "looks_rooms" 5 0 (sp_mlooks T.ta T.C_Board (.iff a b yy nn)) := ⟨_, _, _, ok_mlooks_iff T a b yy nn, T.g_looks_rooms, T.F_looks_rooms.kp, T.b_looks_rooms⟩
section
local macro_rules | `(tactic| walk_at "v") => `(tactic| first | ((with_reducible refine gNa "board" ?_); refine we_var (i := 0) rfl (vis rfl) rfl ?_) | ((with_reducible refine gNa "statement" ?_); refine we_var (i := 1) rfl (vis rfl) rfl ?_) | ((with_reducible refine gNa "then" ?_); refine we_var (i := 2) rfl (vis rfl) rfl ?_) | ((with_reducible refine gNa "other" ?_); refine we_var (i := 3) rfl (vis rfl) rfl ?_) | ((with_reducible refine gNa "found" ?_); refine we_var (i := 4) rfl (vis rfl) rfl ?_) | ((with_reducible refine gNa "value" ?_); refine we_var (i := 5) rfl (vis rfl) rfl ?_))
local macro_rules | `(tactic| walk_at "set") => `(tactic| first | ((with_reducible refine gSn "board" ?_); refine ws_set (i := 0) (by assumption) rfl (by first | exact .inl rfl | exact .inr rfl) ?_) | ((with_reducible refine gSn "statement" ?_); refine ws_set (i := 1) (by assumption) rfl (by first | exact .inl rfl | exact .inr rfl) ?_) | ((with_reducible refine gSn "then" ?_); refine ws_set (i := 2) (by assumption) rfl (by first | exact .inl rfl | exact .inr rfl) ?_) | ((with_reducible refine gSn "other" ?_); refine ws_set (i := 3) (by assumption) rfl (by first | exact .inl rfl | exact .inr rfl) ?_) | ((with_reducible refine gSn "found" ?_); refine ws_set (i := 4) (by assumption) rfl (by first | exact .inl rfl | exact .inr rfl) ?_) | ((with_reducible refine gSn "value" ?_); refine ws_set (i := 5) (by assumption) rfl (by first | exact .inl rfl | exact .inr rfl) ?_))
theorem ok_mlooks_whl (T : Tx K mg) (a b : Str) (yy : List Stm) : FnOk P w K mg base (L2.CX P w) 5 T.f_looks_rooms T.d_looks_rooms ["board", "statement", "then", "other"] (spOf K 0 (sp_mlooks T.ta T.C_Board (.whl a b yy))) := by
  refine fn_ok T.F_looks_rooms sc_looks_rooms (fun xs M R Rx h => by obtain ⟨_, _, _, _, _, _, _, rfl, _⟩ := h; rfl) (fun cdv A outer sh H E B xs M R Rx hr hB h => ?_)
  obtain ⟨cs, a, b, y, n, vs, hab, rfl, rfl, hv, hl, hR⟩ := h
  cases hab
  have nd := sc_looks_rooms.nd
  walk_at "s"
  refine ws_set (i := 4) nd rfl (.inl rfl) ?_
  refine we_lstC ?_
  repeat walk_at "s"
  refine ws_for rfl (wi_list ?_)
  refine we_mtd (mtd_bothers T) (room hr (by decide)) ?_
  walk_at "s"
  refine ⟨⟨rfl, rfl⟩, ?_⟩
  repeat walk_at "s"
  refine cq rfl ⟨cs, a, b, vs, rfl, rfl, hv, hl, ?_⟩
  refine ⟨_, rfl, ?_⟩
  refine ⟨fun i ss M => (∃ o, ss = [some (.dat (bD T.C_Board cs)), some (.dat (Stm.d T.ta (.whl a b yy))), some (.dat (.int y)), some (.dat (.int n)), some (.cel 0), o]) ∧ M = [.lst ((((.look a b, y) : Act × Int) :: ((oth vs b).take i).map fun v => ((.look a v, n) : Act × Int)).map goD)], ⟨⟨none, rfl⟩, rfl⟩, ?_, ?_⟩
  · rintro i d ss M hd ⟨⟨o, rfl⟩, rfl⟩
    obtain ⟨z, hz, rfl⟩ := map_get hd
    refine wg_name (i := 5) nd rfl (.inl rfl) ?_
    repeat walk_at "s"
    refine ⟨size_ge (by have := oth_len vs b; simp only [List.length_map, List.length_cons, List.length_take]; omega), ?_⟩
    repeat walk_at "s"
    refine ⟨⟨_, rfl⟩, ?_⟩
    have e := map_take_succ (fun v => goD (.look a v, n)) hz
    simp only [List.map_cons, List.map_map, List.cons_append] at e ⊢
    exact congrArg (fun l => [Cell.lst (goD (.look a b, y) :: l)]) e
  · rintro ss M ⟨⟨o, rfl⟩, rfl⟩
    walk_at "s"
    refine ws_ret (WE.frz ?_)
    walk_at "s"
    refine ⟨0, _, rfl, by rw [hB]; exact Nat.le_refl 0, rfl, ?_⟩
    rw [List.length_map, List.take_length]
    exact ⟨rfl, hR⟩
end
theorem cal_mlooks_whl (T : Tx K mg) (a b : Str) (yy : List Stm) : Cal P w K mg base "looks_rooms" 5 0 (sp_mlooks T.ta T.C_Board (.whl a b yy)) := ⟨_, _, _, ok_mlooks_whl T a b yy, T.g_looks_rooms, T.F_looks_rooms.kp, T.b_looks_rooms⟩

/-- a machine whose exits are being laid: cell 1 is gone, cell 2 its exits -/
def mcC (CM : Addr) (b p pl : D) : Cell := .ins CM [("plan", .dat b), ("text", .dat p), ("places", .dat pl), ("exits", .cel 2)]
def sp_begin (T : TA) (CM : Addr) : SpD := fun xs M R _ => ∃ b p pl ex r first behind, xs = [.cel 0, .dat (prD T r), .dat (.int first), .dat (.int behind)] ∧ M = [mcC CM b p pl, .dead, .lst ex] ∧ R (.dat (.int (if r.isEmpty then behind else first))) [mcC CM b p pl, .dead, .lst ex]
section
local macro_rules | `(tactic| walk_at "v") => `(tactic| first | ((with_reducible refine gNa "self" ?_); refine we_var (i := 0) rfl (vis rfl) rfl ?_) | ((with_reducible refine gNa "program" ?_); refine we_var (i := 1) rfl (vis rfl) rfl ?_) | ((with_reducible refine gNa "first" ?_); refine we_var (i := 2) rfl (vis rfl) rfl ?_) | ((with_reducible refine gNa "behind" ?_); refine we_var (i := 3) rfl (vis rfl) rfl ?_))
local macro_rules | `(tactic| walk_at "set") => `(tactic| first | ((with_reducible refine gSn "self" ?_); refine ws_set (i := 0) (by assumption) rfl (by first | exact .inl rfl | exact .inr rfl) ?_) | ((with_reducible refine gSn "program" ?_); refine ws_set (i := 1) (by assumption) rfl (by first | exact .inl rfl | exact .inr rfl) ?_) | ((with_reducible refine gSn "first" ?_); refine ws_set (i := 2) (by assumption) rfl (by first | exact .inl rfl | exact .inr rfl) ?_) | ((with_reducible refine gSn "behind" ?_); refine ws_set (i := 3) (by assumption) rfl (by first | exact .inl rfl | exact .inr rfl) ?_))
theorem ok_begin (T : Tx K mg) : FnOk P w K mg base (L2.CX P w) 1 T.f_Machine_begin_of T.d_Machine_begin_of ["self", "program", "first", "behind"] (spOf K 3 (sp_begin T.ta T.C_Machine)) := by
  refine fn_ok T.F_Machine_begin_of sc_Machine_begin_of (fun xs M R Rx h => by obtain ⟨_, _, _, _, _, _, _, rfl, _⟩ := h; rfl) (fun cdv A outer sh H E B xs M R Rx hr hB h => ?_)
  obtain ⟨b, p, pl, ex, r, first, behind, rfl, rfl, hR⟩ := h
  have nd := sc_Machine_begin_of.nd
  cases r with
  | nil =>
    repeat walk_at "s"
    exact ⟨rfl, hR⟩
  | cons s r =>
    repeat walk_at "s"
    exact ⟨rfl, hR⟩
end
theorem mtd_begin (T : Tx K mg) : Mtd P w K mg base T.C_Machine "begin_of" 1 3 (sp_begin T.ta T.C_Machine) := ⟨_, _, _, T.cl_Machine, T.m_Machine_begin_of, ok_begin T, T.b_Machine_begin_of⟩
def sp_stepsof (T : TA) (CM CB : Addr) (s : Stm) : SpD := fun xs M R _ => ∃ cs p pl ex bs goal, xs = [.cel 0, .dat (s.d T), .dat (.lst (bs.map D.int)), .dat (.int goal)] ∧ M = [mcC CM (bD CB cs) p pl, .dead, .lst ex] ∧ bs.length = s.parts.length ∧ (∀ a b, s.names = some (a, b) → ∃ vs, cVals cs a = some vs ∧ vs.length ≤ 1000) ∧
  R (.dat (.lst ((s.steps cs bs goal).map goD))) [mcC CM (bD CB cs) p pl, .dead, .lst ex]
theorem any_wl (T : Tx K mg) (s : Stm) : PySem.W.kitAny K (.ref (s.cls T.ta)) [.ref T.C_While, .ref T.C_Loop] = some (s.isWhile || s.isLoop) := by
  simp only [PySem.W.kitAny, k_isWhile T s, k_isLoop T s]
  cases s <;> rfl
theorem any_wwiw (T : Tx K mg) (s : Stm) : PySem.W.kitAny K (.ref (s.cls T.ta)) [.ref T.C_Write, .ref T.C_Wait, .ref T.C_If, .ref T.C_While] = some s.names.isSome := by
  simp only [PySem.W.kitAny, k_isWrite T s, k_isWait T s, k_isIf T s, k_isWhile T s]
  cases s <;> rfl
section
local macro_rules | `(tactic| walk_at "v") => `(tactic| first | ((with_reducible refine gNa "self" ?_); refine we_var (i := 0) rfl (vis rfl) rfl ?_) | ((with_reducible refine gNa "statement" ?_); refine we_var (i := 1) rfl (vis rfl) rfl ?_) | ((with_reducible refine gNa "begins" ?_); refine we_var (i := 2) rfl (vis rfl) rfl ?_) | ((with_reducible refine gNa "goal" ?_); refine we_var (i := 3) rfl (vis rfl) rfl ?_) | ((with_reducible refine gNa "begin" ?_); refine we_var (i := 4) rfl (vis rfl) rfl ?_))
local macro_rules | `(tactic| walk_at "set") => `(tactic| first | ((with_reducible refine gSn "self" ?_); refine ws_set (i := 0) (by assumption) rfl (by first | exact .inl rfl | exact .inr rfl) ?_) | ((with_reducible refine gSn "statement" ?_); refine ws_set (i := 1) (by assumption) rfl (by first | exact .inl rfl | exact .inr rfl) ?_) | ((with_reducible refine gSn "begins" ?_); refine ws_set (i := 2) (by assumption) rfl (by first | exact .inl rfl | exact .inr rfl) ?_) | ((with_reducible refine gSn "goal" ?_); refine ws_set (i := 3) (by assumption) rfl (by first | exact .inl rfl | exact .inr rfl) ?_) | ((with_reducible refine gSn "begin" ?_); refine ws_set (i := 4) (by assumption) rfl (by first | exact .inl rfl | exact .inr rfl) ?_))
theorem ok_steps_write (T : Tx K mg) (a b : Str) : FnOk P w K mg base (L2.CX P w) 6 T.f_Machine_steps_of T.d_Machine_steps_of ["self", "statement", "begins", "goal"] (spOf K 3 (sp_stepsof T.ta T.C_Machine T.C_Board (.write a b))) := by
  refine fn_ok T.F_Machine_steps_of sc_Machine_steps_of (fun xs M R Rx h => by obtain ⟨_, _, _, _, _, _, rfl, _⟩ := h; rfl) (fun cdv A outer sh H E B xs M R Rx hr hB h => ?_)
  obtain ⟨cs, p, pl, ex, bs, goal, rfl, rfl, hbl, hv, hR⟩ := h
  have nd := sc_Machine_steps_of.nd
  have ic := stm_isc T (.write a b)
  repeat walk_at "s"
  refine we_isI T.z_isinstance rfl ?_
  repeat walk_at "s"
  refine we_globR rfl T.g_Write ?_
  repeat walk_at "s"
  refine ⟨_, _, _, _, _, rfl, ClsV.own _, ⟨rfl, ic⟩, k_isWrite T _, ?_⟩
  refine ⟨_, rfl, it_t rfl ?_⟩
  walk_at "s"
  refine ws_ret (we_lst ?_)
  repeat walk_at "s"
  exact ⟨rfl, hR⟩
end
section
local macro_rules | `(tactic| walk_at "v") => `(tactic| first | ((with_reducible refine gNa "self" ?_); refine we_var (i := 0) rfl (vis rfl) rfl ?_) | ((with_reducible refine gNa "statement" ?_); refine we_var (i := 1) rfl (vis rfl) rfl ?_) | ((with_reducible refine gNa "begins" ?_); refine we_var (i := 2) rfl (vis rfl) rfl ?_) | ((with_reducible refine gNa "goal" ?_); refine we_var (i := 3) rfl (vis rfl) rfl ?_) | ((with_reducible refine gNa "begin" ?_); refine we_var (i := 4) rfl (vis rfl) rfl ?_))
local macro_rules | `(tactic| walk_at "set") => `(tactic| first | ((with_reducible refine gSn "self" ?_); refine ws_set (i := 0) (by assumption) rfl (by first | exact .inl rfl | exact .inr rfl) ?_) | ((with_reducible refine gSn "statement" ?_); refine ws_set (i := 1) (by assumption) rfl (by first | exact .inl rfl | exact .inr rfl) ?_) | ((with_reducible refine gSn "begins" ?_); refine ws_set (i := 2) (by assumption) rfl (by first | exact .inl rfl | exact .inr rfl) ?_) | ((with_reducible refine gSn "goal" ?_); refine ws_set (i := 3) (by assumption) rfl (by first | exact .inl rfl | exact .inr rfl) ?_) | ((with_reducible refine gSn "begin" ?_); refine ws_set (i := 4) (by assumption) rfl (by first | exact .inl rfl | exact .inr rfl) ?_))
theorem ok_steps_wait (T : Tx K mg) (a b : Str) : FnOk P w K mg base (L2.CX P w) 6 T.f_Machine_steps_of T.d_Machine_steps_of ["self", "statement", "begins", "goal"] (spOf K 3 (sp_stepsof T.ta T.C_Machine T.C_Board (.wait a b))) := by
  refine fn_ok T.F_Machine_steps_of sc_Machine_steps_of (fun xs M R Rx h => by obtain ⟨_, _, _, _, _, _, rfl, _⟩ := h; rfl) (fun cdv A outer sh H E B xs M R Rx hr hB h => ?_)
  obtain ⟨cs, p, pl, ex, bs, goal, rfl, rfl, hbl, hv, hR⟩ := h
  have nd := sc_Machine_steps_of.nd
  have ic := stm_isc T (.wait a b)
  repeat walk_at "s"
  refine we_isI T.z_isinstance rfl ?_
  repeat walk_at "s"
  refine we_globR rfl T.g_Write ?_
  repeat walk_at "s"
  refine ⟨_, _, _, _, _, rfl, ClsV.own _, ⟨rfl, ic⟩, k_isWrite T _, ?_⟩
  refine ⟨_, rfl, it_f rfl ?_⟩
  repeat walk_at "s"
  refine we_isI T.z_isinstance rfl ?_
  repeat walk_at "s"
  refine we_globR rfl T.g_Wait ?_
  repeat walk_at "s"
  refine ⟨_, _, _, _, _, rfl, ClsV.own _, ⟨rfl, ic⟩, k_isWait T _, ?_⟩
  refine ⟨_, rfl, it_t rfl ?_⟩
  walk_at "s"
  refine ws_ret (we_lst ?_)
  repeat walk_at "s"
  exact ⟨rfl, hR⟩
end
section
local macro_rules | `(tactic| walk_at "v") => `(tactic| first | ((with_reducible refine gNa "self" ?_); refine we_var (i := 0) rfl (vis rfl) rfl ?_) | ((with_reducible refine gNa "statement" ?_); refine we_var (i := 1) rfl (vis rfl) rfl ?_) | ((with_reducible refine gNa "begins" ?_); refine we_var (i := 2) rfl (vis rfl) rfl ?_) | ((with_reducible refine gNa "goal" ?_); refine we_var (i := 3) rfl (vis rfl) rfl ?_) | ((with_reducible refine gNa "begin" ?_); refine we_var (i := 4) rfl (vis rfl) rfl ?_))
local macro_rules | `(tactic| walk_at "set") => `(tactic| first | ((with_reducible refine gSn "self" ?_); refine ws_set (i := 0) (by assumption) rfl (by first | exact .inl rfl | exact .inr rfl) ?_) | ((with_reducible refine gSn "statement" ?_); refine ws_set (i := 1) (by assumption) rfl (by first | exact .inl rfl | exact .inr rfl) ?_) | ((with_reducible refine gSn "begins" ?_); refine ws_set (i := 2) (by assumption) rfl (by first | exact .inl rfl | exact .inr rfl) ?_) | ((with_reducible refine gSn "goal" ?_); refine ws_set (i := 3) (by assumption) rfl (by first | exact .inl rfl | exact .inr rfl) ?_) | ((with_reducible refine gSn "begin" ?_); refine ws_set (i := 4) (by assumption) rfl (by first | exact .inl rfl | exact .inr rfl) ?_))
theorem ok_steps_mark (T : Tx K mg) (a : Str) : FnOk P w K mg base (L2.CX P w) 6 T.f_Machine_steps_of T.d_Machine_steps_of ["self", "statement", "begins", "goal"] (spOf K 3 (sp_stepsof T.ta T.C_Machine T.C_Board (.mark a))) := by
  refine fn_ok T.F_Machine_steps_of sc_Machine_steps_of (fun xs M R Rx h => by obtain ⟨_, _, _, _, _, _, rfl, _⟩ := h; rfl) (fun cdv A outer sh H E B xs M R Rx hr hB h => ?_)
  obtain ⟨cs, p, pl, ex, bs, goal, rfl, rfl, hbl, hv, hR⟩ := h
  have nd := sc_Machine_steps_of.nd
  have ic := stm_isc T (.mark a)
  repeat walk_at "s"
  refine we_isI T.z_isinstance rfl ?_
  repeat walk_at "s"
  refine we_globR rfl T.g_Write ?_
  repeat walk_at "s"
  refine ⟨_, _, _, _, _, rfl, ClsV.own _, ⟨rfl, ic⟩, k_isWrite T _, ?_⟩
  refine ⟨_, rfl, it_f rfl ?_⟩
  repeat walk_at "s"
  refine we_isI T.z_isinstance rfl ?_
  repeat walk_at "s"
  refine we_globR rfl T.g_Wait ?_
  repeat walk_at "s"
  refine ⟨_, _, _, _, _, rfl, ClsV.own _, ⟨rfl, ic⟩, k_isWait T _, ?_⟩
  refine ⟨_, rfl, it_f rfl ?_⟩
  repeat walk_at "s"
  refine we_isT T.z_isinstance rfl ?_
  repeat walk_at "s"
  refine we_globR rfl T.g_Mark ?_
  repeat walk_at "s"
  refine we_globR rfl T.g_Skip ?_
  repeat walk_at "s"
  refine ⟨[_, _], [_, _], _, _, rfl, (by show 2 ≤ sizeLine; decide), .cons (ClsV.own _) (.cons (ClsV.own _) .nil), ⟨rfl, ic⟩, any_ms T _, ?_⟩
  refine ⟨_, rfl, it_t rfl ?_⟩
  walk_at "s"
  refine ws_ret (we_lst ?_)
  repeat walk_at "s"
  exact ⟨rfl, hR⟩
end
section
local macro_rules | `(tactic| walk_at "v") => `(tactic| first | ((with_reducible refine gNa "self" ?_); refine we_var (i := 0) rfl (vis rfl) rfl ?_) | ((with_reducible refine gNa "statement" ?_); refine we_var (i := 1) rfl (vis rfl) rfl ?_) | ((with_reducible refine gNa "begins" ?_); refine we_var (i := 2) rfl (vis rfl) rfl ?_) | ((with_reducible refine gNa "goal" ?_); refine we_var (i := 3) rfl (vis rfl) rfl ?_) | ((with_reducible refine gNa "begin" ?_); refine we_var (i := 4) rfl (vis rfl) rfl ?_))
local macro_rules | `(tactic| walk_at "set") => `(tactic| first | ((with_reducible refine gSn "self" ?_); refine ws_set (i := 0) (by assumption) rfl (by first | exact .inl rfl | exact .inr rfl) ?_) | ((with_reducible refine gSn "statement" ?_); refine ws_set (i := 1) (by assumption) rfl (by first | exact .inl rfl | exact .inr rfl) ?_) | ((with_reducible refine gSn "begins" ?_); refine ws_set (i := 2) (by assumption) rfl (by first | exact .inl rfl | exact .inr rfl) ?_) | ((with_reducible refine gSn "goal" ?_); refine ws_set (i := 3) (by assumption) rfl (by first | exact .inl rfl | exact .inr rfl) ?_) | ((with_reducible refine gSn "begin" ?_); refine ws_set (i := 4) (by assumption) rfl (by first | exact .inl rfl | exact .inr rfl) ?_))
theorem ok_steps_skip (T : Tx K mg)  : FnOk P w K mg base (L2.CX P w) 6 T.f_Machine_steps_of T.d_Machine_steps_of ["self", "statement", "begins", "goal"] (spOf K 3 (sp_stepsof T.ta T.C_Machine T.C_Board (.skip))) := by
  refine fn_ok T.F_Machine_steps_of sc_Machine_steps_of (fun xs M R Rx h => by obtain ⟨_, _, _, _, _, _, rfl, _⟩ := h; rfl) (fun cdv A outer sh H E B xs M R Rx hr hB h => ?_)
  obtain ⟨cs, p, pl, ex, bs, goal, rfl, rfl, hbl, hv, hR⟩ := h
  have nd := sc_Machine_steps_of.nd
  have ic := stm_isc T (.skip)
  repeat walk_at "s"
  refine we_isI T.z_isinstance rfl ?_
  repeat walk_at "s"
  refine we_globR rfl T.g_Write ?_
  repeat walk_at "s"
  refine ⟨_, _, _, _, _, rfl, ClsV.own _, ⟨rfl, ic⟩, k_isWrite T _, ?_⟩
  refine ⟨_, rfl, it_f rfl ?_⟩
  repeat walk_at "s"
  refine we_isI T.z_isinstance rfl ?_
  repeat walk_at "s"
  refine we_globR rfl T.g_Wait ?_
  repeat walk_at "s"
  refine ⟨_, _, _, _, _, rfl, ClsV.own _, ⟨rfl, ic⟩, k_isWait T _, ?_⟩
  refine ⟨_, rfl, it_f rfl ?_⟩
  repeat walk_at "s"
  refine we_isT T.z_isinstance rfl ?_
  repeat walk_at "s"
  refine we_globR rfl T.g_Mark ?_
  repeat walk_at "s"
  refine we_globR rfl T.g_Skip ?_
  repeat walk_at "s"
  refine ⟨[_, _], [_, _], _, _, rfl, (by show 2 ≤ sizeLine; decide), .cons (ClsV.own _) (.cons (ClsV.own _) .nil), ⟨rfl, ic⟩, any_ms T _, ?_⟩
  refine ⟨_, rfl, it_t rfl ?_⟩
  walk_at "s"
  refine ws_ret (we_lst ?_)
  repeat walk_at "s"
  exact ⟨rfl, hR⟩
end
section
local macro_rules | `(tactic| walk_at "v") => `(tactic| first | ((with_reducible refine gNa "self" ?_); refine we_var (i := 0) rfl (vis rfl) rfl ?_) | ((with_reducible refine gNa "statement" ?_); refine we_var (i := 1) rfl (vis rfl) rfl ?_) | ((with_reducible refine gNa "begins" ?_); refine we_var (i := 2) rfl (vis rfl) rfl ?_) | ((with_reducible refine gNa "goal" ?_); refine we_var (i := 3) rfl (vis rfl) rfl ?_) | ((with_reducible refine gNa "begin" ?_); refine we_var (i := 4) rfl (vis rfl) rfl ?_))
local macro_rules | `(tactic| walk_at "set") => `(tactic| first | ((with_reducible refine gSn "self" ?_); refine ws_set (i := 0) (by assumption) rfl (by first | exact .inl rfl | exact .inr rfl) ?_) | ((with_reducible refine gSn "statement" ?_); refine ws_set (i := 1) (by assumption) rfl (by first | exact .inl rfl | exact .inr rfl) ?_) | ((with_reducible refine gSn "begins" ?_); refine ws_set (i := 2) (by assumption) rfl (by first | exact .inl rfl | exact .inr rfl) ?_) | ((with_reducible refine gSn "goal" ?_); refine ws_set (i := 3) (by assumption) rfl (by first | exact .inl rfl | exact .inr rfl) ?_) | ((with_reducible refine gSn "begin" ?_); refine ws_set (i := 4) (by assumption) rfl (by first | exact .inl rfl | exact .inr rfl) ?_))
theorem ok_steps_stop (T : Tx K mg)  : FnOk P w K mg base (L2.CX P w) 6 T.f_Machine_steps_of T.d_Machine_steps_of ["self", "statement", "begins", "goal"] (spOf K 3 (sp_stepsof T.ta T.C_Machine T.C_Board (.stop))) := by
  refine fn_ok T.F_Machine_steps_of sc_Machine_steps_of (fun xs M R Rx h => by obtain ⟨_, _, _, _, _, _, rfl, _⟩ := h; rfl) (fun cdv A outer sh H E B xs M R Rx hr hB h => ?_)
  obtain ⟨cs, p, pl, ex, bs, goal, rfl, rfl, hbl, hv, hR⟩ := h
  have nd := sc_Machine_steps_of.nd
  have ic := stm_isc T (.stop)
  repeat walk_at "s"
  refine we_isI T.z_isinstance rfl ?_
  repeat walk_at "s"
  refine we_globR rfl T.g_Write ?_
  repeat walk_at "s"
  refine ⟨_, _, _, _, _, rfl, ClsV.own _, ⟨rfl, ic⟩, k_isWrite T _, ?_⟩
  refine ⟨_, rfl, it_f rfl ?_⟩
  repeat walk_at "s"
  refine we_isI T.z_isinstance rfl ?_
  repeat walk_at "s"
  refine we_globR rfl T.g_Wait ?_
  repeat walk_at "s"
  refine ⟨_, _, _, _, _, rfl, ClsV.own _, ⟨rfl, ic⟩, k_isWait T _, ?_⟩
  refine ⟨_, rfl, it_f rfl ?_⟩
  repeat walk_at "s"
  refine we_isT T.z_isinstance rfl ?_
  repeat walk_at "s"
  refine we_globR rfl T.g_Mark ?_
  repeat walk_at "s"
  refine we_globR rfl T.g_Skip ?_
  repeat walk_at "s"
  refine ⟨[_, _], [_, _], _, _, rfl, (by show 2 ≤ sizeLine; decide), .cons (ClsV.own _) (.cons (ClsV.own _) .nil), ⟨rfl, ic⟩, any_ms T _, ?_⟩
  refine ⟨_, rfl, it_f rfl ?_⟩
  repeat walk_at "s"
  refine we_isI T.z_isinstance rfl ?_
  repeat walk_at "s"
  refine we_globR rfl T.g_Stop ?_
  repeat walk_at "s"
  refine ⟨_, _, _, _, _, rfl, ClsV.own _, ⟨rfl, ic⟩, k_isStop T _, ?_⟩
  refine ⟨_, rfl, it_t rfl ?_⟩
  walk_at "s"
  refine ws_ret (we_lst ?_)
  repeat walk_at "s"
  exact ⟨rfl, hR⟩
end
section
local macro_rules | `(tactic| walk_at "v") => `(tactic| first | ((with_reducible refine gNa "self" ?_); refine we_var (i := 0) rfl (vis rfl) rfl ?_) | ((with_reducible refine gNa "statement" ?_); refine we_var (i := 1) rfl (vis rfl) rfl ?_) | ((with_reducible refine gNa "begins" ?_); refine we_var (i := 2) rfl (vis rfl) rfl ?_) | ((with_reducible refine gNa "goal" ?_); refine we_var (i := 3) rfl (vis rfl) rfl ?_) | ((with_reducible refine gNa "begin" ?_); refine we_var (i := 4) rfl (vis rfl) rfl ?_))
local macro_rules | `(tactic| walk_at "set") => `(tactic| first | ((with_reducible refine gSn "self" ?_); refine ws_set (i := 0) (by assumption) rfl (by first | exact .inl rfl | exact .inr rfl) ?_) | ((with_reducible refine gSn "statement" ?_); refine ws_set (i := 1) (by assumption) rfl (by first | exact .inl rfl | exact .inr rfl) ?_) | ((with_reducible refine gSn "begins" ?_); refine ws_set (i := 2) (by assumption) rfl (by first | exact .inl rfl | exact .inr rfl) ?_) | ((with_reducible refine gSn "goal" ?_); refine ws_set (i := 3) (by assumption) rfl (by first | exact .inl rfl | exact .inr rfl) ?_) | ((with_reducible refine gSn "begin" ?_); refine ws_set (i := 4) (by assumption) rfl (by first | exact .inl rfl | exact .inr rfl) ?_))
theorem ok_steps_iff (T : Tx K mg) (a b : Str) (y n : List Stm) : FnOk P w K mg base (L2.CX P w) 6 T.f_Machine_steps_of T.d_Machine_steps_of ["self", "statement", "begins", "goal"] (spOf K 3 (sp_stepsof T.ta T.C_Machine T.C_Board (.iff a b y n))) := by
  refine fn_ok T.F_Machine_steps_of sc_Machine_steps_of (fun xs M R Rx h => by obtain ⟨_, _, _, _, _, _, rfl, _⟩ := h; rfl) (fun cdv A outer sh H E B xs M R Rx hr hB h => ?_)
  obtain ⟨cs, p, pl, ex, bs, goal, rfl, rfl, hbl, hv, hR⟩ := h
  have nd := sc_Machine_steps_of.nd
  have ic := stm_isc T (.iff a b y n)
  obtain ⟨b0, b1, rfl⟩ : ∃ b0 b1, bs = [b0, b1] := by
    match bs, hbl with
    | [b0, b1], _ => exact ⟨b0, b1, rfl⟩
  repeat walk_at "s"
  refine we_isI T.z_isinstance rfl ?_
  repeat walk_at "s"
  refine we_globR rfl T.g_Write ?_
  repeat walk_at "s"
  refine ⟨_, _, _, _, _, rfl, ClsV.own _, ⟨rfl, ic⟩, k_isWrite T _, ?_⟩
  refine ⟨_, rfl, it_f rfl ?_⟩
  repeat walk_at "s"
  refine we_isI T.z_isinstance rfl ?_
  repeat walk_at "s"
  refine we_globR rfl T.g_Wait ?_
  repeat walk_at "s"
  refine ⟨_, _, _, _, _, rfl, ClsV.own _, ⟨rfl, ic⟩, k_isWait T _, ?_⟩
  refine ⟨_, rfl, it_f rfl ?_⟩
  repeat walk_at "s"
  refine we_isT T.z_isinstance rfl ?_
  repeat walk_at "s"
  refine we_globR rfl T.g_Mark ?_
  repeat walk_at "s"
  refine we_globR rfl T.g_Skip ?_
  repeat walk_at "s"
  refine ⟨[_, _], [_, _], _, _, rfl, (by show 2 ≤ sizeLine; decide), .cons (ClsV.own _) (.cons (ClsV.own _) .nil), ⟨rfl, ic⟩, any_ms T _, ?_⟩
  refine ⟨_, rfl, it_f rfl ?_⟩
  repeat walk_at "s"
  refine we_isI T.z_isinstance rfl ?_
  repeat walk_at "s"
  refine we_globR rfl T.g_Stop ?_
  repeat walk_at "s"
  refine ⟨_, _, _, _, _, rfl, ClsV.own _, ⟨rfl, ic⟩, k_isStop T _, ?_⟩
  refine ⟨_, rfl, it_f rfl ?_⟩
  repeat walk_at "s"
  refine we_isI T.z_isinstance rfl ?_
  repeat walk_at "s"
  refine we_globR rfl T.g_If ?_
  repeat walk_at "s"
  refine ⟨_, _, _, _, _, rfl, ClsV.own _, ⟨rfl, ic⟩, k_isIf T _, ?_⟩
  refine ⟨_, rfl, it_t rfl ?_⟩
  obtain ⟨vs, e, hl⟩ := hv a b rfl
  have ev : cValsD cs a = vs := by unfold cValsD; rw [e]; rfl
  walk_at "s"
  refine ws_ret ?_
  refine we_own (cal_mlooks_iff T a b y n) (room hr (by decide)) rfl ?_
  repeat walk_at "s"
  refine cq rfl ⟨cs, a, b, _, _, vs, rfl, rfl, rfl, e, hl, ?_⟩
  simp only [Stm.steps, ev] at hR
  exact ⟨rfl, hR⟩
end
section
local macro_rules | `(tactic| walk_at "v") => `(tactic| first | ((with_reducible refine gNa "self" ?_); refine we_var (i := 0) rfl (vis rfl) rfl ?_) | ((with_reducible refine gNa "statement" ?_); refine we_var (i := 1) rfl (vis rfl) rfl ?_) | ((with_reducible refine gNa "begins" ?_); refine we_var (i := 2) rfl (vis rfl) rfl ?_) | ((with_reducible refine gNa "goal" ?_); refine we_var (i := 3) rfl (vis rfl) rfl ?_) | ((with_reducible refine gNa "begin" ?_); refine we_var (i := 4) rfl (vis rfl) rfl ?_))
local macro_rules | `(tactic| walk_at "set") => `(tactic| first | ((with_reducible refine gSn "self" ?_); refine ws_set (i := 0) (by assumption) rfl (by first | exact .inl rfl | exact .inr rfl) ?_) | ((with_reducible refine gSn "statement" ?_); refine ws_set (i := 1) (by assumption) rfl (by first | exact .inl rfl | exact .inr rfl) ?_) | ((with_reducible refine gSn "begins" ?_); refine ws_set (i := 2) (by assumption) rfl (by first | exact .inl rfl | exact .inr rfl) ?_) | ((with_reducible refine gSn "goal" ?_); refine ws_set (i := 3) (by assumption) rfl (by first | exact .inl rfl | exact .inr rfl) ?_) | ((with_reducible refine gSn "begin" ?_); refine ws_set (i := 4) (by assumption) rfl (by first | exact .inl rfl | exact .inr rfl) ?_))
theorem ok_steps_whl (T : Tx K mg) (a b : Str) (y : List Stm) : FnOk P w K mg base (L2.CX P w) 6 T.f_Machine_steps_of T.d_Machine_steps_of ["self", "statement", "begins", "goal"] (spOf K 3 (sp_stepsof T.ta T.C_Machine T.C_Board (.whl a b y))) := by
  refine fn_ok T.F_Machine_steps_of sc_Machine_steps_of (fun xs M R Rx h => by obtain ⟨_, _, _, _, _, _, rfl, _⟩ := h; rfl) (fun cdv A outer sh H E B xs M R Rx hr hB h => ?_)
  obtain ⟨cs, p, pl, ex, bs, goal, rfl, rfl, hbl, hv, hR⟩ := h
  have nd := sc_Machine_steps_of.nd
  have ic := stm_isc T (.whl a b y)
  obtain ⟨b0, rfl⟩ : ∃ b0, bs = [b0] := by
    match bs, hbl with
    | [b0], _ => exact ⟨b0, rfl⟩
  repeat walk_at "s"
  refine we_isI T.z_isinstance rfl ?_
  repeat walk_at "s"
  refine we_globR rfl T.g_Write ?_
  repeat walk_at "s"
  refine ⟨_, _, _, _, _, rfl, ClsV.own _, ⟨rfl, ic⟩, k_isWrite T _, ?_⟩
  refine ⟨_, rfl, it_f rfl ?_⟩
  repeat walk_at "s"
  refine we_isI T.z_isinstance rfl ?_
  repeat walk_at "s"
  refine we_globR rfl T.g_Wait ?_
  repeat walk_at "s"
  refine ⟨_, _, _, _, _, rfl, ClsV.own _, ⟨rfl, ic⟩, k_isWait T _, ?_⟩
  refine ⟨_, rfl, it_f rfl ?_⟩
  repeat walk_at "s"
  refine we_isT T.z_isinstance rfl ?_
  repeat walk_at "s"
  refine we_globR rfl T.g_Mark ?_
  repeat walk_at "s"
  refine we_globR rfl T.g_Skip ?_
  repeat walk_at "s"
  refine ⟨[_, _], [_, _], _, _, rfl, (by show 2 ≤ sizeLine; decide), .cons (ClsV.own _) (.cons (ClsV.own _) .nil), ⟨rfl, ic⟩, any_ms T _, ?_⟩
  refine ⟨_, rfl, it_f rfl ?_⟩
  repeat walk_at "s"
  refine we_isI T.z_isinstance rfl ?_
  repeat walk_at "s"
  refine we_globR rfl T.g_Stop ?_
  repeat walk_at "s"
  refine ⟨_, _, _, _, _, rfl, ClsV.own _, ⟨rfl, ic⟩, k_isStop T _, ?_⟩
  refine ⟨_, rfl, it_f rfl ?_⟩
  repeat walk_at "s"
  refine we_isI T.z_isinstance rfl ?_
  repeat walk_at "s"
  refine we_globR rfl T.g_If ?_
  repeat walk_at "s"
  refine ⟨_, _, _, _, _, rfl, ClsV.own _, ⟨rfl, ic⟩, k_isIf T _, ?_⟩
  refine ⟨_, rfl, it_f rfl ?_⟩
  repeat walk_at "s"
  refine we_isI T.z_isinstance rfl ?_
  repeat walk_at "s"
  refine we_globR rfl T.g_While ?_
  repeat walk_at "s"
  refine ⟨_, _, _, _, _, rfl, ClsV.own _, ⟨rfl, ic⟩, k_isWhile T _, ?_⟩
  refine ⟨_, rfl, it_t rfl ?_⟩
  obtain ⟨vs, e, hl⟩ := hv a b rfl
  have ev : cValsD cs a = vs := by unfold cValsD; rw [e]; rfl
  walk_at "s"
  refine ws_ret ?_
  refine we_own (cal_mlooks_whl T a b y) (room hr (by decide)) rfl ?_
  repeat walk_at "s"
  refine cq rfl ⟨cs, a, b, _, _, vs, rfl, rfl, rfl, e, hl, ?_⟩
  simp only [Stm.steps, ev] at hR
  exact ⟨rfl, hR⟩
end
section
local macro_rules | `(tactic| walk_at "v") => `(tactic| first | ((with_reducible refine gNa "self" ?_); refine we_var (i := 0) rfl (vis rfl) rfl ?_) | ((with_reducible refine gNa "statement" ?_); refine we_var (i := 1) rfl (vis rfl) rfl ?_) | ((with_reducible refine gNa "begins" ?_); refine we_var (i := 2) rfl (vis rfl) rfl ?_) | ((with_reducible refine gNa "goal" ?_); refine we_var (i := 3) rfl (vis rfl) rfl ?_) | ((with_reducible refine gNa "begin" ?_); refine we_var (i := 4) rfl (vis rfl) rfl ?_))
local macro_rules | `(tactic| walk_at "set") => `(tactic| first | ((with_reducible refine gSn "self" ?_); refine ws_set (i := 0) (by assumption) rfl (by first | exact .inl rfl | exact .inr rfl) ?_) | ((with_reducible refine gSn "statement" ?_); refine ws_set (i := 1) (by assumption) rfl (by first | exact .inl rfl | exact .inr rfl) ?_) | ((with_reducible refine gSn "begins" ?_); refine ws_set (i := 2) (by assumption) rfl (by first | exact .inl rfl | exact .inr rfl) ?_) | ((with_reducible refine gSn "goal" ?_); refine ws_set (i := 3) (by assumption) rfl (by first | exact .inl rfl | exact .inr rfl) ?_) | ((with_reducible refine gSn "begin" ?_); refine ws_set (i := 4) (by assumption) rfl (by first | exact .inl rfl | exact .inr rfl) ?_))
theorem ok_steps_cho (T : Tx K mg) (y n : List Stm) : FnOk P w K mg base (L2.CX P w) 6 T.f_Machine_steps_of T.d_Machine_steps_of ["self", "statement", "begins", "goal"] (spOf K 3 (sp_stepsof T.ta T.C_Machine T.C_Board (.cho y n))) := by
  refine fn_ok T.F_Machine_steps_of sc_Machine_steps_of (fun xs M R Rx h => by obtain ⟨_, _, _, _, _, _, rfl, _⟩ := h; rfl) (fun cdv A outer sh H E B xs M R Rx hr hB h => ?_)
  obtain ⟨cs, p, pl, ex, bs, goal, rfl, rfl, hbl, hv, hR⟩ := h
  have nd := sc_Machine_steps_of.nd
  have ic := stm_isc T (.cho y n)
  repeat walk_at "s"
  refine we_isI T.z_isinstance rfl ?_
  repeat walk_at "s"
  refine we_globR rfl T.g_Write ?_
  repeat walk_at "s"
  refine ⟨_, _, _, _, _, rfl, ClsV.own _, ⟨rfl, ic⟩, k_isWrite T _, ?_⟩
  refine ⟨_, rfl, it_f rfl ?_⟩
  repeat walk_at "s"
  refine we_isI T.z_isinstance rfl ?_
  repeat walk_at "s"
  refine we_globR rfl T.g_Wait ?_
  repeat walk_at "s"
  refine ⟨_, _, _, _, _, rfl, ClsV.own _, ⟨rfl, ic⟩, k_isWait T _, ?_⟩
  refine ⟨_, rfl, it_f rfl ?_⟩
  repeat walk_at "s"
  refine we_isT T.z_isinstance rfl ?_
  repeat walk_at "s"
  refine we_globR rfl T.g_Mark ?_
  repeat walk_at "s"
  refine we_globR rfl T.g_Skip ?_
  repeat walk_at "s"
  refine ⟨[_, _], [_, _], _, _, rfl, (by show 2 ≤ sizeLine; decide), .cons (ClsV.own _) (.cons (ClsV.own _) .nil), ⟨rfl, ic⟩, any_ms T _, ?_⟩
  refine ⟨_, rfl, it_f rfl ?_⟩
  repeat walk_at "s"
  refine we_isI T.z_isinstance rfl ?_
  repeat walk_at "s"
  refine we_globR rfl T.g_Stop ?_
  repeat walk_at "s"
  refine ⟨_, _, _, _, _, rfl, ClsV.own _, ⟨rfl, ic⟩, k_isStop T _, ?_⟩
  refine ⟨_, rfl, it_f rfl ?_⟩
  repeat walk_at "s"
  refine we_isI T.z_isinstance rfl ?_
  repeat walk_at "s"
  refine we_globR rfl T.g_If ?_
  repeat walk_at "s"
  refine ⟨_, _, _, _, _, rfl, ClsV.own _, ⟨rfl, ic⟩, k_isIf T _, ?_⟩
  refine ⟨_, rfl, it_f rfl ?_⟩
  repeat walk_at "s"
  refine we_isI T.z_isinstance rfl ?_
  repeat walk_at "s"
  refine we_globR rfl T.g_While ?_
  repeat walk_at "s"
  refine ⟨_, _, _, _, _, rfl, ClsV.own _, ⟨rfl, ic⟩, k_isWhile T _, ?_⟩
  refine ⟨_, rfl, it_f rfl ?_⟩
  iterate 2 walk_at "s"
  refine ws_ret ?_
  refine we_lc1 (j := 4) rfl nd (blkOk_by rfl) rfl (fun _ _ _ _ _ => .inl rfl) (by decide) (wi_list ?_)
  repeat walk_at "s"
  refine lcq_mapA (l := bs) (g := D.int) (fun b => goD (.go, b)) (size_ge (by rw [hbl]; have := parts_len (.cho y n); omega)) ?_ ?_
  · intro i2 b hi2 sh H C' cl fp B hB
    repeat walk_at "s"
    exact ⟨rfl, rfl⟩
  · simp only [Stm.steps, List.map_map] at hR
    exact ⟨rfl, hR⟩
end
section
local macro_rules | `(tactic| walk_at "v") => `(tactic| first | ((with_reducible refine gNa "self" ?_); refine we_var (i := 0) rfl (vis rfl) rfl ?_) | ((with_reducible refine gNa "statement" ?_); refine we_var (i := 1) rfl (vis rfl) rfl ?_) | ((with_reducible refine gNa "begins" ?_); refine we_var (i := 2) rfl (vis rfl) rfl ?_) | ((with_reducible refine gNa "goal" ?_); refine we_var (i := 3) rfl (vis rfl) rfl ?_) | ((with_reducible refine gNa "begin" ?_); refine we_var (i := 4) rfl (vis rfl) rfl ?_))
local macro_rules | `(tactic| walk_at "set") => `(tactic| first | ((with_reducible refine gSn "self" ?_); refine ws_set (i := 0) (by assumption) rfl (by first | exact .inl rfl | exact .inr rfl) ?_) | ((with_reducible refine gSn "statement" ?_); refine ws_set (i := 1) (by assumption) rfl (by first | exact .inl rfl | exact .inr rfl) ?_) | ((with_reducible refine gSn "begins" ?_); refine ws_set (i := 2) (by assumption) rfl (by first | exact .inl rfl | exact .inr rfl) ?_) | ((with_reducible refine gSn "goal" ?_); refine ws_set (i := 3) (by assumption) rfl (by first | exact .inl rfl | exact .inr rfl) ?_) | ((with_reducible refine gSn "begin" ?_); refine ws_set (i := 4) (by assumption) rfl (by first | exact .inl rfl | exact .inr rfl) ?_))
theorem ok_steps_loop (T : Tx K mg) (y : List Stm) : FnOk P w K mg base (L2.CX P w) 6 T.f_Machine_steps_of T.d_Machine_steps_of ["self", "statement", "begins", "goal"] (spOf K 3 (sp_stepsof T.ta T.C_Machine T.C_Board (.loop y))) := by
  refine fn_ok T.F_Machine_steps_of sc_Machine_steps_of (fun xs M R Rx h => by obtain ⟨_, _, _, _, _, _, rfl, _⟩ := h; rfl) (fun cdv A outer sh H E B xs M R Rx hr hB h => ?_)
  obtain ⟨cs, p, pl, ex, bs, goal, rfl, rfl, hbl, hv, hR⟩ := h
  have nd := sc_Machine_steps_of.nd
  have ic := stm_isc T (.loop y)
  repeat walk_at "s"
  refine we_isI T.z_isinstance rfl ?_
  repeat walk_at "s"
  refine we_globR rfl T.g_Write ?_
  repeat walk_at "s"
  refine ⟨_, _, _, _, _, rfl, ClsV.own _, ⟨rfl, ic⟩, k_isWrite T _, ?_⟩
  refine ⟨_, rfl, it_f rfl ?_⟩
  repeat walk_at "s"
  refine we_isI T.z_isinstance rfl ?_
  repeat walk_at "s"
  refine we_globR rfl T.g_Wait ?_
  repeat walk_at "s"
  refine ⟨_, _, _, _, _, rfl, ClsV.own _, ⟨rfl, ic⟩, k_isWait T _, ?_⟩
  refine ⟨_, rfl, it_f rfl ?_⟩
  repeat walk_at "s"
  refine we_isT T.z_isinstance rfl ?_
  repeat walk_at "s"
  refine we_globR rfl T.g_Mark ?_
  repeat walk_at "s"
  refine we_globR rfl T.g_Skip ?_
  repeat walk_at "s"
  refine ⟨[_, _], [_, _], _, _, rfl, (by show 2 ≤ sizeLine; decide), .cons (ClsV.own _) (.cons (ClsV.own _) .nil), ⟨rfl, ic⟩, any_ms T _, ?_⟩
  refine ⟨_, rfl, it_f rfl ?_⟩
  repeat walk_at "s"
  refine we_isI T.z_isinstance rfl ?_
  repeat walk_at "s"
  refine we_globR rfl T.g_Stop ?_
  repeat walk_at "s"
  refine ⟨_, _, _, _, _, rfl, ClsV.own _, ⟨rfl, ic⟩, k_isStop T _, ?_⟩
  refine ⟨_, rfl, it_f rfl ?_⟩
  repeat walk_at "s"
  refine we_isI T.z_isinstance rfl ?_
  repeat walk_at "s"
  refine we_globR rfl T.g_If ?_
  repeat walk_at "s"
  refine ⟨_, _, _, _, _, rfl, ClsV.own _, ⟨rfl, ic⟩, k_isIf T _, ?_⟩
  refine ⟨_, rfl, it_f rfl ?_⟩
  repeat walk_at "s"
  refine we_isI T.z_isinstance rfl ?_
  repeat walk_at "s"
  refine we_globR rfl T.g_While ?_
  repeat walk_at "s"
  refine ⟨_, _, _, _, _, rfl, ClsV.own _, ⟨rfl, ic⟩, k_isWhile T _, ?_⟩
  refine ⟨_, rfl, it_f rfl ?_⟩
  iterate 2 walk_at "s"
  refine ws_ret ?_
  refine we_lc1 (j := 4) rfl nd (blkOk_by rfl) rfl (fun _ _ _ _ _ => .inl rfl) (by decide) (wi_list ?_)
  repeat walk_at "s"
  refine lcq_mapA (l := bs) (g := D.int) (fun b => goD (.go, b)) (size_ge (by rw [hbl]; have := parts_len (.loop y); omega)) ?_ ?_
  · intro i2 b hi2 sh H C' cl fp B hB
    repeat walk_at "s"
    exact ⟨rfl, rfl⟩
  · simp only [Stm.steps, List.map_map] at hR
    exact ⟨rfl, hR⟩
end
theorem mtd_steps (T : Tx K mg) (s : Stm) : Mtd P w K mg base T.C_Machine "steps_of" 6 3 (sp_stepsof T.ta T.C_Machine T.C_Board s) := by
  cases s with
  | write a b => exact ⟨_, _, _, T.cl_Machine, T.m_Machine_steps_of, ok_steps_write T a b, T.b_Machine_steps_of⟩
  | wait a b => exact ⟨_, _, _, T.cl_Machine, T.m_Machine_steps_of, ok_steps_wait T a b, T.b_Machine_steps_of⟩
  | mark a => exact ⟨_, _, _, T.cl_Machine, T.m_Machine_steps_of, ok_steps_mark T a, T.b_Machine_steps_of⟩
  | skip => exact ⟨_, _, _, T.cl_Machine, T.m_Machine_steps_of, ok_steps_skip T , T.b_Machine_steps_of⟩
  | stop => exact ⟨_, _, _, T.cl_Machine, T.m_Machine_steps_of, ok_steps_stop T , T.b_Machine_steps_of⟩
  | iff a b y n => exact ⟨_, _, _, T.cl_Machine, T.m_Machine_steps_of, ok_steps_iff T a b y n, T.b_Machine_steps_of⟩
  | whl a b y => exact ⟨_, _, _, T.cl_Machine, T.m_Machine_steps_of, ok_steps_whl T a b y, T.b_Machine_steps_of⟩
  | cho y n => exact ⟨_, _, _, T.cl_Machine, T.m_Machine_steps_of, ok_steps_cho T y n, T.b_Machine_steps_of⟩
  | loop y => exact ⟨_, _, _, T.cl_Machine, T.m_Machine_steps_of, ok_steps_loop T y, T.b_Machine_steps_of⟩

/-- the room at which a row begins -/
def beg (r : List Stm) (first behind : Int) : Int := if r.isEmpty then behind else first
mutual
/-- the steps from the rooms of a statement at t, all within it -/
def Stm.lay (cs : List (Str × List Str)) : Stm → Int → Int → List (List (Act × Int))
  | .iff a b y n, t, g => Stm.steps cs [beg y (t + 1) g, beg n (t + 1 + sizes y) g] g (.iff a b y n) :: (layRow cs y (t + 1) g ++ layRow cs n (t + 1 + sizes y) g)
  | .whl a b y, t, g => Stm.steps cs [beg y (t + 1) t] g (.whl a b y) :: layRow cs y (t + 1) t
  | .cho y n, t, g => Stm.steps cs [beg y (t + 1) g, beg n (t + 1 + sizes y) g] g (.cho y n) :: (layRow cs y (t + 1) g ++ layRow cs n (t + 1 + sizes y) g)
  | .loop y, t, g => Stm.steps cs [beg y (t + 1) t] g (.loop y) :: layRow cs y (t + 1) t
  | .write a b, _, g => [Stm.steps cs [] g (.write a b)]
  | .wait a b, _, g => [Stm.steps cs [] g (.wait a b)]
  | .mark a, _, g => [Stm.steps cs [] g (.mark a)]
  | .skip, _, g => [Stm.steps cs [] g .skip]
  | .stop, _, g => [Stm.steps cs [] g .stop]
def layRow (cs : List (Str × List Str)) : List Stm → Int → Int → List (List (Act × Int))
  | [], _, _ => []
  | s :: r, t, b => s.lay cs t (if r.isEmpty then b else t + s.size) ++ layRow cs r (t + s.size) b
end
def layParts (cs : List (Str × List Str)) : List (List Stm) → Int → Int → List (List (Act × Int))
  | [], _, _ => []
  | p :: ps, t, b => layRow cs p t b ++ layParts cs ps (t + sizes p) b
def begs : List (List Stm) → Int → Int → List Int
  | [], _, _ => []
  | p :: ps, t, b => beg p t b :: begs ps (t + sizes p) b
def Stm.back (s : Stm) (t g : Int) : Int := if (s.isWhile || s.isLoop) = true then t else g
theorem lay_eq (cs : List (Str × List Str)) (s : Stm) (t g : Int) : s.lay cs t g = s.steps cs (begs s.parts (t + 1) (s.back t g)) g :: layParts cs s.parts (t + 1) (s.back t g) := by
  cases s <;> simp [Stm.lay, layParts, begs, Stm.parts, Stm.back, Stm.isWhile, Stm.isLoop]
mutual
theorem lay_len (cs : List (Str × List Str)) : ∀ (s : Stm) (t g : Int), (s.lay cs t g).length = s.size
  | .iff a b y n, t, g => by simp only [Stm.lay, Stm.size, List.length_cons, List.length_append, layRow_len cs y, layRow_len cs n]; omega
  | .whl a b y, t, g => by simp only [Stm.lay, Stm.size, List.length_cons, layRow_len cs y]; omega
  | .cho y n, t, g => by simp only [Stm.lay, Stm.size, List.length_cons, List.length_append, layRow_len cs y, layRow_len cs n]; omega
  | .loop y, t, g => by simp only [Stm.lay, Stm.size, List.length_cons, layRow_len cs y]; omega
  | .write _ _, _, _ => by simp [Stm.lay, Stm.size]
  | .wait _ _, _, _ => by simp [Stm.lay, Stm.size]
  | .mark _, _, _ => by simp [Stm.lay, Stm.size]
  | .skip, _, _ => by simp [Stm.lay, Stm.size]
  | .stop, _, _ => by simp [Stm.lay, Stm.size]
theorem layRow_len (cs : List (Str × List Str)) : ∀ (r : List Stm) (t b : Int), (layRow cs r t b).length = sizes r
  | [], _, _ => by simp [layRow, sizes]
  | s :: r, t, b => by simp only [layRow, sizes, List.length_append, lay_len cs s, layRow_len cs r]
end
def psz (ps : List (List Stm)) : Nat := (ps.map sizes).sum
theorem layParts_len (cs : List (Str × List Str)) : ∀ (ps : List (List Stm)) (t b : Int), (layParts cs ps t b).length = psz ps
  | [], _, _ => rfl
  | p :: ps, t, b => by
    simp only [layParts, List.length_append, layRow_len, layParts_len cs ps, psz, List.map_cons, List.sum_cons]
theorem begs_len : ∀ (ps : List (List Stm)) (t b : Int), (begs ps t b).length = ps.length
  | [], _, _ => rfl
  | p :: ps, t, b => by simp [begs, begs_len ps]
/-- all cells that are named are there -/
def Known (cs : List (Str × List Str)) (r : List Stm) : Prop := ∀ s ∈ flats r, ∀ a b, s.names = some (a, b) → ∃ vs, cVals cs a = some vs ∧ vs.length ≤ 1000
theorem flat_in : ∀ {r : List Stm} {s x : Stm}, s ∈ r → x ∈ s.flat → x ∈ flats r
  | y :: r, s, x, h, hx => by
    simp only [flats]
    rcases List.mem_cons.mp h with rfl | h
    · exact List.mem_append_left _ hx
    · exact List.mem_append_right _ (flat_in h hx)
theorem self_in (s : Stm) : s ∈ s.flat := by rw [flat_eq]; exact List.mem_cons_self ..
theorem part_in {s x : Stm} {p : List Stm} (h : p ∈ s.parts) (hx : x ∈ flats p) : x ∈ s.flat := by
  rw [flat_eq]
  exact List.mem_cons_of_mem _ (List.mem_flatMap.mpr ⟨p, h, hx⟩)
def KnownS (cs : List (Str × List Str)) (s : Stm) : Prop := ∀ x ∈ s.flat, ∀ a b, x.names = some (a, b) → ∃ vs, cVals cs a = some vs ∧ vs.length ≤ 1000
theorem Known.at {cs : List (Str × List Str)} {r : List Stm} {s : Stm} (h : Known cs r) (m : s ∈ r) : KnownS cs s := fun x hx => h x (flat_in m hx)
theorem KnownS.part {cs : List (Str × List Str)} {s : Stm} {p : List Stm} (h : KnownS cs s) (m : p ∈ s.parts) : Known cs p := fun x hx => h x (part_in m hx)
def exD (x : List (Act × Int)) : D := .lst (x.map goD)
def sp_layrow (T : TA) (CM CB : Addr) (k : Nat) : SpD := fun xs M R _ => ∃ cs p pl r first behind pre mid post, xs = [.cel 0, .dat (prD T r), .dat (.int first), .dat (.int behind)] ∧ M = [mcC CM (bD CB cs) p pl, .dead, .lst (pre ++ mid ++ post)] ∧ (pre.length : Int) = first ∧ mid.length = sizes r ∧ dps r ≤ k ∧ RowOk r ∧ Known cs r ∧
  R (.dat .non) [mcC CM (bD CB cs) p pl, .dead, .lst (pre ++ (layRow cs r first behind).map exD ++ post)]
def sp_lay (T : TA) (CM CB : Addr) (k : Nat) : SpD := fun xs M R _ => ∃ cs p pl s t g pre mid post, xs = [.cel 0, .dat (Stm.d T s), .dat (.int t), .dat (.int g)] ∧ M = [mcC CM (bD CB cs) p pl, .dead, .lst (pre ++ mid ++ post)] ∧ (pre.length : Int) = t ∧ mid.length = s.size ∧ s.dp ≤ k ∧ s.small = true ∧ KnownS cs s ∧
  R (.dat .non) [mcC CM (bD CB cs) p pl, .dead, .lst (pre ++ (s.lay cs t g).map exD ++ post)]
theorem enum_get {ds : List D} {i : Nat} {d : D} (h : (List.zipWith (fun a b => D.tup [a, b]) (rangeD 0 ds.length) ds)[i]? = some d) : ∃ x, ds[i]? = some x ∧ d = .tup [.int (0 + (i : Int)), x] := by
  rw [List.getElem?_zipWith] at h
  cases e1 : (rangeD 0 ds.length)[i]? with
  | none => rw [e1] at h; cases h
  | some a =>
    cases e2 : ds[i]? with
    | none => rw [e1, e2] at h; cases h
    | some x =>
      rw [e1, e2] at h
      obtain ⟨_, rfl⟩ := rangeD_get e1
      exact ⟨x, rfl, (Option.some.inj h).symm⟩
theorem drop_at {α : Type} {l : List α} {i : Nat} {x : α} (h : l[i]? = some x) : l.drop i = x :: l.drop (i + 1) := by
  obtain ⟨h1, h2⟩ := List.getElem?_eq_some_iff.mp h
  rw [List.drop_eq_getElem_cons h1, h2]
section
local macro_rules | `(tactic| walk_at "v") => `(tactic| first | ((with_reducible refine gNa "self" ?_); refine we_var (i := 0) rfl (vis rfl) rfl ?_) | ((with_reducible refine gNa "program" ?_); refine we_var (i := 1) rfl (vis rfl) rfl ?_) | ((with_reducible refine gNa "first" ?_); refine we_var (i := 2) rfl (vis rfl) rfl ?_) | ((with_reducible refine gNa "behind" ?_); refine we_var (i := 3) rfl (vis rfl) rfl ?_) | ((with_reducible refine gNa "at" ?_); refine we_var (i := 4) rfl (vis rfl) rfl ?_) | ((with_reducible refine gNa "k" ?_); refine we_var (i := 5) rfl (vis rfl) rfl ?_) | ((with_reducible refine gNa "statement" ?_); refine we_var (i := 6) rfl (vis rfl) rfl ?_) | ((with_reducible refine gNa "after" ?_); refine we_var (i := 7) rfl (vis rfl) rfl ?_) | ((with_reducible refine gNa "goal" ?_); refine we_var (i := 8) rfl (vis rfl) rfl ?_))
local macro_rules | `(tactic| walk_at "set") => `(tactic| first | ((with_reducible refine gSn "self" ?_); refine ws_set (i := 0) (by assumption) rfl (by first | exact .inl rfl | exact .inr rfl) ?_) | ((with_reducible refine gSn "program" ?_); refine ws_set (i := 1) (by assumption) rfl (by first | exact .inl rfl | exact .inr rfl) ?_) | ((with_reducible refine gSn "first" ?_); refine ws_set (i := 2) (by assumption) rfl (by first | exact .inl rfl | exact .inr rfl) ?_) | ((with_reducible refine gSn "behind" ?_); refine ws_set (i := 3) (by assumption) rfl (by first | exact .inl rfl | exact .inr rfl) ?_) | ((with_reducible refine gSn "at" ?_); refine ws_set (i := 4) (by assumption) rfl (by first | exact .inl rfl | exact .inr rfl) ?_) | ((with_reducible refine gSn "k" ?_); refine ws_set (i := 5) (by assumption) rfl (by first | exact .inl rfl | exact .inr rfl) ?_) | ((with_reducible refine gSn "statement" ?_); refine ws_set (i := 6) (by assumption) rfl (by first | exact .inl rfl | exact .inr rfl) ?_) | ((with_reducible refine gSn "after" ?_); refine ws_set (i := 7) (by assumption) rfl (by first | exact .inl rfl | exact .inr rfl) ?_) | ((with_reducible refine gSn "goal" ?_); refine ws_set (i := 8) (by assumption) rfl (by first | exact .inl rfl | exact .inr rfl) ?_))
theorem ok_layrow (T : Tx K mg) (k : Nat) (C : Mtd P w K mg base T.C_Machine "lay" (2 * k + 7) 3 (sp_lay T.ta T.C_Machine T.C_Board k)) : FnOk P w K mg base (L2.CX P w) (2 * k + 8) T.f_Machine_lay_row T.d_Machine_lay_row ["self", "program", "first", "behind"] (spOf K 3 (sp_layrow T.ta T.C_Machine T.C_Board k)) := by
  refine fn_ok T.F_Machine_lay_row sc_Machine_lay_row (fun xs M R Rx h => by obtain ⟨_, _, _, _, _, _, _, _, _, rfl, _⟩ := h; rfl) (fun cdv A outer sh H E B xs M R Rx hr hB h => ?_)
  obtain ⟨cs, p, pl, r, first, behind, pre, mid, post, rfl, rfl, hf, hm, hk, rok, hkn, hR⟩ := h
  have nd := sc_Machine_lay_row.nd
  repeat walk_at "s"
  refine ws_for rfl (wi_enumT T.z_enumerate rfl ?_)
  repeat walk_at "s"
  refine ⟨fun i ss M => ∃ dn rs t o5 o6 o7 o8, layRow cs r first behind = dn ++ layRow cs (r.drop i) t behind ∧ dn.length + sizes (r.drop i) = sizes r ∧ rs.length = sizes (r.drop i) ∧ ((pre.length + dn.length : Nat) : Int) = t ∧ ss = [some (.cel 0), some (.dat (prD T.ta r)), some (.dat (.int first)), some (.dat (.int behind)), some (.dat (.int t)), o5, o6, o7, o8] ∧ M = [mcC T.C_Machine (bD T.C_Board cs) p pl, .dead, .lst (pre ++ dn.map exD ++ rs ++ post)], ⟨[], mid, first, none, none, none, none, rfl, by simp, hm, by simpa using hf, rfl, by simp⟩, ?_, ?_⟩
  · rintro i d ss M hd ⟨dn, rs, t, o5, o6, o7, o8, e1, e2, e3, e4, rfl, rfl⟩
    obtain ⟨x, hx, rfl⟩ := enum_get hd
    rw [stms_map] at hx
    obtain ⟨s, hs, rfl⟩ := map_get hx
    have hsm := List.mem_of_getElem? hs
    have ed := drop_at hs
    have hlt := (List.getElem?_eq_some_iff.mp hs).1
    have a2 := dps_mem hsm
    have ssm := smalls_mem rok.1 hsm
    rw [ed] at e1 e2 e3
    simp only [sizes] at e2 e3
    have hlast : (r.drop (i + 1)).isEmpty = decide (i + 1 = r.length) := by
      rw [Bool.eq_iff_iff, List.isEmpty_iff, List.drop_eq_nil_iff, decide_eq_true_iff]
      omega
    refine wg_tup2 rfl ?_
    refine wg_name (i := 5) nd rfl (.inl rfl) ?_
    refine wg_name (i := 6) nd rfl (.inl rfl) ?_
    walk_at "s"
    refine ws_set (i := 7) nd rfl (.inl rfl) ?_
    refine we_add ?_
    walk_at "s"
    refine we_mtd0 ((mtd_size_both T k).1 s (by omega) ssm) (room hr (by omega)) ?_
    walk_at "s"
    refine ⟨by cases s <;> exact ⟨rfl, rfl⟩, cq rfl ⟨rfl, rfl, ?_⟩⟩
    iterate 5 walk_at "s"
    refine wb_cut (fun ss M => ss = [some (.cel 0), some (.dat (prD T.ta r)), some (.dat (.int first)), some (.dat (.int behind)), some (.dat (.int t)), some (.dat (.int (0 + (i : Int)))), some (.dat (Stm.d T.ta s)), some (.dat (.int (t + (s.size : Nat)))), some (.dat (.int (if (r.drop (i + 1)).isEmpty then behind else t + (s.size : Nat))))] ∧ M = [mcC T.C_Machine (bD T.C_Board cs) p pl, .dead, .lst (pre ++ dn.map exD ++ rs ++ post)]) ?_ ?_
    · repeat walk_at "s"
      refine ite_b (fun c => ?_) (fun c => ?_)
      · rw [stms_len] at c
        have hie : (r.drop (i + 1)).isEmpty = true := by rw [hlast]; exact decide_eq_true (by omega)
        repeat walk_at "s"
        refine ⟨?_, rfl⟩
        rw [if_pos hie]
        rfl
      · rw [stms_len] at c
        have hie : ¬ (r.drop (i + 1)).isEmpty = true := by rw [hlast, decide_eq_true_iff]; omega
        repeat walk_at "s"
        refine ⟨?_, rfl⟩
        rw [if_neg hie]
        rfl
    · rintro ss M ⟨rfl, rfl⟩
      generalize hg : (if (r.drop (i + 1)).isEmpty = true then behind else t + (s.size : Nat)) = gl
      have es : pre ++ dn.map exD ++ rs ++ post = (pre ++ dn.map exD) ++ rs.take s.size ++ (rs.drop s.size ++ post) := by
        simp only [List.append_assoc]
        rw [← List.append_assoc (rs.take _), List.take_append_drop]
      walk_at "s"
      refine ws_expr ?_
      refine we_mtd C (room hr (by omega)) ?_
      walk_at "s"
      refine ⟨⟨_, rfl, rfl⟩, ?_⟩
      repeat walk_at "s"
      refine cq rfl ⟨cs, p, pl, s, t, gl, pre ++ dn.map exD, rs.take s.size, rs.drop s.size ++ post, rfl, by rw [← es]; rfl, ?_, ?_, by omega, ssm, hkn.at hsm, ?_⟩
      · rw [← e4, List.length_append, List.length_map]
      · rw [List.length_take]
        omega
      repeat walk_at "s"
      refine ⟨dn ++ s.lay cs t gl, rs.drop s.size, t + (s.size : Nat), _, _, _, _, ?_, ?_, ?_, ?_, rfl, ?_⟩
      · rw [e1]
        simp only [layRow]
        rw [hg, List.append_assoc]
      · rw [List.length_append, lay_len]
        omega
      · rw [List.length_drop]
        omega
      · rw [List.length_append, lay_len]
        omega
      · rw [List.map_append]
        simp only [List.append_assoc]
        rfl
  · rintro ss M ⟨dn, rs, t, o5, o6, o7, o8, e1, e2, e3, e4, rfl, rfl⟩
    have el : (List.zipWith (fun a b => D.tup [a, b]) (rangeD 0 (stms T.ta r).length) (stms T.ta r)).length = r.length := by rw [List.length_zipWith, rangeD_len, stms_len, Nat.min_self]
    rw [el, List.drop_length] at e1 e3
    simp only [layRow, List.append_nil] at e1
    simp only [sizes] at e3
    obtain rfl : rs = [] := List.length_eq_zero_iff.mp e3
    rw [e1] at hR
    rw [List.append_nil]
    repeat walk_at "s"
    exact ⟨rfl, hR⟩

end
theorem set_mid {α : Type} (x v : α) (l : List α) : ∀ pre : List α, (pre ++ x :: l).set pre.length v = pre ++ v :: l
  | [] => rfl
  | y :: pre => by
    show y :: (pre ++ x :: l).set pre.length v = _
    rw [set_mid x v l pre]
    rfl
section
local macro_rules | `(tactic| walk_at "v") => `(tactic| first | ((with_reducible refine gNa "self" ?_); refine we_var (i := 0) rfl (vis rfl) rfl ?_) | ((with_reducible refine gNa "statement" ?_); refine we_var (i := 1) rfl (vis rfl) rfl ?_) | ((with_reducible refine gNa "at" ?_); refine we_var (i := 2) rfl (vis rfl) rfl ?_) | ((with_reducible refine gNa "goal" ?_); refine we_var (i := 3) rfl (vis rfl) rfl ?_) | ((with_reducible refine gNa "begins" ?_); refine we_var (i := 4) rfl (vis rfl) rfl ?_) | ((with_reducible refine gNa "inner" ?_); refine we_var (i := 5) rfl (vis rfl) rfl ?_) | ((with_reducible refine gNa "back" ?_); refine we_var (i := 6) rfl (vis rfl) rfl ?_) | ((with_reducible refine gNa "part" ?_); refine we_var (i := 7) rfl (vis rfl) rfl ?_))
local macro_rules | `(tactic| walk_at "set") => `(tactic| first | ((with_reducible refine gSn "self" ?_); refine ws_set (i := 0) (by assumption) rfl (by first | exact .inl rfl | exact .inr rfl) ?_) | ((with_reducible refine gSn "statement" ?_); refine ws_set (i := 1) (by assumption) rfl (by first | exact .inl rfl | exact .inr rfl) ?_) | ((with_reducible refine gSn "at" ?_); refine ws_set (i := 2) (by assumption) rfl (by first | exact .inl rfl | exact .inr rfl) ?_) | ((with_reducible refine gSn "goal" ?_); refine ws_set (i := 3) (by assumption) rfl (by first | exact .inl rfl | exact .inr rfl) ?_) | ((with_reducible refine gSn "begins" ?_); refine ws_set (i := 4) (by assumption) rfl (by first | exact .inl rfl | exact .inr rfl) ?_) | ((with_reducible refine gSn "inner" ?_); refine ws_set (i := 5) (by assumption) rfl (by first | exact .inl rfl | exact .inr rfl) ?_) | ((with_reducible refine gSn "back" ?_); refine ws_set (i := 6) (by assumption) rfl (by first | exact .inl rfl | exact .inr rfl) ?_) | ((with_reducible refine gSn "part" ?_); refine ws_set (i := 7) (by assumption) rfl (by first | exact .inl rfl | exact .inr rfl) ?_))
theorem ok_lay (T : Tx K mg) (k : Nat) (ih : ∀ j, k = j + 1 → Mtd P w K mg base T.C_Machine "lay_row" (2 * j + 8) 3 (sp_layrow T.ta T.C_Machine T.C_Board j)) : FnOk P w K mg base (L2.CX P w) (2 * k + 7) T.f_Machine_lay T.d_Machine_lay ["self", "statement", "at", "goal"] (spOf K 3 (sp_lay T.ta T.C_Machine T.C_Board k)) := by
  refine fn_ok T.F_Machine_lay sc_Machine_lay (fun xs M R Rx h => by obtain ⟨_, _, _, _, _, _, _, _, _, rfl, _⟩ := h; rfl) (fun cdv A outer sh H E B xs M R Rx hr hB h => ?_)
  obtain ⟨cs, p, pl, s, t, g, pre, mid, post, rfl, rfl, hf, hm, hk, ssm, hkn, hR⟩ := h
  have nd := sc_Machine_lay.nd
  have ic := stm_isc T s
  have zs := size_parts s
  obtain ⟨x0, rs0, rfl⟩ : ∃ x0 rs0, mid = x0 :: rs0 := by
    cases mid with
    | nil => have := size_pos s; simp at hm; omega
    | cons x r => exact ⟨x, r, rfl⟩
  rw [List.length_cons] at hm
  walk_at "s"
  refine ws_set (i := 4) nd rfl (.inl rfl) ?_
  refine we_lstC ?_
  iterate 12 walk_at "s"
  refine wb_cut (fun ss M => ss = [some (.cel 0), some (.dat (Stm.d T.ta s)), some (.dat (.int t)), some (.dat (.int g)), some (.cel 3), some (.dat (.int (t + 1))), some (.dat (.int (s.back t g))), none] ∧ M = [mcC T.C_Machine (bD T.C_Board cs) p pl, .dead, .lst (pre ++ x0 :: rs0 ++ post), .lst []]) ?_ ?_
  · refine ws_if ?_
    refine wt_val ?_
    refine we_isT T.z_isinstance rfl ?_
    repeat walk_at "s"
    refine we_globR rfl T.g_While ?_
    repeat walk_at "s"
    refine we_globR rfl T.g_Loop ?_
    repeat walk_at "s"
    refine ⟨[_, _], [_, _], _, _, rfl, (by show 2 ≤ sizeLine; decide), .cons (ClsV.own _) (.cons (ClsV.own _) .nil), ⟨rfl, ic⟩, any_wl T s, ?_⟩
    refine ⟨_, rfl, ?_⟩
    cases hb : (s.isWhile || s.isLoop) with
    | true =>
      refine it_t rfl ?_
      repeat walk_at "s"
      refine ⟨?_, rfl⟩
      rw [show s.back t g = t by unfold Stm.back; rw [hb]; rfl]
      rfl
    | false =>
      refine it_f rfl ?_
      repeat walk_at "s"
      refine ⟨?_, rfl⟩
      rw [show s.back t g = g by unfold Stm.back; rw [hb]; rfl]
      rfl
  rintro ss M ⟨rfl, rfl⟩
  generalize hbk : s.back t g = bk
  walk_at "s"
  refine ws_for rfl (wi_list ?_)
  refine we_mtd0 (mtd_parts T s) (room hr (by omega)) ?_
  walk_at "s"
  refine ⟨by cases s <;> exact ⟨rfl, rfl⟩, cq rfl ⟨rfl, rfl, ?_⟩⟩
  refine ⟨_, rfl, ?_⟩
  refine ⟨fun j ss M => ∃ dn rs bd inner o7, layParts cs s.parts (t + 1) bk = dn ++ layParts cs (s.parts.drop j) inner bk ∧ begs s.parts (t + 1) bk = bd ++ begs (s.parts.drop j) inner bk ∧ bd.length = j ∧ dn.length + psz (s.parts.drop j) = psz s.parts ∧ rs.length = psz (s.parts.drop j) ∧ ((pre.length + 1 + dn.length : Nat) : Int) = inner ∧ ss = [some (.cel 0), some (.dat (Stm.d T.ta s)), some (.dat (.int t)), some (.dat (.int g)), some (.cel 3), some (.dat (.int inner)), some (.dat (.int bk)), o7] ∧ M = [mcC T.C_Machine (bD T.C_Board cs) p pl, .dead, .lst (pre ++ x0 :: (dn.map exD ++ rs) ++ post), .lst (bd.map D.int)],
    ⟨[], rs0, [], t + 1, none, rfl, rfl, rfl, by simp, by show rs0.length = psz s.parts; unfold psz; omega, by simp; omega, rfl, by simp⟩, ?_, ?_⟩
  · rintro j d ss M hd ⟨dn, rs, bd, inner, o7, e1, e2, e3, e4, e5, e6, rfl, rfl⟩
    obtain ⟨q, hq, rfl⟩ := map_get hd
    have hqm := List.mem_of_getElem? hq
    have ed := drop_at hq
    have a1 := dp_parts hqm
    have pok := small_parts ssm hqm
    have hj := (List.getElem?_eq_some_iff.mp hq).1
    have hj2 := parts_len s
    obtain ⟨j', rfl⟩ : ∃ j', k = j' + 1 := ⟨k - 1, by omega⟩
    rw [ed] at e1 e2 e4 e5
    simp only [layParts, begs] at e1 e2
    have ep : psz (q :: s.parts.drop (j + 1)) = sizes q + psz (s.parts.drop (j + 1)) := by simp [psz]
    rw [ep] at e4 e5
    refine wg_name (i := 7) nd rfl (.inl rfl) ?_
    walk_at "s"
    refine ws_expr ?_
    refine we_append ?_
    walk_at "s"
    refine cl1 rfl ?_
    refine wa_cons ?_
    refine we_mtd (mtd_begin T) (room hr (by omega)) ?_
    walk_at "s"
    refine ⟨⟨_, rfl, rfl⟩, ?_⟩
    repeat walk_at "s"
    refine cq rfl ⟨_, _, _, _, q, inner, bk, rfl, rfl, ?_⟩
    repeat walk_at "s"
    refine ⟨size_ge (by show (bd.map D.int).length + 1 ≤ _; rw [List.length_map]; omega), ?_⟩
    walk_at "s"
    refine ws_expr ?_
    refine we_mtd (ih j' rfl) (room hr (by omega)) ?_
    walk_at "s"
    refine ⟨⟨_, rfl, rfl⟩, ?_⟩
    repeat walk_at "s"
    have es : pre ++ x0 :: (dn.map exD ++ rs) ++ post = (pre ++ x0 :: dn.map exD) ++ rs.take (sizes q) ++ (rs.drop (sizes q) ++ post) := by
      simp only [List.append_assoc, List.cons_append]
      rw [← List.append_assoc (rs.take _), List.take_append_drop]
    refine cq rfl ⟨cs, p, pl, q, inner, bk, pre ++ x0 :: dn.map exD, rs.take (sizes q), rs.drop (sizes q) ++ post, rfl, by rw [← es]; rfl, ?_, ?_, by omega, pok, hkn.part hqm, ?_⟩
    · rw [← e6]
      simp only [List.length_append, List.length_cons, List.length_map]
      omega
    · rw [List.length_take]
      omega
    repeat walk_at "s"
    refine we_mtd0 ((mtd_size_both T j').2 q (by omega) pok) (room hr (by omega)) ?_
    walk_at "s"
    refine ⟨⟨rfl, rfl⟩, cq rfl ⟨rfl, rfl, ?_⟩⟩
    repeat walk_at "s"
    refine ⟨dn ++ layRow cs q inner bk, rs.drop (sizes q), bd ++ [beg q inner bk], inner + (sizes q : Nat), _, ?_, ?_, ?_, ?_, ?_, ?_, rfl, ?_⟩
    · rw [e1, List.append_assoc]
    · rw [e2, List.append_assoc]
      rfl
    · rw [List.length_append, e3]
      rfl
    · rw [List.length_append, layRow_len]
      omega
    · rw [List.length_drop]
      omega
    · rw [List.length_append, layRow_len]
      omega
    · rw [List.map_append, List.map_append]
      simp only [List.append_assoc, List.cons_append]
      rfl
  · rintro ss M ⟨dn, rs, bd, inner, o7, e1, e2, e3, e4, e5, e6, rfl, rfl⟩
    rw [List.length_map, List.drop_length] at e1 e2 e5
    simp only [layParts, begs, List.append_nil] at e1 e2
    obtain rfl : rs = [] := List.length_eq_zero_iff.mp e5
    subst e2
    subst hbk
    rw [List.append_nil]
    refine wb_freeze 3 (Nat.le_of_eq hB) rfl rfl ?_
    walk_at "s"
    refine ws_asg ?_
    refine we_mtd (mtd_steps T s) (room hr (by omega)) ?_
    walk_at "s"
    refine ⟨⟨_, rfl, rfl⟩, ?_⟩
    repeat walk_at "s"
    refine cq rfl ⟨cs, p, pl, _, begs s.parts (t + 1) (s.back t g), g, rfl, rfl, begs_len _ _ _, hkn s (self_in s), ?_⟩
    refine wg_item ?_
    repeat walk_at "s"
    have hset : (pre ++ x0 :: dn.map exD ++ post).set pre.length (exD (s.steps cs (begs s.parts (t + 1) (s.back t g)) g)) = pre ++ (s.lay cs t g).map exD ++ post := by
      rw [lay_eq, e1, List.append_assoc, List.cons_append, set_mid, List.append_assoc]
      rfl
    refine ⟨2, pre ++ x0 :: dn.map exD ++ post, t, pre.length, exD (s.steps cs (begs s.parts (t + 1) (s.back t g)) g), rfl, rfl, rfl, rfl, ?_, ?_⟩
    · rw [← hf]
      unfold ixN
      rw [if_pos (by omega), if_pos (by simp only [List.length_append, List.length_cons]; omega), Int.toNat_natCast]
    · rw [← hset] at hR
      repeat walk_at "s"
      exact ⟨rfl, hR⟩
end
theorem mtd_lays (T : Tx K mg) : ∀ k, Mtd P w K mg base T.C_Machine "lay" (2 * k + 7) 3 (sp_lay T.ta T.C_Machine T.C_Board k) ∧ Mtd P w K mg base T.C_Machine "lay_row" (2 * k + 8) 3 (sp_layrow T.ta T.C_Machine T.C_Board k) := by
  intro k
  have fin : ∀ k, Mtd P w K mg base T.C_Machine "lay" (2 * k + 7) 3 (sp_lay T.ta T.C_Machine T.C_Board k) → Mtd P w K mg base T.C_Machine "lay_row" (2 * k + 8) 3 (sp_layrow T.ta T.C_Machine T.C_Board k) := fun k h => ⟨_, _, _, T.cl_Machine, T.m_Machine_lay_row, ok_layrow T k h, T.b_Machine_lay_row⟩
  induction k with
  | zero =>
    have a : Mtd P w K mg base T.C_Machine "lay" (2 * 0 + 7) 3 (sp_lay T.ta T.C_Machine T.C_Board 0) := ⟨_, _, _, T.cl_Machine, T.m_Machine_lay, ok_lay T 0 (fun j e => by omega), T.b_Machine_lay⟩
    exact ⟨a, fin 0 a⟩
  | succ k ih =>
    have ih2 : ∀ j, k + 1 = j + 1 → Mtd P w K mg base T.C_Machine "lay_row" (2 * j + 8) 3 (sp_layrow T.ta T.C_Machine T.C_Board j) := fun j e => by
      obtain rfl : k = j := by omega
      exact ih.2
    have a : Mtd P w K mg base T.C_Machine "lay" (2 * (k + 1) + 7) 3 (sp_lay T.ta T.C_Machine T.C_Board (k + 1)) := ⟨_, _, _, T.cl_Machine, T.m_Machine_lay, ok_lay T (k + 1) ih2, T.b_Machine_lay⟩
    exact ⟨a, fin (k + 1) a⟩

/-- all cells and values that are named are the board's -/
def AllIn (cs : List (Str × List Str)) (r : List Stm) : Prop := ∀ s ∈ flats r, ∀ a b, s.names = some (a, b) → ∃ vs, cVals cs a = some vs ∧ b ∈ vs
theorem AllIn.known {cs : List (Str × List Str)} {r : List Stm} (h : AllIn cs r) (cv : CvOk cs) : Known cs r := fun s hs a b e => by
  obtain ⟨vs, h1, _⟩ := h s hs a b e
  exact ⟨vs, h1, cv a vs h1⟩
/-- the steps from all rooms -/
def exits (cs : List (Str × List Str)) (r : List Stm) : List (List (Act × Int)) := layRow cs r 0 (sizes r) ++ [[]]
def maF (T : TA) (CB : Addr) (cs : List (Str × List Str)) (r : List Stm) : List (Str × D) := [("plan", bD CB cs), ("text", prD T r), ("places", .lst (stms T (flats r))), ("exits", .lst ((exits cs r).map exD))]
def maD (T : TA) (CM CB : Addr) (cs : List (Str × List Str)) (r : List Stm) : D := .ins CM (maF T CB cs r)
def sp_Machine (T : TA) (CM CB : Addr) (k : Nat) : SpD := fun xs M R _ => ∃ cs r, xs = [.cel 0, .dat (bD CB cs), .dat (prD T r)] ∧ M = [.ins CM []] ∧ dps r ≤ k ∧ sizes r ≤ 900 ∧ CvOk cs ∧ AllIn cs r ∧
  R (.dat .non) [.ins CM [("plan", .dat (bD CB cs)), ("text", .dat (prD T r)), ("places", .dat (.lst (stms T (flats r)))), ("exits", .dat (.lst ((exits cs r).map exD)))]]
section
local macro_rules | `(tactic| walk_at "v") => `(tactic| first | ((with_reducible refine gNa "self" ?_); refine we_var (i := 0) rfl (vis rfl) rfl ?_) | ((with_reducible refine gNa "board" ?_); refine we_var (i := 1) rfl (vis rfl) rfl ?_) | ((with_reducible refine gNa "program" ?_); refine we_var (i := 2) rfl (vis rfl) rfl ?_) | ((with_reducible refine gNa "statement" ?_); refine we_var (i := 3) rfl (vis rfl) rfl ?_))
local macro_rules | `(tactic| walk_at "set") => `(tactic| first | ((with_reducible refine gSn "self" ?_); refine ws_set (i := 0) (by assumption) rfl (by first | exact .inl rfl | exact .inr rfl) ?_) | ((with_reducible refine gSn "board" ?_); refine ws_set (i := 1) (by assumption) rfl (by first | exact .inl rfl | exact .inr rfl) ?_) | ((with_reducible refine gSn "program" ?_); refine ws_set (i := 2) (by assumption) rfl (by first | exact .inl rfl | exact .inr rfl) ?_) | ((with_reducible refine gSn "statement" ?_); refine ws_set (i := 3) (by assumption) rfl (by first | exact .inl rfl | exact .inr rfl) ?_))
theorem ok_Machine (T : Tx K mg) (k : Nat) : FnOk P w K mg base (L2.CX P w) (2 * k + 9) T.f_Machine_init T.d_Machine_init ["self", "board", "program"] (spOf K 1 (sp_Machine T.ta T.C_Machine T.C_Board k)) := by
  refine fn_ok T.F_Machine_init sc_Machine_init (fun xs M R Rx h => by obtain ⟨_, _, rfl, _⟩ := h; rfl) (fun cdv A outer sh H E B xs M R Rx hr hB h => ?_)
  obtain ⟨cs, r, rfl, rfl, hk, hz, cv, hin, hR⟩ := h
  have nd := sc_Machine_init.nd
  have hfl := flats_len r
  repeat walk_at "s"
  refine we_lstC ?_
  repeat walk_at "s"
  refine we_mtd (mtd_number T k) (room hr (by omega)) ?_
  walk_at "s"
  refine ⟨⟨_, rfl, rfl⟩, ?_⟩
  repeat walk_at "s"
  have s0 : stms T.ta [] = [] := by simp [stms]
  refine cq rfl ⟨bD T.C_Board cs, prD T.ta r, r, [], rfl, by rw [s0]; rfl, hk, by simp; omega, ?_⟩
  rw [List.nil_append]
  refine wb_freeze 1 (Nat.le_of_eq hB) rfl rfl ?_
  walk_at "s"
  refine ws_for rfl (wi_list ?_)
  repeat walk_at "s"
  refine ⟨fun i ss M => (∃ o, ss = [some (.cel 0), some (.dat (bD T.C_Board cs)), some (.dat (prD T.ta r)), o]) ∧ M = [.ins T.C_Machine [("plan", .dat (bD T.C_Board cs)), ("text", .dat (prD T.ta r)), ("places", .dat (.lst (stms T.ta (flats r))))], .dead], ⟨⟨_, rfl⟩, rfl⟩, ?_, ?_⟩
  · rintro i d ss M hd ⟨⟨o, rfl⟩, rfl⟩
    rw [stms_map] at hd
    obtain ⟨s, hs, rfl⟩ := map_get hd
    have hsm := List.mem_of_getElem? hs
    have ic := stm_isc T s
    refine wg_name (i := 3) nd rfl (.inl rfl) ?_
    walk_at "s"
    refine ws_if ?_
    refine wt_val ?_
    refine we_isT T.z_isinstance rfl ?_
    repeat walk_at "s"
    refine we_globR rfl T.g_Write ?_
    repeat walk_at "s"
    refine we_globR rfl T.g_Wait ?_
    repeat walk_at "s"
    refine we_globR rfl T.g_If ?_
    repeat walk_at "s"
    refine we_globR rfl T.g_While ?_
    repeat walk_at "s"
    refine ⟨[_, _, _, _], [_, _, _, _], _, _, rfl, (by show 4 ≤ sizeLine; decide), .cons (ClsV.own _) (.cons (ClsV.own _) (.cons (ClsV.own _) (.cons (ClsV.own _) .nil))), ⟨rfl, ic⟩, any_wwiw T s, ?_⟩
    refine ⟨_, rfl, ?_⟩
    cases hn : s.names with
    | none =>
      refine it_f rfl ?_
      repeat walk_at "s"
      exact ⟨⟨_, rfl⟩, rfl⟩
    | some ab =>
      obtain ⟨a, b⟩ := ab
      obtain ⟨vs, hv, hb⟩ := hin s hsm a b hn
      refine it_t rfl ?_
      walk_at "s"
      refine ws_expr ?_
      refine we_mtd (mtd_basked T) (room hr (by omega)) ?_
      walk_at "s"
      refine ⟨⟨rfl, rfl⟩, ?_⟩
      have fin : ∀ (Q : Prop), Q → Q := fun _ q => q
      cases s with
      | write a' b' =>
        cases hn
        repeat walk_at "s"
        refine cq rfl ⟨cs, a, b, rfl, rfl, ?_⟩
        rw [hv]
        refine ⟨fun _ => ?_, fun c => absurd hb c⟩
        repeat walk_at "s"
        exact ⟨⟨_, rfl⟩, rfl⟩
      | wait a' b' =>
        cases hn
        repeat walk_at "s"
        refine cq rfl ⟨cs, a, b, rfl, rfl, ?_⟩
        rw [hv]
        refine ⟨fun _ => ?_, fun c => absurd hb c⟩
        repeat walk_at "s"
        exact ⟨⟨_, rfl⟩, rfl⟩
      | iff a' b' y n =>
        cases hn
        repeat walk_at "s"
        refine cq rfl ⟨cs, a, b, rfl, rfl, ?_⟩
        rw [hv]
        refine ⟨fun _ => ?_, fun c => absurd hb c⟩
        repeat walk_at "s"
        exact ⟨⟨_, rfl⟩, rfl⟩
      | whl a' b' y =>
        cases hn
        repeat walk_at "s"
        refine cq rfl ⟨cs, a, b, rfl, rfl, ?_⟩
        rw [hv]
        refine ⟨fun _ => ?_, fun c => absurd hb c⟩
        repeat walk_at "s"
        exact ⟨⟨_, rfl⟩, rfl⟩
      | mark a' => cases hn
      | skip => cases hn
      | stop => cases hn
      | cho y n => cases hn
      | loop y => cases hn
  · rintro ss M ⟨⟨o, rfl⟩, rfl⟩
    walk_at "s"
    refine ws_fld ?_
    refine we_lc1C (j := 3) rfl nd (blkOk_by rfl) rfl (fun _ _ _ _ _ => .inl rfl) (by decide) (wi_list ?_)
    repeat walk_at "s"
    rw [stms_map]
    refine lcq_mapA (fun _ => .lst []) (size_ge (by omega)) ?_ ?_
    · intro i s hs sh H C' cl fp B hB
      refine we_lst ?_
      repeat walk_at "s"
      exact ⟨rfl, rfl⟩
    refine ⟨_, rfl, ?_⟩
    rw [← stms_map]
    repeat walk_at "s"
    refine we_lst ?_
    repeat walk_at "s"
    refine ⟨size_ge (by simp only [List.length_map]; omega), ?_⟩
    walk_at "s"
    refine ws_expr ?_
    refine we_mtd ((mtd_lays T k).2) (room hr (by omega)) ?_
    walk_at "s"
    refine ⟨⟨_, rfl, rfl⟩, ?_⟩
    repeat walk_at "s"
    refine cq rfl ⟨cs, prD T.ta r, _, r, 0, _, [], (flats r).map fun _ => D.lst [], [D.lst []], rfl, rfl, rfl, ?_, hk, rowOk_sz (by omega), hin.known cv, ?_⟩
    · rw [List.length_map, hfl]
    rw [List.nil_append]
    refine wb_freeze 2 (by rw [hB]; omega) rfl rfl ?_
    repeat walk_at "s"
    refine ⟨rfl, ?_⟩
    rw [stms_len, hfl]
    unfold exits at hR
    rw [List.map_append] at hR
    exact hR
end
theorem mkr_Machine (T : Tx K mg) (k : Nat) : Mkr P w K mg base "Machine" T.C_Machine (2 * k + 9) (sp_Machine T.ta T.C_Machine T.C_Board k) := ⟨_, _, _, T.mk_Machine, ok_Machine T k, T.g_Machine, T.b_Machine_init⟩

theorem ok_NoRoom_init (T : Tx K mg) : FnOk P w K mg base CX0 1 T.f_NoRoom_init T.d_NoRoom_init ["self", "room"] (spX1 K "room") := by
  refine T.F_NoRoom_init.ok sc_NoRoom_init (fun vs H Q E h => by obtain ⟨a, C, v, rfl, _⟩ := h; rfl) (fun cdv A outer s H vs Q E hr h => ?_)
  obtain ⟨a, C, v, rfl, hC, hf, ha, k⟩ := h
  exact ⟨_, pss_one (ps_ost (pv 0) (pv 1)), v, rfl, .ref a, rfl, a, C, rfl, hC, hf, .inl ⟨ha, k⟩⟩
theorem rai_NoRoom (T : Tx K mg) : Rai P w K mg base "NoRoom" T.C_NoRoom "room" := ⟨_, _, _, ⟨T.o_NoRoom, T.g_NoRoom, T.i_NoRoom, T.t_NoRoom⟩, T.n_NoRoom_room, ok_NoRoom_init T, T.b_NoRoom_init⟩
local macro_rules | `(tactic| walk_at "raise") => `(tactic| ((with_reducible refine gRa "NoRoom" ?_); refine ws_rai (x := "NoRoom") (C := (‹Tx _ _›).C_NoRoom) (f := "room") ?_ ?_ rfl rfl ?_; exact rai_NoRoom ‹Tx _ _›; exact room ‹Room _ _› (by decide)))
theorem exits_len (cs : List (Str × List Str)) (r : List Stm) : (exits cs r).length = sizes r + 1 := by
  unfold exits
  rw [List.length_append, layRow_len]
  rfl
def sp_masked (T : TA) (CM CB CR : Addr) : SpD := fun xs M R Rx => ∃ cs r n, xs = [.dat (maD T CM CB cs r), .dat (.int n)] ∧ M = [] ∧ (0 ≤ n → n < ((sizes r + 1 : Nat) : Int) → R (.dat .non) []) ∧ (¬ (0 ≤ n ∧ n < ((sizes r + 1 : Nat) : Int)) → Rx CR [("room", .int n)] [])
section
local macro_rules | `(tactic| walk_at "v") => `(tactic| first | ((with_reducible refine gNa "self" ?_); refine we_var (i := 0) rfl (vis rfl) rfl ?_) | ((with_reducible refine gNa "room" ?_); refine we_var (i := 1) rfl (vis rfl) rfl ?_))
local macro_rules | `(tactic| walk_at "set") => `(tactic| first | ((with_reducible refine gSn "self" ?_); refine ws_set (i := 0) (by assumption) rfl (by first | exact .inl rfl | exact .inr rfl) ?_) | ((with_reducible refine gSn "room" ?_); refine ws_set (i := 1) (by assumption) rfl (by first | exact .inl rfl | exact .inr rfl) ?_))
theorem ok_masked (T : Tx K mg) : FnOk P w K mg base (L2.CX P w) 3 T.f_Machine_asked T.d_Machine_asked ["self", "room"] (spOf K 0 (sp_masked T.ta T.C_Machine T.C_Board T.C_NoRoom)) := by
  refine fn_ok T.F_Machine_asked sc_Machine_asked (fun xs M R Rx h => by obtain ⟨_, _, _, rfl, _⟩ := h; rfl) (fun cdv A outer sh H E B xs M R Rx hr hB h => ?_)
  obtain ⟨cs, r, n, rfl, rfl, h1, h2⟩ := h
  have nd := sc_Machine_asked.nd
  have el : ((exits cs r).map exD).length = sizes r + 1 := by rw [List.length_map, exits_len]
  walk_at "s"
  refine ws_if ?_
  refine wt_not ?_
  refine wt_lelt ?_
  repeat walk_at "s"
  refine ite_b (fun c => ?_) (fun c => ?_)
  · repeat walk_at "s"
    rw [el]
    cases hc : decide (n < ((sizes r + 1 : Nat) : Int)) with
    | true =>
      refine it_f rfl ?_
      repeat walk_at "s"
      exact ⟨rfl, h1 c (of_decide_eq_true hc)⟩
    | false =>
      refine it_t rfl ?_
      repeat walk_at "s"
      exact ⟨rfl, h2 fun h => (of_decide_eq_false hc) h.2⟩
  · refine it_t rfl ?_
    repeat walk_at "s"
    exact ⟨rfl, h2 fun h => c h.1⟩
end
theorem mtd_masked (T : Tx K mg) : Mtd P w K mg base T.C_Machine "asked" 3 0 (sp_masked T.ta T.C_Machine T.C_Board T.C_NoRoom) := ⟨_, _, _, T.cl_Machine, T.m_Machine_asked, ok_masked T, T.b_Machine_asked⟩
def sp_mrooms (T : TA) (CM CB : Addr) : SpD := fun xs M R Rx => ∃ cs r, xs = [.dat (maD T CM CB cs r)] ∧ M = [] ∧ R (.dat (.int ((sizes r + 1 : Nat) : Int))) []
section
local macro_rules | `(tactic| walk_at "v") => `(tactic| first | ((with_reducible refine gNa "self" ?_); refine we_var (i := 0) rfl (vis rfl) rfl ?_))
local macro_rules | `(tactic| walk_at "set") => `(tactic| first | ((with_reducible refine gSn "self" ?_); refine ws_set (i := 0) (by assumption) rfl (by first | exact .inl rfl | exact .inr rfl) ?_))
theorem ok_mrooms (T : Tx K mg) : FnOk P w K mg base (L2.CX P w) 1 T.f_Machine_rooms T.d_Machine_rooms ["self"] (spOf K 0 (sp_mrooms T.ta T.C_Machine T.C_Board)) := by
  refine fn_ok T.F_Machine_rooms sc_Machine_rooms (fun xs M R Rx h => by obtain ⟨_, _, rfl, _⟩ := h; rfl) (fun cdv A outer sh H E B xs M R Rx hr hB h => ?_)
  obtain ⟨cs, r, rfl, rfl, hR⟩ := h
  have nd := sc_Machine_rooms.nd
  have el : ((exits cs r).map exD).length = sizes r + 1 := by rw [List.length_map, exits_len]
  rw [← el] at hR
  repeat walk_at "s"
  exact ⟨rfl, hR⟩
end
theorem mtd_mrooms (T : Tx K mg) : Mtd P w K mg base T.C_Machine "rooms" 1 0 (sp_mrooms T.ta T.C_Machine T.C_Board) := ⟨_, _, _, T.cl_Machine, T.m_Machine_rooms, ok_mrooms T, T.b_Machine_rooms⟩
/-- the steps from a room: a list of the asker's own -/
def sp_msteps (T : TA) (CM CB CR : Addr) : SpD := fun xs M R Rx => ∃ cs r n, xs = [.dat (maD T CM CB cs r), .dat (.int n)] ∧ M = [] ∧ (∀ x, atI (exits cs r) n = some x → 0 ≤ n → R (.cel 0) [.lst (x.map goD)]) ∧ (¬ (0 ≤ n ∧ n < ((sizes r + 1 : Nat) : Int)) → Rx CR [("room", .int n)] [])
theorem atI_map {α β : Type} (f : α → β) {l : List α} {n : Int} {x : α} (h : atI l n = some x) : atI (l.map f) n = some (f x) := by
  unfold atI at h ⊢
  rw [List.length_map]
  cases e : ixN l.length n with
  | none => rw [e] at h; cases h
  | some j =>
    rw [e] at h
    simp only [Option.bind_some] at h ⊢
    rw [List.getElem?_map, h]
    rfl
section
local macro_rules | `(tactic| walk_at "v") => `(tactic| first | ((with_reducible refine gNa "self" ?_); refine we_var (i := 0) rfl (vis rfl) rfl ?_) | ((with_reducible refine gNa "room" ?_); refine we_var (i := 1) rfl (vis rfl) rfl ?_))
local macro_rules | `(tactic| walk_at "set") => `(tactic| first | ((with_reducible refine gSn "self" ?_); refine ws_set (i := 0) (by assumption) rfl (by first | exact .inl rfl | exact .inr rfl) ?_) | ((with_reducible refine gSn "room" ?_); refine ws_set (i := 1) (by assumption) rfl (by first | exact .inl rfl | exact .inr rfl) ?_))
theorem ok_msteps (T : Tx K mg) : FnOk P w K mg base (L2.CX P w) 4 T.f_Machine_steps T.d_Machine_steps ["self", "room"] (spOf K 0 (sp_msteps T.ta T.C_Machine T.C_Board T.C_NoRoom)) := by
  refine fn_okC T.F_Machine_steps sc_Machine_steps (fun xs M R Rx h => by obtain ⟨_, _, _, rfl, _⟩ := h; rfl) (fun cdv A outer sh H E B xs M R Rx hr hB h => ?_)
  obtain ⟨cs, r, n, rfl, rfl, h1, h2⟩ := h
  have nd := sc_Machine_steps.nd
  walk_at "s"
  refine ws_expr ?_
  refine we_mtd (mtd_masked T) (room hr (by decide)) ?_
  walk_at "s"
  refine ⟨⟨rfl, rfl⟩, ?_⟩
  repeat walk_at "s"
  refine cq rfl ⟨cs, r, n, rfl, rfl, fun c0 c1 => ?_, fun c => ⟨rfl, h2 c⟩⟩
  obtain ⟨x, hx⟩ := atI_lt (l := exits cs r) c0 (by rw [exits_len]; exact c1)
  walk_at "s"
  refine ws_ret ?_
  refine we_listC T.z_list rfl ?_
  repeat walk_at "s"
  refine ixL (atI_map exD hx) ?_
  repeat walk_at "s"
  exact ⟨rfl, h1 x hx c0⟩
end
theorem mtd_msteps (T : Tx K mg) : Mtd P w K mg base T.C_Machine "steps" 4 0 (sp_msteps T.ta T.C_Machine T.C_Board T.C_NoRoom) := ⟨_, _, _, T.cl_Machine, T.m_Machine_steps, ok_msteps T, T.b_Machine_steps⟩

def sp_cellat (K : PySem.W.Frag) : SpD := fun xs M R _ => ∃ x ns k, xs = [x, .dat (.int k)] ∧ Scr K x ns ∧ M = [] ∧ 0 ≤ k ∧ ∀ n, R (.dat (.int n)) []
section
local macro_rules | `(tactic| walk_at "v") => `(tactic| first | ((with_reducible refine gNa "_law_script" ?_); refine we_var (i := 0) rfl (vis rfl) rfl ?_) | ((with_reducible refine gNa "_law_k" ?_); refine we_var (i := 1) rfl (vis rfl) rfl ?_))
local macro_rules | `(tactic| walk_at "set") => `(tactic| first | ((with_reducible refine gSn "_law_script" ?_); refine ws_set (i := 0) (by assumption) rfl (by first | exact .inl rfl | exact .inr rfl) ?_) | ((with_reducible refine gSn "_law_k" ?_); refine ws_set (i := 1) (by assumption) rfl (by first | exact .inl rfl | exact .inr rfl) ?_))
theorem ok_cellat (T : Tx K mg) : FnOk P w K mg base (L2.CX P w) 1 T.f_law_cell_at T.d_law_cell_at ps_law_cell_at (spOf K 0 (sp_cellat K)) := by
  refine fn_ok T.F_law_cell_at sc_law_cell_at (fun xs M R Rx h => by obtain ⟨_, _, _, rfl, _⟩ := h; rfl) (fun cdv A outer s H E B xs M R Rx hr hB h => ?_)
  obtain ⟨x, ns, k, rfl, hx, rfl, hk, hR⟩ := h
  have nd := sc_law_cell_at.nd
  walk_at "s"
  refine ws_if (wt_lt ?_)
  walk_at "s"
  refine we_slen T.z_len rfl ?_
  iterate 3 walk_at "s"
  refine ⟨x, ns, rfl, hx, ?_⟩
  repeat walk_at "s"
  refine ite_b (fun c => ?_) (fun c => ?_)
  · walk_at "s"
    refine ws_ret ?_
    refine we_six ?_
    iterate 2 walk_at "s"
    obtain ⟨n, hn⟩ := atI_lt (l := ns) hk c
    exact ⟨ns, k, n, hx, rfl, hn, rfl, hR n⟩
  · repeat walk_at "s"
    exact ⟨rfl, hR 0⟩
end
theorem cal_cellat (T : Tx K mg) : Cal P w K mg base "_law_cell_at" 1 0 (sp_cellat K) := ⟨_, _, _, ok_cellat T, T.g_law_cell_at, T.F_law_cell_at.kp, T.b_law_cell_at⟩
local macro_rules | `(tactic| walk_at "call") => `(tactic| ((with_reducible refine gF "_law_cell_at" ?_); refine we_own (k := 1) (n := 0) (S := (sp_cellat K)) ?_ ?_ rfl ?_; exact cal_cellat ‹Tx _ _›; exact room ‹Room _ _› (by decide)))

mutual
/-- the rooms of a statement at t, each with what is left there; k is left behind the statement -/
def Stm.rs : Stm → Int → List Stm → List (Int × List Stm)
  | .iff a b y n, t, k => (t, .iff a b y n :: k) :: (rsR y (t + 1) k ++ rsR n (t + 1 + sizes y) k)
  | .whl a b y, t, k => (t, .whl a b y :: k) :: rsR y (t + 1) (.whl a b y :: k)
  | .cho y n, t, k => (t, .cho y n :: k) :: (rsR y (t + 1) k ++ rsR n (t + 1 + sizes y) k)
  | .loop y, t, k => (t, .loop y :: k) :: rsR y (t + 1) (.loop y :: k)
  | .write a b, t, k => [(t, .write a b :: k)]
  | .wait a b, t, k => [(t, .wait a b :: k)]
  | .mark a, t, k => [(t, .mark a :: k)]
  | .skip, t, k => [(t, .skip :: k)]
  | .stop, t, k => [(t, .stop :: k)]
def rsR : List Stm → Int → List Stm → List (Int × List Stm)
  | [], _, _ => []
  | s :: r, t, k => s.rs t (r ++ k) ++ rsR r (t + s.size) k
end
theorem rs_head (s : Stm) (t : Int) (k : List Stm) : ∃ l, s.rs t k = (t, s :: k) :: l := by
  cases s <;> simp [Stm.rs]
/-- steps by rooms and steps by what is left go together -/
inductive Ties (At : Int → List Stm → Prop) : List (Act × Int) → List (Act × List Stm) → Prop
  | nil : Ties At [] []
  | cons {a : Act} {g : Int} {k : List Stm} {E : List (Act × Int)} {L : List (Act × List Stm)} : At g k → Ties At E L → Ties At ((a, g) :: E) ((a, k) :: L)
theorem ties_map {At : Int → List Stm → Prop} {α : Type} {f : α → Act} {g : Int} {k : List Stm} (h : At g k) : ∀ vs : List α, Ties At (vs.map fun v => (f v, g)) (vs.map fun v => (f v, k))
  | [] => .nil
  | v :: vs => .cons h (ties_map h vs)
theorem Ties.acts {At : Int → List Stm → Prop} {E : List (Act × Int)} {L : List (Act × List Stm)} (h : Ties At E L) : E.map (·.1) = L.map (·.1) := by
  induction h with
  | nil => rfl
  | cons _ _ ih => simp only [List.map_cons, ih]
theorem Ties.len {At : Int → List Stm → Prop} {E : List (Act × Int)} {L : List (Act × List Stm)} (h : Ties At E L) : E.length = L.length := by
  have := congrArg List.length h.acts
  simpa using this
theorem Ties.get {At : Int → List Stm → Prop} {E : List (Act × Int)} {L : List (Act × List Stm)} (h : Ties At E L) : ∀ {j : Nat} {p : Act × Int}, E[j]? = some p → ∃ k, L[j]? = some (p.1, k) ∧ At p.2 k := by
  induction h with
  | nil => intro j p e; simp at e
  | cons h1 _ ih =>
    intro j p e
    cases j with
    | zero =>
      simp at e
      subst e
      exact ⟨_, rfl, h1⟩
    | succ j =>
      obtain ⟨k, e1, e2⟩ := ih (j := j) (p := p) (by simpa using e)
      exact ⟨k, by simpa using e1, e2⟩
inductive TieL (At : Int → List Stm → Prop) (cs : List (Str × List Str)) : List (List (Act × Int)) → List (Int × List Stm) → Prop
  | nil : TieL At cs [] []
  | cons {E : List (Act × Int)} {p : Int × List Stm} {Es : List (List (Act × Int))} {ps : List (Int × List Stm)} : Ties At E (lefts cs p.2) → TieL At cs Es ps → TieL At cs (E :: Es) (p :: ps)
theorem TieL.append {At : Int → List Stm → Prop} {cs : List (Str × List Str)} {Es Fs : List (List (Act × Int))} {ps qs : List (Int × List Stm)} (h : TieL At cs Es ps) (h2 : TieL At cs Fs qs) : TieL At cs (Es ++ Fs) (ps ++ qs) := by
  induction h with
  | nil => exact h2
  | cons h1 _ ih => exact .cons h1 ih
theorem TieL.get {At : Int → List Stm → Prop} {cs : List (Str × List Str)} {Es : List (List (Act × Int))} {ps : List (Int × List Stm)} (h : TieL At cs Es ps) : ∀ {j : Nat} {p : Int × List Stm}, ps[j]? = some p → ∃ E, Es[j]? = some E ∧ Ties At E (lefts cs p.2) := by
  induction h with
  | nil => intro j p e; simp at e
  | cons h1 _ ih =>
    intro j p e
    cases j with
    | zero =>
      simp at e
      subst e
      exact ⟨_, rfl, h1⟩
    | succ j =>
      obtain ⟨k, e1, e2⟩ := ih (j := j) (p := p) (by simpa using e)
      exact ⟨k, by simpa using e1, e2⟩
theorem at_beg {At : Int → List Stm → Prop} {y : List Stm} {t b : Int} {k : List Stm} (hb : At b k) (h : ∀ p ∈ rsR y t k, At p.1 p.2) : At (beg y t b) (y ++ k) := by
  cases y with
  | nil => simpa [beg] using hb
  | cons s r =>
    have e : beg (s :: r) t b = t := by simp [beg]
    rw [e]
    obtain ⟨l, hl⟩ := rs_head s t (r ++ k)
    exact h (t, s :: (r ++ k)) (by simp only [rsR, hl]; exact List.mem_append_left _ (List.mem_cons_self ..))
mutual
theorem lay_tie {At : Int → List Stm → Prop} (cs : List (Str × List Str)) : ∀ (s : Stm) (t g : Int) (k : List Stm), At g k → (∀ p ∈ s.rs t k, At p.1 p.2) → TieL At cs (s.lay cs t g) (s.rs t k)
  | .iff a b y n, t, g, k, hg, h => by
    simp only [Stm.rs, List.mem_cons, List.mem_append] at h
    have hy : ∀ p ∈ rsR y (t + 1) k, At p.1 p.2 := fun p m => h p (.inr (.inl m))
    have hn : ∀ p ∈ rsR n (t + 1 + sizes y) k, At p.1 p.2 := fun p m => h p (.inr (.inr m))
    simp only [Stm.lay, Stm.rs]
    refine .cons ?_ ((layRow_tie cs y (t + 1) g k hg hy).append (layRow_tie cs n (t + 1 + sizes y) g k hg hn))
    exact .cons (at_beg hg hy) (ties_map (at_beg hg hn) _)
  | .whl a b y, t, g, k, hg, h => by
    simp only [Stm.rs, List.mem_cons] at h
    have hy : ∀ p ∈ rsR y (t + 1) (.whl a b y :: k), At p.1 p.2 := fun p m => h p (.inr m)
    have h0 : At t (.whl a b y :: k) := h (t, .whl a b y :: k) (.inl rfl)
    simp only [Stm.lay, Stm.rs]
    refine .cons ?_ (layRow_tie cs y (t + 1) t _ h0 hy)
    exact .cons (at_beg h0 hy) (ties_map hg _)
  | .cho y n, t, g, k, hg, h => by
    simp only [Stm.rs, List.mem_cons, List.mem_append] at h
    have hy : ∀ p ∈ rsR y (t + 1) k, At p.1 p.2 := fun p m => h p (.inr (.inl m))
    have hn : ∀ p ∈ rsR n (t + 1 + sizes y) k, At p.1 p.2 := fun p m => h p (.inr (.inr m))
    simp only [Stm.lay, Stm.rs]
    refine .cons ?_ ((layRow_tie cs y (t + 1) g k hg hy).append (layRow_tie cs n (t + 1 + sizes y) g k hg hn))
    exact .cons (at_beg hg hy) (.cons (at_beg hg hn) .nil)
  | .loop y, t, g, k, hg, h => by
    simp only [Stm.rs, List.mem_cons] at h
    have hy : ∀ p ∈ rsR y (t + 1) (.loop y :: k), At p.1 p.2 := fun p m => h p (.inr m)
    have h0 : At t (.loop y :: k) := h (t, .loop y :: k) (.inl rfl)
    simp only [Stm.lay, Stm.rs]
    refine .cons ?_ (layRow_tie cs y (t + 1) t _ h0 hy)
    exact .cons (at_beg h0 hy) .nil
  | .write a b, t, g, k, hg, h => by
    simp only [Stm.lay, Stm.rs]
    exact .cons (.cons hg .nil) .nil
  | .wait a b, t, g, k, hg, h => by
    simp only [Stm.lay, Stm.rs]
    exact .cons (.cons hg .nil) .nil
  | .mark a, t, g, k, hg, h => by
    simp only [Stm.lay, Stm.rs]
    exact .cons (.cons hg .nil) .nil
  | .skip, t, g, k, hg, h => by
    simp only [Stm.lay, Stm.rs]
    exact .cons (.cons hg .nil) .nil
  | .stop, t, g, k, hg, h => by
    simp only [Stm.lay, Stm.rs]
    exact .cons .nil .nil
theorem layRow_tie {At : Int → List Stm → Prop} (cs : List (Str × List Str)) : ∀ (r : List Stm) (t b : Int) (k : List Stm), At b k → (∀ p ∈ rsR r t k, At p.1 p.2) → TieL At cs (layRow cs r t b) (rsR r t k)
  | [], _, _, _, _, _ => by
    simp only [layRow, rsR]
    exact .nil
  | s :: r, t, b, k, hb, h => by
    simp only [rsR, List.mem_append] at h
    have hr : ∀ p ∈ rsR r (t + s.size) k, At p.1 p.2 := fun p m => h p (.inr m)
    simp only [layRow, rsR]
    refine (lay_tie cs s t _ (r ++ k) ?_ fun p m => h p (.inl m)).append (layRow_tie cs r (t + s.size) b k hb hr)
    exact at_beg hb hr
end
mutual
theorem rs_rooms : ∀ (s : Stm) (t : Int) (k : List Stm), ∀ (j : Nat) (p : Int × List Stm), (s.rs t k)[j]? = some p → p.1 = t + j
  | .iff a b y n, t, k, j, p, h => by
    simp only [Stm.rs] at h
    cases j with
    | zero => simp at h; subst h; simp
    | succ j =>
      simp only [List.getElem?_cons_succ] at h
      by_cases c : j < (rsR y (t + 1) k).length
      · rw [List.getElem?_append_left c] at h
        have := rsR_rooms y _ _ j p h
        omega
      · rw [List.getElem?_append_right (by omega)] at h
        have := rsR_rooms n _ _ _ p h
        have := rsR_len y (t + 1) k
        omega
  | .whl a b y, t, k, j, p, h => by
    simp only [Stm.rs] at h
    cases j with
    | zero => simp at h; subst h; simp
    | succ j =>
      simp only [List.getElem?_cons_succ] at h
      have := rsR_rooms y _ _ j p h
      omega
  | .cho y n, t, k, j, p, h => by
    simp only [Stm.rs] at h
    cases j with
    | zero => simp at h; subst h; simp
    | succ j =>
      simp only [List.getElem?_cons_succ] at h
      by_cases c : j < (rsR y (t + 1) k).length
      · rw [List.getElem?_append_left c] at h
        have := rsR_rooms y _ _ j p h
        omega
      · rw [List.getElem?_append_right (by omega)] at h
        have := rsR_rooms n _ _ _ p h
        have := rsR_len y (t + 1) k
        omega
  | .loop y, t, k, j, p, h => by
    simp only [Stm.rs] at h
    cases j with
    | zero => simp at h; subst h; simp
    | succ j =>
      simp only [List.getElem?_cons_succ] at h
      have := rsR_rooms y _ _ j p h
      omega
  | .write a b, t, k, j, p, h => by
    simp only [Stm.rs] at h
    cases j <;> simp at h
    subst h; simp
  | .wait a b, t, k, j, p, h => by
    simp only [Stm.rs] at h
    cases j <;> simp at h
    subst h; simp
  | .mark a, t, k, j, p, h => by
    simp only [Stm.rs] at h
    cases j <;> simp at h
    subst h; simp
  | .skip, t, k, j, p, h => by
    simp only [Stm.rs] at h
    cases j <;> simp at h
    subst h; simp
  | .stop, t, k, j, p, h => by
    simp only [Stm.rs] at h
    cases j <;> simp at h
    subst h; simp
theorem rsR_rooms : ∀ (r : List Stm) (t : Int) (k : List Stm), ∀ (j : Nat) (p : Int × List Stm), (rsR r t k)[j]? = some p → p.1 = t + j
  | [], _, _, _, _, h => by simp [rsR] at h
  | s :: r, t, k, j, p, h => by
    simp only [rsR] at h
    by_cases c : j < (s.rs t (r ++ k)).length
    · rw [List.getElem?_append_left c] at h
      exact rs_rooms s _ _ j p h
    · rw [List.getElem?_append_right (by omega)] at h
      have := rsR_rooms r _ _ _ p h
      have := rs_len s t (r ++ k)
      omega
theorem rs_len : ∀ (s : Stm) (t : Int) (k : List Stm), (s.rs t k).length = s.size
  | .iff a b y n, t, k => by simp only [Stm.rs, Stm.size, List.length_cons, List.length_append, rsR_len y, rsR_len n]; omega
  | .whl a b y, t, k => by simp only [Stm.rs, Stm.size, List.length_cons, rsR_len y]; omega
  | .cho y n, t, k => by simp only [Stm.rs, Stm.size, List.length_cons, List.length_append, rsR_len y, rsR_len n]; omega
  | .loop y, t, k => by simp only [Stm.rs, Stm.size, List.length_cons, rsR_len y]; omega
  | .write _ _, _, _ => by simp [Stm.rs, Stm.size]
  | .wait _ _, _, _ => by simp [Stm.rs, Stm.size]
  | .mark _, _, _ => by simp [Stm.rs, Stm.size]
  | .skip, _, _ => by simp [Stm.rs, Stm.size]
  | .stop, _, _ => by simp [Stm.rs, Stm.size]
theorem rsR_len : ∀ (r : List Stm) (t : Int) (k : List Stm), (rsR r t k).length = sizes r
  | [], _, _ => by simp [rsR, sizes]
  | s :: r, t, k => by simp only [rsR, sizes, List.length_append, rs_len s, rsR_len r]
end
mutual
theorem rs_flat : ∀ (s : Stm) (t : Int) (k : List Stm), (s.rs t k).map (fun p => p.2.head?) = s.flat.map some
  | .iff a b y n, t, k => by simp only [Stm.rs, Stm.flat, List.map_cons, List.map_append, rsR_flat y, rsR_flat n, List.head?_cons]
  | .whl a b y, t, k => by simp only [Stm.rs, Stm.flat, List.map_cons, rsR_flat y, List.head?_cons]
  | .cho y n, t, k => by simp only [Stm.rs, Stm.flat, List.map_cons, List.map_append, rsR_flat y, rsR_flat n, List.head?_cons]
  | .loop y, t, k => by simp only [Stm.rs, Stm.flat, List.map_cons, rsR_flat y, List.head?_cons]
  | .write _ _, _, _ => by simp [Stm.rs, Stm.flat]
  | .wait _ _, _, _ => by simp [Stm.rs, Stm.flat]
  | .mark _, _, _ => by simp [Stm.rs, Stm.flat]
  | .skip, _, _ => by simp [Stm.rs, Stm.flat]
  | .stop, _, _ => by simp [Stm.rs, Stm.flat]
theorem rsR_flat : ∀ (r : List Stm) (t : Int) (k : List Stm), (rsR r t k).map (fun p => p.2.head?) = (flats r).map some
  | [], _, _ => by simp [rsR, flats]
  | s :: r, t, k => by simp only [rsR, flats, List.map_append, rs_flat s, rsR_flat r]
end
theorem smalls_appE : ∀ a b : List Stm, smalls (a ++ b) = (smalls a && smalls b)
  | [], b => by simp [smalls]
  | x :: a, b => by simp only [List.cons_append, smalls, smalls_appE a b, Bool.and_assoc]
theorem smalls_and {s : Stm} {r : List Stm} : smalls (s :: r) = true ↔ s.small = true ∧ smalls r = true := by simp only [smalls, Bool.and_eq_true]
mutual
theorem rs_ok : ∀ (s : Stm) (t : Int) (k : List Stm), s.small = true → smalls k = true → ∀ p ∈ s.rs t k, smalls p.2 = true ∧ p.2.length ≤ s.size + k.length
  | .iff a b y n, t, k, h, hk, p, m => by
    have hy := small_parts h (p := y) (by simp [Stm.parts])
    have hn := small_parts h (p := n) (by simp [Stm.parts])
    simp only [Stm.rs, List.mem_cons, List.mem_append] at m
    rcases m with rfl | m | m
    · exact ⟨smalls_and.mpr ⟨h, hk⟩, by simp [Stm.size]; omega⟩
    · have := rsR_ok y _ k hy.1 hk p m; exact ⟨this.1, by simp only [Stm.size]; omega⟩
    · have := rsR_ok n _ k hn.1 hk p m; exact ⟨this.1, by simp only [Stm.size]; omega⟩
  | .whl a b y, t, k, h, hk, p, m => by
    have hy := small_parts h (p := y) (by simp [Stm.parts])
    simp only [Stm.rs, List.mem_cons] at m
    rcases m with rfl | m
    · exact ⟨smalls_and.mpr ⟨h, hk⟩, by simp [Stm.size]; omega⟩
    · have := rsR_ok y _ _ hy.1 (smalls_and.mpr ⟨h, hk⟩) p m
      exact ⟨this.1, by have := this.2; simp only [List.length_cons] at this; simp only [Stm.size]; omega⟩
  | .cho y n, t, k, h, hk, p, m => by
    have hy := small_parts h (p := y) (by simp [Stm.parts])
    have hn := small_parts h (p := n) (by simp [Stm.parts])
    simp only [Stm.rs, List.mem_cons, List.mem_append] at m
    rcases m with rfl | m | m
    · exact ⟨smalls_and.mpr ⟨h, hk⟩, by simp [Stm.size]; omega⟩
    · have := rsR_ok y _ k hy.1 hk p m; exact ⟨this.1, by simp only [Stm.size]; omega⟩
    · have := rsR_ok n _ k hn.1 hk p m; exact ⟨this.1, by simp only [Stm.size]; omega⟩
  | .loop y, t, k, h, hk, p, m => by
    have hy := small_parts h (p := y) (by simp [Stm.parts])
    simp only [Stm.rs, List.mem_cons] at m
    rcases m with rfl | m
    · exact ⟨smalls_and.mpr ⟨h, hk⟩, by simp [Stm.size]; omega⟩
    · have := rsR_ok y _ _ hy.1 (smalls_and.mpr ⟨h, hk⟩) p m
      exact ⟨this.1, by have := this.2; simp only [List.length_cons] at this; simp only [Stm.size]; omega⟩
  | .write _ _, t, k, h, hk, p, m => by
    simp only [Stm.rs, List.mem_singleton] at m; subst m
    exact ⟨smalls_and.mpr ⟨h, hk⟩, by simp [Stm.size]; omega⟩
  | .wait _ _, t, k, h, hk, p, m => by
    simp only [Stm.rs, List.mem_singleton] at m; subst m
    exact ⟨smalls_and.mpr ⟨h, hk⟩, by simp [Stm.size]; omega⟩
  | .mark _, t, k, h, hk, p, m => by
    simp only [Stm.rs, List.mem_singleton] at m; subst m
    exact ⟨smalls_and.mpr ⟨h, hk⟩, by simp [Stm.size]; omega⟩
  | .skip, t, k, h, hk, p, m => by
    simp only [Stm.rs, List.mem_singleton] at m; subst m
    exact ⟨smalls_and.mpr ⟨h, hk⟩, by simp [Stm.size]; omega⟩
  | .stop, t, k, h, hk, p, m => by
    simp only [Stm.rs, List.mem_singleton] at m; subst m
    exact ⟨smalls_and.mpr ⟨h, hk⟩, by simp [Stm.size]; omega⟩
theorem rsR_ok : ∀ (r : List Stm) (t : Int) (k : List Stm), smalls r = true → smalls k = true → ∀ p ∈ rsR r t k, smalls p.2 = true ∧ p.2.length ≤ sizes r + k.length
  | [], _, _, _, _, p, m => by simp [rsR] at m
  | s :: r, t, k, h, hk, p, m => by
    obtain ⟨h1, h2⟩ := smalls_and.mp h
    simp only [rsR, List.mem_append] at m
    have hl := len_sizes r
    rcases m with m | m
    · have := rs_ok s t (r ++ k) h1 (smalls_app h2 hk) p m
      rw [List.length_append] at this
      exact ⟨this.1, by simp only [sizes]; omega⟩
    · have := rsR_ok r _ k h2 hk p m
      exact ⟨this.1, by simp only [sizes]; omega⟩
end
/-- room g is where k begins -/
def AtR (r : List Stm) (g : Int) (k : List Stm) : Prop := (g, k) ∈ rsR r 0 [] ∨ (g = sizes r ∧ k = [])
theorem atR_first (r : List Stm) : AtR r 0 r := by
  cases r with
  | nil => exact .inr ⟨by simp [sizes], rfl⟩
  | cons s r =>
    obtain ⟨l, hl⟩ := rs_head s 0 (r ++ [])
    refine .inl ?_
    simp only [rsR, hl]
    rw [List.append_nil]
    exact List.mem_append_left _ (List.mem_cons_self ..)
theorem tie_all (cs : List (Str × List Str)) (r : List Stm) : TieL (AtR r) cs (layRow cs r 0 (sizes r)) (rsR r 0 []) := layRow_tie cs r 0 _ [] (.inr ⟨rfl, rfl⟩) fun p m => .inl m
theorem atR_at {r : List Stm} {g : Int} {k : List Stm} (h : (g, k) ∈ rsR r 0 []) : ∃ j : Nat, g = j ∧ j < sizes r ∧ (rsR r 0 [])[j]? = some (g, k) := by
  obtain ⟨j, hj⟩ := List.mem_iff_getElem?.mp h
  have h1 := rsR_rooms r 0 [] j _ hj
  have h2 := (List.getElem?_eq_some_iff.mp hj).1
  rw [rsR_len] at h2
  exact ⟨j, by simpa using h1, h2, hj⟩
theorem tie_at (cs : List (Str × List Str)) {r : List Stm} {g : Int} {k : List Stm} (h : AtR r g k) : ∃ E, atI (exits cs r) g = some E ∧ (0 ≤ g ∧ g < ((sizes r + 1 : Nat) : Int)) ∧ Ties (AtR r) E (lefts cs k) := by
  rcases h with h | ⟨rfl, rfl⟩
  · obtain ⟨j, rfl, hj, e⟩ := atR_at h
    obtain ⟨E, e1, e2⟩ := (tie_all cs r).get e
    refine ⟨E, ?_, ⟨by omega, by omega⟩, e2⟩
    refine atI_nat ?_
    unfold exits
    rw [List.getElem?_append_left (by rw [layRow_len]; exact hj)]
    exact e1
  · refine ⟨[], ?_, ⟨by omega, by omega⟩, .nil⟩
    refine atI_nat ?_
    unfold exits
    rw [List.getElem?_append_right (by rw [layRow_len]; exact Nat.le_refl _), layRow_len, Nat.sub_self]
    rfl
theorem tie_stm {r : List Stm} {g : Int} {s : Stm} {k : List Stm} (h : AtR r g (s :: k)) : ∃ j : Nat, g = j ∧ j < sizes r ∧ (flats r)[j]? = some s := by
  rcases h with h | ⟨_, e⟩
  · obtain ⟨j, e0, hj, e⟩ := atR_at h
    refine ⟨j, e0, hj, ?_⟩
    have e1 : ((rsR r 0 []).map fun p => p.2.head?)[j]? = ((flats r).map some)[j]? := by rw [rsR_flat]
    rw [List.getElem?_map, List.getElem?_map, e] at e1
    cases e2 : (flats r)[j]? with
    | none => rw [e2] at e1; cases e1
    | some z =>
      rw [e2] at e1
      simp only [Option.map_some, List.head?_cons, Option.some.injEq] at e1
      rw [e1]
  · cases e
theorem atR_ok {r : List Stm} {g : Int} {k : List Stm} (hz : sizes r ≤ 900) (h : AtR r g k) : RowOk k := by
  rcases h with h | ⟨_, rfl⟩
  · have := rsR_ok r 0 [] (smalls_sz r (by omega)) (by simp [smalls]) _ h
    exact ⟨this.1, by have := this.2; simp only [List.length_nil] at this; omega⟩
  · exact ⟨by simp [smalls], by simp⟩

theorem oneR_up : ∀ (k : Nat) {s : Stm} {d : D}, OneR k s d → OneR (k + 1) s d
  | 0, _, _, h => h.elim
  | k + 1, s, d, ⟨dc, dv, qs, e1, e2, e3, e4⟩ => ⟨dc, dv, qs, e1, e2, e3, fun q hq => by
    obtain ⟨ps, h1, h2, h3⟩ := e4 q hq
    exact ⟨ps, h1, h2, fun p hp => oneR_up k (h3 p hp)⟩⟩
theorem oneR_one {s : Stm} {d : D} : ∀ (k : Nat), OneR 1 s d → OneR (k + 1) s d
  | 0, h => h
  | k + 1, h => oneR_up (k + 1) (oneR_one k h)
/-- what the programs are drawn from -/
def mDic (cs : List (Str × List Str)) (ms : List Str) (n : Int) : List (Key × D) := [(Sum.inr "cells", .lst (cs.map cD)), (Sum.inr "marks", .lst (ms.map D.str)), (Sum.inr "left", .int n)]
structure MG (cs : List (Str × List Str)) (ms : List Str) : Prop where
  l1 : 1 ≤ cs.length ∧ cs.length ≤ 3
  l2 : ∀ c ∈ cs, 2 ≤ c.2.length ∧ c.2.length ≤ 4
  nm : ∀ c ∈ cs, isNm c.1 = true ∧ ∀ v ∈ c.2, isNm v = true
  m1 : 1 ≤ ms.length ∧ ms.length ≤ 8
  m2 : ∀ z ∈ ms, isNm z = true
theorem mDic_put (cs : List (Str × List Str)) (ms : List Str) (n m : Int) : putD (mDic cs ms n) (Sum.inr "left") (.int m) = mDic cs ms m := rfl
/-- a cell and a value of it -/
def CV (cs : List (Str × List Str)) (a b : Str) : Prop := ∃ c ∈ cs, c.1 = a ∧ b ∈ c.2
mutual
/-- all cells and values that are named are there -/
def Stm.inC (cs : List (Str × List Str)) : Stm → Prop
  | .write a b => CV cs a b
  | .wait a b => CV cs a b
  | .iff a b y n => CV cs a b ∧ inCs cs y ∧ inCs cs n
  | .whl a b y => CV cs a b ∧ inCs cs y
  | .cho y n => inCs cs y ∧ inCs cs n
  | .loop y => inCs cs y
  | .mark _ => True
  | .skip => True
  | .stop => True
def inCs (cs : List (Str × List Str)) : List Stm → Prop
  | [] => True
  | s :: r => s.inC cs ∧ inCs cs r
end
theorem inCs_iff {cs : List (Str × List Str)} : ∀ {r : List Stm}, inCs cs r ↔ ∀ s ∈ r, s.inC cs
  | [] => by simp [inCs]
  | x :: r => by simp [inCs, inCs_iff (r := r)]
/-- drawn: as it is told, its size, its depth -/
structure Dr (cs : List (Str × List Str)) (k : Nat) (s : Stm) (d : D) : Prop where
  eq : d = s.tD
  one : OneR (k + 1) s d
  dp : s.dp ≤ k
  inC : s.inC cs
structure DrR (cs : List (Str × List Str)) (k : Nat) (ps : List (Stm × D)) : Prop where
  all : ∀ p ∈ ps, Dr cs k p.1 p.2
theorem DrR.dp {cs : List (Str × List Str)} {k : Nat} {ps : List (Stm × D)} (h : DrR cs k ps) : dps (ps.map (·.1)) ≤ k := by
  have h := h.all
  induction ps with
  | nil => simp [dps]
  | cons p ps ih =>
    simp only [List.map_cons, dps]
    have h1 := (h p (List.mem_cons_self ..)).dp
    have h2 := ih ⟨fun q m => h q (List.mem_cons_of_mem _ m)⟩ fun q m => h q (List.mem_cons_of_mem _ m)
    omega
theorem DrR.inC {cs : List (Str × List Str)} {k : Nat} {ps : List (Stm × D)} (h : DrR cs k ps) : inCs cs (ps.map (·.1)) := inCs_iff.mpr fun s hs => by
  obtain ⟨p, hp, rfl⟩ := List.mem_map.mp hs
  exact (h.all p hp).inC
theorem DrR.snoc {cs : List (Str × List Str)} {k : Nat} {ps : List (Stm × D)} {s : Stm} {d : D} (h : DrR cs k ps) (h2 : Dr cs k s d) : DrR cs k (ps ++ [(s, d)]) := ⟨fun p hp => by
  rcases List.mem_append.mp hp with m | m
  · exact h.all p m
  · rw [List.mem_singleton] at m; subst m; exact h2⟩
theorem DrR.eq {cs : List (Str × List Str)} {k : Nat} {ps : List (Stm × D)} (h : DrR cs k ps) : ps.map (·.2) = tDs (ps.map (·.1)) := by
  rw [tDs_map, List.map_map]
  exact List.map_congr_left fun p hp => (h.all p hp).eq
theorem dr_eq {cs : List (Str × List Str)} {k : Nat} {s : Stm} {dc dv : D} (qs : List (List (Stm × D))) (hq : ∀ q ∈ qs, DrR cs k q) (hp : s.parts = qs.map fun q => q.map (·.1)) (hc : dc = s.dc ∧ dv = s.dv) : D.tup [.str s.word, dc, dv, .tup (qs.map fun q => .lst (q.map (·.2)))] = s.tD := by
  rw [tD_eq, hc.1, hc.2, hp, List.map_map]
  have : (qs.map fun q => D.lst (q.map (·.2))) = qs.map ((fun p => D.lst (tDs p)) ∘ fun q => q.map (·.1)) := List.map_congr_left fun q hm => by
    show D.lst (q.map (·.2)) = D.lst (tDs (q.map (·.1)))
    rw [(hq q hm).eq]
  rw [this]
/-- a statement with rows within, of rows that are drawn -/
theorem dr_of {cs : List (Str × List Str)} {k : Nat} {s : Stm} {dc dv : D} (qs : List (List (Stm × D))) (hq : ∀ q ∈ qs, DrR cs k q) (hp : s.parts = qs.map fun q => q.map (·.1)) (hf : s.fits dc dv) (hi : s.inC cs) (hc : dc = s.dc ∧ dv = s.dv := by exact ⟨rfl, rfl⟩) : Dr cs (k + 1) s (.tup [.str s.word, dc, dv, .tup (qs.map fun q => .lst (q.map (·.2)))]) := by
  refine ⟨dr_eq qs hq hp hc, ⟨dc, dv, qs.map fun q => (q.map (·.1), .lst (q.map (·.2))), by rw [List.map_map]; rfl, hf, by rw [hp, List.map_map]; rfl, fun x hx => ?_⟩, ?_, hi⟩
  · obtain ⟨q, hm, rfl⟩ := List.mem_map.mp hx
    exact ⟨q, rfl, rfl, fun p hpm => ((hq q hm).all p hpm).one⟩
  · rcases dp_at s with e | ⟨p, hpm, e⟩
    · omega
    · rw [hp] at hpm
      obtain ⟨q, hm, rfl⟩ := List.mem_map.mp hpm
      have := (hq q hm).dp
      omega
theorem dr_simple {cs : List (Str × List Str)} {s : Stm} {dc dv : D} (k : Nat) (hp : s.parts = []) (hf : s.fits dc dv) (hi : s.inC cs) (hc : dc = s.dc ∧ dv = s.dv := by exact ⟨rfl, rfl⟩) : Dr cs k s (.tup [.str s.word, dc, dv, .tup []]) := by
  refine ⟨by rw [tD_eq, hc.1, hc.2, hp]; rfl, oneR_one k ⟨dc, dv, [], rfl, hf, by rw [hp]; rfl, fun _ m => by cases m⟩, ?_, hi⟩
  rcases dp_at s with e | ⟨p, hpm, e⟩
  · omega
  · rw [hp] at hpm; cases hpm
theorem cD_mem {cs : List (Str × List Str)} {d : D} (h : d ∈ cs.map cD) : ∃ c ∈ cs, d = .tup [.str c.1, .lst (c.2.map D.str)] := by
  obtain ⟨c, hc, rfl⟩ := List.mem_map.mp h
  exact ⟨c, hc, rfl⟩

theorem gDm {X : Cx} {B : Base} {ex : XD} {ss : Sst} {M : Mem} {Q : SV → Mem → Prop} {b : Expr} {p pos : Pos} (h : WE X B ex (.Subscript (.Name "_law_m" p) b pos) Q ss M) : WE X B ex (.Subscript (.Name "_law_m" p) b pos) Q ss M := h
local macro_rules | `(tactic| walk_at "e") => `(tactic| (refine gDm ?_; refine we_dget (by assumption) ?_))
local macro_rules | `(tactic| walk_at "m") => `(tactic| first | walk_at "s" | (first | refine ⟨_, _, _, rfl, rfl, ‹valD _ _ = some _›, ?_⟩ | refine ⟨_, _, _, rfl, rfl, rfl, ?_⟩))
def sp_lsimple : SpD := fun xs M R _ => ∃ (st : Int × Int × Int) (cs : List (Str × List Str)) (ms : List Str) (kvs : List (Key × D)) (kind : Int) (a b : Str), xs = [.cel 0, .cel 1, .dat (.int kind), .dat (.str a), .dat (.str b)] ∧ M = [dC st, .dic kvs] ∧ DOk st ∧ valD kvs (Sum.inr "marks") = some (.lst (ms.map D.str)) ∧ ((1 ≤ ms.length ∧ ms.length ≤ 8) ∧ ∀ z ∈ ms, isNm z = true) ∧ CV cs a b ∧ (isNm a = true ∧ isNm b = true) ∧
  ∀ st' s d, DOk st' → s.size = 1 → (∀ k, Dr cs k s d) → R (.dat d) [dC st', .dic kvs]
section
local macro_rules | `(tactic| walk_at "v") => `(tactic| first | ((with_reducible refine gNa "_law_s" ?_); refine we_var (i := 0) rfl (vis rfl) rfl ?_) | ((with_reducible refine gNa "_law_m" ?_); refine we_var (i := 1) rfl (vis rfl) rfl ?_) | ((with_reducible refine gNa "_law_kind" ?_); refine we_var (i := 2) rfl (vis rfl) rfl ?_) | ((with_reducible refine gNa "_law_cell" ?_); refine we_var (i := 3) rfl (vis rfl) rfl ?_) | ((with_reducible refine gNa "_law_value" ?_); refine we_var (i := 4) rfl (vis rfl) rfl ?_))
local macro_rules | `(tactic| walk_at "set") => `(tactic| first | ((with_reducible refine gSn "_law_s" ?_); refine ws_set (i := 0) (by assumption) rfl (by first | exact .inl rfl | exact .inr rfl) ?_) | ((with_reducible refine gSn "_law_m" ?_); refine ws_set (i := 1) (by assumption) rfl (by first | exact .inl rfl | exact .inr rfl) ?_) | ((with_reducible refine gSn "_law_kind" ?_); refine ws_set (i := 2) (by assumption) rfl (by first | exact .inl rfl | exact .inr rfl) ?_) | ((with_reducible refine gSn "_law_cell" ?_); refine ws_set (i := 3) (by assumption) rfl (by first | exact .inl rfl | exact .inr rfl) ?_) | ((with_reducible refine gSn "_law_value" ?_); refine ws_set (i := 4) (by assumption) rfl (by first | exact .inl rfl | exact .inr rfl) ?_))
theorem ok_lsimple (T : Tx K mg) : FnOk P w K mg base (L2.CX P w) 2 T.f_law_simple T.d_law_simple ps_law_simple (spOf K 2 sp_lsimple) := by
  refine fn_ok T.F_law_simple sc_law_simple (fun xs M R Rx h => by obtain ⟨_, _, _, _, _, _, _, rfl, _⟩ := h; rfl) (fun cdv A outer sh H E B xs M R Rx hr hB h => ?_)
  obtain ⟨st, cs, ms, kvs, kind, a, b, rfl, rfl, ok, hk, ⟨gm, gm2⟩, cv, ⟨na, nb⟩, hR⟩ := h
  have nd := sc_law_simple.nd
  repeat walk_at "s"
  refine ite_b (fun c1 => ?_) (fun c1 => ?_)
  · repeat walk_at "s"
    exact ⟨rfl, hR _ (.write a b) _ ok (by simp [Stm.size]) (fun k => dr_simple k rfl ⟨rfl, rfl, na, nb⟩ (by simpa [Stm.inC] using cv))⟩
  repeat walk_at "s"
  refine ite_b (fun c2 => ?_) (fun c2 => ?_)
  · repeat walk_at "s"
    exact ⟨rfl, hR _ (.wait a b) _ ok (by simp [Stm.size]) (fun k => dr_simple k rfl ⟨rfl, rfl, na, nb⟩ (by simpa [Stm.inC] using cv))⟩
  repeat walk_at "s"
  refine ite_b (fun c3 => ?_) (fun c3 => ?_)
  · repeat walk_at "m"
    refine cq rfl ⟨_, _, rfl, rfl, ok, ⟨by simp only [List.length_map]; omega, by simp only [List.length_map]; omega⟩, fun st2 i ok2 i0 i1 => ?_⟩
    repeat walk_at "m"
    refine ix_lst i0 i1 (fun d hd => ?_)
    obtain ⟨z, hz, rfl⟩ := List.mem_map.mp hd
    repeat walk_at "m"
    exact ⟨rfl, hR _ (.mark z) _ ok2 (by simp [Stm.size]) (fun k => dr_simple k rfl ⟨rfl, gm2 z hz⟩ (by simp [Stm.inC]))⟩
  · walk_at "s"
    walk_at "s"
    refine ws_ret ?_
    refine we_tup ?_
    refine wa_cons ?_
    refine we_ix ?_
    refine we_lst ?_
    repeat walk_at "m"
    refine ⟨w1d (w1d ⟨⟨rfl, rfl⟩, ?_⟩)⟩
    repeat walk_at "m"
    refine ix_lst (ds := [D.str "skip", D.str "stop"]) ?_ ?_ (fun d hd => ?_)
    · split <;> omega
    · show _ < (2 : Int)
      split <;> omega
    simp only [List.mem_cons, List.not_mem_nil, or_false] at hd
    repeat walk_at "m"
    rcases hd with rfl | rfl
    · exact ⟨rfl, hR _ .skip _ ok (by simp [Stm.size]) (fun k => dr_simple k rfl trivial (by simp [Stm.inC]))⟩
    · exact ⟨rfl, hR _ .stop _ ok (by simp [Stm.size]) (fun k => dr_simple k rfl trivial (by simp [Stm.inC]))⟩
end
theorem cal_lsimple (T : Tx K mg) : Cal P w K mg base "_law_simple" 2 2 sp_lsimple := ⟨_, _, _, ok_lsimple T, T.g_law_simple, T.F_law_simple.kp, T.b_law_simple⟩
local macro_rules | `(tactic| walk_at "call") => `(tactic| ((with_reducible refine gF "_law_simple" ?_); refine we_own (k := 2) (n := 2) (S := sp_lsimple) ?_ ?_ rfl ?_; exact cal_lsimple ‹Tx _ _›; exact room ‹Room _ _› (by decide)))

theorem cVals_of {cs : List (Str × List Str)} {c : Str × List Str} (nd : (cs.map (·.1)).Nodup) (h : c ∈ cs) : cVals cs c.1 = some c.2 := by
  unfold cVals
  induction cs with
  | nil => cases h
  | cons x cs ih =>
    rw [List.map_cons, List.nodup_cons] at nd
    rcases List.mem_cons.mp h with rfl | h
    · simp
    · have hne : ¬ x.1 = c.1 := fun e => nd.1 (by rw [e]; exact List.mem_map_of_mem h)
      rw [List.find?_cons_of_neg (by simpa using hne)]
      exact ih nd.2 h
mutual
theorem inC_flat {cs : List (Str × List Str)} : ∀ (s : Stm), s.inC cs → ∀ x ∈ s.flat, ∀ a b, x.names = some (a, b) → CV cs a b
  | .iff a b y n, h, x, hx, a', b', e => by
    simp only [Stm.inC] at h
    simp only [Stm.flat, List.mem_cons, List.mem_append] at hx
    rcases hx with rfl | hx | hx
    · cases e; exact h.1
    · exact inCs_flat y h.2.1 x hx a' b' e
    · exact inCs_flat n h.2.2 x hx a' b' e
  | .whl a b y, h, x, hx, a', b', e => by
    simp only [Stm.inC] at h
    simp only [Stm.flat, List.mem_cons] at hx
    rcases hx with rfl | hx
    · cases e; exact h.1
    · exact inCs_flat y h.2 x hx a' b' e
  | .cho y n, h, x, hx, a', b', e => by
    simp only [Stm.inC] at h
    simp only [Stm.flat, List.mem_cons, List.mem_append] at hx
    rcases hx with rfl | hx | hx
    · cases e
    · exact inCs_flat y h.1 x hx a' b' e
    · exact inCs_flat n h.2 x hx a' b' e
  | .loop y, h, x, hx, a', b', e => by
    simp only [Stm.inC] at h
    simp only [Stm.flat, List.mem_cons] at hx
    rcases hx with rfl | hx
    · cases e
    · exact inCs_flat y h x hx a' b' e
  | .write a b, h, x, hx, a', b', e => by simp only [Stm.flat, List.mem_singleton] at hx; subst hx; cases e; simpa [Stm.inC] using h
  | .wait a b, h, x, hx, a', b', e => by simp only [Stm.flat, List.mem_singleton] at hx; subst hx; cases e; simpa [Stm.inC] using h
  | .mark a, h, x, hx, a', b', e => by simp only [Stm.flat, List.mem_singleton] at hx; subst hx; cases e
  | .skip, h, x, hx, a', b', e => by simp only [Stm.flat, List.mem_singleton] at hx; subst hx; cases e
  | .stop, h, x, hx, a', b', e => by simp only [Stm.flat, List.mem_singleton] at hx; subst hx; cases e
theorem inCs_flat {cs : List (Str × List Str)} : ∀ (r : List Stm), inCs cs r → ∀ x ∈ flats r, ∀ a b, x.names = some (a, b) → CV cs a b
  | [], _, x, hx, _, _, _ => by simp [flats] at hx
  | s :: r, h, x, hx, a', b', e => by
    simp only [inCs] at h
    simp only [flats, List.mem_append] at hx
    rcases hx with hx | hx
    · exact inC_flat s h.1 x hx a' b' e
    · exact inCs_flat r h.2 x hx a' b' e
end
theorem allIn_of {cs : List (Str × List Str)} {r : List Stm} (nd : (cs.map (·.1)).Nodup) (h : inCs cs r) : AllIn cs r := fun s hs a b e => by
  obtain ⟨c, hc, rfl, hb⟩ := inCs_flat r h s hs a b e
  exact ⟨c.2, cVals_of nd hc, hb⟩

local macro_rules | `(tactic| walk_at "br2") => `(tactic| first | walk_at "m" | refine inTp rfl rfl ?_ | refine it_t (by decide +kernel) ?_ | refine it_f (by decide +kernel) ?_ | refine we_lst ?_)
def sp_nest (k : Nat) : SpD := fun xs M R _ => ∃ (st : Int × Int × Int) (cs : List (Str × List Str)) (kvs : List (Key × D)) (ps : List (Stm × D)), xs = [.cel 0, .cel 1, .dat (.lst (ps.map (·.2)))] ∧ M = [dC st, .dic kvs] ∧ DOk st ∧ valD kvs (Sum.inr "cells") = some (.lst (cs.map cD)) ∧ (cs.length = 3 ∧ (∀ c ∈ cs, c.2.length = 4) ∧ ∀ c ∈ cs, isNm c.1 = true ∧ ∀ v ∈ c.2, isNm v = true) ∧ (∀ p ∈ ps, OneR k p.1 p.2) ∧
  ∀ st' s d, DOk st' → OneR (k + 1) s d → s.size = 1 + sizes (ps.map (·.1)) → s.dp ≤ 1 + dps (ps.map (·.1)) → (inCs cs (ps.map (·.1)) → s.inC cs) → R (.dat d) [dC st', .dic kvs]
theorem oneR_mk {k : Nat} {s : Stm} {dc dv : D} (qs : List (List (Stm × D))) (hq : ∀ q ∈ qs, ∀ p ∈ q, OneR k p.1 p.2) (hp : s.parts = qs.map fun q => q.map (·.1)) (hf : s.fits dc dv) : OneR (k + 1) s (.tup [.str s.word, dc, dv, .tup (qs.map fun q => .lst (q.map (·.2)))]) := by
  refine ⟨dc, dv, qs.map fun q => (q.map (·.1), .lst (q.map (·.2))), by rw [List.map_map]; rfl, hf, by rw [hp, List.map_map]; rfl, fun x hx => ?_⟩
  obtain ⟨q, hm, rfl⟩ := List.mem_map.mp hx
  exact ⟨q, rfl, rfl, fun p hpm => hq q hm p hpm⟩
section
local macro_rules | `(tactic| walk_at "v") => `(tactic| first | ((with_reducible refine gNa "_law_s" ?_); refine we_var (i := 0) rfl (vis rfl) rfl ?_) | ((with_reducible refine gNa "_law_m" ?_); refine we_var (i := 1) rfl (vis rfl) rfl ?_) | ((with_reducible refine gNa "_law_row_here" ?_); refine we_var (i := 2) rfl (vis rfl) rfl ?_) | ((with_reducible refine gNa "_law_cell" ?_); refine we_var (i := 3) rfl (vis rfl) rfl ?_) | ((with_reducible refine gNa "_law_values" ?_); refine we_var (i := 4) rfl (vis rfl) rfl ?_) | ((with_reducible refine gNa "_law_value" ?_); refine we_var (i := 5) rfl (vis rfl) rfl ?_) | ((with_reducible refine gNa "_law_word" ?_); refine we_var (i := 6) rfl (vis rfl) rfl ?_))
local macro_rules | `(tactic| walk_at "set") => `(tactic| first | ((with_reducible refine gSn "_law_s" ?_); refine ws_set (i := 0) (by assumption) rfl (by first | exact .inl rfl | exact .inr rfl) ?_) | ((with_reducible refine gSn "_law_m" ?_); refine ws_set (i := 1) (by assumption) rfl (by first | exact .inl rfl | exact .inr rfl) ?_) | ((with_reducible refine gSn "_law_row_here" ?_); refine ws_set (i := 2) (by assumption) rfl (by first | exact .inl rfl | exact .inr rfl) ?_) | ((with_reducible refine gSn "_law_cell" ?_); refine ws_set (i := 3) (by assumption) rfl (by first | exact .inl rfl | exact .inr rfl) ?_) | ((with_reducible refine gSn "_law_values" ?_); refine ws_set (i := 4) (by assumption) rfl (by first | exact .inl rfl | exact .inr rfl) ?_) | ((with_reducible refine gSn "_law_value" ?_); refine ws_set (i := 5) (by assumption) rfl (by first | exact .inl rfl | exact .inr rfl) ?_) | ((with_reducible refine gSn "_law_word" ?_); refine ws_set (i := 6) (by assumption) rfl (by first | exact .inl rfl | exact .inr rfl) ?_))
theorem ok_nest (T : Tx K mg) (k : Nat) : FnOk P w K mg base (L2.CX P w) 3 T.f_law_nest T.d_law_nest ps_law_nest (spOf K 2 (sp_nest k)) := by
  refine fn_ok T.F_law_nest sc_law_nest (fun xs M R Rx h => by obtain ⟨_, _, _, _, rfl, _⟩ := h; rfl) (fun cdv A outer sh H E B xs M R Rx hr hB h => ?_)
  obtain ⟨st, cs, kvs, ps, rfl, rfl, ok, hk, ⟨hc3, hc4, hnm⟩, hps, hR⟩ := h
  have nd := sc_law_nest.nd
  walk_at "s"
  refine ws_asg ?_
  refine we_ix ?_
  repeat walk_at "m"
  refine cq rfl ⟨_, _, rfl, rfl, ok, ⟨by omega, by omega⟩, fun st2 i2 ok2 i20 i21 => ?_⟩
  repeat walk_at "m"
  refine ix_lst i20 (by rw [List.length_map]; omega) (fun d hd => ?_)
  obtain ⟨c, hc, rfl⟩ := cD_mem hd
  obtain ⟨nc, nv⟩ := hnm c hc
  have l2 := hc4 c hc
  refine wg_tup2 rfl ?_
  refine wg_name (i := 3) nd rfl (.inl rfl) ?_
  refine wg_name (i := 4) nd rfl (.inl rfl) ?_
  walk_at "s"
  refine ws_set (i := 5) nd rfl (.inl rfl) ?_
  refine we_ix ?_
  repeat walk_at "m"
  refine cq rfl ⟨_, _, rfl, rfl, ok2, ⟨by omega, by omega⟩, fun st3 i3 ok3 i30 i31 => ?_⟩
  repeat walk_at "m"
  refine ix_lst i30 (by rw [List.length_map]; omega) (fun d hd => ?_)
  obtain ⟨b, hb, rfl⟩ := List.mem_map.mp hd
  have nb := nv b hb
  have cvb : CV cs c.1 b := ⟨c, hc, rfl, hb⟩
  walk_at "s"
  refine ws_set (i := 6) nd rfl (.inl rfl) ?_
  refine we_ix ?_
  refine we_lst ?_
  repeat walk_at "m"
  refine cq rfl ⟨_, _, rfl, rfl, ok3, ⟨by omega, by omega⟩, fun st4 i4 ok4 i40 i41 => ?_⟩
  refine w1d (w1d ?_)
  refine ix_lst i40 (by show _ < (5 : Int); omega) (fun d hd => ?_)
  simp only [List.mem_cons, List.not_mem_nil, or_false] at hd
  walk_at "s"
  rcases hd with rfl | rfl | rfl | rfl | rfl
  · repeat walk_at "br2"
    exact ⟨rfl, hR _ (.iff c.1 b (ps.map (·.1)) []) _ ok4 (oneR_mk [ps, []] (by simpa using hps) rfl ⟨rfl, rfl, nc, nb⟩) (by simp [Stm.size, sizes]) (by simp [Stm.dp, dps]) (fun h => by simp only [Stm.inC]; exact ⟨cvb, h, by simp [inCs]⟩)⟩
  · repeat walk_at "br2"
    exact ⟨rfl, hR _ (.whl c.1 b (ps.map (·.1))) _ ok4 (oneR_mk [ps] (by simpa using hps) rfl ⟨rfl, rfl, nc, nb⟩) (by simp [Stm.size]) (by simp [Stm.dp]) (fun h => by simp only [Stm.inC]; exact ⟨cvb, h⟩)⟩
  · repeat walk_at "br2"
    exact ⟨rfl, hR _ (.cho (ps.map (·.1)) []) _ ok4 (oneR_mk [ps, []] (by simpa using hps) rfl trivial) (by simp [Stm.size, sizes]) (by simp [Stm.dp, dps]) (fun h => by simp only [Stm.inC]; exact ⟨h, by simp [inCs]⟩)⟩
  · repeat walk_at "br2"
    exact ⟨rfl, hR _ (.loop (ps.map (·.1))) _ ok4 (oneR_mk [ps] (by simpa using hps) rfl trivial) (by simp [Stm.size]) (by simp [Stm.dp]) (fun h => by simp only [Stm.inC]; exact h)⟩
  · repeat walk_at "br2"
    exact ⟨rfl, hR _ (.iff c.1 b [] (ps.map (·.1))) _ ok4 (oneR_mk [[], ps] (by simpa using hps) rfl ⟨rfl, rfl, nc, nb⟩) (by simp [Stm.size, sizes]) (by simp [Stm.dp, dps]) (fun h => by simp only [Stm.inC]; exact ⟨cvb, by simp [inCs], h⟩)⟩

end
/-- plain statements, drawn -/
def PlS (cs : List (Str × List Str)) (d : D) : Prop := ∃ s : Stm, s.size = 1 ∧ ∀ k, Dr cs k s d
structure PlR (cs : List (Str × List Str)) (n : Nat) (ps : List (Stm × D)) : Prop where
  len : ps.length = n
  one : ∀ k, ∀ p ∈ ps, OneR (k + 1) p.1 p.2
  sz : sizes (ps.map (·.1)) = n
  dp : dps (ps.map (·.1)) = 0
  inC : inCs cs (ps.map (·.1))
theorem plr_of {cs : List (Str × List Str)} : ∀ {acc : List D}, (∀ d ∈ acc, PlS cs d) → ∃ ps : List (Stm × D), acc = ps.map (·.2) ∧ PlR cs acc.length ps
  | [], _ => ⟨[], rfl, rfl, fun _ _ m => by (cases m), by simp [sizes], by simp [dps], by simp [inCs]⟩
  | d :: acc, h => by
    obtain ⟨s, hz, hd⟩ := h d (List.mem_cons_self ..)
    obtain ⟨ps, rfl, q⟩ := plr_of (acc := acc) fun d m => h d (List.mem_cons_of_mem _ m)
    refine ⟨(s, d) :: ps, rfl, by rw [List.length_cons, q.len, List.length_cons], fun k p m => ?_, by simp only [List.map_cons, sizes, hz, q.sz, List.length_cons]; omega, ?_, ?_⟩
    · rcases List.mem_cons.mp m with rfl | m
      · exact (hd k).one
      · exact q.one k p m
    · have := (hd 0).dp
      simp only [List.map_cons, dps, q.dp]
      omega
    · simp only [List.map_cons, inCs]
      exact ⟨(hd 0).inC, q.inC⟩
/-- a row with a part put between -/
theorem put_mid {cs : List (Str × List Str)} {n : Nat} {ps qs : List (Stm × D)} (h : PlR cs n ps) (c : Nat) :
    sizes ((ps.take c ++ qs ++ ps.drop c).map (·.1)) = n + sizes (qs.map (·.1)) ∧ dps ((ps.take c ++ qs ++ ps.drop c).map (·.1)) = dps (qs.map (·.1)) ∧ (inCs cs (qs.map (·.1)) → inCs cs ((ps.take c ++ qs ++ ps.drop c).map (·.1))) ∧ ∀ k, (∀ p ∈ qs, OneR (k + 1) p.1 p.2) → ∀ p ∈ ps.take c ++ qs ++ ps.drop c, OneR (k + 1) p.1 p.2 := by
  have f := split_facts (ps.map (·.1)) c
  rw [h.sz, h.dp] at f
  refine ⟨?_, ?_, fun hq => ?_, fun k hq p m => ?_⟩
  · simp only [List.map_append, sizes_app, List.map_take, List.map_drop]; omega
  · simp only [List.map_append, dps_app, List.map_take, List.map_drop]; omega
  · rw [inCs_iff] at hq ⊢
    have hi := inCs_iff.mp h.inC
    intro s hs
    simp only [List.map_append, List.mem_append, List.map_take, List.map_drop] at hs
    rcases hs with (hs | hs) | hs
    · exact hi s (List.mem_of_mem_take hs)
    · exact hq s hs
    · exact hi s (List.mem_of_mem_drop hs)
  · simp only [List.mem_append] at m
    rcases m with (m | m) | m
    · exact h.one k p (List.mem_of_mem_take m)
    · exact hq p m
    · exact h.one k p (List.mem_of_mem_drop m)
def sp_deep : SpD := fun xs M R _ => ∃ (st : Int × Int × Int) (cs : List (Str × List Str)) (ms : List Str) (kvs : List (Key × D)), xs = [.cel 0, .cel 1] ∧ M = [dC st, .dic kvs] ∧ DOk st ∧ valD kvs (Sum.inr "cells") = some (.lst (cs.map cD)) ∧ valD kvs (Sum.inr "marks") = some (.lst (ms.map D.str)) ∧ ((1 ≤ ms.length ∧ ms.length ≤ 8) ∧ ∀ z ∈ ms, isNm z = true) ∧
  (cs.length = 3 ∧ (∀ c ∈ cs, c.2.length = 4) ∧ ∀ c ∈ cs, isNm c.1 = true ∧ ∀ v ∈ c.2, isNm v = true) ∧ CV cs "c0" "v0" ∧ CV cs "c1" "v1" ∧
  ∀ (st' : Int × Int × Int) (ps : List (Stm × D)), DOk st' → (∀ p ∈ ps, OneR 6 p.1 p.2) → sizes (ps.map (·.1)) = 24 → dps (ps.map (·.1)) ≤ 5 → inCs cs (ps.map (·.1)) → R (.dat (.lst (ps.map (·.2)))) [dC st', .dic kvs]
theorem cal_nest (T : Tx K mg) (k : Nat) : Cal P w K mg base "_law_nest" 3 2 (sp_nest k) := ⟨_, _, _, ok_nest T k, T.g_law_nest, T.F_law_nest.kp, T.b_law_nest⟩
theorem nm_c0 : isNm "c0" = true ∧ isNm "v0" = true := by decide +kernel
theorem nm_c1 : isNm "c1" = true ∧ isNm "v1" = true := by decide +kernel
section
local macro_rules | `(tactic| walk_at "v") => `(tactic| first | ((with_reducible refine gNa "_law_s" ?_); refine we_var (i := 0) rfl (vis rfl) rfl ?_) | ((with_reducible refine gNa "_law_m" ?_); refine we_var (i := 1) rfl (vis rfl) rfl ?_) | ((with_reducible refine gNa "_law_row_here" ?_); refine we_var (i := 2) rfl (vis rfl) rfl ?_) | ((with_reducible refine gNa "_law_depth" ?_); refine we_var (i := 3) rfl (vis rfl) rfl ?_) | ((with_reducible refine gNa "_law_some" ?_); refine we_var (i := 4) rfl (vis rfl) rfl ?_) | ((with_reducible refine gNa "_law_cut" ?_); refine we_var (i := 5) rfl (vis rfl) rfl ?_) | ((with_reducible refine gNa "_law_k" ?_); refine we_var (i := 6) rfl (vis rfl) rfl ?_))
local macro_rules | `(tactic| walk_at "set") => `(tactic| first | ((with_reducible refine gSn "_law_s" ?_); refine ws_set (i := 0) (by assumption) rfl (by first | exact .inl rfl | exact .inr rfl) ?_) | ((with_reducible refine gSn "_law_m" ?_); refine ws_set (i := 1) (by assumption) rfl (by first | exact .inl rfl | exact .inr rfl) ?_) | ((with_reducible refine gSn "_law_row_here" ?_); refine ws_set (i := 2) (by assumption) rfl (by first | exact .inl rfl | exact .inr rfl) ?_) | ((with_reducible refine gSn "_law_depth" ?_); refine ws_set (i := 3) (by assumption) rfl (by first | exact .inl rfl | exact .inr rfl) ?_) | ((with_reducible refine gSn "_law_some" ?_); refine ws_set (i := 4) (by assumption) rfl (by first | exact .inl rfl | exact .inr rfl) ?_) | ((with_reducible refine gSn "_law_cut" ?_); refine ws_set (i := 5) (by assumption) rfl (by first | exact .inl rfl | exact .inr rfl) ?_) | ((with_reducible refine gSn "_law_k" ?_); refine ws_set (i := 6) (by assumption) rfl (by first | exact .inl rfl | exact .inr rfl) ?_))
theorem ok_deep (T : Tx K mg) : FnOk P w K mg base (L2.CX P w) 4 T.f_law_deep T.d_law_deep ps_law_deep (spOf K 2 sp_deep) := by
  refine fn_ok T.F_law_deep sc_law_deep (fun xs M R Rx h => by obtain ⟨_, _, _, _, rfl, _⟩ := h; rfl) (fun cdv A outer sh H E B xs M R Rx hr hB h => ?_)
  obtain ⟨st, cs, ms, kvs, rfl, rfl, ok, hk, hm, gm, gc, cv0, cv1, hR⟩ := h
  have nd := sc_law_deep.nd
  walk_at "s"
  refine ws_set (i := 2) nd rfl (.inl rfl) ?_
  refine we_lst ?_
  repeat walk_at "s"
  refine ws_for rfl (wi_range1 T.z_range rfl ?_)
  repeat walk_at "s"
  refine ⟨⟨by omega, by omega⟩, ?_⟩
  refine ⟨fun i ss M => ∃ (st : Int × Int × Int) (qs : List (Stm × D)) (o3 o4 o5 : Option SV), DOk st ∧ (∀ p ∈ qs, OneR (i + 1) p.1 p.2) ∧ sizes (qs.map (·.1)) = 4 * i ∧ dps (qs.map (·.1)) ≤ i ∧ inCs cs (qs.map (·.1)) ∧ ss = [some (.cel 0), some (.cel 1), some (.dat (.lst (qs.map (·.2)))), o3, o4, o5, none] ∧ M = [dC st, .dic kvs], ⟨st, [], none, none, none, ok, (fun _ m => by cases m), by simp [sizes], by simp [dps], by simp [inCs], rfl, rfl⟩, ?_, ?_⟩
  · rintro i d ss M hd ⟨st1, qs, o3, o4, o5, ok1, hq1, hq2, hq3, hq4, rfl, rfl⟩
    refine wg_name (i := 3) nd rfl (.inl rfl) ?_
    walk_at "s"
    refine ws_lc1 (i := 4) (j := 6) rfl nd rfl rfl (sw_true rfl rfl rfl (by decide +kernel)) (blkOk_by rfl) rfl (fun _ _ _ _ _ => .inl rfl) (by decide) (wi_range1 T.z_range rfl ?_)
    repeat walk_at "s"
    refine ⟨⟨by omega, by omega⟩, ?_⟩
    refine lcq_draw (PlS cs) (fun M => ∃ st, DOk st ∧ M = [dC st, .dic kvs]) (by rw [rangeD_len]; exact size_ge (by omega)) ⟨_, ok1, rfl⟩ ?_ ?_
    · rintro i d M hd ⟨st2, ok2, rfl⟩ s H C cl fp B hB
      repeat walk_at "s"
      refine cq rfl ⟨_, _, rfl, rfl, ok2, ⟨by omega, by omega⟩, fun st3 n3 ok3 n30 n31 => ?_⟩
      repeat walk_at "s"
      refine cq rfl ⟨_, cs, ms, kvs, _, _, _, rfl, rfl, ok3, hm, gm, cv0, nm_c0, fun st4 s4 d4 ok4 z4 dr4 => ?_⟩
      exact ⟨d4, rfl, ⟨s4, z4, dr4⟩, st4, ok4, rfl⟩
    · rintro acc M hl hp ⟨st2, ok2, rfl⟩
      rw [rangeD_len] at hl
      obtain ⟨ps, rfl, hps⟩ := plr_of hp
      rw [hl] at hps
      rw [List.length_map] at hl
      replace hl : ps.length = 3 := hl
      replace hps : PlR cs 3 ps := hps
      repeat walk_at "s"
      refine cq rfl ⟨_, _, rfl, rfl, ok2, ⟨by omega, by omega⟩, fun st3 cut ok3 c0 c1 => ?_⟩
      have hml : ((ps.map (·.2)).length : Int) = 3 := by rw [List.length_map, hl]; rfl
      have hqn : qs.length ≤ 20 := by
        have := len_sizes (qs.map (·.1))
        rw [List.length_map] at this
        have hi := (rangeD_get hd).1
        have : i < 5 := hi
        omega
      walk_at "s"
      refine ws_set (i := 2) nd rfl (.inl rfl) ?_
      refine we_lst ?_
      refine wa_cons ?_
      refine we_own (cal_nest T (i + 1)) (room hr (by decide)) rfl ?_
      repeat walk_at "s"
      rw [cutD_pre c0 (by omega)]
      refine addL (size_ge (by simp only [List.length_take, List.length_map]; omega)) ?_
      repeat walk_at "s"
      rw [cutD_suf c0 (by omega)]
      refine addL (size_ge (by simp only [List.length_append, List.length_take, List.length_drop, List.length_map]; omega)) ?_
      rw [← List.map_take, ← List.map_drop, ← List.map_append, ← List.map_append]
      obtain ⟨m1, m2, m3, m4⟩ := put_mid (qs := qs) hps cut.toNat
      repeat walk_at "s"
      refine cq rfl ⟨_, cs, kvs, _, rfl, rfl, ok3, hk, gc, m4 i hq1, fun st4 s4 d4 ok4 o4 z4 p4 i4 => ?_⟩
      repeat walk_at "s"
      refine ⟨st4, [(s4, d4)], _, _, _, ok4, (fun p m => by rw [List.mem_singleton] at m; subst m; exact o4), ?_, ?_, ?_, rfl, rfl⟩
      · simp only [List.map_cons, List.map_nil, sizes, z4, m1, hq2]; omega
      · simp only [List.map_cons, List.map_nil, dps]; omega
      · simp only [List.map_cons, List.map_nil, inCs]; exact ⟨i4 (m3 hq4), trivial⟩
  · rintro ss M ⟨st1, qs, o3, o4, o5, ok1, hq1, hq2, hq3, hq4, rfl, rfl⟩
    rw [rangeD_len] at hq1 hq2 hq3
    walk_at "s"
    refine ws_lc1 (i := 4) (j := 6) rfl nd rfl rfl (sw_true rfl rfl rfl (by decide +kernel)) (blkOk_by rfl) rfl (fun _ _ _ _ _ => .inl rfl) (by decide) (wi_range1 T.z_range rfl ?_)
    repeat walk_at "s"
    refine ⟨⟨by omega, by omega⟩, ?_⟩
    refine lcq_draw (PlS cs) (fun M => ∃ st, DOk st ∧ M = [dC st, .dic kvs]) (by rw [rangeD_len]; exact size_ge (by omega)) ⟨_, ok1, rfl⟩ ?_ ?_
    · rintro i d M hd ⟨st2, ok2, rfl⟩ s H C cl fp B hB
      repeat walk_at "s"
      refine cq rfl ⟨_, _, rfl, rfl, ok2, ⟨by omega, by omega⟩, fun st3 n3 ok3 n30 n31 => ?_⟩
      repeat walk_at "s"
      refine cq rfl ⟨_, cs, ms, kvs, _, _, _, rfl, rfl, ok3, hm, gm, cv1, nm_c1, fun st4 s4 d4 ok4 z4 dr4 => ?_⟩
      exact ⟨d4, rfl, ⟨s4, z4, dr4⟩, st4, ok4, rfl⟩
    · rintro acc M hl hp ⟨st2, ok2, rfl⟩
      rw [rangeD_len] at hl
      obtain ⟨ps, rfl, hps⟩ := plr_of hp
      rw [hl] at hps
      rw [List.length_map] at hl
      replace hl : ps.length = 4 := hl
      replace hps : PlR cs 4 ps := hps
      repeat walk_at "s"
      refine cq rfl ⟨_, _, rfl, rfl, ok2, ⟨by omega, by omega⟩, fun st3 cut ok3 c0 c1 => ?_⟩
      have hml : ((ps.map (·.2)).length : Int) = 4 := by rw [List.length_map, hl]; rfl
      have hqn : qs.length ≤ 20 := by
        have := len_sizes (qs.map (·.1))
        rw [List.length_map] at this
        have : sizes (qs.map (·.1)) = 4 * (5 : Int).toNat := hq2
        have e5 : (5 : Int).toNat = 5 := rfl
        omega
      repeat walk_at "s"
      rw [cutD_pre c0 (by omega)]
      refine addL (size_ge (by simp only [List.length_take, List.length_map]; omega)) ?_
      repeat walk_at "s"
      rw [cutD_suf c0 (by omega)]
      refine addL (size_ge (by simp only [List.length_append, List.length_take, List.length_drop, List.length_map]; omega)) ?_
      rw [← List.map_take, ← List.map_drop, ← List.map_append, ← List.map_append]
      obtain ⟨m1, m2, m3, m4⟩ := put_mid (qs := qs) hps cut.toNat
      have e5 : (5 : Int).toNat = 5 := rfl
      rw [e5] at hq1 hq2 hq3
      exact ⟨rfl, hR _ _ ok3 (m4 5 hq1) (by omega) (by omega) (m3 hq4)⟩
end
theorem cal_deep (T : Tx K mg) : Cal P w K mg base "_law_deep" 4 2 sp_deep := ⟨_, _, _, ok_deep T, T.g_law_deep, T.F_law_deep.kp, T.b_law_deep⟩
local macro_rules | `(tactic| walk_at "call") => `(tactic| ((with_reducible refine gF "_law_deep" ?_); refine we_own (k := 4) (n := 2) (S := sp_deep) ?_ ?_ rfl ?_; exact cal_deep ‹Tx _ _›; exact room ‹Room _ _› (by decide)))

/-- mark_of: the mark of a room -/
def markD : Option Stm → D
  | some (.mark a) => .str a
  | _ => .non
def sp_markof (T : TA) (CM CB CR : Addr) : SpD := fun xs M R Rx => ∃ cs r n, xs = [.dat (maD T CM CB cs r), .dat (.int n)] ∧ M = [] ∧ (∀ x : Option Stm, 0 ≤ n → n < ((sizes r + 1 : Nat) : Int) → (flats r)[n.toNat]? = x → R (.dat (markD x)) []) ∧ (¬ (0 ≤ n ∧ n < ((sizes r + 1 : Nat) : Int)) → Rx CR [("room", .int n)] [])
section
local macro_rules | `(tactic| walk_at "v") => `(tactic| first | ((with_reducible refine gNa "self" ?_); refine we_var (i := 0) rfl (vis rfl) rfl ?_) | ((with_reducible refine gNa "room" ?_); refine we_var (i := 1) rfl (vis rfl) rfl ?_))
local macro_rules | `(tactic| walk_at "set") => `(tactic| first | ((with_reducible refine gSn "self" ?_); refine ws_set (i := 0) (by assumption) rfl (by first | exact .inl rfl | exact .inr rfl) ?_) | ((with_reducible refine gSn "room" ?_); refine ws_set (i := 1) (by assumption) rfl (by first | exact .inl rfl | exact .inr rfl) ?_))
theorem ok_markof (T : Tx K mg) : FnOk P w K mg base (L2.CX P w) 4 T.f_Machine_mark_of T.d_Machine_mark_of ["self", "room"] (spOf K 0 (sp_markof T.ta T.C_Machine T.C_Board T.C_NoRoom)) := by
  refine fn_ok T.F_Machine_mark_of sc_Machine_mark_of (fun xs M R Rx h => by obtain ⟨_, _, _, rfl, _⟩ := h; rfl) (fun cdv A outer sh H E B xs M R Rx hr hB h => ?_)
  obtain ⟨cs, r, n, rfl, rfl, h1, h2⟩ := h
  have nd := sc_Machine_mark_of.nd
  have hfl := flats_len r
  walk_at "s"
  refine ws_expr ?_
  refine we_mtd (mtd_masked T) (room hr (by decide)) ?_
  walk_at "s"
  refine ⟨⟨rfl, rfl⟩, ?_⟩
  repeat walk_at "s"
  refine cq rfl ⟨cs, r, n, rfl, rfl, fun c0 c1 => ?_, fun c => ⟨rfl, h2 c⟩⟩
  replace h1 := fun x => h1 x c0 c1
  obtain ⟨j, rfl⟩ := Int.eq_ofNat_of_zero_le c0
  rw [Int.toNat_natCast] at h1
  walk_at "s"
  refine ws_if ?_
  repeat walk_at "s"
  rw [stms_len, hfl]
  refine ite_b (fun c => ?_) (fun c => ?_)
  · have hj : j < (flats r).length := by omega
    have hg : (flats r)[j]? = some (flats r)[j] := List.getElem?_eq_getElem hj
    generalize (flats r)[j] = s at hg
    have ha : atI (stms T.ta (flats r)) (j : Int) = some (s.d T.ta) := atI_nat (by rw [stms_map, List.getElem?_map, hg]; rfl)
    have ic := stm_isc T s
    refine ww_and1 ?_
    refine wt_val ?_
    refine we_isI T.z_isinstance rfl ?_
    repeat walk_at "s"
    refine ixL ha ?_
    repeat walk_at "s"
    refine we_globR rfl T.g_Mark ?_
    repeat walk_at "s"
    refine ⟨_, _, _, _, _, rfl, ClsV.own _, ⟨rfl, ic⟩, k_isMark T _, ?_⟩
    refine ⟨_, rfl, ?_⟩
    cases hs : s.isMark with
    | true =>
      obtain ⟨a, rfl⟩ : ∃ a, s = .mark a := by cases s <;> first | exact ⟨_, rfl⟩ | cases hs
      refine it_t rfl ?_
      repeat walk_at "s"
      refine ixL ha ?_
      repeat walk_at "s"
      exact ⟨rfl, h1 _ hg⟩
    | false =>
      refine it_f rfl ?_
      repeat walk_at "s"
      have := h1 _ hg
      refine ⟨rfl, ?_⟩
      cases s <;> first | exact this | cases hs
  · repeat walk_at "s"
    have hn : (flats r)[j]? = none := List.getElem?_eq_none (by omega)
    exact ⟨rfl, h1 _ hn⟩
end
theorem mtd_markof (T : Tx K mg) : Mtd P w K mg base T.C_Machine "mark_of" 4 0 (sp_markof T.ta T.C_Machine T.C_Board T.C_NoRoom) := ⟨_, _, _, T.cl_Machine, T.m_Machine_mark_of, ok_markof T, T.b_Machine_mark_of⟩

def forBody : Stmt → List Stmt
  | .For _ _ b _ _ => b
  | _ => []
abbrev lawB : List Stmt := forBody ((defBody s_law).getD 10 (.Pass ⟨0, 0, 0, 0⟩))
theorem cut_mem {xs : List D} {l u : Option Int} {d : D} (h : d ∈ cutD xs l u) : d ∈ xs := by
  unfold cutD at h
  exact List.mem_of_mem_drop (List.mem_of_mem_take h)
abbrev cs23 : List (Str × List Str) := [("c0", ["v0", "v1", "v2", "v3"]), ("c1", ["v1", "v0", "w", "u"]), ("c2", ["x", "y", "v0", "z"])]
theorem cs23_ok : CsOk cs23 := ⟨by decide, by decide +kernel, by decide +kernel⟩
theorem cs23_bad : badNm (cs23.flatMap cNs) = none := by decide +kernel
theorem cs23_gc : cs23.length = 3 ∧ (∀ c ∈ cs23, c.2.length = 4) ∧ ∀ c ∈ cs23, isNm c.1 = true ∧ ∀ v ∈ c.2, isNm v = true := by decide +kernel
theorem cs23_cv0 : CV cs23 "c0" "v0" := ⟨_, List.mem_cons_self .., rfl, by decide +kernel⟩
theorem cs23_cv1 : CV cs23 "c1" "v1" := ⟨_, List.mem_cons_of_mem _ (List.mem_cons_self ..), rfl, by decide +kernel⟩
theorem cs23_cv : CvOk cs23 := by
  intro c vs e
  unfold cVals at e
  cases hf : cs23.find? (fun x => decide (x.1 = c)) with
  | none => rw [hf] at e; cases e
  | some y =>
    rw [hf] at e
    cases e
    have h : ∀ c ∈ cs23, c.2.length = 4 := cs23_gc.2.1
    have := h y (List.mem_of_find?_eq_some hf)
    show y.2.length ≤ 1000
    omega
theorem cValsD_len {cs : List (Str × List Str)} (cv : CvOk cs) (a : Str) : (cValsD cs a).length ≤ 1000 := by
  unfold cValsD
  cases e : cVals cs a with
  | none => exact Nat.zero_le _
  | some vs => exact cv a vs e
theorem lefts_len {cs : List (Str × List Str)} (cv : CvOk cs) (k : List Stm) : (lefts cs k).length ≤ 1001 := by
  cases k with
  | nil => simp [lefts]
  | cons s r =>
    have h1 := fun a b => oth_len (cValsD cs a) b
    have h2 := fun a => cValsD_len cv a
    cases s with
    | iff a b y n => simp only [lefts, List.length_cons, List.length_map]; have := h1 a b; have := h2 a; omega
    | whl a b y => simp only [lefts, List.length_cons, List.length_map]; have := h1 a b; have := h2 a; omega
    | _ => simp only [lefts, List.length_cons, List.length_nil]; omega
theorem left_known {T : TA} {cs : List (Str × List Str)} {CC CV : Addr} {Rx : Addr → List (Str × D) → Mem → Prop} {q : Prop} {r : List Stm} {g : Int} {k : List Stm} (hin : AllIn cs r) (h : AtR r g k) (hq : q) : (match k.head?.bind Stm.names with
  | some (a, b) => askedQ cs CC CV a b Rx q
  | none => q) := by
  cases k with
  | nil => exact hq
  | cons s k =>
    obtain ⟨j, _, _, hj⟩ := tie_stm h
    show (match s.names with
      | some (a, b) => askedQ cs CC CV a b Rx q
      | none => q)
    cases e : s.names with
    | none => exact hq
    | some ab =>
      obtain ⟨a, b⟩ := ab
      obtain ⟨vs, h1, h2⟩ := hin s (List.mem_of_getElem? hj) a b e
      show askedQ cs CC CV a b Rx q
      unfold askedQ
      rw [h1]
      exact ⟨fun _ => hq, fun c => absurd h2 c⟩
theorem acts_pl (l : List Act) : D.pl 60 (.lst (l.map Act.d)) = true := by
  show (l.map Act.d).all (D.pl 59) = true
  rw [List.all_eq_true]
  intro d hd
  obtain ⟨a, _, rfl⟩ := List.mem_map.mp hd
  cases a <;> rfl
abbrev fstD : D → D := fun d => match d with | .tup [a, _] => a | x => x
theorem exD_pl (x : List (Act × Int)) : D.pl 60 (exD x) = true := by
  show (x.map goD).all (D.pl 59) = true
  rw [List.all_eq_true]
  intro d hd
  obtain ⟨⟨a, n⟩, _, rfl⟩ := List.mem_map.mp hd
  cases a <;> rfl
theorem fst_go (E : List (Act × Int)) : (E.map goD).map fstD = (E.map (·.1)).map Act.d := by
  rw [List.map_map, List.map_map]
  rfl
theorem fst_step (T : TA) (L : List (Act × List Stm)) : (L.map (stepD T)).map fstD = (L.map (·.1)).map Act.d := by
  rw [List.map_map, List.map_map]
  rfl
abbrev slots23 (T : Tx K mg) (x : SV) (r : List Stm) (o7 o8 o9 o10 o11 o12 : Option SV) : Sst := [some x, none, none, none, some (.dat (prD T.ta r)), some (.dat (bD T.C_Board cs23)), some (.dat (maD T.ta T.C_Machine T.C_Board cs23 r)), o7, o8, o9, o10, o11, o12, none, none, none]
section
local macro_rules | `(tactic| walk_at "v") => `(tactic| first | ((with_reducible refine gNa "_law_script" ?_); refine we_var (i := 0) rfl (vis rfl) rfl ?_) | ((with_reducible refine gNa "_law_s" ?_); refine we_var (i := 1) rfl (vis rfl) rfl ?_) | ((with_reducible refine gNa "_law_cells_here" ?_); refine we_var (i := 2) rfl (vis rfl) rfl ?_) | ((with_reducible refine gNa "_law_m" ?_); refine we_var (i := 3) rfl (vis rfl) rfl ?_) | ((with_reducible refine gNa "_law_program_here" ?_); refine we_var (i := 4) rfl (vis rfl) rfl ?_) | ((with_reducible refine gNa "_law_board" ?_); refine we_var (i := 5) rfl (vis rfl) rfl ?_) | ((with_reducible refine gNa "_law_machine" ?_); refine we_var (i := 6) rfl (vis rfl) rfl ?_) | ((with_reducible refine gNa "_law_room" ?_); refine we_var (i := 7) rfl (vis rfl) rfl ?_) | ((with_reducible refine gNa "_law_row_here" ?_); refine we_var (i := 8) rfl (vis rfl) rfl ?_) | ((with_reducible refine gNa "_law_cell" ?_); refine we_var (i := 9) rfl (vis rfl) rfl ?_) | ((with_reducible refine gNa "_law_rooms" ?_); refine we_var (i := 10) rfl (vis rfl) rfl ?_) | ((with_reducible refine gNa "_law_rows" ?_); refine we_var (i := 11) rfl (vis rfl) rfl ?_) | ((with_reducible refine gNa "_law_at" ?_); refine we_var (i := 12) rfl (vis rfl) rfl ?_) | ((with_reducible refine gNa "_law_act" ?_); refine we_var (i := 13) rfl (vis rfl) rfl ?_) | ((with_reducible refine gNa "_law_goal" ?_); refine we_var (i := 14) rfl (vis rfl) rfl ?_) | ((with_reducible refine gNa "_law_rest" ?_); refine we_var (i := 15) rfl (vis rfl) rfl ?_))
local macro_rules | `(tactic| walk_at "set") => `(tactic| first | ((with_reducible refine gSn "_law_script" ?_); refine ws_set (i := 0) (by assumption) rfl (by first | exact .inl rfl | exact .inr rfl) ?_) | ((with_reducible refine gSn "_law_s" ?_); refine ws_set (i := 1) (by assumption) rfl (by first | exact .inl rfl | exact .inr rfl) ?_) | ((with_reducible refine gSn "_law_cells_here" ?_); refine ws_set (i := 2) (by assumption) rfl (by first | exact .inl rfl | exact .inr rfl) ?_) | ((with_reducible refine gSn "_law_m" ?_); refine ws_set (i := 3) (by assumption) rfl (by first | exact .inl rfl | exact .inr rfl) ?_) | ((with_reducible refine gSn "_law_program_here" ?_); refine ws_set (i := 4) (by assumption) rfl (by first | exact .inl rfl | exact .inr rfl) ?_) | ((with_reducible refine gSn "_law_board" ?_); refine ws_set (i := 5) (by assumption) rfl (by first | exact .inl rfl | exact .inr rfl) ?_) | ((with_reducible refine gSn "_law_machine" ?_); refine ws_set (i := 6) (by assumption) rfl (by first | exact .inl rfl | exact .inr rfl) ?_) | ((with_reducible refine gSn "_law_room" ?_); refine ws_set (i := 7) (by assumption) rfl (by first | exact .inl rfl | exact .inr rfl) ?_) | ((with_reducible refine gSn "_law_row_here" ?_); refine ws_set (i := 8) (by assumption) rfl (by first | exact .inl rfl | exact .inr rfl) ?_) | ((with_reducible refine gSn "_law_cell" ?_); refine ws_set (i := 9) (by assumption) rfl (by first | exact .inl rfl | exact .inr rfl) ?_) | ((with_reducible refine gSn "_law_rooms" ?_); refine ws_set (i := 10) (by assumption) rfl (by first | exact .inl rfl | exact .inr rfl) ?_) | ((with_reducible refine gSn "_law_rows" ?_); refine ws_set (i := 11) (by assumption) rfl (by first | exact .inl rfl | exact .inr rfl) ?_) | ((with_reducible refine gSn "_law_at" ?_); refine ws_set (i := 12) (by assumption) rfl (by first | exact .inl rfl | exact .inr rfl) ?_) | ((with_reducible refine gSn "_law_act" ?_); refine ws_set (i := 13) (by assumption) rfl (by first | exact .inl rfl | exact .inr rfl) ?_) | ((with_reducible refine gSn "_law_goal" ?_); refine ws_set (i := 14) (by assumption) rfl (by first | exact .inl rfl | exact .inr rfl) ?_) | ((with_reducible refine gSn "_law_rest" ?_); refine ws_set (i := 15) (by assumption) rfl (by first | exact .inl rfl | exact .inr rfl) ?_))
theorem turn23 (T : Tx K mg) {cdv : Value} {A : Around} {outer : List Env} {s : Shared} {H : Hp} {E : XK} {B : Base} {N0 : Nd} {ex : XD} {x : SV} {r : List Stm} {num : Int} {g : Int} {k : List Stm} (hr : Room 39 (A.deeper (envOfC "law" (defScope s_law) s.heap.objs.size T.f_law cdv))) (hB : B.A.length = 0) (x0 : SV.lt 0 x = true) (hz : sizes r = 24) (hin : AllIn cs23 r) (ha : AtR r g k)
    (hN : ∀ g' k' o1 o9 o10 o11 o12 M, AtR r g' k' → N0.nx ((slots23 T x r (some (.dat (.int g'))) (some (.dat (.lst (stms T.ta k')))) o9 o10 o11 o12).set 1 o1) M) :
    WB (cxOf (L2.CX P w) P w K mg base ["_law_script", "_law_s", "_law_cells_here", "_law_m", "_law_program_here", "_law_board", "_law_machine", "_law_room", "_law_row_here", "_law_cell", "_law_rooms", "_law_rows", "_law_at", "_law_act", "_law_goal", "_law_rest"] "law" (defScope s_law) T.f_law cdv A outer s H E) B ex lawB N0 (slots23 T x r (some (.dat (.int g))) (some (.dat (.lst (stms T.ta k)))) (some (.dat (.int num))) none none none) [] := by
  have nd := sc_law.nd
  obtain ⟨ES, he, ⟨g0, g1⟩, ht⟩ := tie_at cs23 ha
  have hl1 := ht.len
  have hl2 := lefts_len cs23_cv k
  have hro := atR_ok (by omega) ha
  repeat walk_at "s"
  refine cq rfl ⟨_, rfl, rfl, fun st ok => ?_⟩
  walk_at "s"
  refine ws_set (i := 10) nd rfl (.inl rfl) ?_
  refine WE.frz ?_
  refine we_mtd (mtd_msteps T) (room hr (by decide)) ?_
  walk_at "s"
  refine ⟨⟨rfl, rfl⟩, ?_⟩
  repeat walk_at "s"
  refine cq rfl ⟨cs23, r, g, rfl, rfl, fun y hy _ => ?_, fun c => absurd ⟨g0, g1⟩ c⟩
  obtain rfl : ES = y := Option.some.inj (he.symm.trans hy)
  refine ⟨1, _, rfl, by rw [hB]; exact Nat.zero_le _, rfl, ?_⟩
  walk_at "s"
  refine ws_set (i := 11) nd rfl (.inl rfl) ?_
  refine we_own (cal_left T) (room hr (by decide)) rfl ?_
  repeat walk_at "s"
  refine cq rfl ⟨cs23, k, rfl, rfl, cs23_cv, hro, left_known (T := T.ta) hin ha ?_⟩
  walk_at "s"
  refine ws_if ?_
  refine wt_ne (by assumption) ?_
  refine we_lc2 (i := 13) (j := 14) rfl nd (blkOk_by rfl) rfl rfl (by decide) (fun _ _ _ _ _ => .inl rfl) (fun _ _ _ _ _ => .inl rfl) (by decide) (wi_list ?_)
  repeat walk_at "s"
  refine lcq_map2 fstD (size_ge (by rw [List.length_map]; omega)) ?_ ?_
  · intro i d hd
    obtain ⟨p, hp, rfl⟩ := map_get hd
    refine ⟨_, _, rfl, ?_⟩
    intro s H C cl fp B hB
    repeat walk_at "s"
    exact ⟨rfl, rfl⟩
  refine we_lc2 (i := 13) (j := 15) rfl nd (blkOk_by rfl) rfl rfl (by decide) (fun _ _ _ _ _ => .inl rfl) (fun _ _ _ _ _ => .inl rfl) (by decide) (wi_list ?_)
  repeat walk_at "s"
  refine lcq_map2 fstD (size_ge (by rw [List.length_map]; omega)) ?_ ?_
  · intro i d hd
    obtain ⟨p, hp, rfl⟩ := map_get hd
    refine ⟨_, _, rfl, ?_⟩
    intro s H C cl fp B hB
    repeat walk_at "s"
    exact ⟨rfl, rfl⟩
  rw [fst_go, fst_step, ht.acts]
  refine neD (acts_pl _) (acts_pl _) ?_
  refine it_f (by rw [deq_refl (acts_pl _)]; rfl) ?_
  walk_at "s"
  refine wb_cut (fun ss M => ss = (slots23 T x r (some (.dat (.int g))) (some (.dat (.lst (stms T.ta k)))) (some (.dat (.int num))) (some (.dat (.lst (ES.map goD)))) (some (.dat (leftD T.ta cs23 k))) none).set 1 (some (.cel 0)) ∧ M = [dC st, .dead]) ?_ ?_
  · refine ws_if ?_
    refine wt_w ?_
    refine ww_and ?_
    refine wt_neA (n := 2) (room hr (by decide)) ?_
    walk_at "s"
    refine we_lst ?_
    repeat walk_at "s"
    cases k with
    | nil =>
      refine ⟨⟨_, _, _, rfl, rfl, rcA_lstN (n := 1) (b := true) .nil, _, rfl, ?_⟩⟩
      refine it_f rfl ?_
      refine it_f rfl ?_
      repeat walk_at "s"
      exact ⟨rfl, rfl⟩
    | cons sk kk =>
      obtain ⟨j, rfl, hj, hfj⟩ := tie_stm ha
      have ic := stm_isc T sk
      have hx0 : atI (stms T.ta (sk :: kk)) 0 = some (sk.d T.ta) := by rw [stms_cons]; exact atI_nat (j := 0) rfl
      refine ⟨⟨_, _, _, rfl, rfl, rcA_lstN (n := 1) (b := false) (by rw [stms_cons]; exact .left), _, rfl, ?_⟩⟩
      refine it_t rfl ?_
      refine ww_and ?_
      refine wt_val ?_
      refine we_isI T.z_isinstance rfl ?_
      repeat walk_at "s"
      refine ixL hx0 ?_
      repeat walk_at "s"
      refine we_globR rfl T.g_Mark ?_
      repeat walk_at "s"
      refine ⟨_, _, _, _, _, rfl, ClsV.own _, ⟨rfl, ic⟩, k_isMark T _, ?_⟩
      refine ⟨_, rfl, ?_⟩
      cases hs : sk.isMark with
      | false =>
        refine it_f rfl ?_
        refine it_f rfl ?_
        repeat walk_at "s"
        exact ⟨rfl, rfl⟩
      | true =>
        obtain ⟨z, rfl⟩ : ∃ z, sk = .mark z := by cases sk <;> first | exact ⟨_, rfl⟩ | cases hs
        refine it_t rfl ?_
        refine ww_and1 ?_
        refine wt_ne (by assumption) ?_
        refine we_mtd (mtd_markof T) (room hr (by decide)) ?_
        walk_at "s"
        refine ⟨⟨rfl, rfl⟩, ?_⟩
        repeat walk_at "s"
        refine cq rfl ⟨cs23, r, (j : Int), rfl, rfl, fun y _ _ hy2 => ?_, fun c => absurd ⟨g0, g1⟩ c⟩
        obtain rfl : y = some (.mark z) := by rw [Int.toNat_natCast, hfj] at hy2; exact hy2.symm
        repeat walk_at "s"
        refine ixL hx0 ?_
        repeat walk_at "s"
        refine it_f (by simp) ?_
        repeat walk_at "s"
        exact ⟨rfl, rfl⟩
  · rintro ss M ⟨rfl, rfl⟩
    have hgo : D.pl 60 (.lst (ES.map goD)) = true := exD_pl ES
    walk_at "s"
    refine ws_if ?_
    refine wt_eq (by assumption) ?_
    walk_at "s"
    refine we_lst ?_
    repeat walk_at "s"
    refine eqD hgo rfl ?_
    cases ES with
    | nil =>
      refine it_t rfl ?_
      repeat walk_at "s"
      exact hN 0 r _ _ _ _ _ _ (atR_first r)
    | cons e0 ES0 =>
      generalize hES : e0 :: ES0 = ES at *
      have hne : 1 ≤ ES.length := by rw [← hES]; simp
      refine it_f (by rw [← hES]; rfl) ?_
      walk_at "s"
      refine ws_set (i := 12) nd rfl (.inl rfl) ?_
      repeat walk_at "s"
      refine cq rfl ⟨_, _, rfl, rfl, ok, ⟨by rw [List.length_map]; omega, by rw [List.length_map]; omega⟩, fun st2 at_ ok2 a0 a1 => ?_⟩
      rw [List.length_map] at a1
      obtain ⟨j, rfl⟩ := Int.eq_ofNat_of_zero_le a0
      have hj : j < ES.length := by omega
      have hgj : ES[j]? = some ES[j] := List.getElem?_eq_getElem hj
      generalize ES[j] = e at hgj
      obtain ⟨k', hk', hat⟩ := ht.get hgj
      have h1 : atI (ES.map goD) (j : Int) = some (goD e) := atI_nat (by rw [List.getElem?_map, hgj]; rfl)
      have h2 : atI ((lefts cs23 k).map (stepD T.ta)) (j : Int) = some (stepD T.ta (e.1, k')) := atI_nat (by rw [List.getElem?_map, hk']; rfl)
      repeat walk_at "s"
      refine ixL h1 ?_
      repeat walk_at "s"
      refine ixL h2 ?_
      repeat walk_at "s"
      exact hN _ _ _ _ _ _ _ _ hat
end
section
local macro_rules | `(tactic| walk_at "v") => `(tactic| first | ((with_reducible refine gNa "_law_script" ?_); refine we_var (i := 0) rfl (vis rfl) rfl ?_) | ((with_reducible refine gNa "_law_s" ?_); refine we_var (i := 1) rfl (vis rfl) rfl ?_) | ((with_reducible refine gNa "_law_cells_here" ?_); refine we_var (i := 2) rfl (vis rfl) rfl ?_) | ((with_reducible refine gNa "_law_m" ?_); refine we_var (i := 3) rfl (vis rfl) rfl ?_) | ((with_reducible refine gNa "_law_program_here" ?_); refine we_var (i := 4) rfl (vis rfl) rfl ?_) | ((with_reducible refine gNa "_law_board" ?_); refine we_var (i := 5) rfl (vis rfl) rfl ?_) | ((with_reducible refine gNa "_law_machine" ?_); refine we_var (i := 6) rfl (vis rfl) rfl ?_) | ((with_reducible refine gNa "_law_room" ?_); refine we_var (i := 7) rfl (vis rfl) rfl ?_) | ((with_reducible refine gNa "_law_row_here" ?_); refine we_var (i := 8) rfl (vis rfl) rfl ?_) | ((with_reducible refine gNa "_law_cell" ?_); refine we_var (i := 9) rfl (vis rfl) rfl ?_) | ((with_reducible refine gNa "_law_rooms" ?_); refine we_var (i := 10) rfl (vis rfl) rfl ?_) | ((with_reducible refine gNa "_law_rows" ?_); refine we_var (i := 11) rfl (vis rfl) rfl ?_) | ((with_reducible refine gNa "_law_at" ?_); refine we_var (i := 12) rfl (vis rfl) rfl ?_) | ((with_reducible refine gNa "_law_act" ?_); refine we_var (i := 13) rfl (vis rfl) rfl ?_) | ((with_reducible refine gNa "_law_goal" ?_); refine we_var (i := 14) rfl (vis rfl) rfl ?_) | ((with_reducible refine gNa "_law_rest" ?_); refine we_var (i := 15) rfl (vis rfl) rfl ?_))
local macro_rules | `(tactic| walk_at "set") => `(tactic| first | ((with_reducible refine gSn "_law_script" ?_); refine ws_set (i := 0) (by assumption) rfl (by first | exact .inl rfl | exact .inr rfl) ?_) | ((with_reducible refine gSn "_law_s" ?_); refine ws_set (i := 1) (by assumption) rfl (by first | exact .inl rfl | exact .inr rfl) ?_) | ((with_reducible refine gSn "_law_cells_here" ?_); refine ws_set (i := 2) (by assumption) rfl (by first | exact .inl rfl | exact .inr rfl) ?_) | ((with_reducible refine gSn "_law_m" ?_); refine ws_set (i := 3) (by assumption) rfl (by first | exact .inl rfl | exact .inr rfl) ?_) | ((with_reducible refine gSn "_law_program_here" ?_); refine ws_set (i := 4) (by assumption) rfl (by first | exact .inl rfl | exact .inr rfl) ?_) | ((with_reducible refine gSn "_law_board" ?_); refine ws_set (i := 5) (by assumption) rfl (by first | exact .inl rfl | exact .inr rfl) ?_) | ((with_reducible refine gSn "_law_machine" ?_); refine ws_set (i := 6) (by assumption) rfl (by first | exact .inl rfl | exact .inr rfl) ?_) | ((with_reducible refine gSn "_law_room" ?_); refine ws_set (i := 7) (by assumption) rfl (by first | exact .inl rfl | exact .inr rfl) ?_) | ((with_reducible refine gSn "_law_row_here" ?_); refine ws_set (i := 8) (by assumption) rfl (by first | exact .inl rfl | exact .inr rfl) ?_) | ((with_reducible refine gSn "_law_cell" ?_); refine ws_set (i := 9) (by assumption) rfl (by first | exact .inl rfl | exact .inr rfl) ?_) | ((with_reducible refine gSn "_law_rooms" ?_); refine ws_set (i := 10) (by assumption) rfl (by first | exact .inl rfl | exact .inr rfl) ?_) | ((with_reducible refine gSn "_law_rows" ?_); refine ws_set (i := 11) (by assumption) rfl (by first | exact .inl rfl | exact .inr rfl) ?_) | ((with_reducible refine gSn "_law_at" ?_); refine ws_set (i := 12) (by assumption) rfl (by first | exact .inl rfl | exact .inr rfl) ?_) | ((with_reducible refine gSn "_law_act" ?_); refine ws_set (i := 13) (by assumption) rfl (by first | exact .inl rfl | exact .inr rfl) ?_) | ((with_reducible refine gSn "_law_goal" ?_); refine ws_set (i := 14) (by assumption) rfl (by first | exact .inl rfl | exact .inr rfl) ?_) | ((with_reducible refine gSn "_law_rest" ?_); refine ws_set (i := 15) (by assumption) rfl (by first | exact .inl rfl | exact .inr rfl) ?_))
theorem ok_law (T : Tx K mg) : FnOk P w K mg base (L2.CX P w) 40 T.f_law T.d_law ["_law_script"] (spOf K 0 (sp_law K)) := by
  refine fn_ok T.F_law sc_law (fun xs M R Rx h => by obtain ⟨_, _, rfl, _⟩ := h; rfl) (fun cdv A outer s H E B xs M R Rx hr hB h => ?_)
  obtain ⟨x, ns, rfl, hx, hl, rfl, hR⟩ := h
  have nd := sc_law.nd
  have x0 : SV.lt 0 x = true := by
    rcases hx with rfl | ⟨a, rfl, _⟩ <;> rfl
  have x1 : SV.lt 1 x = true := by
    rcases hx with rfl | ⟨a, rfl, _⟩ <;> rfl
  have hfz : ∀ j d, SV.fz j d x = x := by
    intro j d
    rcases hx with rfl | ⟨a, rfl, _⟩ <;> rfl
  walk_at "s"
  refine ws_set (i := 1) nd rfl (.inl rfl) ?_
  refine we_own (cal_state T) (room hr (by decide)) rfl ?_
  refine wa_cons ?_
  refine we_own (cal_cellat T) (room hr (by decide)) rfl ?_
  repeat walk_at "s"
  refine cq (by rw [List.all_cons, x0]; rfl) ⟨x, ns, 0, rfl, hx, rfl, by omega, fun num => ?_⟩
  repeat walk_at "s"
  refine cq rfl ⟨_, rfl, rfl, fun st ok => ?_⟩
  walk_at "s"
  refine ws_set (i := 2) nd rfl (.inl rfl) ?_
  refine we_lstM ?_
  refine wa_cons ?_
  refine we_tup ?_
  iterate 3 walk_at "s"
  refine we_lst ?_
  iterate 12 walk_at "s"
  refine wa_cons ?_
  refine we_tupS ?_
  iterate 3 walk_at "s"
  refine we_lstC ?_
  iterate 9 walk_at "s"
  refine ⟨_, rfl, Nat.le_of_ble_eq_true rfl, ?_⟩
  refine wa_cons ?_
  refine we_tup ?_
  iterate 3 walk_at "s"
  refine we_lst ?_
  iterate 13 walk_at "s"
  refine ⟨Nat.le_of_ble_eq_true rfl, ?_⟩
  walk_at "s"
  refine ws_expr ?_
  refine we_append ?_
  refine we_ixS ?_
  refine we_ixS ?_
  iterate 2 walk_at "s"
  refine ⟨1, _, rfl, rfl, ?_⟩
  walk_at "s"
  refine ⟨1, _, rfl, rfl, ?_⟩
  refine cl1 rfl ?_
  repeat walk_at "s"
  refine ⟨Nat.lt_of_lt_of_le (show 3 < 1000000 by omega) (size_ge (Nat.le_refl _)), ?_⟩
  refine wb_freeze 1 (by rw [hB]; exact Nat.zero_le _) rfl rfl ?_
  refine wb_freeze 2 (by rw [hB]; exact Nat.zero_le _) rfl rfl ?_
  refine wb_forgetE (k := 1) (ss1 := [some x, some (.cel 0), some (.dat (.lst (cs23.map cD))), none, none, none, none, none, none, none, none, none, none, none, none, none]) (ss' := [some x, some (.cel 0), some (.dat (.lst (cs23.map cD))), none, none, none, none, none, none, none, none, none, none, none, none, none]) (M' := [dC st]) (by show some (SV.fz 2 _ (SV.fz 1 _ x)) :: _ = _; rw [hfz, hfz]; rfl) (Fgt.refl _) (by rw [hB]; omega) rfl (by show (SV.lt 1 x && true) = true; rw [x1]; rfl) rfl ?_
  walk_at "s"
  refine ws_set (i := 3) nd rfl (.inl rfl) ?_
  refine we_dispI ?_
  iterate 3 walk_at "s"
  refine ⟨_, rfl, ?_⟩
  iterate 2 walk_at "s"
  refine WE.frz ?_
  repeat walk_at "s"
  refine cq rfl ⟨_, _, rfl, rfl, ok, ⟨by omega, by omega⟩, fun st3 ms ok3 hml mnd hmv => ?_⟩
  refine ⟨2, _, rfl, by rw [hB]; omega, rfl, ?_⟩
  repeat walk_at "s"
  refine ⟨rfl, Nat.le_of_ble_eq_true rfl, ?_⟩
  walk_at "s"
  refine ws_set (i := 4) nd rfl (.inl rfl) ?_
  refine we_own (cal_builtL T 6) (room hr (by decide)) rfl ?_
  repeat walk_at "s"
  refine cq rfl ⟨_, cs23, ms, _, rfl, rfl, ok3, rfl, rfl, ⟨⟨by omega, by omega⟩, fun z hz => (hmv z hz).1⟩, cs23_gc, cs23_cv0, cs23_cv1, fun st4 ps ok4 h1 h2 h3 h4 => ?_⟩
  repeat walk_at "s"
  refine cq rfl ⟨ps, rfl, rfl, h1, by omega, by omega, ?_⟩
  generalize ps.map (·.1) = r at h2 h3 h4
  have hin : AllIn cs23 r := allIn_of cs23_ok.nms h4
  repeat walk_at "s"
  refine mq rfl ⟨cs23, rfl, rfl, cs23_ok, ?_⟩
  rw [cs23_bad]
  refine ⟨rfl, _, _, rfl, rfl, ?_⟩
  walk_at "s"
  refine ws_set (i := 6) nd rfl (.inl rfl) ?_
  refine gF "Machine" ?_
  refine we_mkr (mkr_Machine T 5) (room hr (by decide)) rfl ?_
  repeat walk_at "s"
  refine mq rfl ⟨cs23, r, rfl, rfl, h3, by omega, cs23_cv, hin, ?_⟩
  refine ⟨rfl, _, _, rfl, rfl, ?_⟩
  show WB _ _ _ _ _ _ _
  refine wb_forgetE (k := 0) (M' := []) rfl (ss' := slots23 T x r none none none none none none) (.keep (.drop (.drop (.drop (.keep (.keep (.keep (.keep (.keep (.keep (.keep (.keep (.keep (.keep (.keep (.keep .nil)))))))))))))))) (Nat.le_of_eq hB) rfl (by show (SV.lt 0 x && true) = true; rw [x0]; rfl) rfl ?_
  repeat walk_at "s"
  refine we_mtd0 (mtd_mrooms T) (room hr (by decide)) ?_
  walk_at "s"
  refine ⟨⟨rfl, rfl⟩, cq rfl ⟨cs23, r, rfl, rfl, ?_⟩⟩
  repeat walk_at "s"
  refine it_f (by rw [decide_eq_true (by omega)]; rfl) ?_
  repeat walk_at "s"
  refine WE.frz ?_
  refine we_mtd (mtd_msteps T) (room hr (by decide)) ?_
  walk_at "s"
  refine ⟨⟨rfl, rfl⟩, ?_⟩
  repeat walk_at "s"
  refine cq rfl ⟨cs23, r, _, rfl, rfl, fun y hy _ => ?_, fun c => absurd ⟨by omega, by omega⟩ c⟩
  obtain rfl : y = [] := by
    obtain ⟨E0, e1, _, e3⟩ := tie_at cs23 (r := r) (g := 24) (k := []) (.inr ⟨by rw [h2]; rfl, rfl⟩)
    rw [e1] at hy
    cases e3
    exact (Option.some.inj hy).symm
  refine ⟨0, _, rfl, by rw [hB]; exact Nat.zero_le _, rfl, ?_⟩
  refine we_lst ?_
  repeat walk_at "s"
  refine neD rfl rfl ?_
  refine it_f rfl ?_
  repeat walk_at "s"
  refine ws_for rfl (wi_list ?_)
  refine we_add ?_
  refine we_lst ?_
  iterate 4 walk_at "s"
  refine we_ssl ?_
  repeat walk_at "s"
  refine ⟨ns, hx, ?_⟩
  repeat walk_at "s"
  refine addL (size_ge ?_) ?_
  · have : (cutD (ns.map D.int) (some 1) (some 62)).length ≤ (ns.map D.int).length := by
      unfold cutD
      rw [List.length_take, List.length_drop]
      omega
    rw [List.length_map] at this
    show 1 + _ ≤ _
    omega
  repeat walk_at "s"
  refine ⟨fun i ss M => ∃ g k o1 o9 o10 o11 o12, AtR r g k ∧ ss = (slots23 T x r (some (.dat (.int g))) (some (.dat (.lst (stms T.ta k)))) o9 o10 o11 o12).set 1 o1, ⟨0, r, none, none, none, none, none, atR_first r, rfl⟩, ?_, ?_⟩
  · rintro i d ss M hd ⟨g, k, o1, o9, o10, o11, o12, ha, rfl⟩
    obtain ⟨num2, rfl⟩ : ∃ n, d = .int n := by
      have hm := List.mem_of_getElem? hd
      rcases List.mem_append.mp hm with h | h
      · rw [List.mem_singleton] at h
        exact ⟨0, h⟩
      · obtain ⟨n, _, rfl⟩ := List.mem_map.mp (cut_mem h)
        exact ⟨n, rfl⟩
    refine wg_name (i := 9) nd rfl (.inl rfl) ?_
    refine wb_forgetE (k := 0) (M' := []) (ss' := slots23 T x r (some (.dat (.int g))) (some (.dat (.lst (stms T.ta k)))) (some (.dat (.int num2))) none none none) rfl (.keep (.drop (.keep (.keep (.keep (.keep (.keep (.keep (.keep (.keep (.drop (.drop (.drop (.keep (.keep (.keep .nil)))))))))))))))) (Nat.le_of_eq hB) rfl (by show (SV.lt 0 x && true) = true; rw [x0]; rfl) rfl ?_
    exact turn23 T hr hB x0 h2 hin ha fun g' k' o1 o9 o10 o11 o12 M ha' => ⟨g', k', o1, o9, o10, o11, o12, ha', rfl⟩
  · rintro ss M ⟨g, k, o1, o9, o10, o11, o12, ha, rfl⟩
    repeat walk_at "s"
    exact ⟨rfl, hR⟩

end
end
end Mb
open PySem PySem.W PySem.Calls PyProof.Rows
set_option maxRecDepth 100000 in
set_option maxHeartbeats 0 in
theorem PySem.Challenge.cw_manyboard_k23_fullest_programs_holds : PySem.Challenge.rw_manyboard_k23_fullest_programs.Holds := by
  w_on; o_law
  refine HandSHeadRun.head_any (r := OpenLaw.row PySem.Challenge.rw_manyboard_k23_fullest_programs) (q := view (OpenLaw.row PySem.Challenge.rw_manyboard_k23_fullest_programs).prog [64]) (H := Mb.hookX Mb.nmsSeen Mb.facts Mb.fnsL) (ob := Mb.obX Mb.nmsSeen Mb.facts Mb.fnsL) (M := 16000) (loose := Mb.nmsAll) (d := HandSHeadRun.topDef (OpenLaw.row PySem.Challenge.rw_manyboard_k23_fullest_programs).prog 64) (kwd := []) (Mb.obX_eq _ _ _)
    (by kernel_rfl) (fun s => by kernel_rfl) Mb.runX (by kernel_rfl) (by kernel_rfl) (by kernel_rfl)
    (by rfl) (by first | assumption | decide +kernel) (by decide +kernel)
    ⟨rfl, rfl, rfl, rfl, rfl, by decide +kernel⟩ ?hw ?hc
  case hw => w_witness2
  case hc =>
    refine Mb.walkX (l := PySem.Challenge.rw_manyboard_k23_fullest_programs) (k := 40) rfl (by kernel_rfl) (by kernel_rfl) ⟨rfl, by decide, by decide⟩ ?F
    intro w mg h K KX G c
    have T : Mb.Tx K mg := ⟨⟨h, KX, G⟩, c⟩
    refine ⟨T.f_law, T.d_law, T.g_law, (fun s v => ?_), fun base => Mb.ok_law T⟩
    obtain ⟨oc, od, kV, doc, pm, an, cdv, ct, osl, e, _⟩ := T.F_law.ex
    rw [e]
    exact .of_eq rfl
