import PyProof.Rows.All
import Wide.All
import OpenK.AllK
import Wide.FinOn
import HandS.ForMost
import HandS.ForExc
import HandS.ExcInit
import HandS.ExcField
import HandS.CallSlots
import HandS.TupAny
import HandS.Deep
import HandS.Walk
import KE.KExcIs
import HandS.ExcIs
import HandS.IsInst
import HandS.ClsMeth
import PySem.Challenge.RW_manyboard_k01_names_at_each_door
set_option Elab.async false
set_option linter.all false
set_option maxRecDepth 100000
set_option maxHeartbeats 4000000
/-! Mb, part 0: plain data D, symbolic values SV, cells, what represents what, the world, the judgements. -/
namespace Mb
open PySem L2

/-- plain data that is never changed -/
inductive D where
  | non | bl (b : Bool) | int (i : Int) | str (x : Str)
  | lst (xs : List D) | tup (xs : List D) | ins (C : Addr) (fs : List (Str × D)) | dic (kvs : List (Key × D))
/-- a symbolic value: data, a cell (by its number), a bare value, an exception that is held (its dict at dd, its fields, its own address) -/
inductive SV where
  | dat (d : D) | cel (i : Nat) | raw (v : V) | exc (dd : Addr) (fs : List (Str × D)) (a : Addr)
/-- what a cell holds: a thing that this code owns and may change -/
inductive Cell where
  | dead | lst (xs : List D) | dic (kvs : List (Key × D)) | ins (C : Addr) (fs : List (Str × SV))

/-- a text of a size and with signs that the machine bears -/
def SOk (x : Str) : Prop := x.length ≤ sizeLine ∧ PyData.strOk x = true
mutual
inductive Rep (K : PySem.W.Frag) (G : Hp) : V → D → Prop
  | non : Rep K G .non .non
  | bl (b : Bool) : Rep K G (.bl b) (.bl b)
  | int (i : Int) : Rep K G (.int i) (.int i)
  | str (x : Str) (h : SOk x) : Rep K G (.str x) (.str x)
  | lst {a : Addr} {vs : List V} {ds : List D} : Rd G a (.lst vs) → Reps K G vs ds → Rep K G (.ref a) (.lst ds)
  | tup {a : Addr} {vs : List V} {ds : List D} : Rd G a (.tup vs) → Reps K G vs ds → Rep K G (.ref a) (.tup ds)
  | ins {a C dx : Addr} {fv : List (Str × V)} {fs : List (Str × D)} : G a = some (.ins C dx fv) → RepF K G fv fs → Rep K G (.ref a) (.ins C fs)
  | dic {a : Addr} {kv : List (Key × V)} {kvs : List (Key × D)} : G a = some (.dK kv) → RepK K G kv kvs → Rep K G (.ref a) (.dic kvs)
inductive Reps (K : PySem.W.Frag) (G : Hp) : List V → List D → Prop
  | nil : Reps K G [] []
  | cons {v : V} {vs : List V} {d : D} {ds : List D} : Rep K G v d → Reps K G vs ds → Reps K G (v :: vs) (d :: ds)
inductive RepF (K : PySem.W.Frag) (G : Hp) : List (Str × V) → List (Str × D) → Prop
  | nil : RepF K G [] []
  | cons {f : Str} {v : V} {d : D} {fv : List (Str × V)} {fs : List (Str × D)} : Rep K G v d → RepF K G fv fs → RepF K G ((f, v) :: fv) ((f, d) :: fs)
inductive RepK (K : PySem.W.Frag) (G : Hp) : List (Key × V) → List (Key × D) → Prop
  | nil : RepK K G [] []
  | cons {k : Key} {v : V} {d : D} {kv : List (Key × V)} {kvs : List (Key × D)} : Rep K G v d → RepK K G kv kvs → RepK K G ((k, v) :: kv) ((k, d) :: kvs)
end

theorem rdM {H H' : Hp} {a : Addr} {u : HO} (e : Same H H') (h : Rd H a u) : Rd H' a u := by
  rcases h with h | ⟨o, h⟩
  · exact .inl (e _ _ h)
  · exact .inr ⟨o, e _ _ h⟩

mutual
theorem Rep.mono {K : PySem.W.Frag} {G G' : Hp} (e : Same G G') : ∀ {v : V} {d : D}, Rep K G v d → Rep K G' v d
  | _, _, .non => .non
  | _, _, .bl b => .bl b
  | _, _, .int i => .int i
  | _, _, .str x h => .str x h
  | _, _, .lst h r => .lst (rdM e h) (Reps.mono e r)
  | _, _, .tup h r => .tup (rdM e h) (Reps.mono e r)
  | _, _, .ins h r => .ins (e _ _ h) (RepF.mono e r)
  | _, _, .dic h r => .dic (e _ _ h) (RepK.mono e r)
theorem Reps.mono {K : PySem.W.Frag} {G G' : Hp} (e : Same G G') : ∀ {v : List V} {d : List D}, Reps K G v d → Reps K G' v d
  | _, _, .nil => .nil
  | _, _, .cons h r => .cons (Rep.mono e h) (Reps.mono e r)
theorem RepF.mono {K : PySem.W.Frag} {G G' : Hp} (e : Same G G') : ∀ {v : List (Str × V)} {d : List (Str × D)}, RepF K G v d → RepF K G' v d
  | _, _, .nil => .nil
  | _, _, .cons h r => .cons (Rep.mono e h) (RepF.mono e r)
theorem RepK.mono {K : PySem.W.Frag} {G G' : Hp} (e : Same G G') : ∀ {v : List (Key × V)} {d : List (Key × D)}, RepK K G v d → RepK K G' v d
  | _, _, .nil => .nil
  | _, _, .cons h r => .cons (Rep.mono e h) (RepK.mono e r)
end

theorem Reps.length {K : PySem.W.Frag} {G : Hp} : ∀ {vs : List V} {ds : List D}, Reps K G vs ds → vs.length = ds.length
  | _, _, .nil => rfl
  | _, _, .cons _ r => congrArg (· + 1) r.length
theorem Reps.append {K : PySem.W.Frag} {G : Hp} : ∀ {vs ws : List V} {ds es : List D}, Reps K G vs ds → Reps K G ws es → Reps K G (vs ++ ws) (ds ++ es)
  | _, _, _, _, .nil, r => r
  | _, _, _, _, .cons h r, q => .cons h (r.append q)
theorem Reps.get {K : PySem.W.Frag} {G : Hp} : ∀ {vs : List V} {ds : List D} {i : Nat} {d : D}, Reps K G vs ds → ds[i]? = some d → ∃ v, vs[i]? = some v ∧ Rep K G v d
  | _, _, _, _, .nil, e => by simp at e
  | _, _, 0, _, .cons h _, e => by
    simp at e
    subst e
    exact ⟨_, rfl, h⟩
  | _, _, i + 1, d, .cons _ r, e => by
    obtain ⟨v, h1, h2⟩ := Reps.get (i := i) (d := d) r (by simpa using e)
    exact ⟨v, by simpa using h1, h2⟩
theorem Reps.at {K : PySem.W.Frag} {G : Hp} : ∀ {vs : List V} {ds : List D} {i : Nat} {v : V}, Reps K G vs ds → vs[i]? = some v → ∃ d, ds[i]? = some d ∧ Rep K G v d
  | _, _, _, _, .nil, e => by simp at e
  | _, _, 0, _, .cons h _, e => by
    simp at e
    subst e
    exact ⟨_, rfl, h⟩
  | _, _, i + 1, d, .cons _ r, e => by
    obtain ⟨v, h1, h2⟩ := Reps.at (i := i) (v := d) r (by simpa using e)
    exact ⟨v, by simpa using h1, h2⟩
theorem Reps.take {K : PySem.W.Frag} {G : Hp} : ∀ {vs : List V} {ds : List D} (n : Nat), Reps K G vs ds → Reps K G (vs.take n) (ds.take n)
  | _, _, 0, _ => .nil
  | _, _, _ + 1, .nil => .nil
  | _, _, n + 1, .cons h r => .cons h (r.take n)
theorem Reps.drop {K : PySem.W.Frag} {G : Hp} : ∀ {vs : List V} {ds : List D} (n : Nat), Reps K G vs ds → Reps K G (vs.drop n) (ds.drop n)
  | _, _, 0, r => r
  | _, _, _ + 1, .nil => .nil
  | _, _, n + 1, .cons _ r => r.drop n
theorem Reps.set {K : PySem.W.Frag} {G : Hp} {v : V} {d : D} (q : Rep K G v d) : ∀ {vs : List V} {ds : List D} (n : Nat), Reps K G vs ds → Reps K G (vs.set n v) (ds.set n d)
  | _, _, _, .nil => .nil
  | _, _, 0, .cons _ r => .cons q r
  | _, _, n + 1, .cons h r => .cons h (r.set q n)
theorem RepF.look {K : PySem.W.Frag} {G : Hp} {f : Str} {d : D} : ∀ {fv : List (Str × V)} {fs : List (Str × D)}, RepF K G fv fs → fs.lookup f = some d → ∃ v, fv.lookup f = some v ∧ Rep K G v d
  | _, _, .nil, e => by simp at e
  | (g, v) :: fv, (_, x) :: fs, .cons h r, e => by
    by_cases c : f = g
    · subst c
      simp [List.lookup] at e
      subst e
      exact ⟨v, by simp [List.lookup], h⟩
    · have cb : (f == g) = false := by simpa using c
      simp only [List.lookup, cb] at e
      obtain ⟨w, h1, h2⟩ := RepF.look r e
      exact ⟨w, by simp only [List.lookup, cb]; exact h1, h2⟩
theorem RepF.lookN {K : PySem.W.Frag} {G : Hp} {f : Str} : ∀ {fv : List (Str × V)} {fs : List (Str × D)}, RepF K G fv fs → fs.lookup f = none → fv.lookup f = none
  | _, _, .nil, _ => rfl
  | (g, v) :: fv, (_, x) :: fs, .cons h r, e => by
    by_cases c : f = g
    · subst c
      simp [List.lookup] at e
    · have cb : (f == g) = false := by simpa using c
      simp only [List.lookup, cb] at e ⊢
      exact RepF.lookN r e

/-! ### symbolic values in a state -/
def SvOk (K : PySem.W.Frag) (G : Hp) (A : List Addr) (v : V) : SV → Prop
  | .dat d => Rep K G v d
  | .cel i => ∃ a, v = .ref a ∧ A[i]? = some a
  | .raw u => v = u
  | .exc dd fs a => v = .ref a ∧ ∃ fv, G dd = some (.xd fv) ∧ RepF K G fv fs
inductive Svs (K : PySem.W.Frag) (G : Hp) (A : List Addr) : List V → List SV → Prop
  | nil : Svs K G A [] []
  | cons {v : V} {vs : List V} {x : SV} {xs : List SV} : SvOk K G A v x → Svs K G A vs xs → Svs K G A (v :: vs) (x :: xs)
inductive Sl (K : PySem.W.Frag) (G : Hp) (A : List Addr) : List (Option V) → List (Option SV) → Prop
  | nil : Sl K G A [] []
  | skip {o : Option V} {σ : List (Option V)} {ss : List (Option SV)} : Sl K G A σ ss → Sl K G A (o :: σ) (none :: ss)
  | cons {v : V} {x : SV} {σ : List (Option V)} {ss : List (Option SV)} : SvOk K G A v x → Sl K G A σ ss → Sl K G A (some v :: σ) (some x :: ss)
/-- the world grows -/
def Ext (G : Hp) (A : List Addr) (G' : Hp) (A' : List Addr) : Prop := Same G G' ∧ ∃ more, A' = A ++ more
theorem Ext.refl {G : Hp} {A : List Addr} : Ext G A G A := ⟨fun _ _ e => e, [], by simp⟩
theorem Ext.trans {G G1 G2 : Hp} {A A1 A2 : List Addr} (a : Ext G A G1 A1) (b : Ext G1 A1 G2 A2) : Ext G A G2 A2 := by
  obtain ⟨s1, m1, rfl⟩ := a
  obtain ⟨s2, m2, rfl⟩ := b
  exact ⟨s1.trans s2, m1 ++ m2, by simp⟩
theorem pre_get {A A' : List Addr} {i : Nat} {a : Addr} (p : ∃ more, A' = A ++ more) (h : A[i]? = some a) : A'[i]? = some a := by
  obtain ⟨more, rfl⟩ := p
  have := (List.getElem?_eq_some_iff.mp h).1
  rw [List.getElem?_append_left this]
  exact h
theorem SvOk.mono {K : PySem.W.Frag} {G G' : Hp} {A A' : List Addr} (e : Ext G A G' A') {v : V} : ∀ {x : SV}, SvOk K G A v x → SvOk K G' A' v x
  | .dat _, h => Rep.mono e.1 h
  | .cel _, ⟨a, h1, h2⟩ => ⟨a, h1, pre_get e.2 h2⟩
  | .raw _, h => h
  | .exc _ _ _, ⟨h1, fv, h2, h3⟩ => ⟨h1, fv, e.1 _ _ h2, RepF.mono e.1 h3⟩
theorem Svs.mono {K : PySem.W.Frag} {G G' : Hp} {A A' : List Addr} (e : Ext G A G' A') : ∀ {v : List V} {x : List SV}, Svs K G A v x → Svs K G' A' v x
  | _, _, .nil => .nil
  | _, _, .cons h r => .cons (h.mono e) (r.mono e)
theorem Sl.mono {K : PySem.W.Frag} {G G' : Hp} {A A' : List Addr} (e : Ext G A G' A') : ∀ {v : List (Option V)} {x : List (Option SV)}, Sl K G A v x → Sl K G' A' v x
  | _, _, .nil => .nil
  | _, _, .skip r => .skip (r.mono e)
  | _, _, .cons h r => .cons (h.mono e) (r.mono e)
theorem Svs.length {K : PySem.W.Frag} {G : Hp} {A : List Addr} : ∀ {vs : List V} {xs : List SV}, Svs K G A vs xs → vs.length = xs.length
  | _, _, .nil => rfl
  | _, _, .cons _ r => congrArg (· + 1) r.length
theorem Sl.get {K : PySem.W.Frag} {G : Hp} {A : List Addr} : ∀ {σ : List (Option V)} {ss : List (Option SV)} {i : Nat} {x : SV}, Sl K G A σ ss → ss[i]? = some (some x) → ∃ v, σ[i]? = some (some v) ∧ SvOk K G A v x
  | _, _, _, _, .nil, e => by simp at e
  | _, _, 0, _, .skip _, e => by simp at e
  | _, _, 0, _, .cons h _, e => by
    simp at e
    subst e
    exact ⟨_, rfl, h⟩
  | _, _, i + 1, x, .skip r, e => by
    obtain ⟨v, h1, h2⟩ := Sl.get (i := i) (x := x) r (by simpa using e)
    exact ⟨v, by simpa using h1, h2⟩
  | _, _, i + 1, x, .cons _ r, e => by
    obtain ⟨v, h1, h2⟩ := Sl.get (i := i) (x := x) r (by simpa using e)
    exact ⟨v, by simpa using h1, h2⟩
theorem Sl.set {K : PySem.W.Frag} {G : Hp} {A : List Addr} {v : V} {x : SV} (q : SvOk K G A v x) : ∀ {σ : List (Option V)} {ss : List (Option SV)} (i : Nat), Sl K G A σ ss → Sl K G A (σ.set i (some v)) (ss.set i (some x))
  | _, _, _, .nil => .nil
  | _, _, 0, .skip r => .cons q r
  | _, _, 0, .cons _ r => .cons q r
  | _, _, i + 1, .skip r => .skip (r.set q i)
  | _, _, i + 1, .cons h r => .cons h (r.set q i)
theorem Sl.setN {K : PySem.W.Frag} {G : Hp} {A : List Addr} {o : Option V} : ∀ {σ : List (Option V)} {ss : List (Option SV)} (i : Nat), Sl K G A σ ss → Sl K G A (σ.set i o) (ss.set i none)
  | _, _, _, .nil => .nil
  | _, _, 0, .skip r => .skip r
  | _, _, 0, .cons _ r => .skip r
  | _, _, i + 1, .skip r => .skip (r.setN i)
  | _, _, i + 1, .cons h r => .cons h (r.setN i)
/-- slots forgotten -/
inductive Fgt : List (Option SV) → List (Option SV) → Prop
  | nil : Fgt [] []
  | keep {o : Option SV} {ss ss' : List (Option SV)} : Fgt ss ss' → Fgt (o :: ss) (o :: ss')
  | drop {o : Option SV} {ss ss' : List (Option SV)} : Fgt ss ss' → Fgt (o :: ss) (none :: ss')
theorem Sl.fgt {K : PySem.W.Frag} {G : Hp} {A : List Addr} : ∀ {σ : List (Option V)} {ss ss' : List (Option SV)}, Sl K G A σ ss → Fgt ss ss' → Sl K G A σ ss'
  | _, _, _, .nil, .nil => .nil
  | _, _, _, .skip r, .keep f => .skip (r.fgt f)
  | _, _, _, .skip r, .drop f => .skip (r.fgt f)
  | _, _, _, .cons h r, .keep f => .cons h (r.fgt f)
  | _, _, _, .cons _ r, .drop f => .skip (r.fgt f)
theorem Fgt.refl : ∀ (ss : List (Option SV)), Fgt ss ss
  | [] => .nil
  | _ :: r => .keep (Fgt.refl r)

/-! ### the world: what stands since the entry, the frozen part G, the cells -/
inductive FldsOk (K : PySem.W.Frag) (G : Hp) (A : List Addr) : List (Str × V) → List (Str × SV) → Prop
  | nil : FldsOk K G A [] []
  | cons {f : Str} {v : V} {x : SV} {fv : List (Str × V)} {fs : List (Str × SV)} : SvOk K G A v x → FldsOk K G A fv fs → FldsOk K G A ((f, v) :: fv) ((f, x) :: fs)
theorem FldsOk.mono {K : PySem.W.Frag} {G G' : Hp} {A A' : List Addr} (e : Ext G A G' A') : ∀ {v : List (Str × V)} {x : List (Str × SV)}, FldsOk K G A v x → FldsOk K G' A' v x
  | _, _, .nil => .nil
  | _, _, .cons h r => .cons (h.mono e) (r.mono e)
def CellOk (K : PySem.W.Frag) (G : Hp) (A : List Addr) (H : Hp) (a : Addr) : Cell → Prop
  | .dead => True
  | .lst ds => G a = none ∧ ∃ vs, H a = some (.lst vs) ∧ Reps K G vs ds
  | .dic kvs => G a = none ∧ ∃ kv, H a = some (.dK kv) ∧ RepK K G kv kvs
  | .ins C fs => G a = none ∧ ∃ dx fv, H a = some (.ins C dx fv) ∧ FldsOk K G A fv fs
inductive Cells (K : PySem.W.Frag) (G : Hp) (A : List Addr) (H : Hp) : List Addr → List Cell → Prop
  | nil : Cells K G A H [] []
  | cons {a : Addr} {as : List Addr} {c : Cell} {cs : List Cell} : CellOk K G A H a c → Cells K G A H as cs → Cells K G A H (a :: as) (c :: cs)
structure Base where
  G : Hp
  A : List Addr
  H : Hp
structure Wd (K : PySem.W.Frag) (B : Base) (G : Hp) (A : List Addr) (M : List Cell) (H : Hp) : Prop where
  gg : Same B.G G
  gh : Same G H
  fr : ∀ b o, B.H b = some o → b ∉ B.A → H b = some o
  fresh : ∀ b o, G b = some o → B.G b = some o ∨ B.H b = none
  nd : A.Nodup
  pre : ∃ more, A = B.A ++ more
  there : ∀ b ∈ A, ∃ o, H b = some o
  an : ∀ b ∈ A, b ∈ B.A ∨ B.H b = none
  cl : Cells K G A H A M
theorem Cells.length {K : PySem.W.Frag} {G : Hp} {A : List Addr} {H : Hp} : ∀ {as : List Addr} {cs : List Cell}, Cells K G A H as cs → as.length = cs.length
  | _, _, .nil => rfl
  | _, _, .cons _ r => congrArg (· + 1) r.length
theorem Cells.get {K : PySem.W.Frag} {G : Hp} {A : List Addr} {H : Hp} : ∀ {as : List Addr} {cs : List Cell} {i : Nat} {a : Addr} {c : Cell}, Cells K G A H as cs → as[i]? = some a → cs[i]? = some c → CellOk K G A H a c
  | _, _, _, _, _, .nil, e, _ => by simp at e
  | _, _, 0, _, _, .cons h _, e, e' => by
    simp at e e'
    subst e; subst e'
    exact h
  | _, _, i + 1, a, c, .cons _ r, e, e' => Cells.get (i := i) r (by simpa using e) (by simpa using e')
theorem Cells.imp {K : PySem.W.Frag} {G G' : Hp} {A A' : List Addr} {H H' : Hp} : ∀ {as : List Addr} {cs : List Cell}, Cells K G A H as cs → (∀ a c, a ∈ as → CellOk K G A H a c → CellOk K G' A' H' a c) → Cells K G' A' H' as cs
  | _, _, .nil, _ => .nil
  | _, _, .cons h r, f => .cons (f _ _ List.mem_cons_self h) (r.imp fun a c m => f a c (List.mem_cons_of_mem _ m))
theorem Cells.append {K : PySem.W.Frag} {G : Hp} {A : List Addr} {H : Hp} : ∀ {as bs : List Addr} {cs ds : List Cell}, Cells K G A H as cs → Cells K G A H bs ds → Cells K G A H (as ++ bs) (cs ++ ds)
  | _, _, _, _, .nil, r => r
  | _, _, _, _, .cons h r, q => .cons h (r.append q)
theorem Cells.take {K : PySem.W.Frag} {G : Hp} {A : List Addr} {H : Hp} : ∀ {as : List Addr} {cs : List Cell} (n : Nat), Cells K G A H as cs → Cells K G A H (as.take n) (cs.take n)
  | _, _, 0, _ => .nil
  | _, _, _ + 1, .nil => .nil
  | _, _, n + 1, .cons h r => .cons h (r.take n)
theorem Cells.drop {K : PySem.W.Frag} {G : Hp} {A : List Addr} {H : Hp} : ∀ {as : List Addr} {cs : List Cell} (n : Nat), Cells K G A H as cs → Cells K G A H (as.drop n) (cs.drop n)
  | _, _, 0, r => r
  | _, _, _ + 1, .nil => .nil
  | _, _, n + 1, .cons _ r => r.drop n
/-- what stands at a live cell's address -/
theorem CellOk.keep {K : PySem.W.Frag} {G G' : Hp} {A A' : List Addr} {H H' : Hp} {a : Addr} {c : Cell} (e : Ext G A G' A') (hg : G a = none → G' a = none) (hh : ∀ o, H a = some o → H' a = some o) (h : CellOk K G A H a c) : CellOk K G' A' H' a c := by
  cases c with
  | dead => trivial
  | lst ds =>
    obtain ⟨g, vs, h1, r⟩ := h
    exact ⟨hg g, vs, hh _ h1, r.mono e.1⟩
  | dic kvs =>
    obtain ⟨g, vs, h1, r⟩ := h
    exact ⟨hg g, vs, hh _ h1, r.mono e.1⟩
  | ins C fs =>
    obtain ⟨g, dx, fv, h1, r⟩ := h
    exact ⟨hg g, dx, fv, hh _ h1, r.mono e⟩
section
variable {K : PySem.W.Frag} {B : Base} {G : Hp} {A : List Addr} {M : List Cell} {H : Hp}
theorem Wd.start {G : Hp} {A : List Addr} (gh : Same G H) (nd : A.Nodup) (th : ∀ b ∈ A, ∃ o, H b = some o) (cl : Cells K G A H A M) : Wd K ⟨G, A, H⟩ G A M H :=
  ⟨fun _ _ e => e, gh, fun _ _ e _ => e, fun _ _ e => .inl e, nd, ⟨[], by simp⟩, th, fun _ m => .inl m, cl⟩
theorem Wd.len (w : Wd K B G A M H) : A.length = M.length := w.cl.length
/-- what is new now was not there at the entry -/
theorem Wd.none (w : Wd K B G A M H) {p : Addr} (hp : H p = none) : B.H p = none ∧ p ∉ A ∧ G p = none := by
  have hA : p ∉ A := fun m => by
    obtain ⟨o, e⟩ := w.there p m
    rw [hp] at e; cases e
  refine ⟨?_, hA, ?_⟩
  · cases e : B.H p with
    | none => rfl
    | some o =>
      have hb : p ∉ B.A := fun m => by
        obtain ⟨more, e⟩ := w.pre
        exact hA (by rw [e]; exact List.mem_append_left _ m)
      rw [w.fr p o e hb] at hp; cases hp
  · cases e : G p with
    | none => rfl
    | some o => rw [w.gh p o e] at hp; cases hp
theorem same_upd {G : Hp} {p : Addr} {o : HO} (h : G p = Option.none) : Same G (upd G p o) := fun b u e => by
  rw [upd_ne (fun z => by subst z; rw [h] at e; cases e)]; exact e
/-- a new object, frozen at once -/
theorem Wd.newD (w : Wd K B G A M H) {p : Addr} {o : HO} (hp : H p = Option.none) : Wd K B (upd G p o) A M (upd H p o) ∧ Ext G A (upd G p o) A := by
  obtain ⟨hb, hA, hg⟩ := w.none hp
  have s1 := same_upd (o := o) hg
  have s2 := same_upd (o := o) hp
  have ex : Ext G A (upd G p o) A := ⟨s1, [], by simp⟩
  refine ⟨⟨w.gg.trans s1, ?_, fun b u e n => s2 _ _ (w.fr b u e n), ?_, w.nd, w.pre, ?_, w.an, ?_⟩, ex⟩
  · intro b u e
    by_cases c : b = p
    · subst c; rw [upd_same] at e ⊢; exact e
    · rw [upd_ne c] at e ⊢; exact w.gh b u e
  · intro b u e
    by_cases c : b = p
    · subst c; exact .inr hb
    · rw [upd_ne c] at e; exact w.fresh b u e
  · intro b m
    obtain ⟨u, e⟩ := w.there b m
    exact ⟨u, s2 _ _ e⟩
  · refine w.cl.imp fun a c m h => h.keep ex (fun g => ?_) (fun u e => s2 _ _ e)
    rw [upd_ne (show a ≠ p from fun z => hA (z ▸ m))]; exact g
/-- the heap grows beside -/
theorem Wd.grow (w : Wd K B G A M H) {p : Addr} {o : HO} (hp : H p = Option.none) : Wd K B G A M (upd H p o) := by
  have s2 := same_upd (o := o) hp
  refine ⟨w.gg, w.gh.trans s2, fun b u e n => s2 _ _ (w.fr b u e n), w.fresh, w.nd, w.pre, fun b m => ?_, w.an, w.cl.imp fun a c m h => h.keep .refl (fun g => g) fun u e => s2 _ _ e⟩
  obtain ⟨u, e⟩ := w.there b m
  exact ⟨u, s2 _ _ e⟩
/-- a new object, a cell of ours -/
theorem Wd.newC (w : Wd K B G A M H) {p : Addr} {o : HO} {c : Cell} (hp : H p = Option.none) (hc : CellOk K G (A ++ [p]) (upd H p o) p c) : Wd K B G (A ++ [p]) (M ++ [c]) (upd H p o) ∧ Ext G A G (A ++ [p]) := by
  obtain ⟨hb, hA, hg⟩ := w.none hp
  have w2 := w.grow (o := o) hp
  have ex : Ext G A G (A ++ [p]) := ⟨fun _ _ e => e, [p], rfl⟩
  refine ⟨⟨w2.gg, w2.gh, w2.fr, w2.fresh, ?_, ?_, ?_, ?_, ?_⟩, ex⟩
  · refine List.nodup_append.mpr ⟨w.nd, by simp, ?_⟩
    intro a ha b hb'
    rw [List.mem_singleton] at hb'
    subst hb'
    exact fun z => hA (z ▸ ha)
  · obtain ⟨more, e⟩ := w.pre
    exact ⟨more ++ [p], by rw [e]; simp⟩
  · intro b m
    rcases List.mem_append.mp m with m | m
    · exact w2.there b m
    · rw [List.mem_singleton] at m; subst m; exact ⟨o, upd_same⟩
  · intro b m
    rcases List.mem_append.mp m with m | m
    · exact w.an b m
    · rw [List.mem_singleton] at m; subst m; exact .inr hb
  · exact (w2.cl.imp fun a c m h => h.keep ex (fun g => g) fun u e => e).append (.cons hc .nil)
theorem Cells.put {K : PySem.W.Frag} {G : Hp} {A : List Addr} {H : Hp} {p : Addr} {o : HO} {c' : Cell} (hc : CellOk K G A (upd H p o) p c') : ∀ {as : List Addr} {cs : List Cell} {i : Nat}, as.Nodup → Cells K G A H as cs → as[i]? = some p → Cells K G A (upd H p o) as (cs.set i c')
  | _, _, _, _, .nil, e => by simp at e
  | a :: as, c :: cs, 0, nd, .cons h r, e => by
    simp at e
    subst e
    refine .cons hc (r.imp fun b u m h => h.keep .refl (fun g => g) fun v e => ?_)
    rw [upd_ne (show b ≠ a from fun z => (List.nodup_cons.mp nd).1 (z ▸ m))]; exact e
  | a :: as, c :: cs, i + 1, nd, .cons h r, e => by
    have e' : as[i]? = some p := by simpa using e
    have hp : p ∈ as := List.mem_of_getElem? e'
    refine .cons (h.keep .refl (fun g => g) fun v e => ?_) (Cells.put hc (List.nodup_cons.mp nd).2 r e')
    rw [upd_ne (show a ≠ p from fun z => (List.nodup_cons.mp nd).1 (z ▸ hp))]; exact e
/-- a cell is written -/
theorem Wd.setC (w : Wd K B G A M H) {p : Addr} {o : HO} {i : Nat} {c' : Cell} (hi : A[i]? = some p) (hg : G p = Option.none) (hc : CellOk K G A (upd H p o) p c') : Wd K B G A (M.set i c') (upd H p o) := by
  have hp : p ∈ A := List.mem_of_getElem? hi
  refine ⟨w.gg, fun b u e => ?_, fun b u e n => ?_, w.fresh, w.nd, w.pre, fun b m => ?_, w.an, Cells.put hc w.nd w.cl hi⟩
  · rw [upd_ne (fun z => by subst z; rw [hg] at e; cases e)]; exact w.gh b u e
  · rw [upd_ne (fun z => ?_)]
    · exact w.fr b u e n
    · subst z
      rcases w.an b hp with q | q
      · exact n q
      · rw [q] at e; cases e
  · by_cases c : b = p
    · subst c; exact ⟨o, upd_same⟩
    · rw [upd_ne c]; exact w.there b m
/-- it names no cell from the k-th on -/
def SV.lt (k : Nat) : SV → Bool
  | .cel j => decide (j < k)
  | _ => true
def Cell.lt (k : Nat) : Cell → Bool
  | .ins _ fs => fs.all fun p => p.2.lt k
  | _ => true
theorem SvOk.cut {v : V} {x : SV} {k : Nat} (hx : x.lt k = true) (h : SvOk K G A v x) : SvOk K G (A.take k) v x := by
  cases x with
  | dat d => exact h
  | raw u => exact h
  | exc u v w => exact h
  | cel j =>
    obtain ⟨a, h1, h2⟩ := h
    have hj : j < k := of_decide_eq_true hx
    exact ⟨a, h1, by rw [List.getElem?_take, if_pos hj]; exact h2⟩
theorem Svs.cut {k : Nat} : ∀ {vs : List V} {xs : List SV}, xs.all (SV.lt k) = true → Svs K G A vs xs → Svs K G (A.take k) vs xs
  | _, _, _, .nil => .nil
  | _, _, hx, .cons h r => by
    rw [List.all_cons, Bool.and_eq_true] at hx
    exact .cons (h.cut hx.1) (r.cut hx.2)
theorem FldsOk.cut {k : Nat} : ∀ {fv : List (Str × V)} {fs : List (Str × SV)}, (fs.all fun p => p.2.lt k) = true → FldsOk K G A fv fs → FldsOk K G (A.take k) fv fs
  | _, _, _, .nil => .nil
  | _, _, hx, .cons h r => by
    rw [List.all_cons, Bool.and_eq_true] at hx
    exact .cons (h.cut hx.1) (r.cut hx.2)
theorem CellOk.cut {a : Addr} {c : Cell} {k : Nat} (hc : c.lt k = true) (h : CellOk K G A H a c) : CellOk K G (A.take k) H a c := by
  cases c with
  | dead => trivial
  | lst ds => exact h
  | dic ds => exact h
  | ins C fs =>
    obtain ⟨g, dx, fv, h1, r⟩ := h
    exact ⟨g, dx, fv, h1, r.cut hc⟩
theorem Cells.cut {k : Nat} : ∀ {as : List Addr} {cs : List Cell}, cs.all (Cell.lt k) = true → Cells K G A H as cs → Cells K G (A.take k) H as cs
  | _, _, _, .nil => .nil
  | _, _, hx, .cons h r => by
    rw [List.all_cons, Bool.and_eq_true] at hx
    exact .cons (h.cut hx.1) (r.cut hx.2)
/-- the last cells are forgotten -/
theorem Wd.drop (w : Wd K B G A M H) (k : Nat) (hk : B.A.length ≤ k) (hM : (M.take k).all (Cell.lt k) = true) : Wd K B G (A.take k) (M.take k) H := by
  refine ⟨w.gg, w.gh, w.fr, w.fresh, ?_, ?_, fun b m => w.there b (List.mem_of_mem_take m), fun b m => w.an b (List.mem_of_mem_take m), (w.cl.take k).cut hM⟩
  · exact w.nd.sublist (List.take_sublist k A)
  · obtain ⟨more, e⟩ := w.pre
    exact ⟨more.take (k - B.A.length), by rw [e, List.take_append, List.take_of_length_le hk]⟩
end
end Mb

/-! Mb, part 1: the judgements. -/
namespace Mb
open PySem L2

abbrev Sst := List (Option SV)
abbrev Mem := List Cell
/-- what is wished of an exception: its class, its fields, the slots, the cells -/
abbrev XD := Addr → List (Str × D) → Sst → Mem → Prop

/-! ### the weakest readings -/
def teW (X : Cx) (e : Expr) : TE := fun σ H Q => ∀ pins s, Inv X pins σ H s → wpAny (model X.prog X.w) X.A (eval e X.env) (EP X pins σ Q) X.xe s
def ttW (X : Cx) (e : Expr) : TT := fun σ H Q => ∀ pins s, Inv X pins σ H s → wpAny (model X.prog X.w) X.A (isTrue e X.env (eval e X.env)) (TP X pins σ Q) X.xe s
def twW (X : Cx) (e : Expr) : TT := fun σ H Q => ∀ (whole : Sem Value) pins s, Inv X pins σ H s → wpAny (model X.prog X.w) X.A (isTrue e X.env whole) (TP X pins σ Q) X.xe s
def taW (X : Cx) (es : List Expr) : TA := fun σ H Q => ∀ pos pins s, Inv X pins σ H s → wpAny (model X.prog X.w) X.A (spliced (backTo pos (starEach es X.env))) (AP X pins σ Q) X.xe s
def tsW (X : Cx) (st : Stmt) : TS := fun N σ H => ∀ pins s, Inv X pins σ H s → wpAny (model X.prog X.w) X.A (exec st X.env) (SP X pins N) X.xe s
def tbW (X : Cx) (st : List Stmt) : TS := fun N σ H => ∀ pins s, Inv X pins σ H s → wpAny (model X.prog X.w) X.A (execs st X.env) (SP X pins N) X.xe s
def tgW (X : Cx) (tg : Expr) : TG := fun v σ H Q => ∀ pins s u, Inv X pins σ H s → RelV v u → wpAny (model X.prog X.w) X.A (assign tg X.env u) (fun _ s' => ∃ σ' H', Inv X pins σ' H' s' ∧ Q σ' H') X.xe s
section
variable {X : Cx} {e : Expr} {es : List Expr} {st : Stmt} {sts : List Stmt} {σ : St} {H : Hp}
theorem pe_self : PE X e (teW X e) := ⟨fun pins s _ _ _ I h => h pins s I⟩
theorem pt_self : PT X e (ttW X e) := ⟨fun pins s _ _ _ I h => h pins s I⟩
theorem pw_self : PW X e (twW X e) := ⟨fun w pins s _ _ _ I h => h w pins s I⟩
theorem pa_self : PA X es (taW X es) := ⟨fun p pins s _ _ _ I h => h p pins s I⟩
theorem ps_self : PS X st (tsW X st) := ⟨fun pins s _ _ _ I h => h pins s I⟩
theorem pb_self : PSs X sts (tbW X sts) := ⟨fun pins s _ _ _ I h => h pins s I⟩
theorem pg_self : PG X e (tgW X e) := ⟨fun pins s _ _ _ u _ I r h => h pins s u I r⟩
theorem te_of {t : TE} {Q : VK} (h : PE X e t) (q : t σ H Q) : teW X e σ H Q := fun pins s I => h.run pins s σ H Q I q
theorem tt_of {t : TT} {Q : Bool → Hp → Prop} (h : PT X e t) (q : t σ H Q) : ttW X e σ H Q := fun pins s I => h.run pins s σ H Q I q
theorem tw_of {t : TT} {Q : Bool → Hp → Prop} (h : PW X e t) (q : t σ H Q) : twW X e σ H Q := fun w pins s I => h.run w pins s σ H Q I q
theorem ta_of {t : TA} {Q : List V → Hp → Prop} (h : PA X es t) (q : t σ H Q) : taW X es σ H Q := fun p pins s I => h.run p pins s σ H Q I q
theorem ts_of {t : TS} {N : Ends} (h : PS X st t) (q : t N σ H) : tsW X st N σ H := fun pins s I => h.run pins s σ H N I q
theorem tb_of {t : TS} {N : Ends} (h : PSs X sts t) (q : t N σ H) : tbW X sts N σ H := fun pins s I => h.run pins s σ H N I q
theorem tg_of {t : TG} {v : V} {Q : St → Hp → Prop} (h : PG X e t) (q : t v σ H Q) : tgW X e v σ H Q := fun pins s u I r => h.run pins s σ H v u Q I r q
end

/-! ### exceptions -/
def XdOk (K : PySem.W.Frag) (G : Hp) (d : Option Addr) (fs : List (Str × D)) : Prop := (d = none ∧ fs = []) ∨ ∃ dd fv, d = some dd ∧ G dd = some (.xd fv) ∧ RepF K G fv fs
def XW (K : PySem.W.Frag) (B : Base) (ex : XD) : WX := fun cls d σ H => ∃ C fs ss G A M, cls = .ref C ∧ XdOk K G d fs ∧ Wd K B G A M H ∧ Sl K G A σ ss ∧ ex C fs ss M
structure Cok (X : Cx) (B : Base) (ex : XD) : Prop where
  tk : Takes X (XW X.K B ex)
  ps : PassesOwn (model X.prog X.w) X.A X.env X.xe

/-! ### the judgements -/
/-- what is wanted behind a statement -/
structure Nd where
  nx : Sst → Mem → Prop
  rt : SV → Mem → Prop
  bk : Sst → Mem → Prop := fun _ _ => False
  ct : Sst → Mem → Prop := fun _ _ => False
structure NdOk (K : PySem.W.Frag) (B : Base) (G : Hp) (N : Nd) (E : Ends) : Prop where
  nx : ∀ σ ss G' A M H, Same G G' → Wd K B G' A M H → Sl K G' A σ ss → N.nx ss M → E.nx σ H
  rt : ∀ v x G' A M H, Same G G' → Wd K B G' A M H → SvOk K G' A v x → N.rt x M → E.rt v H
  bk : ∀ σ ss G' A M H, Same G G' → Wd K B G' A M H → Sl K G' A σ ss → N.bk ss M → E.bk σ H
  ct : ∀ σ ss G' A M H, Same G G' → Wd K B G' A M H → Sl K G' A σ ss → N.ct ss M → E.ct σ H
theorem NdOk.mono {K : PySem.W.Frag} {B : Base} {G G1 : Hp} {N : Nd} {E : Ends} (k : NdOk K B G N E) (e : Same G G1) : NdOk K B G1 N E :=
  ⟨fun σ ss G' A M H s => k.nx σ ss G' A M H (e.trans s), fun v x G' A M H s => k.rt v x G' A M H (e.trans s), fun σ ss G' A M H s => k.bk σ ss G' A M H (e.trans s), fun σ ss G' A M H s => k.ct σ ss G' A M H (e.trans s)⟩
def VPost (K : PySem.W.Frag) (B : Base) (G : Hp) (A : List Addr) (Q : SV → Mem → Prop) (Kq : VK) : Prop :=
  ∀ v x G' A' M' H', Ext G A G' A' → Wd K B G' A' M' H' → SvOk K G' A' v x → Q x M' → Kq v H'
def WE0 (X : Cx) (B : Base) (ex : XD) (e : Expr) (Q : SV → Mem → Prop) (ss : Sst) (M : Mem) : Prop :=
  Cok X B ex → ∀ G A H σ, Wd X.K B G A M H → Sl X.K G A σ ss → ∀ Kq : VK, VPost X.K B G A Q Kq → teW X e σ H Kq
structure WE (X : Cx) (B : Base) (ex : XD) (e : Expr) (Q : SV → Mem → Prop) (ss : Sst) (M : Mem) : Prop where
  run : WE0 X B ex e Q ss M
instance {X : Cx} {B : Base} {ex : XD} {e : Expr} {Q : SV → Mem → Prop} {ss : Sst} {M : Mem} : CoeFun (WE X B ex e Q ss M) fun _ => Cok X B ex → ∀ G A H σ, Wd X.K B G A M H → Sl X.K G A σ ss → ∀ Kq : VK, VPost X.K B G A Q Kq → teW X e σ H Kq := ⟨WE.run⟩
def BPost (K : PySem.W.Frag) (B : Base) (G : Hp) (A : List Addr) (Q : Bool → Mem → Prop) (Kq : Bool → Hp → Prop) : Prop :=
  ∀ b G' A' M' H', Ext G A G' A' → Wd K B G' A' M' H' → Q b M' → Kq b H'
def WT0 (X : Cx) (B : Base) (ex : XD) (e : Expr) (Q : Bool → Mem → Prop) (ss : Sst) (M : Mem) : Prop :=
  Cok X B ex → ∀ G A H σ, Wd X.K B G A M H → Sl X.K G A σ ss → ∀ Kq, BPost X.K B G A Q Kq → ttW X e σ H Kq
structure WT (X : Cx) (B : Base) (ex : XD) (e : Expr) (Q : Bool → Mem → Prop) (ss : Sst) (M : Mem) : Prop where
  run : WT0 X B ex e Q ss M
instance {X : Cx} {B : Base} {ex : XD} {e : Expr} {Q : Bool → Mem → Prop} {ss : Sst} {M : Mem} : CoeFun (WT X B ex e Q ss M) fun _ => Cok X B ex → ∀ G A H σ, Wd X.K B G A M H → Sl X.K G A σ ss → ∀ Kq, BPost X.K B G A Q Kq → ttW X e σ H Kq := ⟨WT.run⟩
def WW0 (X : Cx) (B : Base) (ex : XD) (e : Expr) (Q : Bool → Mem → Prop) (ss : Sst) (M : Mem) : Prop :=
  Cok X B ex → ∀ G A H σ, Wd X.K B G A M H → Sl X.K G A σ ss → ∀ Kq, BPost X.K B G A Q Kq → twW X e σ H Kq
structure WW (X : Cx) (B : Base) (ex : XD) (e : Expr) (Q : Bool → Mem → Prop) (ss : Sst) (M : Mem) : Prop where
  run : WW0 X B ex e Q ss M
instance {X : Cx} {B : Base} {ex : XD} {e : Expr} {Q : Bool → Mem → Prop} {ss : Sst} {M : Mem} : CoeFun (WW X B ex e Q ss M) fun _ => Cok X B ex → ∀ G A H σ, Wd X.K B G A M H → Sl X.K G A σ ss → ∀ Kq, BPost X.K B G A Q Kq → twW X e σ H Kq := ⟨WW.run⟩
def APost (K : PySem.W.Frag) (B : Base) (G : Hp) (A : List Addr) (Q : List SV → Mem → Prop) (Kq : List V → Hp → Prop) : Prop :=
  ∀ vs xs G' A' M' H', Ext G A G' A' → Wd K B G' A' M' H' → Svs K G' A' vs xs → Q xs M' → Kq vs H'
def WA0 (X : Cx) (B : Base) (ex : XD) (es : List Expr) (Q : List SV → Mem → Prop) (ss : Sst) (M : Mem) : Prop :=
  Cok X B ex → ∀ G A H σ, Wd X.K B G A M H → Sl X.K G A σ ss → ∀ Kq, APost X.K B G A Q Kq → taW X es σ H Kq
structure WA (X : Cx) (B : Base) (ex : XD) (es : List Expr) (Q : List SV → Mem → Prop) (ss : Sst) (M : Mem) : Prop where
  run : WA0 X B ex es Q ss M
instance {X : Cx} {B : Base} {ex : XD} {es : List Expr} {Q : List SV → Mem → Prop} {ss : Sst} {M : Mem} : CoeFun (WA X B ex es Q ss M) fun _ => Cok X B ex → ∀ G A H σ, Wd X.K B G A M H → Sl X.K G A σ ss → ∀ Kq, APost X.K B G A Q Kq → taW X es σ H Kq := ⟨WA.run⟩
def WS0 (X : Cx) (B : Base) (ex : XD) (st : Stmt) (N : Nd) (ss : Sst) (M : Mem) : Prop :=
  Cok X B ex → ∀ G A H σ, Wd X.K B G A M H → Sl X.K G A σ ss → ∀ E, NdOk X.K B G N E → tsW X st E σ H
structure WS (X : Cx) (B : Base) (ex : XD) (st : Stmt) (N : Nd) (ss : Sst) (M : Mem) : Prop where
  run : WS0 X B ex st N ss M
instance {X : Cx} {B : Base} {ex : XD} {st : Stmt} {N : Nd} {ss : Sst} {M : Mem} : CoeFun (WS X B ex st N ss M) fun _ => Cok X B ex → ∀ G A H σ, Wd X.K B G A M H → Sl X.K G A σ ss → ∀ E, NdOk X.K B G N E → tsW X st E σ H := ⟨WS.run⟩
def WB0 (X : Cx) (B : Base) (ex : XD) (st : List Stmt) (N : Nd) (ss : Sst) (M : Mem) : Prop :=
  Cok X B ex → ∀ G A H σ, Wd X.K B G A M H → Sl X.K G A σ ss → ∀ E, NdOk X.K B G N E → tbW X st E σ H
structure WB (X : Cx) (B : Base) (ex : XD) (st : List Stmt) (N : Nd) (ss : Sst) (M : Mem) : Prop where
  run : WB0 X B ex st N ss M
instance {X : Cx} {B : Base} {ex : XD} {st : List Stmt} {N : Nd} {ss : Sst} {M : Mem} : CoeFun (WB X B ex st N ss M) fun _ => Cok X B ex → ∀ G A H σ, Wd X.K B G A M H → Sl X.K G A σ ss → ∀ E, NdOk X.K B G N E → tbW X st E σ H := ⟨WB.run⟩
def WG0 (X : Cx) (B : Base) (ex : XD) (tg : Expr) (x : SV) (Q : Sst → Mem → Prop) (ss : Sst) (M : Mem) : Prop :=
  Cok X B ex → ∀ G A H σ v, Wd X.K B G A M H → Sl X.K G A σ ss → SvOk X.K G A v x → ∀ Kq : St → Hp → Prop, (∀ σ' ss' G' A' M' H', Same G G' → Wd X.K B G' A' M' H' → Sl X.K G' A' σ' ss' → Q ss' M' → Kq σ' H') → tgW X tg v σ H Kq
structure WG (X : Cx) (B : Base) (ex : XD) (tg : Expr) (x : SV) (Q : Sst → Mem → Prop) (ss : Sst) (M : Mem) : Prop where
  run : WG0 X B ex tg x Q ss M
instance {X : Cx} {B : Base} {ex : XD} {tg : Expr} {x : SV} {Q : Sst → Mem → Prop} {ss : Sst} {M : Mem} : CoeFun (WG X B ex tg x Q ss M) fun _ => Cok X B ex → ∀ G A H σ v, Wd X.K B G A M H → Sl X.K G A σ ss → SvOk X.K G A v x → ∀ Kq : St → Hp → Prop, (∀ σ' ss' G' A' M' H', Same G G' → Wd X.K B G' A' M' H' → Sl X.K G' A' σ' ss' → Q ss' M' → Kq σ' H') → tgW X tg v σ H Kq := ⟨WG.run⟩

/-! ### values looked through -/
def SV.get (M : Mem) : SV → Option D
  | .dat d => some d
  | .cel i => match M[i]? with
    | some (.lst ds) => some (.lst ds)
    | some (.dic kvs) => some (.dic kvs)
    | _ => none
  | .raw _ => none
  | .exc _ _ _ => none
/-- shallow in H, deep in G -/
def RepS (K : PySem.W.Frag) (G H : Hp) (v : V) : D → Prop
  | .lst ds => ∃ a vs, v = .ref a ∧ Rd H a (.lst vs) ∧ Reps K G vs ds
  | .tup ds => ∃ a vs, v = .ref a ∧ Rd H a (.tup vs) ∧ Reps K G vs ds
  | .ins C fs => ∃ a dx fv, v = .ref a ∧ H a = some (.ins C dx fv) ∧ RepF K G fv fs
  | .dic kvs => ∃ a kv, v = .ref a ∧ H a = some (.dK kv) ∧ RepK K G kv kvs
  | .non => v = .non
  | .bl b => v = .bl b
  | .int i => v = .int i
  | .str x => v = .str x ∧ SOk x
theorem Rep.s {K : PySem.W.Frag} {G H : Hp} {v : V} {d : D} (e : Same G H) (h : Rep K G v d) : RepS K G H v d := by
  cases h with
  | non => rfl
  | bl b => rfl
  | int i => rfl
  | str x h => exact ⟨rfl, h⟩
  | lst h r => exact ⟨_, _, rfl, rdM e h, r⟩
  | tup h r => exact ⟨_, _, rfl, rdM e h, r⟩
  | ins h r => exact ⟨_, _, _, rfl, e _ _ h, r⟩
  | dic h r => exact ⟨_, _, rfl, e _ _ h, r⟩
theorem SvOk.s {K : PySem.W.Frag} {B : Base} {G : Hp} {A : List Addr} {M : Mem} {H : Hp} {v : V} {x : SV} {d : D} (w : Wd K B G A M H) (h : SvOk K G A v x) (hx : x.get M = some d) : RepS K G H v d := by
  cases x with
  | dat d' => simp only [SV.get, Option.some.injEq] at hx; subst hx; exact Rep.s w.gh h
  | raw u => simp [SV.get] at hx
  | exc u v w => simp [SV.get] at hx
  | cel i =>
    obtain ⟨a, rfl, ha⟩ := h
    simp only [SV.get] at hx
    cases hM : M[i]? with
    | none => simp [hM] at hx
    | some c =>
      have q := w.cl.get ha hM
      cases c with
      | dead => simp [hM] at hx
      | ins C fs => simp [hM] at hx
      | lst ds =>
        simp only [hM, Option.some.injEq] at hx; subst hx
        obtain ⟨_, vs, h1, r⟩ := q
        exact ⟨a, vs, rfl, .inl h1, r⟩
      | dic ds =>
        simp only [hM, Option.some.injEq] at hx; subst hx
        obtain ⟨_, vs, h1, r⟩ := q
        exact ⟨a, vs, rfl, h1, r⟩
/-- k of the data that x is -/
def with10 (M : Mem) (x : SV) (k : D → Prop) : Prop := match x.get M with
  | some d => k d
  | none => False
structure with1 (M : Mem) (x : SV) (k : D → Prop) : Prop where
  run : with10 M x k
theorem with1_get {M : Mem} {x : SV} {k : D → Prop} (h : with1 M x k) : ∃ d, x.get M = some d ∧ k d := by
  have h := h.run
  unfold with10 at h
  cases e : x.get M with
  | none => simp [e] at h
  | some d => simp [e] at h; exact ⟨d, rfl, h⟩
theorem with1_mk {M : Mem} {x : SV} {k : D → Prop} {d : D} (e : x.get M = some d) (h : k d) : with1 M x k := ⟨by unfold with10; rw [e]; exact h⟩
section
variable {K : PySem.W.Frag} {B : Base} {G : Hp} {A : List Addr} {M : Mem} {H : Hp} {Q : SV → Mem → Prop} {Kq : VK}
/-- the end of an expression whose value is flat -/
theorem VPost.flat (k : VPost K B G A Q Kq) {G' : Hp} {A' : List Addr} {v : V} {d : D} (e : Ext G A G' A') (w : Wd K B G' A' M H) (r : Rep K G' v d) (q : Q (.dat d) M) : Kq v H := k v (.dat d) G' A' M H e w r q
/-- .. a new object, frozen -/
theorem VPost.new (k : VPost K B G A Q Kq) {G' : Hp} {A' : List Addr} {d : D} {o : HO} (e : Ext G A G' A') (w : Wd K B G' A' M H) (q : Q (.dat d) M) (r : ∀ p, H p = none → Rep K (upd G' p o) (.ref p) d) : ∀ p, H p = none → Kq (.ref p) (upd H p o) := fun p hp => by
  obtain ⟨w2, e2⟩ := w.newD (o := o) hp
  exact k _ (.dat d) _ _ _ _ (e.trans e2) w2 (r p hp) q
end
end Mb

/-! Mb, part 2: expressions. -/
namespace Mb
open PySem L2
section
variable {X : Cx} {B : Base} {ex : XD} {ss : Sst} {M : Mem} {a b c e : Expr} {es : List Expr} {pos p : Pos} {Q : SV → Mem → Prop}

theorem WE.mono {Q' : SV → Mem → Prop} (h : WE X B ex e Q ss M) (m : ∀ x M', Q x M' → Q' x M') : WE X B ex e Q' ss M := .mk fun ck G A H σ w sl Kq k =>
  h ck G A H σ w sl Kq fun v x G' A' M' H' e w' s q => k v x G' A' M' H' e w' s (m _ _ q)

/-! ### names, constants -/
theorem we_var {x : Str} {i : Nat} {v : SV} (hN : X.N[i]? = some x) (hv : Vis X.env.scope x) (hs : ss[i]? = some (some v)) (q : Q v M) (hd : (x == ("__debug__" : Str)) = false := by decide) (hcd : (x == ("__classdict__" : Str)) = false := by decide) : WE X B ex (.Name x pos) Q ss M := by
  refine .mk fun ck G A H σ w sl Kq k => ?_
  obtain ⟨u, h1, h2⟩ := sl.get hs
  exact te_of (pe_var hN hv hd hcd) ⟨u, h1, k u v G A M H .refl w h2 q⟩
theorem we_c {v : V} {d : D} (he : PE X e (tC v)) (r : ∀ G, Rep X.K G v d) (q : Q (.dat d) M) : WE X B ex e Q ss M := by
  refine .mk fun ck G A H σ w sl Kq k => ?_
  exact te_of he (k v (.dat d) G A M H .refl w (r G) q)
theorem we_int {i : Int} {j : Nat} (q : Q (.dat (.int i)) M) : WE X B ex (.Constant (.int i) j pos) Q ss M := we_c pe_int (fun _ => .int i) q
theorem we_bl {i : Bool} {j : Nat} (q : Q (.dat (.bl i)) M) : WE X B ex (.Constant (.bool i) j pos) Q ss M := we_c pe_bl (fun _ => .bl i) q
theorem we_non {j : Nat} (q : Q (.dat .non) M) : WE X B ex (.Constant .none j pos) Q ss M := we_c pe_non (fun _ => .non) q
theorem we_str {x : Str} {j : Nat} (hz : SOk x) (q : Q (.dat (.str x)) M) : WE X B ex (.Constant (.str x) j pos) Q ss M := we_c pe_str (fun _ => .str x hz) q
/-- a module's constant -/
theorem we_globI {x : Str} {i : Int} {t : Tok} (hg : Gl X x) (hm : X.mg x = some (.int i t)) (q : Q (.dat (.int i)) M) (hd : (x == ("__debug__" : Str)) = false := by decide) : WE X B ex (.Name x pos) Q ss M :=
  we_c (pe_glob (v := .int i) hg hm ⟨_, rfl⟩ hd) (fun _ => .int i) q
theorem we_globS {x y : Str} {t : Tok} (hg : Gl X x) (hm : X.mg x = some (.str y t)) (hz : SOk y) (q : Q (.dat (.str y)) M) (hd : (x == ("__debug__" : Str)) = false := by decide) : WE X B ex (.Name x pos) Q ss M :=
  we_c (pe_glob (v := .str y) hg hm ⟨_, rfl⟩ hd) (fun _ => .str y hz) q
/-- a class or a def of the module as a bare value -/
theorem we_globR {x : Str} {a : Addr} (hg : Gl X x) (hm : X.mg x = some (.ref a)) (q : Q (.raw (.ref a)) M) (hd : (x == ("__debug__" : Str)) = false := by decide) : WE X B ex (.Name x pos) Q ss M := by
  refine .mk fun ck G A H σ w sl Kq k => ?_
  exact te_of (pe_glob (v := .ref a) hg hm rfl hd) (k (.ref a) (.raw (.ref a)) G A M H .refl w rfl q)
theorem we_bltn {x : Str} {n : String} (hg : Gl X x) (hm : X.mg x = none) (hv : bootBuiltins x = some (.type n)) (q : Q (.raw (.ty n)) M) (hn : x ≠ "__name__" := by decide) (hd : (x == ("__debug__" : Str)) = false := by decide) : WE X B ex (.Name x pos) Q ss M := by
  refine .mk fun ck G A H σ w sl Kq k => ?_
  exact te_of (pe_bltn (v := .ty n) hg hm hv rfl hn hd) (k (.ty n) (.raw (.ty n)) G A M H .refl w rfl q)

/-! ### two operands -/
/-- the general form: r's reading from what the two values are -/
theorem we_op2 {op : Operator} {r : R2} {f : Mem → SV → SV → (SV → Mem → Prop) → Prop} (ho : OpR X (binaryOp op) r)
    (hf : ∀ G A H M x y u v Q Kq, Wd X.K B G A M H → SvOk X.K G A u x → SvOk X.K G A v y → f M x y Q → VPost X.K B G A Q Kq → r u v H Kq)
    (h : WE X B ex a (fun x M1 => WE X B ex b (fun y M2 => f M2 x y Q) ss M1) ss M) : WE X B ex (.BinOp a op b pos) Q ss M := by
  refine .mk fun ck G A H σ w sl Kq k => ?_
  refine te_of (pe_op ho pe_self pe_self) ?_
  refine h ck G A H σ w sl _ fun u x G1 A1 M1 H1 e1 w1 s1 h1 => ?_
  refine h1 ck G1 A1 H1 σ w1 (sl.mono e1) _ fun v y G2 A2 M2 H2 e2 w2 s2 h2 => ?_
  exact hf G2 A2 H2 M2 x y u v Q Kq w2 (s1.mono e2) s2 h2 fun v x G' A' M' H' e => k v x G' A' M' H' ((e1.trans e2).trans e)
theorem we_cmp2 {op : CmpOp} {r : R2} {f : Mem → SV → SV → (SV → Mem → Prop) → Prop} (ho : OpR X (compareOp op) r) (hm : behindInMarks op b = false)
    (hf : ∀ G A H M x y u v Q Kq, Wd X.K B G A M H → SvOk X.K G A u x → SvOk X.K G A v y → f M x y Q → VPost X.K B G A Q Kq → r u v H Kq)
    (h : WE X B ex a (fun x M1 => WE X B ex b (fun y M2 => f M2 x y Q) ss M1) ss M) : WE X B ex (.Compare a [op] [b] pos) Q ss M := by
  refine .mk fun ck G A H σ w sl Kq k => ?_
  refine te_of (pe_cmpR ho pe_self pe_self hm) ?_
  refine h ck G A H σ w sl _ fun u x G1 A1 M1 H1 e1 w1 s1 h1 => ?_
  refine h1 ck G1 A1 H1 σ w1 (sl.mono e1) _ fun v y G2 A2 M2 H2 e2 w2 s2 h2 => ?_
  exact hf G2 A2 H2 M2 x y u v Q Kq w2 (s1.mono e2) s2 h2 fun v x G' A' M' H' e => k v x G' A' M' H' ((e1.trans e2).trans e)
/-- the same as a test -/
theorem wt_cmp2 {op : CmpOp} {r : R2} {f : Mem → SV → SV → (SV → Mem → Prop) → Prop} {Q : Bool → Mem → Prop} (ho : OpR X (compareOp op) r) (hm : behindInMarks op b = false)
    (hf : ∀ G A H M x y u v Q Kq, Wd X.K B G A M H → SvOk X.K G A u x → SvOk X.K G A v y → f M x y Q → VPost X.K B G A Q Kq → r u v H Kq)
    (h : WE X B ex a (fun x M1 => WE X B ex b (fun y M2 => f M2 x y fun z M3 => ∃ k, z = .dat (.bl k) ∧ Q k M3) ss M1) ss M) : WT X B ex (.Compare a [op] [b] pos) Q ss M := by
  refine .mk fun ck G A H σ w sl Kq k => ?_
  refine tt_of (pt_cmpR ho pe_self pe_self hm) ?_
  refine h ck G A H σ w sl _ fun u x G1 A1 M1 H1 e1 w1 s1 h1 => ?_
  refine h1 ck G1 A1 H1 σ w1 (sl.mono e1) _ fun v y G2 A2 M2 H2 e2 w2 s2 h2 => ?_
  refine hf G2 A2 H2 M2 x y u v _ _ w2 (s1.mono e2) s2 h2 fun v x G' A' M' H' e w' s' q => ?_
  obtain ⟨i, rfl, q⟩ := q
  cases s'
  exact ⟨i, rfl, k i G' A' M' H' ((e1.trans e2).trans e) w' q⟩

/-! ### sums, products -/
/-- a + b of two lists, whatever bears them -/
def rCatL : R2 := fun x y H Q => ∃ l b xs zs, x = .ref l ∧ y = .ref b ∧ Rd H l (.lst xs) ∧ Rd H b (.lst zs) ∧ xs.length + zs.length ≤ sizeLine ∧ ∀ p, H p = none → Q (.ref p) (upd H p (.lst (xs ++ zs)))
theorem op_catL : OpR X (binaryOp .Add) rCatL := by
  intro pins s σ H x y v u Q I rx ry h
  obtain ⟨l, b, xs, zs, rfl, rfl, hH, hB, hz, q⟩ := h
  cases rx
  cases ry
  obtain ⟨_, i1, n1, r1, e1⟩ := hH.ok I.hok
  obtain ⟨_, i2, n2, r2, e2⟩ := hB.ok I.hok
  have l1 := r1.length
  have l2 := r2.length
  refine PySem.P.add_list e1 e2 ?_ (by rw [List.size_toArray, List.size_toArray]; omega)
  have ea : i1.toArray ++ i2.toArray = (i1 ++ i2).toArray := by simp
  rw [ea]
  exact ⟨.ref _, _, I.lnew (t' := s.toks) (r1.append r2) (by rw [List.length_append]; omega), rfl, q _ I.fresh⟩
def addD0 (a b : D) (k : D → Prop) : Prop := match a, b with
  | .int i, .int j => k (.int (i + j))
  | .str x, .str y => x.length + y.length ≤ sizeLine ∧ k (.str (x ++ y))
  | .lst x, .lst y => x.length + y.length ≤ sizeLine ∧ k (.lst (x ++ y))
  | .tup x, .tup y => x.length + y.length ≤ sizeLine ∧ k (.tup (x ++ y))
  | _, _ => False
structure addD (a b : D) (k : D → Prop) : Prop where
  run : addD0 a b k
def add2 (M : Mem) (x y : SV) (Q : SV → Mem → Prop) : Prop := with1 M x fun a => with1 M y fun b => addD a b fun d => Q (.dat d) M
theorem str_len_app (x y : Str) : (x ++ y).length = x.length + y.length := by
  show (x.cps ++ y.cps).size = x.cps.size + y.cps.size
  exact Array.size_append
theorem SOk.app {x y : Str} (hx : SOk x) (hy : SOk y) (h : x.length + y.length ≤ sizeLine) : SOk (x ++ y) := by
  refine ⟨by rw [str_len_app]; exact h, ?_⟩
  have a := hx.2
  have b := hy.2
  unfold PyData.strOk at a b ⊢
  show (x.cps ++ y.cps).all _ = true
  rw [Array.all_append, a, b]
  rfl
theorem we_add (h : WE X B ex a (fun x M1 => WE X B ex b (fun y M2 => add2 M2 x y Q) ss M1) ss M) : WE X B ex (.BinOp a .Add b pos) Q ss M := by
  refine we_op2 (f := add2) (OpR.or op_add (OpR.or op_add_str (OpR.or op_catL op_catA))) (fun G A H M x y u v Q Kq w sx sy hh k => ?_) h
  obtain ⟨d1, g1, hh⟩ := with1_get hh
  obtain ⟨d2, g2, hh⟩ := with1_get hh
  have q1 := sx.s w g1
  have q2 := sy.s w g2
  have hh := hh.run
  cases d1 <;> cases d2 <;> try exact hh.elim
  · obtain rfl := q1
    obtain rfl := q2
    exact .inl ⟨_, _, rfl, rfl, k.flat .refl w (.int _) hh⟩
  · obtain ⟨rfl, z1⟩ := q1
    obtain ⟨rfl, z2⟩ := q2
    exact .inr (.inl ⟨_, _, rfl, rfl, hh.1, k.flat .refl w (.str _ (z1.app z2 hh.1)) hh.2⟩)
  · obtain ⟨a1, v1, rfl, h1, r1⟩ := q1
    obtain ⟨a2, v2, rfl, h2, r2⟩ := q2
    refine .inr (.inr (.inl ⟨_, _, v1, v2, rfl, rfl, h1, h2, by rw [r1.length, r2.length]; exact hh.1, k.new .refl w hh.2 fun p hp => ?_⟩))
    exact .lst (.inl upd_same) ((r1.append r2).mono (same_upd (w.none hp).2.2))
  · obtain ⟨a1, v1, rfl, h1, r1⟩ := q1
    obtain ⟨a2, v2, rfl, h2, r2⟩ := q2
    refine .inr (.inr (.inr ⟨_, _, v1, v2, rfl, rfl, .inl h1, .inl h2, by rw [r1.length, r2.length]; exact hh.1, fun e => ?_, fun n e => ?_, fun n1 n2 => k.new .refl w hh.2 fun p hp => ?_⟩))
    · subst e
      cases r1
      exact k _ (.dat _) G A M H .refl w (by cases sy' : y with
        | dat d => rw [sy'] at sy g2; simp only [SV.get, Option.some.injEq] at g2; subst g2; exact sy
        | raw u => rw [sy'] at g2; simp [SV.get] at g2
        | exc u v w => rw [sy'] at g2; simp [SV.get] at g2
        | cel i => rw [sy'] at g2; simp only [SV.get] at g2; split at g2 <;> cases g2) hh.2
    · subst e
      cases r2
      have hh2 := hh.2
      rw [List.append_nil] at hh2
      exact k _ (.dat _) G A M H .refl w (by cases sy' : x with
        | dat d => rw [sy'] at sx g1; simp only [SV.get, Option.some.injEq] at g1; subst g1; exact sx
        | raw u => rw [sy'] at g1; simp [SV.get] at g1
        | exc u v w => rw [sy'] at g1; simp [SV.get] at g1
        | cel i => rw [sy'] at g1; simp only [SV.get] at g1; split at g1 <;> cases g1) hh2
    · exact .tup (.inl upd_same) ((r1.append r2).mono (same_upd (w.none hp).2.2))
/-- an operation of two ints -/
theorem we_opI {op : Operator} {C : Int → Int → Prop} {g : Int → Int → Int} (ho : OpR X (binaryOp op) (rI C fun i j => .int (g i j)))
    (h : WE X B ex a (fun x M1 => WE X B ex b (fun y M2 => with1 M2 x fun p => with1 M2 y fun q => match p, q with
      | .int i, .int j => C i j ∧ Q (.dat (.int (g i j))) M2
      | _, _ => False) ss M1) ss M) : WE X B ex (.BinOp a op b pos) Q ss M := by
  refine we_op2 (f := fun M2 x y Q => with1 M2 x fun p => with1 M2 y fun q => match p, q with
      | .int i, .int j => C i j ∧ Q (.dat (.int (g i j))) M2
      | _, _ => False) ho (fun G A H M x y u v Q Kq w sx sy hh k => ?_) h
  obtain ⟨d1, g1, hh⟩ := with1_get hh
  obtain ⟨d2, g2, hh⟩ := with1_get hh
  have q1 := sx.s w g1
  have q2 := sy.s w g2
  cases d1 <;> cases d2 <;> try exact hh.elim
  obtain rfl := q1
  obtain rfl := q2
  exact ⟨_, _, rfl, rfl, hh.1, k.flat .refl w (.int _) hh.2⟩
theorem we_opI0 {op : Operator} {g : Int → Int → Int} (ho : OpR X (binaryOp op) (rI0 fun i j => .int (g i j)))
    (h : WE X B ex a (fun x M1 => WE X B ex b (fun y M2 => with1 M2 x fun p => with1 M2 y fun q => match p, q with
      | .int i, .int j => Q (.dat (.int (g i j))) M2
      | _, _ => False) ss M1) ss M) : WE X B ex (.BinOp a op b pos) Q ss M := by
  refine we_op2 (f := fun M2 x y Q => with1 M2 x fun p => with1 M2 y fun q => match p, q with
      | .int i, .int j => Q (.dat (.int (g i j))) M2
      | _, _ => False) ho (fun G A H M x y u v Q Kq w sx sy hh k => ?_) h
  obtain ⟨d1, g1, hh⟩ := with1_get hh
  obtain ⟨d2, g2, hh⟩ := with1_get hh
  have q1 := sx.s w g1
  have q2 := sy.s w g2
  cases d1 <;> cases d2 <;> try exact hh.elim
  obtain rfl := q1
  obtain rfl := q2
  exact ⟨_, _, rfl, rfl, k.flat .refl w (.int _) hh⟩

theorem we_sub (h : WE X B ex a (fun x M1 => WE X B ex b (fun y M2 => with1 M2 x fun p => with1 M2 y fun q => match p, q with
      | .int i, .int j => Q (.dat (.int (i - j))) M2
      | _, _ => False) ss M1) ss M) : WE X B ex (.BinOp a .Sub b pos) Q ss M := we_opI0 op_sub h
theorem we_fdiv (h : WE X B ex a (fun x M1 => WE X B ex b (fun y M2 => with1 M2 x fun p => with1 M2 y fun q => match p, q with
      | .int i, .int j => CDiv i j ∧ Q (.dat (.int (i / j))) M2
      | _, _ => False) ss M1) ss M) : WE X B ex (.BinOp a .FloorDiv b pos) Q ss M := we_opI op_fdiv h
theorem we_mod (h : WE X B ex a (fun x M1 => WE X B ex b (fun y M2 => with1 M2 x fun p => with1 M2 y fun q => match p, q with
      | .int i, .int j => 0 < j ∧ Q (.dat (.int (i % j))) M2
      | _, _ => False) ss M1) ss M) : WE X B ex (.BinOp a .Mod b pos) Q ss M := we_opI op_mod h
theorem we_pow (h : WE X B ex a (fun x M1 => WE X B ex b (fun y M2 => with1 M2 x fun p => with1 M2 y fun q => match p, q with
      | .int i, .int j => CPow i j ∧ Q (.dat (.int (i ^ j.toNat))) M2
      | _, _ => False) ss M1) ss M) : WE X B ex (.BinOp a .Pow b pos) Q ss M := we_opI op_pow h
/-- a list n times -/
def mulD0 (a b : D) (k : D → Prop) : Prop := match a, b with
  | .int i, .int j => CMul i j ∧ k (.int (i * j))
  | .lst x, .int n => (-(2 ^ 63) ≤ n ∧ n < 2 ^ 63 ∧ x.length * n.toNat ≤ sizeLine) ∧ k (.lst (List.replicate n.toNat x).flatten)
  | _, _ => False
structure mulD (a b : D) (k : D → Prop) : Prop where
  run : mulD0 a b k
def mul2 (M : Mem) (x y : SV) (Q : SV → Mem → Prop) : Prop := with1 M x fun a => with1 M y fun b => mulD a b fun d => Q (.dat d) M
theorem Reps.flat {K : PySem.W.Frag} {G : Hp} {vs : List V} {ds : List D} (r : Reps K G vs ds) : ∀ n : Nat, Reps K G (List.replicate n vs).flatten (List.replicate n ds).flatten
  | 0 => .nil
  | n + 1 => by
    rw [List.replicate_succ, List.replicate_succ, List.flatten_cons, List.flatten_cons]
    exact r.append (Reps.flat r n)
def rRepT : R2 := fun x y H Q => ∃ l k xs, x = .ref l ∧ y = .int k ∧ Rd H l (.lst xs) ∧ -(2 ^ 63) ≤ k ∧ k < 2 ^ 63 ∧ xs.length * k.toNat ≤ sizeLine ∧
  ∀ p, H p = none → Q (.ref p) (upd H p (.lst (List.replicate k.toNat xs).flatten))
theorem op_repT : OpR X (binaryOp .Mult) rRepT := by
  intro pins s σ H x y v u Q I rx ry hh
  obtain ⟨l, k, xs, rfl, rfl, hH, h1, h2, hz, q⟩ := hh
  cases rx
  obtain ⟨t, rfl⟩ := ry
  obtain ⟨z, its, n, r, e⟩ := hH.ok I.hok
  have hl := r.length
  have n1 : its.toArray.size * k.toNat ≤ sizeLine := by rw [List.size_toArray, ← hl]; exact hz
  have n2 : ¬ its.toArray.size * k.toNat > (2 ^ 63 - 1) / 8 := by
    have z8 : (sizeLine : Nat) ≤ (2 ^ 63 - 1) / 8 := by decide
    omega
  have n3 : ¬ (!Builtin.List.listFitsIndex k) = true := by
    rw [fitsIndex_both h1 h2]; simp
  have n4 : ¬ Builtin.List.listTooLong (its.toArray.size * k.toNat) = true := by
    rw [notLongL n1]; simp
  have f0 : ∀ m : Nat, List.foldl (fun x1 x2 => x1 ++ x2) #[] (List.replicate m its.toArray) = (List.replicate m its).flatten.toArray := fun m => by
    have z := foldl_rep its m []
    rwa [List.nil_append] at z
  have n5 : List.foldl (fun x1 x2 => x1 ++ x2) #[] (List.replicate (if its.toArray.isEmpty = true then 0 else k.toNat) its.toArray) = (List.replicate k.toNat its).flatten.toArray := by
    rw [f0]
    cases its with
    | nil => simp
    | cons a r' => rw [if_neg (by simp)]
  refine wpAny_binaryOp_repeat_ref (T := "list") (U := "int") (by decide) ⟨_, e, rfl⟩ (fun s' => typeIs_int s' k t) noFill_list_mul F.fills_int_mul F.slot_int_rmul repeat_list F.slot_int_index.lookup ?_
  refine call_meets F.slot_int_rmul (typeIs_int s k t) F.entry_int_rmul (F.args_int_rmul_2 _ _) (int___rmul___int_list k t l its.toArray n) ⟨e, rfl, ⟨_, e, rfl⟩, ?_⟩
  refine call_meets F.slot_list_mul ⟨_, e, rfl⟩ F.entry_list_mul (F.args_list_mul_2 _ _) (AutoListH.list___mul___list_int_3 l its.toArray n k t n3 n2 n4) ⟨e, ?_⟩
  rw [n5]
  exact ⟨.ref _, _, I.lnew (t' := s.toks) (r.rep k.toNat) (by rw [PyProof.Rows.lm_len_rep_flat, Nat.mul_comm]; exact hz), rfl, q _ I.fresh⟩
theorem we_mul (h : WE X B ex a (fun x M1 => WE X B ex b (fun y M2 => mul2 M2 x y Q) ss M1) ss M) : WE X B ex (.BinOp a .Mult b pos) Q ss M := by
  refine we_op2 (f := mul2) (OpR.or op_mul op_repT) (fun G A H M x y u v Q Kq w sx sy hh k => ?_) h
  obtain ⟨d1, g1, hh⟩ := with1_get hh
  obtain ⟨d2, g2, hh⟩ := with1_get hh
  have q1 := sx.s w g1
  have q2 := sy.s w g2
  have hh := hh.run
  cases d1 <;> cases d2 <;> try exact hh.elim
  · obtain rfl := q1
    obtain rfl := q2
    exact .inl ⟨_, _, rfl, rfl, hh.1, k.flat .refl w (.int _) hh.2⟩
  · obtain ⟨a1, v1, rfl, h1, r1⟩ := q1
    obtain rfl := q2
    refine .inr ⟨_, _, v1, rfl, rfl, h1, hh.1.1, hh.1.2.1, by rw [r1.length]; exact hh.1.2.2, k.new .refl w hh.2 fun p hp => ?_⟩
    exact .lst (.inl upd_same) ((r1.flat _).mono (same_upd (w.none hp).2.2))

/-! ### comparisons of ints -/
theorem we_cmpI {op : CmpOp} {g : Int → Int → Bool} (ho : OpR X (compareOp op) (rI0 fun i j => .bl (g i j))) (hm : behindInMarks op b = false)
    (h : WE X B ex a (fun x M1 => WE X B ex b (fun y M2 => with1 M2 x fun p => with1 M2 y fun q => match p, q with
      | .int i, .int j => Q (.dat (.bl (g i j))) M2
      | _, _ => False) ss M1) ss M) : WE X B ex (.Compare a [op] [b] pos) Q ss M := by
  refine we_cmp2 (f := fun M2 x y Q => with1 M2 x fun p => with1 M2 y fun q => match p, q with
      | .int i, .int j => Q (.dat (.bl (g i j))) M2
      | _, _ => False) ho hm (fun G A H M x y u v Q Kq w sx sy hh k => ?_) h
  obtain ⟨d1, g1, hh⟩ := with1_get hh
  obtain ⟨d2, g2, hh⟩ := with1_get hh
  have q1 := sx.s w g1
  have q2 := sy.s w g2
  cases d1 <;> cases d2 <;> try exact hh.elim
  obtain rfl := q1
  obtain rfl := q2
  exact ⟨_, _, rfl, rfl, k.flat .refl w (.bl _) hh⟩
theorem wt_cmpI {op : CmpOp} {g : Int → Int → Bool} {Q : Bool → Mem → Prop} (ho : OpR X (compareOp op) (rI0 fun i j => .bl (g i j))) (hm : behindInMarks op b = false)
    (h : WE X B ex a (fun x M1 => WE X B ex b (fun y M2 => with1 M2 x fun p => with1 M2 y fun q => match p, q with
      | .int i, .int j => Q (g i j) M2
      | _, _ => False) ss M1) ss M) : WT X B ex (.Compare a [op] [b] pos) Q ss M := by
  refine wt_cmp2 (f := fun M2 x y Q => with1 M2 x fun p => with1 M2 y fun q => match p, q with
      | .int i, .int j => Q (.dat (.bl (g i j))) M2
      | _, _ => False) ho hm (fun G A H M x y u v Q Kq w sx sy hh k => ?_) (h.mono fun x M1 h1 => h1.mono fun y M2 hh => ?_)
  · obtain ⟨d1, g1, hh⟩ := with1_get hh
    obtain ⟨d2, g2, hh⟩ := with1_get hh
    have q1 := sx.s w g1
    have q2 := sy.s w g2
    cases d1 <;> cases d2 <;> try exact hh.elim
    obtain rfl := q1
    obtain rfl := q2
    exact ⟨_, _, rfl, rfl, k.flat .refl w (.bl _) hh⟩
  · obtain ⟨d1, g1, hh⟩ := with1_get hh
    obtain ⟨d2, g2, hh⟩ := with1_get hh
    cases d1 <;> cases d2 <;> try exact hh.elim
    exact with1_mk g1 (with1_mk g2 ⟨_, rfl, hh⟩)
end
end Mb

/-! Mb, part 3: statements, defs. -/
namespace Mb
open PySem L2 PyProof.Rows
section
variable {X : Cx} {B : Base} {ex : XD} {ss : Sst} {M : Mem} {a b c e tg : Expr} {es : List Expr} {pos p p' : Pos} {N : Nd} {st : Stmt} {sts sts' : List Stmt}

/-! ### blocks -/
theorem wb_nil (q : N.nx ss M) : WB X B ex [] N ss M := .mk fun ck G A H σ w sl E k => tb_of pss_nil (k.nx σ ss G A M H (Same.refl _) w sl q)
theorem wb_cons (h : WS X B ex st { N with nx := fun ss' M' => WB X B ex sts N ss' M' } ss M) : WB X B ex (st :: sts) N ss M := .mk fun ck G A H σ w sl E k => by
  refine tb_of (pss_cons ps_self pb_self) ?_
  refine h ck G A H σ w sl _ ⟨fun σ' ss' G' A' M' H' s' w' sl' q => ?_, k.rt, k.bk, k.ct⟩
  exact q ck G' A' H' σ' w' sl' E (k.mono s')
theorem wb_one (h : WS X B ex st N ss M) : WB X B ex [st] N ss M := .mk fun ck G A H σ w sl E k => tb_of (pss_one ps_self) (h ck G A H σ w sl E k)
/-- slots and cells forgotten -/
theorem wb_forget {ss' : Sst} {k : Nat} (hf : Fgt ss ss') (hk : B.A.length ≤ k) (hM : (M.take k).all (Cell.lt k) = true) (hs : (ss'.all fun o => match o with | some x => x.lt k | none => true) = true) (h : WB X B ex sts N ss' (M.take k)) : WB X B ex sts N ss M := .mk fun ck G A H σ w sl E q => by
  refine h ck G (A.take k) H σ (w.drop k hk hM) ?_ E q
  have s2 := sl.fgt hf
  clear sl hf h
  induction s2 with
  | nil => exact .nil
  | skip r ih => exact .skip (ih (by simpa using hs))
  | cons h1 r ih =>
    rw [List.all_cons, Bool.and_eq_true] at hs
    exact .cons (h1.cut hs.1) (ih hs.2)
theorem ws_pass (q : N.nx ss M) : WS X B ex (.Pass pos) N ss M := .mk fun ck G A H σ w sl E k => ts_of ps_pass (k.nx σ ss G A M H (Same.refl _) w sl q)
theorem ws_break (q : N.bk ss M) : WS X B ex (.Break pos) N ss M := .mk fun ck G A H σ w sl E k => ts_of ps_break (k.bk σ ss G A M H (Same.refl _) w sl q)
theorem ws_continue (q : N.ct ss M) : WS X B ex (.Continue pos) N ss M := .mk fun ck G A H σ w sl E k => ts_of ps_continue (k.ct σ ss G A M H (Same.refl _) w sl q)
theorem ws_expr (h : WE X B ex e (fun _ M' => N.nx ss M') ss M) (hs : swapsWith e none pos.line X.env = pure false := by rfl) : WS X B ex (.Expr e pos) N ss M := .mk fun ck G A H σ w sl E k => by
  refine ts_of (ps_expr pe_self hs) ?_
  exact h ck G A H σ w sl _ fun v x G' A' M' H' e' w' s q => k.nx σ ss G' A' M' H' e'.1 w' (sl.mono e') q
theorem ws_ret (h : WE X B ex e N.rt ss M) : WS X B ex (.Return (some e) pos) N ss M := .mk fun ck G A H σ w sl E k => by
  refine ts_of (ps_ret pe_self) ?_
  exact h ck G A H σ w sl _ fun v x G' A' M' H' e' w' s q => k.rt v x G' A' M' H' e'.1 w' s q
theorem ws_if (h : WT X B ex c (fun b M' => if b = true then WB X B ex sts N ss M' else WB X B ex sts' N ss M') ss M) : WS X B ex (.If c sts sts' pos) N ss M := .mk fun ck G A H σ w sl E k => by
  refine ts_of (ps_if pt_self pb_self pb_self) ?_
  refine h ck G A H σ w sl _ fun b G' A' M' H' e' w' q => ?_
  cases b with
  | true => rw [if_pos rfl] at q ⊢; exact q ck G' A' H' σ w' (sl.mono e') E (k.mono e'.1)
  | false => rw [if_neg Bool.false_ne_true] at q ⊢; exact q ck G' A' H' σ w' (sl.mono e') E (k.mono e'.1)
/-! ### assignments -/
theorem ws_set {i : Nat} {x : Str} (hN : X.N.Nodup) (hi : X.N[i]? = some x) (hx : Loc X.env.scope x) (h : WE X B ex e (fun v M' => N.nx (ss.set i (some v)) M') ss M)
    (hs : swapsWith e (some (.Name x p')) pos.line X.env = pure false := by rfl) (hf : X.fn x = true ∨ X.env.scope.names.lookup x = some .local := by first | exact .inl rfl | exact .inr rfl | assumption) : WS X B ex (.Assign [.Name x p'] e pos) N ss M := .mk fun ck G A H σ w sl E k => by
  refine ts_of (ps_set hN hi hx pe_self hs hf) ?_
  exact h ck G A H σ w sl _ fun v y G' A' M' H' e' w' s q => k.nx _ _ G' A' M' H' e'.1 w' ((sl.mono e').set s i) q
/-- target = value, any target -/
theorem ws_asg (h : WE X B ex e (fun v M' => WG X B ex tg v N.nx ss M') ss M) (hs : swapsWithSole [tg] e pos.line X.env = pure false := by rfl) (hw : swappedStores [tg] e X.env = pure none := by rfl) (h1 : (assignEach [tg] X.env).map (·.2) = [assign tg X.env] := by rfl) :
    WS X B ex (.Assign [tg] e pos) N ss M := .mk fun ck G A H σ w sl E k => by
  refine ts_of (ps_asg pe_self pg_self hs hw h1) ?_
  refine h ck G A H σ w sl _ fun v y G' A' M' H' e' w' s q => ?_
  exact q ck G' A' H' σ v w' (sl.mono e') s _ fun σ' ss' G2 A2 M2 H2 s2 w2 sl2 q2 => k.nx σ' ss' G2 A2 M2 H2 (e'.1.trans s2) w2 sl2 q2
theorem wg_name {i : Nat} {x : Str} {v : SV} {Q : Sst → Mem → Prop} (hN : X.N.Nodup) (hi : X.N[i]? = some x) (hx : Loc X.env.scope x) (q : Q (ss.set i (some v)) M) (hf : X.fn x = true ∨ X.env.scope.names.lookup x = some .local := by first | exact .inl rfl | exact .inr rfl | assumption) :
    WG X B ex (.Name x pos) v Q ss M := .mk fun ck G A H σ u w sl s Kq k => tg_of (pg_name hN hi hx hf) (k _ _ G A M H (Same.refl _) w (sl.set s i) q)
/-- xs[i] = v, xs a list of ours -/
theorem wg_item {v : SV} {Q : Sst → Mem → Prop} (h : WE X B ex a (fun x M1 => WE X B ex b (fun y M2 => ∃ (i : Nat) (ds : List D) (n : Int) (j : Nat) (d : D), x = .cel i ∧ y = .dat (.int n) ∧ v = .dat d ∧ M2[i]? = some (.lst ds) ∧ ixN ds.length n = some j ∧ Q ss (M2.set i (.lst (ds.set j d)))) ss M1) ss M)
    (ha : ∀ v, assign (.Subscript a b pos) X.env v = (do
      let ov ← holding [v] (eval a X.env)
      let iv ← holding [v, ov] (eval b X.env)
      standAt pos
      holding [v, ov, iv] (setItem ov iv v)
      release [v, ov, iv] []) := by intro _; rfl) : WG X B ex (.Subscript a b pos) v Q ss M := .mk fun ck G A H σ u w sl s Kq k => by
  refine tg_of (pg_sub pe_self pe_self set_list ha) ?_
  refine h ck G A H σ w sl _ fun u1 x G1 A1 M1 H1 e1 w1 s1 h1 => ?_
  refine h1 ck G1 A1 H1 σ w1 (sl.mono e1) _ fun u2 y G2 A2 M2 H2 e2 w2 s2 h2 => ?_
  obtain ⟨i, ds, n, j, d, rfl, rfl, rfl, hM, hj, q⟩ := h2
  obtain ⟨l, rfl, hl⟩ := s1.mono e2
  obtain ⟨gn, vs, hv, r⟩ := w2.cl.get hl hM
  cases s2
  have s' : Rep X.K G2 u d := (SvOk.mono (e1.trans e2) s : SvOk X.K G2 A2 u (.dat d))
  refine ⟨l, vs, n, j, rfl, rfl, hv, by rw [r.length]; exact hj, ?_⟩
  exact k σ ss G2 A2 _ _ (e1.trans e2).1 (w2.setC (c' := .lst (ds.set j d)) hl gn ⟨gn, _, upd_same, r.set s' j⟩) (sl.mono (e1.trans e2)) q
end
/-! ### a def's promise -/
abbrev SpD := List SV → Mem → (SV → Mem → Prop) → (Addr → List (Str × D) → Mem → Prop) → Prop
/-- n cells are handed in -/
def spOf (K : PySem.W.Frag) (n : Nat) (S : SpD) : Sp := fun vs H Q E => ∃ xs M G A, A.length = n ∧ Wd K ⟨G, A, H⟩ G A M H ∧ Svs K G A vs xs ∧ ∃ R Rx, S xs M R Rx ∧
  (∀ v x G' A' M' H', Wd K ⟨G, A, H⟩ G' A' M' H' → SvOk K G' A' v x → M'.all (Cell.lt n) = true → R x M' → Q v H') ∧
  (∀ C fs d G' A' M' H', Wd K ⟨G, A, H⟩ G' A' M' H' → XdOk K G' d fs → M'.all (Cell.lt n) = true → Rx C fs M' → E (.ref C) d H')
/-- the end of a def that leaves its n cells alone -/
def Ret (n : Nat) (R : SV → Mem → Prop) (x : SV) (M : Mem) : Prop := (x.lt n && (M.take n).all (Cell.lt n)) = true ∧ R x (M.take n)
/-- .. that leaves a new cell too -/
def RetC (n : Nat) (R : SV → Mem → Prop) (x : SV) (M : Mem) : Prop := M.all (Cell.lt n) = true ∧ R x M
def RetX (n : Nat) (Rx : Addr → List (Str × D) → Mem → Prop) (C : Addr) (fs : List (Str × D)) (M : Mem) : Prop := (M.take n).all (Cell.lt n) = true ∧ Rx C fs (M.take n)
def startD (N : List Str) (xs : List SV) : Sst := xs.map some ++ List.replicate (N.length - xs.length) none
theorem sl_rep {K : PySem.W.Frag} {G : Hp} {A : List Addr} : ∀ n : Nat, Sl K G A (List.replicate n none) (List.replicate n none)
  | 0 => .nil
  | n + 1 => .skip (sl_rep n)
theorem sl_start {K : PySem.W.Frag} {G : Hp} {A : List Addr} {vs : List V} {xs : List SV} (r : Svs K G A vs xs) (N : List Str) : Sl K G A (L2.start N vs) (startD N xs) := by
  unfold L2.start startD
  rw [r.length]
  generalize N.length - xs.length = n
  induction r with
  | nil => exact sl_rep n
  | cons h r ih => exact .cons h ih
section
variable {P : Program} {w : World} {K : PySem.W.Frag} {mg : Str → Option Value} {base : Heap}
/-- THE RULE for a def: its body, walked -/
theorem fn_any {x qual : Str} {st : Stmt} {f : Addr} {fd : FuncData} {N ps : List Str} {k n : Nat} {S : SpD} {RT : (SV → Mem → Prop) → SV → Mem → Prop} (F : Fun K x qual st f fd) (Sc : FnScope N ps (defScope st)) (len : ∀ xs M R Rx, S xs M R Rx → xs.length = ps.length)
    (hRT : ∀ {B : Base} {G A M H v x R}, B.A.length = n → Wd K B G A M H → SvOk K G A v x → RT R x M → ∃ A' M', Wd K B G A' M' H ∧ SvOk K G A' v x ∧ M'.all (Cell.lt n) = true ∧ R x M')
    (hb : ∀ (cdv : Value) (A : Around) (outer : List Env) (s : Shared) (H : Hp) (E : XK) (B : Base) (xs : List SV) (M : Mem) (R : SV → Mem → Prop) (Rx : Addr → List (Str × D) → Mem → Prop), Room k (A.deeper (envOfC qual (defScope st) s.heap.objs.size f cdv)) → B.A.length = n → S xs M R Rx →
      WB (cxOf (L2.CX P w) P w K mg base N qual (defScope st) f cdv A outer s H E) B (fun C fs _ M => RetX n Rx C fs M) (defBody st) { nx := fun _ M => RT R (.dat .non) M, rt := RT R } (startD N xs) M) :
    FnOk P w K mg base (L2.CX P w) (k + 1) f fd ps (spOf K n S) := by
  refine F.okX Sc (fun vs H Q E h => ?_) (fun cdv A outer s H vs Q E hr h => ?_)
  · obtain ⟨xs, M, G, A, hn, hw, hv, R, Rx, hS, _⟩ := h
    rw [hv.length]; exact len _ _ _ _ hS
  · obtain ⟨xs, M, G, A0, hn, hw, hv, R, Rx, hS, hR, hX⟩ := h
    refine ⟨tbW _ _, pb_self, ?_⟩
    have ck : Cok (cxOf (L2.CX P w) P w K mg base N qual (defScope st) f cdv A outer s H E) ⟨G, A0, H⟩ (fun C fs _ M => RetX n Rx C fs M) :=
      ⟨(takes_of (E := E) rfl rfl rfl rfl).imp fun cls d σ H' ⟨C, fs, ss, G', A', M', ec, xd, w', sl', q1, q2⟩ => by
        subst ec; exact hX C fs d G' (A'.take n) (M'.take n) H' (w'.drop n (by exact Nat.le_of_eq hn) q1) xd q1 q2, passes_of rfl⟩
    refine hb cdv A outer s H E ⟨G, A0, H⟩ xs M R Rx hr hn hS ck G A0 H _ hw (sl_start hv N) _ ⟨fun σ ss G' A' M' H' _ w' sl' q => ?_, fun v y G' A' M' H' _ w' s' q => ?_, fun _ _ _ _ _ _ _ _ _ q => q.elim, fun _ _ _ _ _ _ _ _ _ q => q.elim⟩
    · obtain ⟨A2, M2, w2, s2, hl, q⟩ := hRT hn w' (v := .non) (x := .dat .non) .non q
      exact hR .non (.dat .non) G' A2 M2 H' w2 s2 hl q
    · obtain ⟨A2, M2, w2, s2, hl, q⟩ := hRT hn w' s' q
      exact hR v y G' A2 M2 H' w2 s2 hl q
theorem fn_ok {x qual : Str} {st : Stmt} {f : Addr} {fd : FuncData} {N ps : List Str} {k n : Nat} {S : SpD} (F : Fun K x qual st f fd) (Sc : FnScope N ps (defScope st)) (len : ∀ xs M R Rx, S xs M R Rx → xs.length = ps.length)
    (hb : ∀ (cdv : Value) (A : Around) (outer : List Env) (s : Shared) (H : Hp) (E : XK) (B : Base) (xs : List SV) (M : Mem) (R : SV → Mem → Prop) (Rx : Addr → List (Str × D) → Mem → Prop), Room k (A.deeper (envOfC qual (defScope st) s.heap.objs.size f cdv)) → B.A.length = n → S xs M R Rx →
      WB (cxOf (L2.CX P w) P w K mg base N qual (defScope st) f cdv A outer s H E) B (fun C fs _ M => RetX n Rx C fs M) (defBody st) { nx := fun _ M => Ret n R (.dat .non) M, rt := Ret n R } (startD N xs) M) :
    FnOk P w K mg base (L2.CX P w) (k + 1) f fd ps (spOf K n S) := by
  refine fn_any (RT := Ret n) F Sc len (fun {B G A M H v x R} hB w' s' q => ?_) hb
  obtain ⟨h1, h2⟩ := q
  rw [Bool.and_eq_true] at h1
  exact ⟨A.take n, M.take n, w'.drop n (Nat.le_of_eq hB) h1.2, s'.cut h1.1, h1.2, h2⟩
theorem fn_okC {x qual : Str} {st : Stmt} {f : Addr} {fd : FuncData} {N ps : List Str} {k n : Nat} {S : SpD} (F : Fun K x qual st f fd) (Sc : FnScope N ps (defScope st)) (len : ∀ xs M R Rx, S xs M R Rx → xs.length = ps.length)
    (hb : ∀ (cdv : Value) (A : Around) (outer : List Env) (s : Shared) (H : Hp) (E : XK) (B : Base) (xs : List SV) (M : Mem) (R : SV → Mem → Prop) (Rx : Addr → List (Str × D) → Mem → Prop), Room k (A.deeper (envOfC qual (defScope st) s.heap.objs.size f cdv)) → B.A.length = n → S xs M R Rx →
      WB (cxOf (L2.CX P w) P w K mg base N qual (defScope st) f cdv A outer s H E) B (fun C fs _ M => RetX n Rx C fs M) (defBody st) { nx := fun _ M => RetC n R (.dat .non) M, rt := RetC n R } (startD N xs) M) :
    FnOk P w K mg base (L2.CX P w) (k + 1) f fd ps (spOf K n S) :=
  fn_any (RT := RetC n) F Sc len (fun {B G A M H v x R} hB w' s' q => ⟨A, M, w', s', q.1, q.2⟩) hb
end
end Mb

/-! Mb, part 4: subscripts, tests. -/
namespace Mb
open PySem L2 PyProof.Rows
section
variable {X : Cx} {B : Base} {ex : XD} {ss : Sst} {M : Mem} {a b c e tg : Expr} {es : List Expr} {pos p p' : Pos} {Q : SV → Mem → Prop}
theorem atI_rep {K : PySem.W.Frag} {G : Hp} {vs : List V} {ds : List D} {n : Int} {d : D} (r : Reps K G vs ds) (h : atI ds n = some d) : ∃ v, atI vs n = some v ∧ Rep K G v d := by
  unfold atI at h ⊢
  rw [r.length]
  cases e : ixN ds.length n with
  | none => simp [e] at h
  | some j =>
    simp only [e, Option.bind_some] at h ⊢
    exact r.get h
theorem SOk.sign {z : Str} {n : Int} {c : Nat} (h : SOk z) (hc : atI z.cps.toList n = some c) : SOk ⟨#[c]⟩ := by
  refine ⟨by show 1 ≤ sizeLine; decide, ?_⟩
  obtain ⟨j, _, hj, _⟩ := atI_get hc
  have a := h.2
  unfold PyData.strOk at a ⊢
  rw [Array.all_eq_true'] at a
  have m : c ∈ z.cps := by
    have := List.mem_of_getElem? hj
    exact Array.mem_def.mpr this
  have := a c m
  simpa using this
def ixD0 (a b : D) (k : D → Prop) : Prop := match a, b with
  | .lst ds, .int n => ∃ d, atI ds n = some d ∧ k d
  | .tup ds, .int n => ∃ d, atI ds n = some d ∧ k d
  | .str z, .int n => ∃ c, atI z.cps.toList n = some c ∧ k (.str ⟨#[c]⟩)
  | _, _ => False
structure ixD (a b : D) (k : D → Prop) : Prop where
  run : ixD0 a b k
theorem we_ix (h : WE X B ex a (fun x M1 => WE X B ex b (fun y M2 => with1 M2 x fun p => with1 M2 y fun q => ixD p q fun d => Q (.dat d) M2) ss M1) ss M) (hs : PlainIx b := by intro _ _; rfl) : WE X B ex (.Subscript a b pos) Q ss M := by
  refine .mk fun ck G A H σ w sl Kq k => ?_
  refine te_of (pe_ix ix_seq pe_self pe_self hs) ?_
  refine h ck G A H σ w sl _ fun u x G1 A1 M1 H1 e1 w1 s1 h1 => ?_
  refine h1 ck G1 A1 H1 σ w1 (sl.mono e1) _ fun v y G2 A2 M2 H2 e2 w2 s2 h2 => ?_
  obtain ⟨d1, g1, hh⟩ := with1_get h2
  obtain ⟨d2, g2, hh⟩ := with1_get hh
  have q1 := (s1.mono e2).s w2 g1
  have q2 := s2.s w2 g2
  have hh := hh.run
  cases d1 <;> cases d2 <;> try exact hh.elim
  · obtain ⟨rfl, hz⟩ := q1
    obtain rfl := q2
    obtain ⟨c, hc, q⟩ := hh
    refine .inr (.inr ⟨_, _, c, rfl, rfl, hz.1, hc, ?_⟩)
    exact k _ (.dat _) G2 A2 M2 H2 (e1.trans e2) w2 (Rep.str _ (hz.sign hc)) q
  · obtain ⟨l, vs, rfl, hl, r⟩ := q1
    obtain rfl := q2
    obtain ⟨d, hd, q⟩ := hh
    obtain ⟨z, hz, rz⟩ := atI_rep r hd
    exact .inl ⟨_, vs, _, z, rfl, rfl, .inl hl, hz, k _ (.dat _) G2 A2 M2 H2 (e1.trans e2) w2 rz q⟩
  · obtain ⟨l, vs, rfl, hl, r⟩ := q1
    obtain rfl := q2
    obtain ⟨d, hd, q⟩ := hh
    obtain ⟨z, hz, rz⟩ := atI_rep r hd
    exact .inr (.inl ⟨_, vs, _, z, rfl, rfl, .inl hl, hz, k _ (.dat _) G2 A2 M2 H2 (e1.trans e2) w2 rz q⟩)
end
end Mb

/-! Mb, part 5: equality, in, is, and, or, not, chains. -/
namespace Mb
open PySem L2 PyProof.Rows
/-! ### data as the library's data -/
mutual
def py : D → PyData
  | .non => .none
  | .bl b => .bool b
  | .int i => .int i
  | .str x => .str x
  | .lst xs => .list (pys xs)
  | .tup xs => .tuple (pys xs)
  | .ins _ _ => .dict []
  | .dic _ => .dict []
def pys : List D → List PyData
  | [] => []
  | d :: ds => py d :: pys ds
end
/-- plain data, nested at most n deep -/
def D.pl : Nat → D → Bool
  | _, .non => true
  | _, .bl _ => true
  | _, .int _ => true
  | _, .str _ => true
  | n + 1, .lst xs => xs.all (D.pl n)
  | n + 1, .tup xs => xs.all (D.pl n)
  | _, _ => false
def deq (a b : D) : Bool := PyData.eqv (py a) (py b)
def deqs (a b : List D) : Bool := PyData.eqvAll (pys a) (pys b)
mutual
theorem Rep.lay {K : PySem.W.Frag} {G : Hp} : ∀ {v : V} {d : D} {n : Nat}, Rep K G v d → D.pl n d = true → (py d).canLay0 = true ∧ (py d).depth ≤ n
  | _, _, _, .non, _ => ⟨by simp [py, PyData.canLay0], by simp [py, PyData.depth]⟩
  | _, _, _, .bl b, _ => ⟨by simp [py, PyData.canLay0], by simp [py, PyData.depth]⟩
  | _, _, _, .int i, _ => ⟨by simp [py, PyData.canLay0], by simp [py, PyData.depth]⟩
  | _, _, _, .str x h, _ => ⟨by simp [py, PyData.canLay0, h.2], by simp [py, PyData.depth]⟩
  | _, _, 0, .lst _ _, h => by simp [D.pl] at h
  | _, _, n + 1, .lst h r, hp => by
    have z := Reps.lay (n := n) r (by simpa [D.pl] using hp)
    exact ⟨by simp [py, PyData.canLay0, z.1], by simp only [py, PyData.depth]; omega⟩
  | _, _, 0, .tup _ _, h => by simp [D.pl] at h
  | _, _, n + 1, .tup h r, hp => by
    have z := Reps.lay (n := n) r (by simpa [D.pl] using hp)
    exact ⟨by simp [py, PyData.canLay0, z.1], by simp only [py, PyData.depth]; omega⟩
  | _, _, n, .ins _ _, h => by cases n <;> simp [D.pl] at h
  | _, _, n, .dic _ _, h => by cases n <;> simp [D.pl] at h
theorem Reps.lay {K : PySem.W.Frag} {G : Hp} : ∀ {vs : List V} {ds : List D} {n : Nat}, Reps K G vs ds → (∀ x ∈ ds, D.pl n x = true) → PyData.canLayAll0 (pys ds) = true ∧ PyData.depthAll (pys ds) ≤ n
  | _, _, _, .nil, _ => ⟨by simp [pys, PyData.canLayAll0], by simp [pys, PyData.depthAll]⟩
  | _, _, n, .cons h r, hp => by
    have a := h.lay (hp _ List.mem_cons_self)
    have b := Reps.lay (n := n) r fun x m => hp x (List.mem_cons_of_mem _ m)
    exact ⟨by simp [pys, PyData.canLayAll0, a.1, b.1], by simp only [pys, PyData.depthAll]; omega⟩
end
theorem Rep.shaped {K : PySem.W.Frag} {G : Hp} {v : V} {d : D} {n : Nat} (r : Rep K G v d) (h : D.pl n d = true) (hn : n ≤ 64) : SeqAt.shaped (py d) = true := by
  obtain ⟨a, b⟩ := r.lay h
  unfold SeqAt.shaped
  rw [a, Bool.true_and]
  exact decide_eq_true (by omega)
theorem deq_refl : ∀ {n : Nat} {d : D}, D.pl n d = true → deq d d = true
  | _, .non, _ => by simp [deq, py, PyData.eqv]
  | _, .bl _, _ => by simp [deq, py, PyData.eqv]
  | _, .int _, _ => by simp [deq, py, PyData.eqv]
  | _, .str _, _ => by simp [deq, py, PyData.eqv]
  | 0, .lst _, h => by simp [D.pl] at h
  | 0, .tup _, h => by simp [D.pl] at h
  | n, .ins _ _, h => by cases n <;> simp [D.pl] at h
  | n, .dic _, h => by cases n <;> simp [D.pl] at h
  | n + 1, .lst xs, h => by
    have q : ∀ ys : List D, ys.all (D.pl n) = true → PyData.eqvAll (pys ys) (pys ys) = true := by
      intro ys
      induction ys with
      | nil => intro _; simp [pys, PyData.eqvAll]
      | cons y ys ih =>
        intro hy
        rw [List.all_cons, Bool.and_eq_true] at hy
        have a : PyData.eqv (py y) (py y) = true := deq_refl hy.1
        simp [pys, PyData.eqvAll, a, ih hy.2]
    simp only [deq, py, PyData.eqv]
    exact q xs (by simpa [D.pl] using h)
  | n + 1, .tup xs, h => by
    have q : ∀ ys : List D, ys.all (D.pl n) = true → PyData.eqvAll (pys ys) (pys ys) = true := by
      intro ys
      induction ys with
      | nil => intro _; simp [pys, PyData.eqvAll]
      | cons y ys ih =>
        intro hy
        rw [List.all_cons, Bool.and_eq_true] at hy
        have a : PyData.eqv (py y) (py y) = true := deq_refl hy.1
        simp [pys, PyData.eqvAll, a, ih hy.2]
    simp only [deq, py, PyData.eqv]
    exact q xs (by simpa [D.pl] using h)
mutual
theorem Rep.dp {K : PySem.W.Frag} {G : Hp} : ∀ {v : V} {d : D} {n : Nat}, Rep K G v d → D.pl n d = true → Dp K G v (py d)
  | _, _, _, .non, _ => .non
  | _, _, _, .bl b, _ => .bl b
  | _, _, _, .int i, _ => .int i
  | _, _, _, .str x _, _ => .str x
  | _, _, 0, .lst _ _, h => by simp [D.pl] at h
  | _, _, n + 1, .lst h r, hp => .lst (.inl h) (Reps.dp (n := n) r (by simpa [D.pl] using hp))
  | _, _, 0, .tup _ _, h => by simp [D.pl] at h
  | _, _, n + 1, .tup h r, hp => .tup (.inl h) (Reps.dp (n := n) r (by simpa [D.pl] using hp))
  | _, _, n, .ins _ _, h => by cases n <;> simp [D.pl] at h
  | _, _, n, .dic _ _, h => by cases n <;> simp [D.pl] at h
theorem Reps.dp {K : PySem.W.Frag} {G : Hp} : ∀ {vs : List V} {ds : List D} {n : Nat}, Reps K G vs ds → (∀ x ∈ ds, D.pl n x = true) → DpAll K G vs (pys ds)
  | _, _, _, .nil, _ => .nil
  | _, _, n, .cons h r, hp => .cons (h.dp (hp _ List.mem_cons_self)) (r.dp (n := n) fun x m => hp x (List.mem_cons_of_mem _ m))
end
theorem RepS.rep {K : PySem.W.Frag} {G H : Hp} {v : V} {d : D} (e : Same G H) (h : RepS K G H v d) : Rep K H v d := by
  cases d with
  | non => cases h; exact .non
  | bl b => cases h; exact .bl b
  | int i => cases h; exact .int i
  | str x => obtain ⟨rfl, q⟩ := h; exact .str x q
  | lst ds => obtain ⟨a, vs, rfl, q, r⟩ := h; exact .lst q (r.mono e)
  | tup ds => obtain ⟨a, vs, rfl, q, r⟩ := h; exact .tup q (r.mono e)
  | ins C fs => obtain ⟨a, dx, vs, rfl, q, r⟩ := h; exact .ins q (r.mono e)
  | dic kvs => obtain ⟨a, vs, rfl, q, r⟩ := h; exact .dic q (r.mono e)
section
variable {X : Cx} {B : Base} {ex : XD} {ss : Sst} {M : Mem} {a b c e tg : Expr} {es : List Expr} {pos p p' : Pos} {Q : SV → Mem → Prop} {QB : Bool → Mem → Prop}
/-! ### ==, != -/
def eq20 (neg : Bool) (M : Mem) (x y : SV) (Q : SV → Mem → Prop) : Prop := with1 M x fun a => with1 M y fun b => (D.pl 60 a = true ∧ D.pl 60 b = true) ∧ Q (.dat (.bl (if neg then !deq a b else deq a b))) M
structure eq2 (neg : Bool) (M : Mem) (x y : SV) (Q : SV → Mem → Prop) : Prop where
  run : eq20 neg M x y Q
def eq2t0 (neg : Bool) (M : Mem) (x y : SV) (Q : Bool → Mem → Prop) : Prop := with1 M x fun a => with1 M y fun b => (D.pl 60 a = true ∧ D.pl 60 b = true) ∧ Q (if neg then !deq a b else deq a b) M
structure eq2t (neg : Bool) (M : Mem) (x y : SV) (Q : Bool → Mem → Prop) : Prop where
  run : eq2t0 neg M x y Q
theorem eq2_run {neg : Bool} {G : Hp} {A : List Addr} {H : Hp} {M : Mem} {x y : SV} {u v : V} {Q : SV → Mem → Prop} {Kq : VK} (w : Wd X.K B G A M H) (sx : SvOk X.K G A u x) (sy : SvOk X.K G A v y) (h : eq2 neg M x y Q) (k : VPost X.K B G A Q Kq) :
    ∃ d e, Dp X.K H u d ∧ Dp X.K H v e ∧ SeqAt.shaped d = true ∧ SeqAt.shaped e = true ∧ Kq (.bl (if neg then !PyData.eqv d e else PyData.eqv d e)) H := by
  obtain ⟨d1, g1, h⟩ := with1_get h.run
  obtain ⟨d2, g2, h⟩ := with1_get h
  have q1 := (sx.s w g1).rep w.gh
  have q2 := (sy.s w g2).rep w.gh
  exact ⟨py d1, py d2, q1.dp h.1.1, q2.dp h.1.2, q1.shaped h.1.1 (by omega), q2.shaped h.1.2 (by omega), k.flat .refl w (.bl _) h.2⟩
theorem eq2_t {neg : Bool} {M : Mem} {x y : SV} {Q : Bool → Mem → Prop} (h : eq2t neg M x y Q) : eq2 neg M x y fun z M3 => ∃ k, z = .dat (.bl k) ∧ Q k M3 := by
  obtain ⟨d1, g1, h⟩ := with1_get h.run
  obtain ⟨d2, g2, h⟩ := with1_get h
  exact ⟨with1_mk g1 (with1_mk g2 ⟨h.1, _, rfl, h.2⟩)⟩
theorem we_eq {k : Nat} (hr : Room k X.A) (h : WE X B ex a (fun x M1 => WE X B ex b (fun y M2 => eq2 false M2 x y Q) ss M1) ss M) : WE X B ex (.Compare a [.Eq] [b] pos) Q ss M :=
  we_cmp2 (f := eq2 false) (op_eqD hr.units) (nomark _) (fun G A H M x y u v Q Kq w sx sy h k => eq2_run w sx sy h k) h
theorem we_ne {k : Nat} (hr : Room k X.A) (h : WE X B ex a (fun x M1 => WE X B ex b (fun y M2 => eq2 true M2 x y Q) ss M1) ss M) : WE X B ex (.Compare a [.NotEq] [b] pos) Q ss M :=
  we_cmp2 (f := eq2 true) (op_neD hr.units) (nomark _) (fun G A H M x y u v Q Kq w sx sy h k => eq2_run w sx sy h k) h
theorem wt_eq {k : Nat} (hr : Room k X.A) (h : WE X B ex a (fun x M1 => WE X B ex b (fun y M2 => eq2t false M2 x y QB) ss M1) ss M) : WT X B ex (.Compare a [.Eq] [b] pos) QB ss M :=
  wt_cmp2 (f := eq2 false) (op_eqD hr.units) (nomark _) (fun G A H M x y u v Q Kq w sx sy h k => eq2_run w sx sy h k) (h.mono fun x M1 h1 => h1.mono fun y M2 h2 => eq2_t h2)
theorem wt_ne {k : Nat} (hr : Room k X.A) (h : WE X B ex a (fun x M1 => WE X B ex b (fun y M2 => eq2t true M2 x y QB) ss M1) ss M) : WT X B ex (.Compare a [.NotEq] [b] pos) QB ss M :=
  wt_cmp2 (f := eq2 true) (op_neD hr.units) (nomark _) (fun G A H M x y u v Q Kq w sx sy h k => eq2_run w sx sy h k) (h.mono fun x M1 h1 => h1.mono fun y M2 h2 => eq2_t h2)
/-! ### in -/
/-- what «x in y» answers -/
def inD0 (a b : D) (k : Bool → Prop) : Prop := match a, b with
  | .str x, .str z => k (!(Builtin.Str.occurrences z x 0 z.length 1).isEmpty)
  | a, .lst ds => (D.pl 60 a = true ∧ (ds.all (D.pl 60)) = true) ∧ k (ds.any fun z => deq z a)
  | a, .tup ds => (D.pl 0 a = true ∧ (ds.all (D.pl 0)) = true) ∧ k (ds.any fun z => deq z a)
  | _, _ => False
structure inD (a b : D) (k : Bool → Prop) : Prop where
  run : inD0 a b k
theorem inD_sign {c : Nat} {z : Str} {k : Bool → Prop} (h : k (decide (c ∈ z.cps.toList))) : inD (.str ⟨#[c]⟩) (.str z) k := by
  refine ⟨?_⟩
  show k (!(Builtin.Str.occurrences z ⟨#[c]⟩ 0 z.length 1).isEmpty)
  rw [PySem.StrLaws.found_one z c]
  exact h
theorem pl0_flat {K : PySem.W.Frag} {G : Hp} {v : V} {d : D} (r : Rep K G v d) (h : D.pl 0 d = true) : flatV v = true := by
  cases r <;> first | rfl | simp [D.pl] at h
theorem pl0_flats {K : PySem.W.Frag} {G : Hp} : ∀ {vs : List V} {ds : List D}, Reps K G vs ds → ds.all (D.pl 0) = true → vs.all flatV = true
  | _, _, .nil, _ => rfl
  | _, _, .cons h r, q => by
    rw [List.all_cons, Bool.and_eq_true] at q ⊢
    exact ⟨pl0_flat h q.1, pl0_flats r q.2⟩
theorem eqV_deq {K : PySem.W.Frag} {G : Hp} {u v : V} {d e : D} (r : Rep K G u d) (q : Rep K G v e) (h : D.pl 0 d = true) (h' : D.pl 0 e = true) : eqV u v = deq d e := by
  cases r <;> cases q <;> first | rfl | simp [D.pl] at h | simp [D.pl] at h' | (simp [eqV, deq, py, PyData.eqv])
theorem inV_deq {K : PySem.W.Frag} {G : Hp} {v : V} {e : D} (q : Rep K G v e) (h' : D.pl 0 e = true) : ∀ {vs : List V} {ds : List D}, Reps K G vs ds → ds.all (D.pl 0) = true → inV v vs = ds.any fun z => deq z e
  | _, _, .nil, _ => rfl
  | _, _, .cons h r, p => by
    rw [List.all_cons, Bool.and_eq_true] at p
    unfold inV
    rw [List.any_cons, List.any_cons, eqV_deq h q p.1 h']
    exact congrArg _ (inV_deq q h' r p.2)
theorem pys_any (a : D) : ∀ ds : List D, ((pys ds).any fun z => PyData.eqv z (py a)) = ds.any fun z => deq z a
  | [] => rfl
  | d :: ds => by
    show (PyData.eqv (py d) (py a) || _) = _
    rw [pys_any a ds]
    rfl
def in20 (neg : Bool) (M : Mem) (x y : SV) (Q : SV → Mem → Prop) : Prop := with1 M x fun a => with1 M y fun b => inD a b fun k => Q (.dat (.bl (if neg then !k else k))) M
structure in2 (neg : Bool) (M : Mem) (x y : SV) (Q : SV → Mem → Prop) : Prop where
  run : in20 neg M x y Q
def in2t0 (neg : Bool) (M : Mem) (x y : SV) (Q : Bool → Mem → Prop) : Prop := with1 M x fun a => with1 M y fun b => inD a b fun k => Q (if neg then !k else k) M
structure in2t (neg : Bool) (M : Mem) (x y : SV) (Q : Bool → Mem → Prop) : Prop where
  run : in2t0 neg M x y Q
theorem in2_t {neg : Bool} {M : Mem} {x y : SV} {Q : Bool → Mem → Prop} (h : in2t neg M x y Q) : in2 neg M x y fun z M3 => ∃ k, z = .dat (.bl k) ∧ Q k M3 := by
  obtain ⟨d1, g1, h⟩ := with1_get h.run
  obtain ⟨d2, g2, h⟩ := with1_get h
  refine ⟨with1_mk g1 (with1_mk g2 ⟨?_⟩)⟩
  have h := h.run
  cases d1 <;> cases d2 <;> first | exact h.elim | exact ⟨_, rfl, h⟩ | exact ⟨h.1, _, rfl, h.2⟩
theorem op_inAll (hu : X.A.units + 65 < cLine) : OpR X (compareOp .In) (fun x y H Q => (rInD X.K x y H Q ∨ rIn X.K false x y H Q) ∨ ∃ i j, x = .str i ∧ y = .str j ∧ Q (.bl (!(Builtin.Str.occurrences j i 0 j.length 1).isEmpty)) H) := OpR.or (OpR.or (op_inD hu) op_in_seq) op_in_str
theorem op_niAll (hu : X.A.units + 65 < cLine) : OpR X (compareOp .NotIn) (fun x y H Q => (rNotInD X.K x y H Q ∨ rIn X.K true x y H Q) ∨ ∃ i j, x = .str i ∧ y = .str j ∧ Q (.bl (!(!(Builtin.Str.occurrences j i 0 j.length 1).isEmpty))) H) := OpR.or (OpR.or (op_notInD hu) op_notIn_seq) op_notin_str
theorem in2_run {neg : Bool} {G : Hp} {A : List Addr} {H : Hp} {M : Mem} {x y : SV} {u v : V} {Q : SV → Mem → Prop} {Kq : VK} (w : Wd X.K B G A M H) (sx : SvOk X.K G A u x) (sy : SvOk X.K G A v y) (h : in2 neg M x y Q) (k : VPost X.K B G A Q Kq) :
    ((∃ d ds, Dp X.K H u d ∧ Dp X.K H v (.list ds) ∧ SeqAt.shaped d = true ∧ SeqAt.shaped (.list ds) = true ∧ Kq (.bl (if neg then !ds.any fun z => PyData.eqv z d else ds.any fun z => PyData.eqv z d)) H) ∨ rIn X.K neg u v H Kq) ∨
      ∃ i j, u = .str i ∧ v = .str j ∧ Kq (.bl (if neg then !(!(Builtin.Str.occurrences j i 0 j.length 1).isEmpty) else !(Builtin.Str.occurrences j i 0 j.length 1).isEmpty)) H := by
  obtain ⟨d1, g1, h⟩ := with1_get h.run
  obtain ⟨d2, g2, h⟩ := with1_get h
  have q1 := sx.s w g1
  have q2 := sy.s w g2
  have h := h.run
  cases d2 with
  | str z =>
    cases d1 <;> try exact h.elim
    obtain ⟨rfl, _⟩ := q1
    obtain ⟨rfl, _⟩ := q2
    exact .inr ⟨_, _, rfl, rfl, k.flat .refl w (.bl _) h⟩
  | lst ds =>
    have h' : (D.pl 60 d1 = true ∧ ds.all (D.pl 60) = true) ∧ Q (.dat (.bl (if neg then !(ds.any fun z => deq z d1) else ds.any fun z => deq z d1))) M := by cases d1 <;> exact h
    have r2 := q2.rep w.gh
    refine .inl (.inl ⟨py d1, pys ds, (q1.rep w.gh).dp h'.1.1, r2.dp (n := 61) h'.1.2, (q1.rep w.gh).shaped h'.1.1 (by omega), r2.shaped (n := 61) h'.1.2 (by omega), ?_⟩)
    rw [pys_any]
    exact k.flat .refl w (.bl _) h'.2
  | tup ds =>
    have h' : (D.pl 0 d1 = true ∧ ds.all (D.pl 0) = true) ∧ Q (.dat (.bl (if neg then !(ds.any fun z => deq z d1) else ds.any fun z => deq z d1))) M := by cases d1 <;> exact h
    obtain ⟨t, vs, rfl, ht, r⟩ := q2
    have r1 := q1.rep w.gh
    refine .inl (.inr ⟨t, vs, rfl, .inr (.inl ht), pl0_flat r1 h'.1.1, pl0_flats r h'.1.2, ?_⟩)
    rw [inV_deq r1 h'.1.1 (r.mono w.gh) h'.1.2]
    exact k.flat .refl w (.bl _) h'.2
  | _ => cases d1 <;> exact h.elim
theorem we_in {k : Nat} (hr : Room k X.A) (hm : behindInMarks .In b = false) (h : WE X B ex a (fun x M1 => WE X B ex b (fun y M2 => in2 false M2 x y Q) ss M1) ss M) : WE X B ex (.Compare a [.In] [b] pos) Q ss M :=
  we_cmp2 (f := in2 false) (op_inAll (by have := hr.un; omega)) hm (fun G A H M x y u v Q Kq w sx sy h k => in2_run w sx sy h k) h
theorem we_ni {k : Nat} (hr : Room k X.A) (hm : behindInMarks .NotIn b = false) (h : WE X B ex a (fun x M1 => WE X B ex b (fun y M2 => in2 true M2 x y Q) ss M1) ss M) : WE X B ex (.Compare a [.NotIn] [b] pos) Q ss M :=
  we_cmp2 (f := in2 true) (op_niAll (by have := hr.un; omega)) hm (fun G A H M x y u v Q Kq w sx sy h k => in2_run w sx sy h k) h
theorem wt_in {k : Nat} (hr : Room k X.A) (hm : behindInMarks .In b = false) (h : WE X B ex a (fun x M1 => WE X B ex b (fun y M2 => in2t false M2 x y QB) ss M1) ss M) : WT X B ex (.Compare a [.In] [b] pos) QB ss M :=
  wt_cmp2 (f := in2 false) (op_inAll (by have := hr.un; omega)) hm (fun G A H M x y u v Q Kq w sx sy h k => in2_run w sx sy h k) (h.mono fun x M1 h1 => h1.mono fun y M2 h2 => in2_t h2)
theorem wt_ni {k : Nat} (hr : Room k X.A) (hm : behindInMarks .NotIn b = false) (h : WE X B ex a (fun x M1 => WE X B ex b (fun y M2 => in2t true M2 x y QB) ss M1) ss M) : WT X B ex (.Compare a [.NotIn] [b] pos) QB ss M :=
  wt_cmp2 (f := in2 true) (op_niAll (by have := hr.un; omega)) hm (fun G A H M x y u v Q Kq w sx sy h k => in2_run w sx sy h k) (h.mono fun x M1 h1 => h1.mono fun y M2 h2 => in2_t h2)
/-! ### is None -/
def isN (x : SV) : Bool := match x with
  | .dat .non => true
  | _ => false
/-- known to be None or known not to be -/
def SV.told : SV → Bool
  | .dat _ => true
  | .cel _ => true
  | .raw _ => false
  | .exc _ _ _ => false
theorem isN_dec {K : PySem.W.Frag} {G : Hp} {A : List Addr} {v : V} {x : SV} (h : SvOk K G A v x) (ht : x.told = true) : decide (v = .non) = isN x := by
  cases x with
  | raw u => simp [SV.told] at ht
  | exc u v w => simp [SV.told] at ht
  | cel i => obtain ⟨a, rfl, _⟩ := h; rfl
  | dat d => cases h <;> rfl
theorem we_isN {j : Nat} (h : WE X B ex a (fun x M1 => x.told = true ∧ Q (.dat (.bl (isN x))) M1) ss M) : WE X B ex (.Compare a [.Is] [.Constant .none j p] pos) Q ss M := .mk fun ck G A H σ w sl Kq k => by
  refine te_of (pe_cmpR op_isN pe_self pe_non (nomark _)) ?_
  refine h ck G A H σ w sl _ fun u x G1 A1 M1 H1 e1 w1 s1 h1 => ⟨rfl, ?_⟩
  rw [isN_dec s1 h1.1]
  exact k _ (.dat _) G1 A1 M1 H1 e1 w1 (Rep.bl _) h1.2
theorem we_notN {j : Nat} (h : WE X B ex a (fun x M1 => x.told = true ∧ Q (.dat (.bl (!isN x))) M1) ss M) : WE X B ex (.Compare a [.IsNot] [.Constant .none j p] pos) Q ss M := .mk fun ck G A H σ w sl Kq k => by
  refine te_of (pe_cmpR op_notN pe_self pe_non (nomark _)) ?_
  refine h ck G A H σ w sl _ fun u x G1 A1 M1 H1 e1 w1 s1 h1 => ⟨rfl, ?_⟩
  rw [isN_dec s1 h1.1]
  exact k _ (.dat _) G1 A1 M1 H1 e1 w1 (Rep.bl _) h1.2
/-! ### tests -/
theorem WT.mono {Q' : Bool → Mem → Prop} (h : WT X B ex e QB ss M) (m : ∀ b M', QB b M' → Q' b M') : WT X B ex e Q' ss M := .mk fun ck G A H σ w sl Kq k =>
  h ck G A H σ w sl Kq fun b G' A' M' H' e w' q => k b G' A' M' H' e w' (m _ _ q)
/-- a value that is a bool, as a test (a call, a comparison, a name ..) -/
theorem wt_val (h : WE X B ex e (fun x M1 => ∃ k, x = .dat (.bl k) ∧ QB k M1) ss M) (he : ∀ whole, isTrue e X.env whole = (do let v ← whole; standAt e.pos; holding [v] (truthy v)) := by intro _; rfl) : WT X B ex e QB ss M := .mk fun ck G A H σ w sl Kq k => by
  refine tt_of (pt_val pe_self he) ?_
  refine h ck G A H σ w sl _ fun u x G1 A1 M1 H1 e1 w1 s1 h1 => ?_
  obtain ⟨i, rfl, q⟩ := h1
  cases s1
  exact ⟨i, rfl, k i G1 A1 M1 H1 e1 w1 q⟩
/-- a value's truth -/
def truD : D → Bool
  | .non => false
  | .bl b => b
  | .int i => i != 0
  | .str y => (y.length : Int) != 0
  | .lst ds => !ds.isEmpty
  | .tup ds => !ds.isEmpty
  | .dic kvs => !kvs.isEmpty
  | .ins _ _ => true
def D.isIns : D → Bool
  | .ins _ _ => true
  | _ => false
theorem isEmpty_reps {K : PySem.W.Frag} {G : Hp} {vs : List V} {ds : List D} (r : Reps K G vs ds) : (!ds.isEmpty) = !vs.isEmpty := by cases r <;> rfl
theorem isEmpty_repk {K : PySem.W.Frag} {G : Hp} {vs : List (Key × V)} {ds : List (Key × D)} (r : RepK K G vs ds) : (!ds.isEmpty) = !vs.isEmpty := by cases r <;> rfl
theorem tru_run {G : Hp} {A : List Addr} {H : Hp} {x : SV} {v : V} {d : D} (w : Wd X.K B G A M H) (s : SvOk X.K G A v x) (g : x.get M = some d) (hi : d.isIns = false) : TruV X.K v H (truD d) := by
  have q := s.s w g
  cases d with
  | non => cases q; rfl
  | bl b => cases q; rfl
  | int i => cases q; rfl
  | str y => obtain ⟨rfl, z⟩ := q; exact ⟨z.1, rfl⟩
  | lst ds => obtain ⟨a, vs, rfl, q, r⟩ := q; exact .inl ⟨vs, .inl q, isEmpty_reps r⟩
  | tup ds => obtain ⟨a, vs, rfl, q, r⟩ := q; exact .inr (.inl ⟨vs, .inl q, isEmpty_reps r⟩)
  | dic ds => obtain ⟨a, vs, rfl, q, r⟩ := q; exact .inr (.inr ⟨vs, q, isEmpty_repk r⟩)
  | ins C fs => simp [D.isIns] at hi
theorem wt_truth (h : WE X B ex e (fun x M1 => with1 M1 x fun d => d.isIns = false ∧ QB (truD d) M1) ss M) (he : ∀ whole, isTrue e X.env whole = (do let v ← whole; standAt e.pos; holding [v] (truthy v)) := by intro _; rfl) : WT X B ex e QB ss M := .mk fun ck G A H σ w sl Kq k => by
  refine tt_of (pt_truth pe_self he) ?_
  refine h ck G A H σ w sl _ fun u x G1 A1 M1 H1 e1 w1 s1 h1 => ?_
  obtain ⟨d, g, h1⟩ := with1_get h1
  exact ⟨_, tru_run w1 s1 g h1.1, k _ G1 A1 M1 H1 e1 w1 h1.2⟩
theorem wt_not (h : WT X B ex e (fun b M1 => QB (!b) M1) ss M) : WT X B ex (.UnaryOp .Not e pos) QB ss M := .mk fun ck G A H σ w sl Kq k => by
  refine tt_of (pt_not pt_self) ?_
  exact h ck G A H σ w sl _ fun b G1 A1 M1 H1 e1 w1 h1 => k _ G1 A1 M1 H1 e1 w1 h1
theorem wt_w (h : WW X B ex e QB ss M) : WT X B ex e QB ss M := .mk fun ck G A H σ w sl Kq k => tt_of pw_self.pt (h ck G A H σ w sl Kq k)
theorem ww_and1 (h : WT X B ex e QB ss M) : WW X B ex (.BoolOp .And [e] pos) QB ss M := .mk fun ck G A H σ w sl Kq k => tw_of (pw_and1 pt_self) (h ck G A H σ w sl Kq k)
theorem ww_or1 (h : WT X B ex e QB ss M) : WW X B ex (.BoolOp .Or [e] pos) QB ss M := .mk fun ck G A H σ w sl Kq k => tw_of (pw_or1 pt_self) (h ck G A H σ w sl Kq k)
theorem ww_and (h : WT X B ex a (fun x M1 => if x = true then WW X B ex (.BoolOp .And (b :: es) pos) QB ss M1 else QB false M1) ss M) : WW X B ex (.BoolOp .And (a :: b :: es) pos) QB ss M := .mk fun ck G A H σ w sl Kq k => by
  refine tw_of (pw_and pt_self pw_self) ?_
  refine h ck G A H σ w sl _ fun x G1 A1 M1 H1 e1 w1 h1 => ?_
  cases x with
  | true => rw [if_pos rfl] at h1 ⊢; exact h1 ck G1 A1 H1 σ w1 (sl.mono e1) _ fun y G2 A2 M2 H2 e2 w2 h2 => k y G2 A2 M2 H2 (e1.trans e2) w2 h2
  | false => rw [if_neg Bool.false_ne_true] at h1 ⊢; exact k _ G1 A1 M1 H1 e1 w1 h1
theorem ww_or (h : WT X B ex a (fun x M1 => if x = true then QB true M1 else WW X B ex (.BoolOp .Or (b :: es) pos) QB ss M1) ss M) : WW X B ex (.BoolOp .Or (a :: b :: es) pos) QB ss M := .mk fun ck G A H σ w sl Kq k => by
  refine tw_of (pw_or pt_self pw_self) ?_
  refine h ck G A H σ w sl _ fun x G1 A1 M1 H1 e1 w1 h1 => ?_
  cases x with
  | false => rw [if_neg Bool.false_ne_true] at h1 ⊢; exact h1 ck G1 A1 H1 σ w1 (sl.mono e1) _ fun y G2 A2 M2 H2 e2 w2 h2 => k y G2 A2 M2 H2 (e1.trans e2) w2 h2
  | true => rw [if_pos rfl] at h1 ⊢; exact k _ G1 A1 M1 H1 e1 w1 h1
/-! ### .. as values (bools) -/
theorem we_one {op} (h : WE X B ex e Q ss M) : WE X B ex (.BoolOp op [e] pos) Q ss M := .mk fun ck G A H σ w sl Kq k => te_of (pe_one pe_self) (h ck G A H σ w sl Kq k)
theorem we_and (h : WE X B ex a (fun x M1 => ∃ k, x = .dat (.bl k) ∧ if k = true then WE X B ex (.BoolOp .And (b :: es) pos) Q ss M1 else Q (.dat (.bl false)) M1) ss M) : WE X B ex (.BoolOp .And (a :: b :: es) pos) Q ss M := .mk fun ck G A H σ w sl Kq k => by
  refine te_of (pe_and pe_self pe_self) ?_
  refine h ck G A H σ w sl _ fun u x G1 A1 M1 H1 e1 w1 s1 h1 => ?_
  obtain ⟨i, rfl, h1⟩ := h1
  cases s1
  refine ⟨i, rfl, ?_⟩
  cases i with
  | true => rw [if_pos rfl] at h1 ⊢; exact h1 ck G1 A1 H1 σ w1 (sl.mono e1) _ fun v y G2 A2 M2 H2 e2 w2 s2 h2 => k v y G2 A2 M2 H2 (e1.trans e2) w2 s2 h2
  | false => rw [if_neg Bool.false_ne_true] at h1 ⊢; exact k _ (.dat _) G1 A1 M1 H1 e1 w1 (Rep.bl _) h1
theorem we_or (h : WE X B ex a (fun x M1 => ∃ k, x = .dat (.bl k) ∧ if k = true then Q (.dat (.bl true)) M1 else WE X B ex (.BoolOp .Or (b :: es) pos) Q ss M1) ss M) : WE X B ex (.BoolOp .Or (a :: b :: es) pos) Q ss M := .mk fun ck G A H σ w sl Kq k => by
  refine te_of (pe_or pe_self pe_self) ?_
  refine h ck G A H σ w sl _ fun u x G1 A1 M1 H1 e1 w1 s1 h1 => ?_
  obtain ⟨i, rfl, h1⟩ := h1
  cases s1
  refine ⟨i, rfl, ?_⟩
  cases i with
  | false => rw [if_neg Bool.false_ne_true] at h1 ⊢; exact h1 ck G1 A1 H1 σ w1 (sl.mono e1) _ fun v y G2 A2 M2 H2 e2 w2 s2 h2 => k v y G2 A2 M2 H2 (e1.trans e2) w2 s2 h2
  | true => rw [if_pos rfl] at h1 ⊢; exact k _ (.dat _) G1 A1 M1 H1 e1 w1 (Rep.bl _) h1
theorem we_not (h : WE X B ex e (fun x M1 => ∃ k, x = .dat (.bl k) ∧ Q (.dat (.bl (!k))) M1) ss M) : WE X B ex (.UnaryOp .Not e pos) Q ss M := .mk fun ck G A H σ w sl Kq k => by
  refine te_of (pe_not pe_self) ?_
  refine h ck G A H σ w sl _ fun u x G1 A1 M1 H1 e1 w1 s1 h1 => ?_
  obtain ⟨i, rfl, h1⟩ := h1
  cases s1
  exact ⟨i, rfl, k _ (.dat _) G1 A1 M1 H1 e1 w1 (Rep.bl _) h1⟩
theorem we_ifx (h : WT X B ex c (fun x M1 => if x = true then WE X B ex a Q ss M1 else WE X B ex b Q ss M1) ss M) : WE X B ex (.IfExp c a b pos) Q ss M := .mk fun ck G A H σ w sl Kq k => by
  refine te_of (pe_ifExp pt_self pe_self pe_self) ?_
  refine h ck G A H σ w sl _ fun x G1 A1 M1 H1 e1 w1 h1 => ?_
  cases x with
  | true => rw [if_pos rfl] at h1 ⊢; exact h1 ck G1 A1 H1 σ w1 (sl.mono e1) _ fun v y G2 A2 M2 H2 e2 w2 s2 h2 => k v y G2 A2 M2 H2 (e1.trans e2) w2 s2 h2
  | false => rw [if_neg Bool.false_ne_true] at h1 ⊢; exact h1 ck G1 A1 H1 σ w1 (sl.mono e1) _ fun v y G2 A2 M2 H2 e2 w2 s2 h2 => k v y G2 A2 M2 H2 (e1.trans e2) w2 s2 h2
/-! ### a <= b <= c, ints -/
theorem wt_chain {op op' : CmpOp} {g g' : Int → Int → Bool} (ho : OpR X (compareOp op) (rI0 fun i j => .bl (g i j))) (ho' : OpR X (compareOp op') (rI0 fun i j => .bl (g' i j)))
    (h : WE X B ex a (fun x M1 => WE X B ex b (fun y M2 => ∃ i j, x = .dat (.int i) ∧ y = .dat (.int j) ∧ if g i j = true then WE X B ex c (fun z M3 => ∃ n, z = .dat (.int n) ∧ QB (g' j n) M3) ss M2 else QB false M2) ss M1) ss M)
    (hm : lastMarks [op, op'] [b, c] = false := by with_unfolding_all rfl) : WT X B ex (.Compare a [op, op'] [b, c] pos) QB ss M := .mk fun ck G A H σ w sl Kq k => by
  refine tt_of (pt_chain ho ho' pe_self pe_self pe_self hm) ?_
  refine h ck G A H σ w sl _ fun u x G1 A1 M1 H1 e1 w1 s1 h1 => ?_
  refine h1 ck G1 A1 H1 σ w1 (sl.mono e1) _ fun v y G2 A2 M2 H2 e2 w2 s2 h2 => ?_
  obtain ⟨i, j, rfl, rfl, h2⟩ := h2
  cases s1
  cases s2
  refine ⟨i, j, rfl, rfl, _, rfl, ?_⟩
  by_cases hc : g i j = true
  · rw [if_pos hc] at h2 ⊢
    refine h2 ck G2 A2 H2 σ w2 ((sl.mono e1).mono e2) _ fun v z G3 A3 M3 H3 e3 w3 s3 h3 => ?_
    obtain ⟨n, rfl, h3⟩ := h3
    cases s3
    exact ⟨j, n, rfl, rfl, _, rfl, k _ G3 A3 M3 H3 ((e1.trans e2).trans e3) w3 h3⟩
  · rw [if_neg hc] at h2 ⊢
    exact ⟨false, rfl, k _ G2 A2 M2 H2 (e1.trans e2) w2 h2⟩
end
end Mb

/-! Mb, part 6: arguments, displays, calls. -/
namespace Mb
open PySem L2 PyProof.Rows
/-- all are data -/
def datsOf : List SV → Option (List D)
  | [] => some []
  | .dat d :: r => (datsOf r).map (d :: ·)
  | _ :: _ => none
def withs0 (xs : List SV) (k : List D → Prop) : Prop := match datsOf xs with
  | some ds => k ds
  | none => False
structure withs (xs : List SV) (k : List D → Prop) : Prop where
  run : withs0 xs k
theorem withs_get {xs : List SV} {k : List D → Prop} (h : withs xs k) : ∃ ds, datsOf xs = some ds ∧ k ds := by
  have h := h.run
  unfold withs0 at h
  cases e : datsOf xs with
  | none => simp [e] at h
  | some d => simp [e] at h; exact ⟨d, rfl, h⟩
theorem Svs.reps {K : PySem.W.Frag} {G : Hp} {A : List Addr} : ∀ {vs : List V} {xs : List SV} {ds : List D}, Svs K G A vs xs → datsOf xs = some ds → Reps K G vs ds
  | _, _, _, .nil, e => by simp [datsOf] at e; subst e; exact .nil
  | _, _, ds, .cons (x := x) h r, e => by
    cases x with
    | cel i => simp [datsOf] at e
    | raw u => simp [datsOf] at e
    | exc u v w => simp [datsOf] at e
    | dat d =>
      simp only [datsOf, Option.map_eq_some_iff] at e
      obtain ⟨rs, e1, rfl⟩ := e
      exact .cons h (r.reps e1)
section
variable {K : PySem.W.Frag} {B : Base} {G : Hp} {A : List Addr} {M : List Cell} {H : Hp}
/-- a list of ours is never changed again -/
theorem Wd.freeze (w : Wd K B G A M H) {i : Nat} {a : Addr} {ds : List D} (hi : A[i]? = some a) (hb : B.A.length ≤ i) (hM : M[i]? = some (.lst ds)) :
    ∃ G', Wd K B G' A (M.set i .dead) H ∧ Ext G A G' A ∧ Rep K G' (.ref a) (.lst ds) := by
  obtain ⟨gn, vs, hv, r⟩ := w.cl.get hi hM
  have s1 : Same G (upd G a (.lst vs)) := same_upd gn
  have ex : Ext G A (upd G a (.lst vs)) A := ⟨s1, [], by simp⟩
  have hA : a ∈ A := List.mem_of_getElem? hi
  have hnB : B.H a = Option.none := by
    rcases w.an a hA with q | q
    · exfalso
      obtain ⟨more, e⟩ := w.pre
      obtain ⟨j, hj, ej⟩ := List.mem_iff_getElem.mp q
      have h1 : A[j]? = some a := by rw [e, List.getElem?_append_left hj, List.getElem?_eq_getElem hj, ej]
      have := nd_ix w.nd hi h1
      omega
    · exact q
  refine ⟨upd G a (.lst vs), ⟨w.gg.trans s1, fun b u e => ?_, w.fr, fun b u e => ?_, w.nd, w.pre, w.there, w.an, ?_⟩, ex, .lst (.inl upd_same) (r.mono s1)⟩
  · by_cases c : b = a
    · subst c; rw [upd_same] at e; rw [← e]; exact hv
    · rw [upd_ne c] at e; exact w.gh b u e
  · by_cases c : b = a
    · subst c; exact .inr hnB
    · rw [upd_ne c] at e; exact w.fresh b u e
  · have go : ∀ {as : List Addr} {cs : List Cell} {i : Nat}, as.Nodup → Cells K G A H as cs → as[i]? = some a → Cells K (upd G a (.lst vs)) A H as (cs.set i .dead) := by
      intro as cs i nd q
      induction q generalizing i with
      | nil => intro e; simp at e
      | @cons b as c cs h r ih =>
        intro e
        cases i with
        | zero =>
          simp at e
          subst e
          refine .cons trivial (r.imp fun x y m q => q.keep ex (fun g => ?_) fun _ e => e)
          rw [upd_ne (show x ≠ b from fun z => (List.nodup_cons.mp nd).1 (z ▸ m))]; exact g
        | succ j =>
          have e' : as[j]? = some a := by simpa using e
          have hp : a ∈ as := List.mem_of_getElem? e'
          refine .cons (h.keep ex (fun g => ?_) fun _ e => e) (ih (List.nodup_cons.mp nd).2 e')
          rw [upd_ne (show b ≠ a from fun z => (List.nodup_cons.mp nd).1 (z ▸ hp))]; exact g
    exact go w.nd w.cl hi
end
/-! ### cells of a caller and a callee -/
def SV.sh (n m : Nat) : SV → SV
  | .cel j => if j < n then .cel j else .cel (j - n + m)
  | x => x
theorem SvOk.sh {K : PySem.W.Frag} {G : Hp} {A more : List Addr} {v : V} {x : SV} {n : Nat} (hn : n ≤ A.length) (h : SvOk K G (A.take n ++ more) v x) : SvOk K G (A ++ more) v (x.sh n A.length) := by
  cases x with
  | dat d => exact h
  | raw u => exact h
  | exc u v w => exact h
  | cel j =>
    obtain ⟨a, h1, h2⟩ := h
    have hl : (A.take n).length = n := by rw [List.length_take]; omega
    unfold SV.sh
    by_cases c : j < n
    · simp only [c, if_true]
      refine ⟨a, h1, ?_⟩
      rw [List.getElem?_append_left (by omega)] at h2
      rw [List.getElem?_append_left (by omega)]
      rw [List.getElem?_take, if_pos c] at h2
      exact h2
    · simp only [c, if_false]
      refine ⟨a, h1, ?_⟩
      rw [List.getElem?_append_right (by omega), hl] at h2
      rw [List.getElem?_append_right (by omega)]
      rw [show j - n + A.length - A.length = j - n by omega]
      exact h2
/-- what the call's end leaves the caller -/
theorem Wd.back {K : PySem.W.Frag} {B : Base} {G : Hp} {A : List Addr} {M : List Cell} {H : Hp} (w : Wd K B G A M H) {n : Nat} (hn : n ≤ M.length) {G' : Hp} {A' : List Addr} {M' : List Cell} {H' : Hp} (w' : Wd K ⟨G, A.take n, H⟩ G' A' M' H') (hl : M'.all (Cell.lt n) = true) :
    ∃ more, A' = A.take n ++ more ∧ Wd K B G' (A ++ more) (M'.take n ++ M.drop n ++ M'.drop n) H' ∧ Ext G A G' (A ++ more) := by
  obtain ⟨more, e⟩ := w'.pre
  have e : A' = A.take n ++ more := e
  subst e
  have hA := w.len
  have hlen : (A.take n).length = n := by rw [List.length_take]; omega
  have ex : Ext G A G' (A ++ more) := ⟨w'.gg, more, rfl⟩
  have hnew : ∀ b ∈ more, H b = Option.none := fun b m => by
    rcases w'.an b (List.mem_append_right _ m) with q | q
    · exfalso
      exact (List.nodup_append.mp w'.nd).2.2 b q b m rfl
    · exact q
  have hold : ∀ b, b ∈ A → b ∉ A.take n → ∀ o, H b = some o → H' b = some o := fun b m nm o e => w'.fr b o e nm
  refine ⟨more, rfl, ⟨w.gg.trans w'.gg, w'.gh, fun b o e nb => ?_, fun b o e => ?_, ?_, ?_, fun b m => ?_, fun b m => ?_, ?_⟩, ex⟩
  · have e1 := w.fr b o e nb
    by_cases c : b ∈ A.take n
    · exfalso
      rcases w.an b (List.mem_of_mem_take c) with q | q
      · exact nb q
      · rw [q] at e; cases e
    · exact w'.fr b o e1 c
  · rcases w'.fresh b o e with q | q
    · exact w.fresh b o q
    · exact .inr (w.none q).1
  · refine List.nodup_append.mpr ⟨w.nd, (List.nodup_append.mp w'.nd).2.1, fun x hx y hy z => ?_⟩
    subst z
    obtain ⟨o, e⟩ := w.there x hx
    rw [hnew x hy] at e; cases e
  · obtain ⟨m0, e⟩ := w.pre
    exact ⟨m0 ++ more, by rw [e]; simp⟩
  · rcases List.mem_append.mp m with m | m
    · by_cases c : b ∈ A.take n
      · exact w'.there b (List.mem_append_left _ c)
      · obtain ⟨o, e⟩ := w.there b m
        exact ⟨o, hold b m c o e⟩
    · exact w'.there b (List.mem_append_right _ m)
  · rcases List.mem_append.mp m with m | m
    · exact w.an b m
    · exact .inr (w.none (hnew b m)).1
  · have c1 : Cells K G' (A ++ more) H' (A.take n) (M'.take n) := by
      have q := (w'.cl.take n)
      rw [List.take_append_of_le_length (by omega), List.take_take, Nat.min_self] at q
      have q2 := Cells.cut (k := n) (by
        have := hl
        rw [← List.take_append_drop n M', List.all_append, Bool.and_eq_true] at this
        exact this.1) q
      rw [List.take_append_of_le_length (by omega), List.take_take, Nat.min_self] at q2
      refine q2.imp fun a c m h => h.keep ⟨fun _ _ e => e, ?_⟩ (fun g => g) fun _ e => e
      exact ⟨A.drop n ++ more, by rw [← List.append_assoc, List.take_append_drop]⟩
    have c2 : Cells K G' (A ++ more) H' (A.drop n) (M.drop n) := by
      refine (w.cl.drop n).imp fun a c m h => h.keep ex (fun g => ?_) fun o e => ?_
      · cases e : G' a with
        | none => rfl
        | some o =>
          rcases w'.fresh a o e with q | q
          · have q : G a = some o := q
            rw [g] at q; cases q
          · obtain ⟨o', e'⟩ := w.there a (List.mem_of_mem_drop m)
            have q : H a = Option.none := q
            rw [q] at e'; cases e'
      · refine hold a (List.mem_of_mem_drop m) (fun z => ?_) o e
        have nd := w.nd
        rw [← List.take_append_drop n A] at nd
        exact (List.nodup_append.mp nd).2.2 a z a m rfl
    have c3 : Cells K G' (A ++ more) H' more (M'.drop n) := by
      have q := (w'.cl.drop n)
      rw [List.drop_append_of_le_length (by omega), List.drop_take, Nat.sub_self, List.take_zero, List.nil_append] at q
      have q2 := Cells.cut (k := n) (by
        have := hl
        rw [← List.take_append_drop n M', List.all_append, Bool.and_eq_true] at this
        exact this.2) q
      rw [List.take_append_of_le_length (by omega), List.take_take, Nat.min_self] at q2
      refine q2.imp fun a c m h => h.keep ⟨fun _ _ e => e, ?_⟩ (fun g => g) fun _ e => e
      exact ⟨A.drop n ++ more, by rw [← List.append_assoc, List.take_append_drop]⟩
    have := (c1.append c2).append c3
    rw [List.take_append_drop] at this
    exact this
section
variable {X : Cx} {B : Base} {ex : XD} {ss : Sst} {M : Mem} {a b c e tg o : Expr} {es : List Expr} {pos p p' apos : Pos} {Q : SV → Mem → Prop} {QB : Bool → Mem → Prop}
/-- a list of ours, handed on as data -/
theorem WE.frz (h : WE X B ex e (fun x M1 => ∃ i ds, x = .cel i ∧ B.A.length ≤ i ∧ M1[i]? = some (.lst ds) ∧ Q (.dat (.lst ds)) (M1.set i .dead)) ss M) : WE X B ex e Q ss M := .mk fun ck G A H σ w sl Kq k =>
  h ck G A H σ w sl Kq fun v x G1 A1 M1 H1 e1 w1 s1 h1 => by
    obtain ⟨i, ds, rfl, hb, hM, q⟩ := h1
    obtain ⟨l, rfl, hl⟩ := s1
    obtain ⟨G2, w2, e2, r⟩ := w1.freeze hl hb hM
    exact k _ (.dat _) G2 A1 _ H1 (e1.trans e2) w2 r q
/-! ### arguments -/
theorem wa_nil {Q : List SV → Mem → Prop} (q : Q [] M) : WA X B ex [] Q ss M := .mk fun ck G A H σ w sl Kq k => ta_of pa_nil (k [] [] G A M H .refl w .nil q)
theorem wa_cons {Q : List SV → Mem → Prop} (h : WE X B ex e (fun x M1 => WA X B ex es (fun xs M2 => Q (x :: xs) M2) ss M1) ss M) (hs : starEach (e :: es) X.env = (false, eval e X.env) :: starEach es X.env := by rfl) : WA X B ex (e :: es) Q ss M := .mk fun ck G A H σ w sl Kq k => by
  refine ta_of (pa_cons pe_self pa_self hs) ?_
  refine h ck G A H σ w sl _ fun v x G1 A1 M1 H1 e1 w1 s1 h1 => ?_
  refine h1 ck G1 A1 H1 σ w1 (sl.mono e1) _ fun vs xs G2 A2 M2 H2 e2 w2 s2 h2 => ?_
  exact k (v :: vs) (x :: xs) G2 A2 M2 H2 (e1.trans e2) w2 (.cons (s1.mono e2) s2) h2
/-! ### displays -/
theorem we_tup {j : Nat} (h : WA X B ex es (fun xs M1 => withs xs fun ds => ds.length ≤ sizeLine ∧ Q (.dat (.tup ds)) M1) ss M) : WE X B ex (.Tuple es j pos) Q ss M := .mk fun ck G A H σ w sl Kq k => by
  refine te_of (pe_tup pa_self) ?_
  refine h ck G A H σ w sl _ fun vs xs G1 A1 M1 H1 e1 w1 s1 h1 => ?_
  obtain ⟨ds, hd, hz, q⟩ := withs_get h1
  have r := s1.reps hd
  exact ⟨by rw [r.length]; exact hz, k.new e1 w1 q fun p hp => .tup (.inl upd_same) (r.mono (same_upd (w1.none hp).2.2))⟩
theorem we_lst (h : WA X B ex es (fun xs M1 => withs xs fun ds => ds.length ≤ sizeLine ∧ Q (.dat (.lst ds)) M1) ss M) : WE X B ex (.List es pos) Q ss M := .mk fun ck G A H σ w sl Kq k => by
  refine te_of (pe_lst pa_self) ?_
  refine h ck G A H σ w sl _ fun vs xs G1 A1 M1 H1 e1 w1 s1 h1 => ?_
  obtain ⟨ds, hd, hz, q⟩ := withs_get h1
  have r := s1.reps hd
  exact ⟨by rw [r.length]; exact hz, k.new e1 w1 q fun p hp => .lst (.inl upd_same) (r.mono (same_upd (w1.none hp).2.2))⟩
/-- .. a list that will be changed -/
theorem we_lstC (h : WA X B ex es (fun xs M1 => withs xs fun ds => ds.length ≤ sizeLine ∧ Q (.cel M1.length) (M1 ++ [.lst ds])) ss M) : WE X B ex (.List es pos) Q ss M := .mk fun ck G A H σ w sl Kq k => by
  refine te_of (pe_lst pa_self) ?_
  refine h ck G A H σ w sl _ fun vs xs G1 A1 M1 H1 e1 w1 s1 h1 => ?_
  obtain ⟨ds, hd, hz, q⟩ := withs_get h1
  have r := s1.reps hd
  refine ⟨by rw [r.length]; exact hz, fun p hp => ?_⟩
  obtain ⟨w2, e2⟩ := w1.newC (c := .lst ds) (o := .lst vs) hp ⟨(w1.none hp).2.2, vs, upd_same, r⟩
  refine k _ (.cel M1.length) _ _ _ _ (e1.trans e2) w2 ⟨p, rfl, ?_⟩ q
  rw [← w1.len, List.getElem?_append_right (Nat.le_refl _), Nat.sub_self]
  rfl
/-! ### calls of the text's defs -/
/-- what the callee asks and leaves: n cells are handed in -/
def CallQ0 (n : Nat) (S : SpD) (xs : List SV) (M : Mem) (Q : SV → Mem → Prop) (ex : XD) (ss : Sst) : Prop :=
  (xs.all (SV.lt n) && (M.take n).all (Cell.lt n) && decide (n ≤ M.length)) = true ∧ S xs (M.take n) (fun x M' => Q (x.sh n M.length) (M'.take n ++ M.drop n ++ M'.drop n)) (fun C fs M' => ex C fs ss (M'.take n ++ M.drop n ++ M'.drop n))
structure CallQ (n : Nat) (S : SpD) (xs : List SV) (M : Mem) (Q : SV → Mem → Prop) (ex : XD) (ss : Sst) : Prop where
  run : CallQ0 n S xs M Q ex ss
theorem call_sp {n : Nat} {S : SpD} {xs : List SV} {G : Hp} {A : List Addr} {H : Hp} {vs : List V} {σ : L2.St} {Kq : VK} (w : Wd X.K B G A M H) (sl : Sl X.K G A σ ss) (r : Svs X.K G A vs xs) (h : CallQ n S xs M Q ex ss) (k : VPost X.K B G A Q Kq) :
    spOf X.K n S vs H Kq (fun cls d H' => XW X.K B ex cls d σ H') := by
  obtain ⟨hc, hS⟩ := h.run
  rw [Bool.and_eq_true, Bool.and_eq_true] at hc
  obtain ⟨⟨hx, hM⟩, hn⟩ := hc
  have hn : n ≤ M.length := of_decide_eq_true hn
  have hA := w.len
  refine ⟨xs, M.take n, G, A.take n, by rw [List.length_take]; omega, Wd.start w.gh (w.nd.sublist (List.take_sublist n A)) (fun b m => w.there b (List.mem_of_mem_take m)) ((w.cl.take n).cut hM), r.cut hx, _, _, hS, ?_, ?_⟩
  · intro v x G' A' M' H' w' s' hl q
    obtain ⟨more, rfl, w2, e2⟩ := w.back hn w' hl
    rw [← hA] at q
    exact k v _ G' _ _ H' e2 w2 (s'.sh (by omega)) q
  · intro C fs d G' A' M' H' w' xd hl q
    obtain ⟨more, rfl, w2, e2⟩ := w.back hn w' hl
    exact ⟨C, fs, ss, G', _, _, rfl, xd, w2, sl.mono e2, q⟩
theorem Cok.at (ck : Cok X B ex) (σ : L2.St) : PassesAt (L2.CX X.prog X.w) X σ (fun cls d H' => XW X.K B ex cls d σ H') := passAt ck.tk σ
/-- f(e, ..); the last parameters by their defaults -/
theorem we_call {x : Str} {f : Addr} {fd : FuncData} {ps : List Str} {k n : Nat} {S : SpD} {dvs : List V} {ds : List Value} {dxs : List SV} (F : FnOk X.prog X.w X.K X.mg X.base (L2.CX X.prog X.w) k f fd ps (spOf X.K n S)) (hr : Room k X.A) (hm : X.mg x = some (.ref f)) (hk : PySem.W.keepIn X.K (.ref f) = true)
    (hb : Binds X.K fd ps ds) (hd : Vals dvs ds) (hD : ∀ G A, Svs X.K G A dvs dxs) (hg : Gl X x)
    (h : WA X B ex (e :: es) (fun xs M1 => CallQ n S (xs ++ dxs) M1 Q ex ss) ss M) (hdb : (x == ("__debug__" : Str)) = false := by decide) (he : starEach (e :: es) X.env = (false, eval e X.env) :: starEach es X.env := by rfl) (hpl : (backTo pos (starEach es X.env)).any (·.1) = false := by rfl) :
    WE X B ex (.Call (.Name x p) (e :: es) [] pos) Q ss M := .mk fun ck G A H σ w sl Kq kk => by
  refine te_of (pe_callSD (E := fun σ cls d H' => XW X.K B ex cls d σ H') F hr hg hm hk hb hd ck.at pa_self hdb he hpl) ?_
  refine h ck G A H σ w sl _ fun vs xs G1 A1 M1 H1 e1 w1 s1 h1 => ?_
  refine call_sp w1 (sl.mono e1) ?_ h1 fun v x G' A' M' H' e' => kk v x G' A' M' H' (e1.trans e')
  have go : ∀ {vs xs}, Svs X.K G1 A1 vs xs → Svs X.K G1 A1 (vs ++ dvs) (xs ++ dxs) := by
    intro vs xs r
    induction r with
    | nil => exact hD G1 A1
    | cons h r ih => exact .cons h ih
  exact go s1
end
end Mb

/-! Mb, part 7: methods, new instances, attributes. -/
namespace Mb
open PySem L2 PyProof.Rows
/-- fields that are all data -/
def fdats : List (Str × SV) → Option (List (Str × D))
  | [] => some []
  | (f, .dat d) :: r => (fdats r).map ((f, d) :: ·)
  | _ :: _ => none
theorem FldsOk.repF {K : PySem.W.Frag} {G : Hp} {A : List Addr} : ∀ {fv : List (Str × V)} {fs : List (Str × SV)} {ds : List (Str × D)}, FldsOk K G A fv fs → fdats fs = some ds → RepF K G fv ds
  | _, _, _, .nil, e => by simp [fdats] at e; subst e; exact .nil
  | _, _, ds, .cons (x := x) h r, e => by
    cases x with
    | cel i => simp [fdats] at e
    | raw u => simp [fdats] at e
    | exc u v w => simp [fdats] at e
    | dat d =>
      simp only [fdats, Option.map_eq_some_iff] at e
      obtain ⟨rs, e1, rfl⟩ := e
      exact .cons h (r.repF e1)
theorem FldsOk.look {K : PySem.W.Frag} {G : Hp} {A : List Addr} {f : Str} {x : SV} : ∀ {fv : List (Str × V)} {fs : List (Str × SV)}, FldsOk K G A fv fs → fs.lookup f = some x → ∃ v, fv.lookup f = some v ∧ SvOk K G A v x
  | _, _, .nil, e => by simp at e
  | (g, v) :: fv, (_, y) :: fs, .cons h r, e => by
    by_cases c : f = g
    · subst c
      simp [List.lookup] at e
      subst e
      exact ⟨v, by simp [List.lookup], h⟩
    · have cb : (f == g) = false := by simpa using c
      simp only [List.lookup, cb] at e
      obtain ⟨w, h1, h2⟩ := FldsOk.look r e
      exact ⟨w, by simp only [List.lookup, cb]; exact h1, h2⟩
theorem FldsOk.lookN {K : PySem.W.Frag} {G : Hp} {A : List Addr} {f : Str} : ∀ {fv : List (Str × V)} {fs : List (Str × SV)}, FldsOk K G A fv fs → fs.lookup f = none → fv.lookup f = none
  | _, _, .nil, _ => rfl
  | (g, v) :: fv, (_, y) :: fs, .cons h r, e => by
    by_cases c : f = g
    · subst c
      simp [List.lookup] at e
    · have cb : (f == g) = false := by simpa using c
      simp only [List.lookup, cb] at e ⊢
      exact FldsOk.lookN r e
def putS (f : Str) (v : SV) : List (Str × SV) → List (Str × SV)
  | [] => [(f, v)]
  | (g, x) :: r => if g = f then (g, v) :: r else (g, x) :: putS f v r
theorem FldsOk.put {K : PySem.W.Frag} {G : Hp} {A : List Addr} {f : Str} {v : V} {x : SV} (q : SvOk K G A v x) : ∀ {fv : List (Str × V)} {fs : List (Str × SV)}, FldsOk K G A fv fs → FldsOk K G A (putF f v fv) (putS f x fs)
  | _, _, .nil => .cons q .nil
  | (g, u) :: fv, (_, y) :: fs, .cons h r => by
    by_cases c : g = f
    · simp only [putF, putS, c, if_true]; exact .cons q r
    · simp only [putF, putS, c, if_false]; exact .cons h (r.put q)
theorem FldsOk.length {K : PySem.W.Frag} {G : Hp} {A : List Addr} : ∀ {fv : List (Str × V)} {fs : List (Str × SV)}, FldsOk K G A fv fs → fv.length = fs.length
  | _, _, .nil => rfl
  | _, _, .cons _ r => congrArg (· + 1) r.length
section
variable {K : PySem.W.Frag} {B : Base} {G : Hp} {A : List Addr} {M : List Cell} {H : Hp}
/-- behind an __init__: the new instance is a cell of ours -/
theorem Wd.made (w : Wd K B G A M H) {x : Addr} {H2 : Hp} (hx : H x = Option.none) (s2 : Same H H2) {G' : Hp} {A' : List Addr} {M' : List Cell} {H' : Hp} {c : Cell} (w' : Wd K ⟨G, [x], H2⟩ G' A' M' H') (hc : c = .dead ∨ (M'[0]? = some c ∧ c.lt 0 = true)) :
    Wd K B G' (A ++ [x]) (M ++ [c]) H' ∧ Ext G A G' (A ++ [x]) := by
  obtain ⟨hb, hA, hg⟩ := w.none hx
  obtain ⟨more, e⟩ := w'.pre
  have e : A' = [x] ++ more := e
  subst e
  have ex : Ext G A G' (A ++ [x]) := ⟨w'.gg, [x], rfl⟩
  have keep : ∀ b o, H b = some o → H' b = some o := fun b o e => w'.fr b o (s2 b o e) (by
    show b ∉ [x]
    rw [List.mem_singleton]
    intro z; subst z; rename_i e0; rw [hx] at e0; cases e0)
  refine ⟨⟨w.gg.trans w'.gg, w'.gh, fun b o e nb => keep b o (w.fr b o e nb), fun b o e => ?_, ?_, ?_, fun b m => ?_, fun b m => ?_, ?_⟩, ex⟩
  · rcases w'.fresh b o e with q | q
    · exact w.fresh b o q
    · have q : H2 b = Option.none := q
      exact .inr (w.none (s2.free q)).1
  · refine List.nodup_append.mpr ⟨w.nd, by simp, fun a ha b hb z => ?_⟩
    rw [List.mem_singleton] at hb
    subst z; subst hb; exact hA ha
  · obtain ⟨m0, e⟩ := w.pre
    exact ⟨m0 ++ [x], by rw [e]; simp⟩
  · rcases List.mem_append.mp m with m | m
    · obtain ⟨o, e⟩ := w.there b m
      exact ⟨o, keep b o e⟩
    · exact w'.there b (List.mem_append_left _ m)
  · rcases List.mem_append.mp m with m | m
    · exact w.an b m
    · rw [List.mem_singleton] at m; subst m; exact .inr hb
  · have c1 : Cells K G' (A ++ [x]) H' A M := by
      refine w.cl.imp fun a c m h => h.keep ex (fun g => ?_) fun o e => keep a o e
      cases e : G' a with
      | none => rfl
      | some o =>
        rcases w'.fresh a o e with q | q
        · have q : G a = some o := q
          rw [g] at q; cases q
        · obtain ⟨o', e'⟩ := w.there a m
          have q : H2 a = Option.none := q
          rw [s2 _ _ e'] at q; cases q
    have q2 : CellOk K G' (A ++ [x]) H' x c := by
      rcases hc with rfl | ⟨hc, hd⟩
      · trivial
      · have q := w'.cl.get (i := 0) (a := x) (by rfl) hc
        have q3 := q.cut (k := 0) hd
        exact q3.keep ⟨fun _ _ e => e, A ++ [x], by simp⟩ (fun g => g) fun _ e => e
    exact c1.append (.cons q2 .nil)
/-- the last cell, an instance, is never changed again -/
theorem Wd.freezeI {x : Addr} {C : Addr} {fs : List (Str × SV)} {ds : List (Str × D)} (w : Wd K B G (A ++ [x]) (M ++ [.ins C fs]) H) (hb : B.A.length ≤ A.length) (hf : fdats fs = some ds) (hl : M.all (Cell.lt A.length) = true) :
    ∃ G', Wd K B G' A M H ∧ Same G G' ∧ Rep K G' (.ref x) (.ins C ds) := by
  have hlen := w.len
  have hl1 : A.length = M.length := by
    rw [List.length_append, List.length_append] at hlen
    simpa using hlen
  have gx : (A ++ [x])[A.length]? = some x := by rw [List.getElem?_append_right (Nat.le_refl _), Nat.sub_self]; rfl
  have gm : (M ++ [Cell.ins C fs])[A.length]? = some (.ins C fs) := by rw [hl1, List.getElem?_append_right (Nat.le_refl _), Nat.sub_self]; rfl
  obtain ⟨gn, dx, fv, hv, r⟩ := w.cl.get gx gm
  have hxA : x ∉ A := fun m => (List.nodup_append.mp w.nd).2.2 x m x List.mem_cons_self rfl
  have s1 : Same G (upd G x (.ins C dx fv)) := same_upd gn
  have hnB : B.H x = Option.none := by
    rcases w.an x (List.mem_append_right _ List.mem_cons_self) with q | q
    · exfalso
      obtain ⟨more, e⟩ := w.pre
      obtain ⟨j, hj, ej⟩ := List.mem_iff_getElem.mp q
      have h1 : (A ++ [x])[j]? = some x := by rw [e, List.getElem?_append_left hj, List.getElem?_eq_getElem hj, ej]
      have := nd_ix w.nd gx h1
      omega
    · exact q
  have w0 := w.drop A.length hb (by rw [hl1, List.take_append_of_le_length (Nat.le_refl _), List.take_length, ← hl1]; exact hl)
  rw [List.take_append_of_le_length (Nat.le_refl _), List.take_length] at w0
  rw [hl1, List.take_append_of_le_length (Nat.le_refl _), List.take_length] at w0
  have ex : Ext G A (upd G x (.ins C dx fv)) A := ⟨s1, [], by simp⟩
  refine ⟨upd G x (.ins C dx fv), ⟨w0.gg.trans s1, fun b u e => ?_, w0.fr, fun b u e => ?_, w0.nd, w0.pre, w0.there, w0.an, ?_⟩, s1, .ins upd_same ((r.repF hf).mono s1)⟩
  · by_cases c : b = x
    · subst c; rw [upd_same] at e; rw [← e]; exact hv
    · rw [upd_ne c] at e; exact w0.gh b u e
  · by_cases c : b = x
    · subst c; exact .inr hnB
    · rw [upd_ne c] at e; exact w0.fresh b u e
  · refine w0.cl.imp fun a c m h => h.keep ex (fun g => ?_) fun _ e => e
    rw [upd_ne (show a ≠ x from fun z => hxA (z ▸ m))]; exact g
end
section
variable {X : Cx} {B : Base} {ex : XD} {ss : Sst} {M : Mem} {a b c e tg o : Expr} {es : List Expr} {pos p p' apos : Pos} {Q : SV → Mem → Prop} {QB : Bool → Mem → Prop}
/-! ### attributes -/
/-- the field f of what x is -/
def fldS (M : Mem) (x : SV) (f : Str) (k : Addr → SV → Prop) : Prop := match x with
  | .dat (.ins C fs) => ∃ d, fs.lookup f = some d ∧ k C (.dat d)
  | .cel i => ∃ C fs y, M[i]? = some (.ins C fs) ∧ fs.lookup f = some y ∧ k C y
  | _ => False
theorem we_fld {f : Str} (h : WE X B ex e (fun x M1 => fldS M1 x f fun C y => (Cls X.K C ∧ NoAttr X.K C f) ∧ Q y M1) ss M) (hb : attributeBase e f X.env (eval e X.env) = eval e X.env := by rfl) : WE X B ex (.Attribute e f pos) Q ss M := .mk fun ck G A H σ w sl Kq k => by
  refine te_of (pe_fld pe_self hb) ?_
  refine h ck G A H σ w sl _ fun v x G1 A1 M1 H1 e1 w1 s1 h1 => ?_
  cases x with
  | raw u => exact h1.elim
  | exc u v w => exact h1.elim
  | dat d =>
    cases d <;> try exact h1.elim
    obtain ⟨d, hd, hc, q⟩ := h1
    have s1 : Rep X.K G1 v (.ins _ _) := s1
    cases s1 with
    | ins ha r =>
      obtain ⟨y, hy, ry⟩ := r.look hd
      exact ⟨_, _, _, _, y, rfl, w1.gh _ _ ha, hc.1, hc.2, hy, k _ (.dat d) G1 A1 M1 H1 e1 w1 ry q⟩
  | cel i =>
    obtain ⟨C, fs, y, hM, hy, hc, q⟩ := h1
    obtain ⟨l, rfl, hl⟩ := s1
    obtain ⟨_, dx, fv, hv, r⟩ := w1.cl.get hl hM
    obtain ⟨u, hu, su⟩ := r.look hy
    exact ⟨_, _, _, _, u, rfl, hv, hc.1, hc.2, hu, k _ y G1 A1 M1 H1 e1 w1 su q⟩
/-- self.f = e, self an instance of ours -/
theorem ws_fld {f : Str} {N : Nd} (h : WE X B ex e (fun y M1 => WE X B ex o (fun x M2 => ∃ i C fs, x = .cel i ∧ M2[i]? = some (.ins C fs) ∧ Cls X.K C ∧ NoAttr X.K C f ∧ fs.length < 1000 ∧ N.nx ss (M2.set i (.ins C (putS f y fs)))) ss M1) ss M) (hs : swapsWith e (some (.Attribute o f p')) pos.line X.env = pure false := by rfl) :
    WS X B ex (.Assign [.Attribute o f p'] e pos) N ss M := .mk fun ck G A H σ w sl E k => by
  refine ts_of (ps_fld pe_self pe_self hs) ?_
  refine h ck G A H σ w sl _ fun v y G1 A1 M1 H1 e1 w1 s1 h1 => ?_
  refine h1 ck G1 A1 H1 σ w1 (sl.mono e1) _ fun u x G2 A2 M2 H2 e2 w2 s2 h2 => ?_
  obtain ⟨i, C, fs, rfl, hM, hc, hn, hz, q⟩ := h2
  obtain ⟨l, rfl, hl⟩ := s2
  obtain ⟨gn, dx, fv, hv, r⟩ := w2.cl.get hl hM
  refine ⟨l, C, dx, fv, rfl, hv, hc, hn, by rw [r.length]; exact hz, ?_⟩
  exact k.nx σ ss G2 A2 _ _ (e1.trans e2).1 (w2.setC (c' := .ins C (putS f y fs)) hl gn ⟨gn, dx, _, upd_same, r.put (s1.mono e2)⟩) (sl.mono (e1.trans e2)) q
/-! ### methods -/
def insS (M : Mem) (x : SV) (C : Addr) (m : Str) : Prop := match x with
  | .dat (.ins C' fs) => C' = C ∧ fs.lookup m = none
  | .cel i => ∃ fs, M[i]? = some (.ins C fs) ∧ fs.lookup m = none
  | _ => False
theorem insS_at {G : Hp} {A : List Addr} {H : Hp} {v : V} {x : SV} {C : Addr} {m : Str} (w : Wd X.K B G A M H) (s : SvOk X.K G A v x) (h : insS M x C m) : ∃ a dx fs, v = .ref a ∧ H a = some (.ins C dx fs) ∧ fs.lookup m = none := by
  cases x with
  | raw u => exact h.elim
  | exc u v w => exact h.elim
  | dat d =>
    cases d <;> try exact h.elim
    obtain ⟨rfl, hn⟩ := h
    have s : Rep X.K G v (.ins _ _) := s
    cases s with
    | ins ha r => exact ⟨_, _, _, rfl, w.gh _ _ ha, r.lookN hn⟩
  | cel i =>
    obtain ⟨fs, hM, hn⟩ := h
    obtain ⟨l, rfl, hl⟩ := s
    obtain ⟨_, dx, fv, hv, r⟩ := w.cl.get hl hM
    exact ⟨l, dx, fv, rfl, hv, r.lookN hn⟩
theorem we_meth {C f : Addr} {m : Str} {fd : FuncData} {ps : List Str} {k n : Nat} {S : SpD} {pl : Sem Bool} (cl : Cls X.K C) (hm : Meth X.K C m f) (F : FnOk X.prog X.w X.K X.mg X.base (L2.CX X.prog X.w) k f fd ps (spOf X.K n S)) (hr : Room k X.A) (hb : Binds X.K fd ps [])
    (h : WE X B ex o (fun x M1 => insS M1 x C m ∧ WA X B ex (e :: es) (fun xs M2 => CallQ n S (x :: xs) M2 Q ex ss) ss M1) ss M)
    (hst : starEach (e :: es) X.env = (false, eval e X.env) :: starEach es X.env := by rfl) (hpl : (backTo pos (starEach es X.env)).any (·.1) = false := by rfl)
    (ht : eval (.Call (.Attribute o m apos) (e :: es) [] pos) X.env = (do
      let ov ← eval o X.env
      standAt apos.atName
      let (f, first) ← holding [ov] (getMethod ov m pl)
      callWith pos f first (backTo pos (starEach (e :: es) X.env)) (backToKw pos (keywordEach [] X.env))) := by rfl) :
    WE X B ex (.Call (.Attribute o m apos) (e :: es) [] pos) Q ss M := .mk fun ck G A H σ w sl Kq kk pins s I => by
  have hO : teW X o σ H (fun v H1 => ∃ a dx fs, v = .ref a ∧ H1 a = some (.ins C dx fs) ∧ fs.lookup m = none ∧ taW X (e :: es) σ H1 fun vs H2 => spOf X.K n S (v :: vs) H2 Kq (fun cls d H' => XW X.K B ex cls d σ H')) := by
    refine h ck G A H σ w sl _ fun v x G1 A1 M1 H1 e1 w1 s1 h1 => ?_
    obtain ⟨l, dx, fs, e, hl, hn⟩ := insS_at w1 s1 h1.1
    refine ⟨l, dx, fs, e, hl, hn, ?_⟩
    refine h1.2 ck G1 A1 H1 σ w1 (sl.mono e1) _ fun vs xs G2 A2 M2 H2 e2 w2 s2 h2 => ?_
    exact call_sp w2 (sl.mono (e1.trans e2)) (.cons (s1.mono e2) s2) h2 fun v x G' A' M' H' e' => kk v x G' A' M' H' ((e1.trans e2).trans e')
  refine PySem.W.methodCall_KW (pl := pl) (thn (hO pins s I) fun u s1 ⟨x, H1, I1, rx, l, dx, fs, ex1, ea, ln, q⟩ => ?_) ht
  subst ex1
  obtain rfl : u = .ref l := rx
  refine getmeth_ok I1 ea cl hm ln ?_
  refine PySem.W.callWith_K (first := [.ref l]) (h₀ := X.base) I.ok.mod.kin hm.kp (thn (q pos pins s1 I1) fun us s2 ⟨vs, H2, I2, r, q2⟩ => ⟨I2.kIn, ?_⟩) hst hpl
  exact run_fnSD (E := fun σ cls d H' => XW X.K B ex cls d σ H') (dvs := []) (us := .ref l :: us) (vs := .ref l :: vs) F hr hb .nil (ck.at σ) I2 (.cons rfl r) (by rw [List.append_nil]; exact q2)
theorem we_meth0 {C f : Addr} {m : Str} {fd : FuncData} {ps : List Str} {k n : Nat} {S : SpD} {pl : Sem Bool} (cl : Cls X.K C) (hm : Meth X.K C m f) (F : FnOk X.prog X.w X.K X.mg X.base (L2.CX X.prog X.w) k f fd ps (spOf X.K n S)) (hr : Room k X.A) (hb : Binds X.K fd ps [])
    (h : WE X B ex o (fun x M1 => insS M1 x C m ∧ CallQ n S [x] M1 Q ex ss) ss M)
    (ht : eval (.Call (.Attribute o m apos) [] [] pos) X.env = (do
      let ov ← eval o X.env
      standAt apos.atName
      let (f, first) ← holding [ov] (getMethod ov m pl)
      callWith pos f first (backTo pos (starEach [] X.env)) (backToKw pos (keywordEach [] X.env))) := by rfl) :
    WE X B ex (.Call (.Attribute o m apos) [] [] pos) Q ss M := .mk fun ck G A H σ w sl Kq kk pins s I => by
  have hO : teW X o σ H (fun v H1 => ∃ a dx fs, v = .ref a ∧ H1 a = some (.ins C dx fs) ∧ fs.lookup m = none ∧ spOf X.K n S [v] H1 Kq (fun cls d H' => XW X.K B ex cls d σ H')) := by
    refine h ck G A H σ w sl _ fun v x G1 A1 M1 H1 e1 w1 s1 h1 => ?_
    obtain ⟨l, dx, fs, e, hl, hn⟩ := insS_at w1 s1 h1.1
    refine ⟨l, dx, fs, e, hl, hn, ?_⟩
    exact call_sp w1 (sl.mono e1) (.cons s1 .nil) h1.2 fun v x G' A' M' H' e' => kk v x G' A' M' H' (e1.trans e')
  refine PySem.W.methodCall_KW (pl := pl) (thn (hO pins s I) fun u s1 ⟨x, H1, I1, rx, l, dx, fs, ex1, ea, ln, q⟩ => ?_) ht
  subst ex1
  obtain rfl : u = .ref l := rx
  refine getmeth_ok I1 ea cl hm ln ?_
  refine PySem.W.callWith_K0 (first := [.ref l]) I1.kIn hm.kp ?_
  exact run_fnSD (E := fun σ cls d H' => XW X.K B ex cls d σ H') (dvs := []) (us := [.ref l]) (vs := [.ref l]) F hr hb .nil (ck.at σ) I1 (.cons rfl .nil) (by rw [List.append_nil]; exact q)
/-! ### new instances -/
theorem run_makeS {CX : CXT} {C f : Addr} {fd : FuncData} {ps : List Str} {k : Nat} {sp : Sp} {dvs : List V} {ds : List Value} {E : XK} {pins : List (Addr × Obj)} {σ : L2.St} {H : Hp} {s : Shared} {Q : VK} {us : List Value} {vs : List V} (Mk0 : Mk X.K C f) (F : FnOk X.prog X.w X.K X.mg X.base CX k f fd ps sp) (hr : Room (k + 1) X.A)
    (hb : Binds X.K fd ps ds) (hd : Vals dvs ds) (hx : PassesAt CX X σ E) (I : Inv X pins σ H s) (r : Vals vs us)
    (h : ∀ x dx, H x = none → H dx = none → dx ≠ x → sp (.ref x :: (vs ++ dvs)) (upd (upd H dx (.own x)) x (.ins C dx [])) (fun v H2 => v = .non ∧ Q (.ref x) H2) E) :
    wpAny (model X.prog X.w) X.A (call (.ref C) us) (EP X pins σ Q) X.xe s := by
  have q0 := h (s.heap.objs.size + 1) s.heap.objs.size (I.hok.fresh (Nat.le_succ _)) (I.hok.fresh (Nat.le_refl _)) (Nat.ne_of_lt (Nat.lt_succ_self _))
  have I2 := Inv.made (C := C) I
  have r2 : Vals (V.ref (s.heap.objs.size + 1) :: (vs ++ dvs)) (Value.ref (s.heap.objs.size + 1) :: (us ++ ds)) := .cons rfl (r.append hd)
  have hl : (Value.ref (s.heap.objs.size + 1) :: us ++ ds).length = ps.length := by
    have e0 := r2.length
    rw [F.len _ _ _ _ q0] at e0
    exact e0.symm
  refine wpAny_call (make_map (f := f) I.kIn Mk0.makes Mk0.init (beq_iff_eq.mp Mk0.fn) ?_)
  refine codeAny_mono (F.run _ X.stack _ _ ⟨.ref (s.heap.objs.size + 1) :: us, []⟩ (.ref (s.heap.objs.size + 1) :: (us ++ ds)) _ _ E (hr.make C us []) (I2.env0.make C us []) (hb _ (.ref (s.heap.objs.size + 1) :: us) I2.kIn hl) r2 q0) fun r s' q1 => ?_
  cases r with
  | error e => exact hx pins _ _ e s' I2 q1
  | ok fl =>
    cases fl with
    | ret u =>
      obtain ⟨v, H', I3, rv, ev, q3⟩ := I2.after q1
      subst ev
      exact ⟨rv, ⟨.ref (s.heap.objs.size + 1), H', I3, rfl, q3⟩⟩
    | next => exact q1.elim
    | brk => exact q1.elim
    | cont => exact q1.elim
/-- C(..) by its __init__, that gets the new instance as its one cell; the instance is frozen behind -/
def MakeQ0 (S : SpD) (C : Addr) (xs : List SV) (M : Mem) (Q : SV → Mem → Prop) (ex : XD) (ss : Sst) : Prop :=
  (xs.all (SV.lt 0) && M.all (Cell.lt M.length)) = true ∧ S (.cel 0 :: xs) [.ins C []] (fun y M' => y = .dat .non ∧ ∃ fs ds, M'[0]? = some (.ins C fs) ∧ fdats fs = some ds ∧ Q (.dat (.ins C ds)) M) (fun D fs _ => ex D fs ss M)
structure MakeQ (S : SpD) (C : Addr) (xs : List SV) (M : Mem) (Q : SV → Mem → Prop) (ex : XD) (ss : Sst) : Prop where
  run : MakeQ0 S C xs M Q ex ss
theorem lt0_of {fs : List (Str × SV)} {ds : List (Str × D)} (h : fdats fs = some ds) : (fs.all fun p => p.2.lt 0) = true := by
  induction fs generalizing ds with
  | nil => rfl
  | cons p fs ih =>
    obtain ⟨f, x⟩ := p
    cases x with
    | cel i => simp [fdats] at h
    | raw u => simp [fdats] at h
    | exc u v w => simp [fdats] at h
    | dat d =>
      simp only [fdats, Option.map_eq_some_iff] at h
      obtain ⟨rs, e1, rfl⟩ := h
      rw [List.all_cons, ih e1]
      rfl
theorem Svs.cut0 {K : PySem.W.Frag} {G : Hp} {A A' : List Addr} {vs : List V} {xs : List SV} (h : xs.all (SV.lt 0) = true) (r : Svs K G A vs xs) : Svs K G A' vs xs := by
  have r2 : Svs K G [] vs xs := by
    have q := r.cut h
    rwa [List.take_zero] at q
  exact r2.mono ⟨fun _ _ e => e, A', by simp⟩
theorem make_sp {S : SpD} {C : Addr} {xs : List SV} {G : Hp} {A : List Addr} {H : Hp} {vs : List V} {σ : L2.St} {Kq : VK} (w : Wd X.K B G A M H) (sl : Sl X.K G A σ ss) (r : Svs X.K G A vs xs) (h : MakeQ S C xs M Q ex ss) (k : VPost X.K B G A Q Kq) :
    ∀ x dx, H x = none → H dx = none → dx ≠ x → spOf X.K 1 S (.ref x :: vs) (upd (upd H dx (.own x)) x (.ins C dx [])) (fun v H2 => v = .non ∧ Kq (.ref x) H2) (fun cls d H' => XW X.K B ex cls d σ H') := fun x dx hx hdx ne => by
  obtain ⟨hc, hS⟩ := h.run
  rw [Bool.and_eq_true] at hc
  have hA := w.len
  have hx2 : (upd H dx (.own x)) x = none := by rw [upd_ne (Ne.symm ne)]; exact hx
  have s2 : Same H (upd (upd H dx (.own x)) x (.ins C dx [])) := (same_upd hdx).trans (same_upd hx2)
  have hg := (w.none hx).2.2
  have hpre := w.pre
  have hbl : B.A.length ≤ A.length := by obtain ⟨more, e⟩ := hpre; rw [e, List.length_append]; omega
  refine ⟨.cel 0 :: xs, [.ins C []], G, [x], rfl, Wd.start (w.gh.trans s2) (by simp) (fun b m => ?_) (.cons ⟨hg, dx, [], upd_same, .nil⟩ .nil), .cons ⟨x, rfl, rfl⟩ (r.cut0 hc.1), _, _, hS, ?_, ?_⟩
  · rw [List.mem_singleton] at m; subst m; exact ⟨_, upd_same⟩
  · intro v y G' A' M' H' w' s' hl q
    obtain ⟨rfl, fs, ds, hM, hf, q⟩ := q
    cases s'
    refine ⟨rfl, ?_⟩
    obtain ⟨w2, e2⟩ := w.made hx s2 w' (.inr ⟨hM, lt0_of hf⟩)
    obtain ⟨G2, w3, s3, r3⟩ := w2.freezeI hbl hf (by rw [hA]; exact hc.2)
    exact k _ (.dat _) G2 A M H' ⟨e2.1.trans s3, [], by simp⟩ w3 r3 q
  · intro D fs d G' A' M' H' w' xd hl q
    obtain ⟨w2, e2⟩ := w.made (c := .dead) hx s2 w' (.inl rfl)
    have w3 := w2.drop A.length hbl (by rw [hA, List.take_append_of_le_length (Nat.le_refl _), List.take_length]; exact hc.2)
    rw [List.take_append_of_le_length (Nat.le_refl _), List.take_length, hA, List.take_append_of_le_length (Nat.le_refl _), List.take_length] at w3
    exact ⟨D, fs, ss, G', A, M, rfl, xd, w3, sl.mono ⟨e2.1, [], by simp⟩, q⟩
theorem we_make {x : Str} {C f : Addr} {fd : FuncData} {ps : List Str} {k : Nat} {S : SpD} {dvs : List V} {ds : List Value} {dxs : List SV} (Mk0 : Mk X.K C f) (F : FnOk X.prog X.w X.K X.mg X.base (L2.CX X.prog X.w) k f fd ps (spOf X.K 1 S)) (hr : Room (k + 1) X.A) (hm : X.mg x = some (.ref C))
    (hb : Binds X.K fd ps ds) (hd : Vals dvs ds) (hD : ∀ G A, Svs X.K G A dvs dxs) (hg : Gl X x)
    (h : WA X B ex (e :: es) (fun xs M1 => MakeQ S C (xs ++ dxs) M1 Q ex ss) ss M) (hdb : (x == ("__debug__" : Str)) = false := by decide) (he : starEach (e :: es) X.env = (false, eval e X.env) :: starEach es X.env := by rfl) (hpl : (backTo pos (starEach es X.env)).any (·.1) = false := by rfl) :
    WE X B ex (.Call (.Name x p) (e :: es) [] pos) Q ss M := .mk fun ck G A H σ w sl Kq kk pins s I => by
  refine wpAny_Call_Name_kw (ld_glob I hg hm ?_ hdb)
  have hO : taW X (e :: es) σ H (fun vs H1 => ∀ x dx, H1 x = none → H1 dx = none → dx ≠ x → spOf X.K 1 S (.ref x :: (vs ++ dvs)) (upd (upd H1 dx (.own x)) x (.ins C dx [])) (fun v H2 => v = .non ∧ Kq (.ref x) H2) (fun cls d H' => XW X.K B ex cls d σ H')) := by
    refine h ck G A H σ w sl _ fun vs xs G1 A1 M1 H1 e1 w1 s1 h1 => ?_
    have go : ∀ {vs xs}, Svs X.K G1 A1 vs xs → Svs X.K G1 A1 (vs ++ dvs) (xs ++ dxs) := by
      intro vs xs r
      induction r with
      | nil => exact hD G1 A1
      | cons h r ih => exact .cons h ih
    exact make_sp w1 (sl.mono e1) (go s1) h1 fun v x G' A' M' H' e' => kk v x G' A' M' H' (e1.trans e')
  refine PySem.W.callWith_K (h₀ := X.base) I.ok.mod.kin Mk0.kp (thn (hO pos pins s I) fun us s1 ⟨vs, H1, I1, r, q⟩ => ⟨I1.kIn, ?_⟩) he hpl
  exact run_makeS Mk0 F hr hb hd (ck.at σ) I1 r q
theorem we_make0 {x : Str} {C f : Addr} {fd : FuncData} {ps : List Str} {k : Nat} {S : SpD} {dvs : List V} {ds : List Value} {dxs : List SV} (Mk0 : Mk X.K C f) (F : FnOk X.prog X.w X.K X.mg X.base (L2.CX X.prog X.w) k f fd ps (spOf X.K 1 S)) (hr : Room (k + 1) X.A) (hm : X.mg x = some (.ref C))
    (hb : Binds X.K fd ps ds) (hd : Vals dvs ds) (hD : ∀ G A, Svs X.K G A dvs dxs) (hg : Gl X x)
    (h : MakeQ S C dxs M Q ex ss) (hdb : (x == ("__debug__" : Str)) = false := by decide) :
    WE X B ex (.Call (.Name x p) [] [] pos) Q ss M := .mk fun ck G A H σ w sl Kq kk pins s I => by
  refine wpAny_Call_Name_kw (ld_glob I hg hm ?_ hdb)
  refine PySem.W.callWith_K0 I.kIn Mk0.kp ?_
  exact run_makeS (us := []) Mk0 F hr hb hd (ck.at σ) I .nil (make_sp w sl (hD G A) h kk)
end
end Mb

/-! Mb, part 8: built-in calls, methods of texts and lists, slices. -/
namespace Mb
open PySem L2 PyProof.Rows
theorem reps_strs {K : PySem.W.Frag} {G : Hp} : ∀ {vs : List V} {ys : List Str}, Reps K G vs (ys.map D.str) → vs = ys.map V.str ∧ ∀ y ∈ ys, SOk y
  | _, [], .nil => ⟨rfl, fun _ m => by simp at m⟩
  | _, y :: ys, .cons (.str _ h) r => by
    obtain ⟨e, q⟩ := reps_strs r
    subst e
    refine ⟨rfl, fun z m => ?_⟩
    rcases List.mem_cons.mp m with rfl | m
    · exact h
    · exact q z m
theorem strs_reps {K : PySem.W.Frag} {G : Hp} : ∀ {ys : List Str}, (∀ y ∈ ys, SOk y) → Reps K G (ys.map V.str) (ys.map D.str)
  | [], _ => .nil
  | y :: ys, h => .cons (.str y (h y List.mem_cons_self)) (strs_reps fun z m => h z (List.mem_cons_of_mem _ m))
theorem reps_ints {K : PySem.W.Frag} {G : Hp} : ∀ {vs : List V} {ys : List Int}, Reps K G vs (ys.map D.int) → vs = ys.map V.int
  | _, [], .nil => rfl
  | _, y :: ys, .cons (.int _) r => by rw [reps_ints r]; rfl
theorem ints_reps {K : PySem.W.Frag} {G : Hp} : ∀ {ys : List Int}, Reps K G (ys.map V.int) (ys.map D.int)
  | [] => .nil
  | y :: ys => .cons (.int y) ints_reps
theorem reps_bls {K : PySem.W.Frag} {G : Hp} : ∀ {vs : List V} {ys : List Bool}, Reps K G vs (ys.map D.bl) → vs = ys.map V.bl
  | _, [], .nil => rfl
  | _, y :: ys, .cons (.bl _) r => by rw [reps_bls r]; rfl
section
variable {X : Cx} {B : Base} {ex : XD} {ss : Sst} {M : Mem} {a b c e tg o : Expr} {es : List Expr} {pos p p' apos p2 : Pos} {Q : SV → Mem → Prop} {QB : Bool → Mem → Prop} {x : Str}
/-- a built-in def, called -/
theorem we_cb {id : String} {r : List V → Hp → VK → Prop} {f : Mem → List SV → (SV → Mem → Prop) → Prop} (hc : CallR X (.builtin id) r)
    (hf : ∀ G A H M xs vs Q Kq, Wd X.K B G A M H → Svs X.K G A vs xs → f M xs Q → VPost X.K B G A Q Kq → r vs H Kq) (hm : X.mg x = none) (hv : bootBuiltins x = some (.builtin id)) (hg : Gl X x)
    (h : WA X B ex (e :: es) (fun xs M1 => f M1 xs Q) ss M) (hn : x ≠ "__name__" := by decide) (hdb : (x == ("__debug__" : Str)) = false := by decide)
    (he : starEach (e :: es) X.env = (false, eval e X.env) :: starEach es X.env := by rfl) (hpl : (backTo pos (starEach es X.env)).any (·.1) = false := by rfl) : WE X B ex (.Call (.Name x p) (e :: es) [] pos) Q ss M := .mk fun ck G A H σ w sl Kq k => by
  refine te_of (pe_callB hc hg hm hv pa_self hn hdb he hpl) ?_
  refine h ck G A H σ w sl _ fun vs xs G1 A1 M1 H1 e1 w1 s1 h1 => ?_
  exact hf G1 A1 H1 M1 xs vs Q Kq w1 s1 h1 fun v x G' A' M' H' e' => k v x G' A' M' H' (e1.trans e')
theorem we_ct {T : String} {r : List V → Hp → VK → Prop} {f : Mem → List SV → (SV → Mem → Prop) → Prop} (hc : CallR X (.type T) r)
    (hf : ∀ G A H M xs vs Q Kq, Wd X.K B G A M H → Svs X.K G A vs xs → f M xs Q → VPost X.K B G A Q Kq → r vs H Kq) (hm : X.mg x = none) (hv : bootBuiltins x = some (.type T)) (hg : Gl X x)
    (h : WA X B ex (e :: es) (fun xs M1 => f M1 xs Q) ss M) (hn : x ≠ "__name__" := by decide) (hdb : (x == ("__debug__" : Str)) = false := by decide)
    (he : starEach (e :: es) X.env = (false, eval e X.env) :: starEach es X.env := by rfl) (hpl : (backTo pos (starEach es X.env)).any (·.1) = false := by rfl) : WE X B ex (.Call (.Name x p) (e :: es) [] pos) Q ss M := .mk fun ck G A H σ w sl Kq k => by
  refine te_of (pe_callTy hc hg hm hv pa_self hn hdb he hpl) ?_
  refine h ck G A H σ w sl _ fun vs xs G1 A1 M1 H1 e1 w1 s1 h1 => ?_
  exact hf G1 A1 H1 M1 xs vs Q Kq w1 s1 h1 fun v x G' A' M' H' e' => k v x G' A' M' H' (e1.trans e')
/-- one argument, by what it is -/
def arg10 (k : Mem → D → (SV → Mem → Prop) → Prop) (M : Mem) (xs : List SV) (Q : SV → Mem → Prop) : Prop := match xs with
  | [x] => with1 M x fun d => k M d Q
  | _ => False
structure arg1 (k : Mem → D → (SV → Mem → Prop) → Prop) (M : Mem) (xs : List SV) (Q : SV → Mem → Prop) : Prop where
  run : arg10 k M xs Q
theorem arg1_get {k : Mem → D → (SV → Mem → Prop) → Prop} {xs : List SV} {G : Hp} {A : List Addr} {H : Hp} {vs : List V} (w : Wd X.K B G A M H) (r : Svs X.K G A vs xs) (h : arg1 k M xs Q) : ∃ v d, vs = [v] ∧ RepS X.K G H v d ∧ k M d Q := by
  have h := h.run
  cases r with
  | nil => exact h.elim
  | cons s r =>
    cases r with
    | nil =>
      obtain ⟨d, g, h⟩ := with1_get h
      exact ⟨_, d, rfl, s.s w g, h⟩
    | cons => exact h.elim
def lenD (M : Mem) (d : D) (Q : SV → Mem → Prop) : Prop := match d with
  | .str y => Q (.dat (.int (y.length : Int))) M
  | .lst ds => Q (.dat (.int (ds.length : Int))) M
  | .tup ds => Q (.dat (.int (ds.length : Int))) M
  | .dic ds => Q (.dat (.int (ds.length : Int))) M
  | _ => False
theorem RepK.length {K : PySem.W.Frag} {G : Hp} : ∀ {vs : List (Key × V)} {ds : List (Key × D)}, RepK K G vs ds → vs.length = ds.length
  | _, _, .nil => rfl
  | _, _, .cons _ r => congrArg (· + 1) r.length
theorem we_len (hm : X.mg "len" = none) (hg : Gl X "len") (h : WA X B ex (e :: es) (fun xs M1 => arg1 lenD M1 xs Q) ss M)
    (he : starEach (e :: es) X.env = (false, eval e X.env) :: starEach es X.env := by rfl) (hpl : (backTo pos (starEach es X.env)).any (·.1) = false := by rfl) : WE X B ex (.Call (.Name "len" p) (e :: es) [] pos) Q ss M := by
  refine we_cb (f := arg1 lenD) (CallR.or (CallR.or call_len_seq call_len_str) call_lenD) (fun G A H M xs vs Q Kq w r h k => ?_) hm PySem.boot_len hg h (he := he) (hpl := hpl)
  obtain ⟨v, d, rfl, q, h⟩ := arg1_get w r h
  cases d <;> try exact h.elim
  · obtain ⟨rfl, z⟩ := q
    exact .inl (.inr ⟨_, rfl, z.1, k.flat .refl w (.int _) h⟩)
  · obtain ⟨l, vs, rfl, hl, r⟩ := q
    refine .inl (.inl ⟨l, vs, rfl, .inl (.inl hl), ?_⟩)
    rw [r.length]; exact k.flat .refl w (.int _) h
  · obtain ⟨l, vs, rfl, hl, r⟩ := q
    refine .inl (.inl ⟨l, vs, rfl, .inr (.inl hl), ?_⟩)
    rw [r.length]; exact k.flat .refl w (.int _) h
  · obtain ⟨l, vs, rfl, hl, r⟩ := q
    refine .inr ⟨l, vs, rfl, hl, ?_⟩
    rw [r.length]; exact k.flat .refl w (.int _) h
def absD (M : Mem) (d : D) (Q : SV → Mem → Prop) : Prop := match d with
  | .int i => Q (.dat (.int (if i < 0 then -i else i))) M
  | _ => False
theorem we_abs (hm : X.mg "abs" = none) (hg : Gl X "abs") (h : WA X B ex (e :: es) (fun xs M1 => arg1 absD M1 xs Q) ss M)
    (he : starEach (e :: es) X.env = (false, eval e X.env) :: starEach es X.env := by rfl) (hpl : (backTo pos (starEach es X.env)).any (·.1) = false := by rfl) : WE X B ex (.Call (.Name "abs" p) (e :: es) [] pos) Q ss M := by
  refine we_cb (f := arg1 absD) call_abs (fun G A H M xs vs Q Kq w r h k => ?_) hm (by decide +kernel) hg h (he := he) (hpl := hpl)
  obtain ⟨v, d, rfl, q, h⟩ := arg1_get w r h
  cases d <;> try exact h.elim
  obtain rfl := q
  exact ⟨_, rfl, k.flat .refl w (.int _) h⟩
def intD (M : Mem) (d : D) (Q : SV → Mem → Prop) : Prop := match d with
  | .int i => Q (.dat (.int i)) M
  | .bl k => Q (.dat (.int (if k then 1 else 0))) M
  | .str a => ∃ n, (PySem.intText? a = some n ∧ a.length ≤ 640) ∧ Q (.dat (.int n)) M
  | _ => False
theorem we_toint (hm : X.mg "int" = none) (hg : Gl X "int") (h : WA X B ex (e :: es) (fun xs M1 => arg1 intD M1 xs Q) ss M)
    (he : starEach (e :: es) X.env = (false, eval e X.env) :: starEach es X.env := by rfl) (hpl : (backTo pos (starEach es X.env)).any (·.1) = false := by rfl) : WE X B ex (.Call (.Name "int" p) (e :: es) [] pos) Q ss M := by
  refine we_ct (f := arg1 intD) (CallR.or call_int1 call_int_str) (fun G A H M xs vs Q Kq w r h k => ?_) hm (by decide +kernel) hg h (he := he) (hpl := hpl)
  obtain ⟨v, d, rfl, q, h⟩ := arg1_get w r h
  cases d <;> try exact h.elim
  · obtain rfl := q
    exact .inl (.inr ⟨_, rfl, k.flat .refl w (.int _) h⟩)
  · obtain rfl := q
    exact .inl (.inl ⟨_, rfl, k.flat .refl w (.int _) h⟩)
  · obtain ⟨rfl, z⟩ := q
    obtain ⟨n, h1, h2⟩ := h
    exact .inr ⟨_, n, rfl, h1.1, h1.2, k.flat .refl w (.int _) h2⟩
/-- str(n) -/
def strI (i : Int) : Str := Str.ofString (toString i)
def strD (M : Mem) (d : D) (Q : SV → Mem → Prop) : Prop := match d with
  | .int i => (i.natAbs.log2 < 1920 ∧ SOk (strI i)) ∧ Q (.dat (.str (strI i))) M
  | _ => False
theorem we_tostr (hm : X.mg "str" = none) (hg : Gl X "str") (h : WA X B ex (e :: es) (fun xs M1 => arg1 strD M1 xs Q) ss M)
    (he : starEach (e :: es) X.env = (false, eval e X.env) :: starEach es X.env := by rfl) (hpl : (backTo pos (starEach es X.env)).any (·.1) = false := by rfl) : WE X B ex (.Call (.Name "str" p) (e :: es) [] pos) Q ss M := by
  refine we_ct (f := arg1 strD) call_str_int (fun G A H M xs vs Q Kq w r h k => ?_) hm (by decide +kernel) hg h (he := he) (hpl := hpl)
  obtain ⟨v, d, rfl, q, h⟩ := arg1_get w r h
  cases d <;> try exact h.elim
  obtain rfl := q
  exact ⟨_, rfl, h.1.1, k.flat .refl w (.str _ h.1.2) h.2⟩
def int2 (g : Int → Int → Int) (M : Mem) (xs : List SV) (Q : SV → Mem → Prop) : Prop := match xs with
  | [.dat (.int i), .dat (.int j)] => Q (.dat (.int (g i j))) M
  | _ => False
theorem int2_get {g : Int → Int → Int} {xs : List SV} {G : Hp} {A : List Addr} {vs : List V} (r : Svs X.K G A vs xs) (h : int2 g M xs Q) : ∃ i j, vs = [.int i, .int j] ∧ Q (.dat (.int (g i j))) M := by
  unfold int2 at h
  split at h
  · cases r with
    | cons s r =>
      cases r with
      | cons s' r =>
        cases r
        cases s
        cases s'
        exact ⟨_, _, rfl, h⟩
  · exact h.elim
theorem we_max2 (hc : X.calm = true) (hm : X.mg "max" = none) (hg : Gl X "max") (h : WA X B ex [a, b] (fun xs M1 => int2 (fun i j => if j > i then j else i) M1 xs Q) ss M)
    (he : starEach [a, b] X.env = (false, eval a X.env) :: starEach [b] X.env := by rfl) (hpl : (backTo pos (starEach [b] X.env)).any (·.1) = false := by rfl) : WE X B ex (.Call (.Name "max" p) [a, b] [] pos) Q ss M := by
  refine we_cb (f := int2 fun i j => if j > i then j else i) (call_max2 hc) (fun G A H M xs vs Q Kq w r h k => ?_) hm (by decide +kernel) hg h (he := he) (hpl := hpl)
  obtain ⟨i, j, rfl, h⟩ := int2_get r h
  exact ⟨_, _, rfl, k.flat .refl w (.int _) h⟩
theorem we_min2 (hc : X.calm = true) (hm : X.mg "min" = none) (hg : Gl X "min") (h : WA X B ex [a, b] (fun xs M1 => int2 (fun i j => if j < i then j else i) M1 xs Q) ss M)
    (he : starEach [a, b] X.env = (false, eval a X.env) :: starEach [b] X.env := by rfl) (hpl : (backTo pos (starEach [b] X.env)).any (·.1) = false := by rfl) : WE X B ex (.Call (.Name "min" p) [a, b] [] pos) Q ss M := by
  refine we_cb (f := int2 fun i j => if j < i then j else i) (call_min2 hc) (fun G A H M xs vs Q Kq w r h k => ?_) hm (by decide +kernel) hg h (he := he) (hpl := hpl)
  obtain ⟨i, j, rfl, h⟩ := int2_get r h
  exact ⟨_, _, rfl, k.flat .refl w (.int _) h⟩
/-- list(xs): a new list, as data or as a cell -/
def listD (M : Mem) (d : D) (Q : SV → Mem → Prop) : Prop := match d with
  | .lst ds => Q (.dat (.lst ds)) M
  | .tup ds => Q (.dat (.lst ds)) M
  | _ => False
theorem we_list (hm : X.mg "list" = none) (hg : Gl X "list") (h : WA X B ex (e :: es) (fun xs M1 => arg1 listD M1 xs Q) ss M)
    (he : starEach (e :: es) X.env = (false, eval e X.env) :: starEach es X.env := by rfl) (hpl : (backTo pos (starEach es X.env)).any (·.1) = false := by rfl) : WE X B ex (.Call (.Name "list" p) (e :: es) [] pos) Q ss M := by
  refine we_ct (f := arg1 listD) call_list_of (fun G A H M xs vs Q Kq w r h k => ?_) hm (by decide +kernel) hg h (he := he) (hpl := hpl)
  obtain ⟨v, d, rfl, q, h⟩ := arg1_get w r h
  cases d <;> try exact h.elim
  · obtain ⟨l, vs, rfl, hl, r⟩ := q
    exact ⟨l, vs, rfl, .inl (.inl hl), k.new .refl w h fun p hp => .lst (.inl upd_same) (r.mono (same_upd (w.none hp).2.2))⟩
  · obtain ⟨l, vs, rfl, hl, r⟩ := q
    exact ⟨l, vs, rfl, .inr (.inl hl), k.new .refl w h fun p hp => .lst (.inl upd_same) (r.mono (same_upd (w.none hp).2.2))⟩
def listC (M : Mem) (d : D) (Q : SV → Mem → Prop) : Prop := match d with
  | .lst ds => Q (.cel M.length) (M ++ [.lst ds])
  | .tup ds => Q (.cel M.length) (M ++ [.lst ds])
  | _ => False
theorem VPost.newC {K : PySem.W.Frag} {G : Hp} {A : List Addr} {H : Hp} {Kq : VK} (k : VPost K B G A Q Kq) {G' : Hp} {A' : List Addr} {ds : List D} {vs : List V} (e : Ext G A G' A') (w : Wd K B G' A' M H) (r : Reps K G' vs ds) (q : Q (.cel M.length) (M ++ [.lst ds])) : ∀ p, H p = none → Kq (.ref p) (upd H p (.lst vs)) := fun p hp => by
  obtain ⟨w2, e2⟩ := w.newC (c := .lst ds) (o := .lst vs) hp ⟨(w.none hp).2.2, vs, upd_same, r⟩
  refine k _ (.cel M.length) _ _ _ _ (e.trans e2) w2 ⟨p, rfl, ?_⟩ q
  rw [← w.len, List.getElem?_append_right (Nat.le_refl _), Nat.sub_self]
  rfl
theorem we_listC (hm : X.mg "list" = none) (hg : Gl X "list") (h : WA X B ex (e :: es) (fun xs M1 => arg1 listC M1 xs Q) ss M)
    (he : starEach (e :: es) X.env = (false, eval e X.env) :: starEach es X.env := by rfl) (hpl : (backTo pos (starEach es X.env)).any (·.1) = false := by rfl) : WE X B ex (.Call (.Name "list" p) (e :: es) [] pos) Q ss M := by
  refine we_ct (f := arg1 listC) call_list_of (fun G A H M xs vs Q Kq w r h k => ?_) hm (by decide +kernel) hg h (he := he) (hpl := hpl)
  obtain ⟨v, d, rfl, q, h⟩ := arg1_get w r h
  cases d <;> try exact h.elim
  · obtain ⟨l, vs, rfl, hl, r⟩ := q
    exact ⟨l, vs, rfl, .inl (.inl hl), k.newC .refl w r h⟩
  · obtain ⟨l, vs, rfl, hl, r⟩ := q
    exact ⟨l, vs, rfl, .inr (.inl hl), k.newC .refl w r h⟩
def tupleD (M : Mem) (d : D) (Q : SV → Mem → Prop) : Prop := match d with
  | .lst ds => Q (.dat (.tup ds)) M
  | .tup ds => Q (.dat (.tup ds)) M
  | _ => False
theorem RepS.data {G : Hp} {A : List Addr} {H : Hp} {x : SV} {v : V} {d : D} (s : SvOk X.K G A v x) (g : x.get M = some d) (h : (∀ ds, d ≠ .lst ds) ∧ ∀ ds, d ≠ .dic ds) : Rep X.K G v d := by
  cases x with
  | dat d' => simp only [SV.get, Option.some.injEq] at g; subst g; exact s
  | raw u => simp [SV.get] at g
  | exc u v w => simp [SV.get] at g
  | cel i =>
    simp only [SV.get] at g
    split at g <;> cases g
    · exact absurd rfl (h.1 _)
    · exact absurd rfl (h.2 _)
theorem we_tuple (hm : X.mg "tuple" = none) (hg : Gl X "tuple") (h : WA X B ex (e :: es) (fun xs M1 => arg1 tupleD M1 xs Q) ss M)
    (he : starEach (e :: es) X.env = (false, eval e X.env) :: starEach es X.env := by rfl) (hpl : (backTo pos (starEach es X.env)).any (·.1) = false := by rfl) : WE X B ex (.Call (.Name "tuple" p) (e :: es) [] pos) Q ss M := by
  refine we_ct (f := arg1 tupleD) call_tuple_of (fun G A H M xs vs Q Kq w r h k => ?_) hm (by decide +kernel) hg h (he := he) (hpl := hpl)
  have h := h.run
  cases r with
  | nil => exact h.elim
  | @cons v vs x xs s r =>
    cases r with
    | cons => exact h.elim
    | nil =>
      obtain ⟨d, g, h⟩ := with1_get h
      have q := s.s w g
      cases d <;> try exact h.elim
      · obtain ⟨l, vs, rfl, hl, r⟩ := q
        exact ⟨l, vs, rfl, .inl ⟨.inl hl, k.new .refl w h fun p hp => .tup (.inl upd_same) (r.mono (same_upd (w.none hp).2.2))⟩⟩
      · have rd := RepS.data (H := H) s g ⟨fun _ z => (by cases z), fun _ z => (by cases z)⟩
        obtain ⟨l, vs, rfl, hl, r⟩ := q
        exact ⟨l, vs, rfl, .inr ⟨.inl hl, k.flat .refl w rd h⟩⟩
/-- sum, all, any, max of a list -/
def sumD (M : Mem) (d : D) (Q : SV → Mem → Prop) : Prop := match d with
  | .lst ds => ∃ ns : List Int, ds = ns.map D.int ∧ Q (.dat (.int ns.sum)) M
  | _ => False
theorem we_sum (hc : X.calm = true) (hm : X.mg "sum" = none) (hg : Gl X "sum") (h : WA X B ex (e :: es) (fun xs M1 => arg1 sumD M1 xs Q) ss M)
    (he : starEach (e :: es) X.env = (false, eval e X.env) :: starEach es X.env := by rfl) (hpl : (backTo pos (starEach es X.env)).any (·.1) = false := by rfl) : WE X B ex (.Call (.Name "sum" p) (e :: es) [] pos) Q ss M := by
  refine we_cb (f := arg1 sumD) (cr_sum hc) (fun G A H M xs vs Q Kq w r h k => ?_) hm (by decide +kernel) hg h (he := he) (hpl := hpl)
  obtain ⟨v, d, rfl, q, h⟩ := arg1_get w r h
  cases d <;> try exact h.elim
  obtain ⟨ns, rfl, h⟩ := h
  obtain ⟨l, vs, rfl, hl, r⟩ := q
  rw [reps_ints r] at hl
  exact ⟨l, ns, rfl, .inl hl, k.flat .refl w (.int _) h⟩
def maxD (M : Mem) (d : D) (Q : SV → Mem → Prop) : Prop := match d with
  | .lst ds => ∃ ns : List Int, ds = ns.map D.int ∧ 0 < ns.length ∧ ∀ m, m ∈ ns → (∀ y, y ∈ ns → y ≤ m) → Q (.dat (.int m)) M
  | _ => False
theorem we_max (hc : X.calm = true) (hm : X.mg "max" = none) (hg : Gl X "max") (h : WA X B ex [e] (fun xs M1 => arg1 maxD M1 xs Q) ss M)
    (he : starEach [e] X.env = (false, eval e X.env) :: starEach [] X.env := by rfl) (hpl : (backTo pos (starEach [] X.env)).any (·.1) = false := by rfl) : WE X B ex (.Call (.Name "max" p) [e] [] pos) Q ss M := by
  refine we_cb (f := arg1 maxD) (cr_max hc) (fun G A H M xs vs Q Kq w r h k => ?_) hm (by decide +kernel) hg h (he := he) (hpl := hpl)
  obtain ⟨v, d, rfl, q, h⟩ := arg1_get w r h
  cases d <;> try exact h.elim
  obtain ⟨ns, rfl, h0, h⟩ := h
  obtain ⟨l, vs, rfl, hl, r⟩ := q
  rw [reps_ints r] at hl
  exact ⟨l, ns, rfl, .inl hl, h0, fun m h1 h2 => k.flat .refl w (.int _) (h m h1 h2)⟩
def allD (f : List Bool → Bool) (M : Mem) (d : D) (Q : SV → Mem → Prop) : Prop := match d with
  | .lst ds => ∃ bs : List Bool, ds = bs.map D.bl ∧ Q (.dat (.bl (f bs))) M
  | _ => False
theorem we_all (hc : X.calm = true) (hm : X.mg "all" = none) (hg : Gl X "all") (h : WA X B ex (e :: es) (fun xs M1 => arg1 (allD fun bs => bs.all id) M1 xs Q) ss M)
    (he : starEach (e :: es) X.env = (false, eval e X.env) :: starEach es X.env := by rfl) (hpl : (backTo pos (starEach es X.env)).any (·.1) = false := by rfl) : WE X B ex (.Call (.Name "all" p) (e :: es) [] pos) Q ss M := by
  refine we_cb (f := arg1 (allD fun bs => bs.all id)) (cr_all hc) (fun G A H M xs vs Q Kq w r h k => ?_) hm (by decide +kernel) hg h (he := he) (hpl := hpl)
  obtain ⟨v, d, rfl, q, h⟩ := arg1_get w r h
  cases d <;> try exact h.elim
  obtain ⟨ns, rfl, h⟩ := h
  obtain ⟨l, vs, rfl, hl, r⟩ := q
  rw [reps_bls r] at hl
  exact ⟨l, ns, rfl, .inl hl, k.flat .refl w (.bl _) h⟩
theorem we_any (hc : X.calm = true) (hm : X.mg "any" = none) (hg : Gl X "any") (h : WA X B ex (e :: es) (fun xs M1 => arg1 (allD fun bs => bs.any id) M1 xs Q) ss M)
    (he : starEach (e :: es) X.env = (false, eval e X.env) :: starEach es X.env := by rfl) (hpl : (backTo pos (starEach es X.env)).any (·.1) = false := by rfl) : WE X B ex (.Call (.Name "any" p) (e :: es) [] pos) Q ss M := by
  refine we_cb (f := arg1 (allD fun bs => bs.any id)) (cr_any hc) (fun G A H M xs vs Q Kq w r h k => ?_) hm (by decide +kernel) hg h (he := he) (hpl := hpl)
  obtain ⟨v, d, rfl, q, h⟩ := arg1_get w r h
  cases d <;> try exact h.elim
  obtain ⟨ns, rfl, h⟩ := h
  obtain ⟨l, vs, rfl, hl, r⟩ := q
  rw [reps_bls r] at hl
  exact ⟨l, ns, rfl, .inl hl, k.flat .refl w (.bl _) h⟩
end
end Mb

/-! Mb, part 9: loops, list methods, text methods, slices. -/
namespace Mb
open PySem L2 PyProof.Rows
section
variable {X : Cx} {B : Base} {ex : XD} {ss : Sst} {M : Mem} {a b c e tg o iter : Expr} {es : List Expr} {pos p p' apos p2 : Pos} {Q : SV → Mem → Prop} {QB : Bool → Mem → Prop} {x : Str} {N : Nd} {body : List Stmt}
/-! ### what is walked -/
/-- J gives the items ds, one by one, while what G1 knows stands -/
def SrcOk (K : PySem.W.Frag) (B : Base) (J : It) (G1 : Hp) (ds : List D) : Prop :=
  ∃ (Gp : Hp → Prop) (Y : Nat → Hp → V → Hp → Prop), Walk J ds.length Gp Y ∧ (∀ H, Same G1 H → Gp H) ∧
    ∀ i H x H' G A M, i < ds.length → Same G1 G → Wd K B G A M H → Y i H x H' → ∃ G' d, Same G G' ∧ Wd K B G' A M H' ∧ ds[i]? = some d ∧ Rep K G' x d ∧ Same H H' ∧ ∀ b o, G' b = some o → G b = some o ∨ H b = none
def tiW (X : Cx) (tg iter : Expr) : TI := fun σ H R => ∀ pins s, Inv X pins σ H s → wpAny (model X.prog X.w) X.A (eval iter X.env) (fun v s1 => wpAny (model X.prog X.w) X.A (pyIter v) (PIE X pins σ tg R) X.xe s1) X.xe s
theorem pi_self : PI X tg iter (tiW X tg iter) := ⟨fun pins s _ _ _ I h => h pins s I⟩
theorem ti_of {t : TI} {σ : L2.St} {H : Hp} {R : It → Hp → Prop} (h : PI X tg iter t) (q : t σ H R) : tiW X tg iter σ H R := fun pins s I => h.run pins s σ H R I q
def WI0 (X : Cx) (B : Base) (ex : XD) (tg iter : Expr) (Q : List D → Mem → Prop) (ss : Sst) (M : Mem) : Prop :=
  Cok X B ex → ∀ G A H σ, Wd X.K B G A M H → Sl X.K G A σ ss → ∀ R : It → Hp → Prop, (∀ J ds G' A' M' H', Ext G A G' A' → Wd X.K B G' A' M' H' → SrcOk X.K B J G' ds → Q ds M' → R J H') → tiW X tg iter σ H R
structure WI (X : Cx) (B : Base) (ex : XD) (tg iter : Expr) (Q : List D → Mem → Prop) (ss : Sst) (M : Mem) : Prop where
  run : WI0 X B ex tg iter Q ss M
instance {X : Cx} {B : Base} {ex : XD} {tg iter : Expr} {Q : List D → Mem → Prop} {ss : Sst} {M : Mem} : CoeFun (WI X B ex tg iter Q ss M) fun _ => Cok X B ex → ∀ G A H σ, Wd X.K B G A M H → Sl X.K G A σ ss → ∀ R : It → Hp → Prop, (∀ J ds G' A' M' H', Ext G A G' A' → Wd X.K B G' A' M' H' → SrcOk X.K B J G' ds → Q ds M' → R J H') → tiW X tg iter σ H R := ⟨WI.run⟩
theorem src_at {K : PySem.W.Frag} {G1 : Hp} {J : It} {vs : List V} {ds : List D} {Gp : Hp → Prop} (r : Reps K G1 vs ds) (wk : Walk J vs.length Gp (YAt vs)) (hG : ∀ H, Same G1 H → Gp H) : SrcOk K B J G1 ds := by
  refine ⟨Gp, YAt vs, by rw [← r.length]; exact wk, hG, fun i H x H' G A M hi s w hy => ?_⟩
  obtain ⟨rfl, hx⟩ := hy
  obtain ⟨d, hd, rd⟩ := r.at hx
  exact ⟨G, d, Same.refl _, w, hd, rd.mono s, Same.refl _, fun b o e => .inl e⟩
variable {QL : List D → Mem → Prop}
theorem wi_list (h : WE X B ex iter (fun x M1 => ∃ ds, x = .dat (.lst ds) ∧ QL ds M1) ss M) : WI X B ex tg iter QL ss M := .mk fun ck G A H σ w sl R k => by
  refine ti_of (pi_list pe_self) ?_
  refine h ck G A H σ w sl _ fun v x G1 A1 M1 H1 e1 w1 s1 h1 => ?_
  obtain ⟨ds, rfl, q⟩ := h1
  have s1 : Rep X.K G1 v (.lst ds) := s1
  cases s1 with
  | lst hl r => exact ⟨_, rfl, ⟨_, .inl (rdM w1.gh hl)⟩, k _ ds G1 A1 M1 H1 e1 w1 (src_at r walk_list fun H s => .inl (rdM s hl)) q⟩
theorem wi_tup (h : WE X B ex iter (fun x M1 => ∃ ds, x = .dat (.tup ds) ∧ QL ds M1) ss M) : WI X B ex tg iter QL ss M := .mk fun ck G A H σ w sl R k => by
  refine ti_of (pi_tup pe_self) ?_
  refine h ck G A H σ w sl _ fun v x G1 A1 M1 H1 e1 w1 s1 h1 => ?_
  obtain ⟨ds, rfl, q⟩ := h1
  have s1 : Rep X.K G1 v (.tup ds) := s1
  cases s1 with
  | tup hl r => exact ⟨_, rfl, ⟨_, .inl (rdM w1.gh hl)⟩, k _ ds G1 A1 M1 H1 e1 w1 (src_at r walk_tup fun H s => .inl (rdM s hl)) q⟩
/-- the signs of a text -/
def signsD (z : Str) : List D := z.cps.toList.map fun c => .str ⟨#[c]⟩
theorem SOk.one {z : Str} {c : Nat} (h : SOk z) (m : c ∈ z.cps) : SOk ⟨#[c]⟩ := by
  refine ⟨by show 1 ≤ sizeLine; decide, ?_⟩
  have a := h.2
  unfold PyData.strOk at a ⊢
  rw [Array.all_eq_true'] at a
  have := a c m
  simpa using this
theorem wi_str (h : WE X B ex iter (fun x M1 => ∃ z, x = .dat (.str z) ∧ QL (signsD z) M1) ss M) : WI X B ex tg iter QL ss M := .mk fun ck G A H σ w sl R k => by
  refine ti_of (pi_str pe_self) ?_
  refine h ck G A H σ w sl _ fun v x G1 A1 M1 H1 e1 w1 s1 h1 => ?_
  obtain ⟨z, rfl, q⟩ := h1
  have s1 : Rep X.K G1 v (.str z) := s1
  cases s1 with
  | str _ hz =>
    refine ⟨z, rfl, k _ _ G1 A1 M1 H1 e1 w1 ⟨_, _, (by
      have e : (signsD z).length = z.cps.size := by unfold signsD; rw [List.length_map, Array.length_toList]
      rw [e]; exact walk_str), fun _ _ => trivial, fun i H x H' G A M hi s w hy => ?_⟩ q⟩
    obtain ⟨rfl, c, hc, rfl⟩ := hy
    refine ⟨G, _, Same.refl _, w, ?_, .str _ (hz.one (Array.mem_of_getElem? hc)), Same.refl _, fun b o e => .inl e⟩
    unfold signsD
    rw [List.getElem?_map, Array.getElem?_toList, hc]
    rfl
/-- the ints that range(n), range(a, b) goes through -/
def rangeD (lo : Int) (n : Nat) : List D := (List.range n).map fun (i : Nat) => .int (lo + (i : Int))
theorem src_range {K : PySem.W.Frag} {G1 : Hp} {lo : Int} {n : Nat} : SrcOk K B (Itr lo n) G1 (rangeD lo n) := by
  have e : (rangeD lo n).length = n := by unfold rangeD; rw [List.length_map, List.length_range]
  refine ⟨_, _, by rw [e]; exact walk_range, fun _ _ => trivial, fun i H x H' G A M hi s w hy => ?_⟩
  obtain ⟨rfl, rfl⟩ := hy
  rw [e] at hi
  refine ⟨G, _, Same.refl _, w, ?_, .int _, Same.refl _, fun b o e => .inl e⟩
  unfold rangeD
  rw [List.getElem?_map, List.getElem?_range hi]
  rfl
theorem wi_range1 (hm : X.mg "range" = none) (hg : Gl X "range") (h : WA X B ex [e] (fun xs M1 => ∃ n : Int, xs = [.dat (.int n)] ∧ (-(2 ^ 62) ≤ n ∧ n < 2 ^ 62) ∧ QL (rangeD 0 n.toNat) M1) ss M)
    (hs1 : starEach [e] X.env = [(false, eval e X.env)] := by rfl) : WI X B ex tg (.Call (.Name "range" p) [e] [] p2) QL ss M := .mk fun ck G A H σ w sl R k => by
  refine ti_of (pi_range1 hg hm pa_self hs1) ?_
  refine h ck G A H σ w sl _ fun vs xs G1 A1 M1 H1 e1 w1 s1 h1 => ?_
  obtain ⟨n, rfl, hz, q⟩ := h1
  cases s1 with
  | cons s r =>
    cases r
    cases s
    exact ⟨n, rfl, hz.1, hz.2, k _ _ G1 A1 M1 H1 e1 w1 src_range q⟩
theorem wi_range2 (hm : X.mg "range" = none) (hg : Gl X "range") (h : WA X B ex [a, b] (fun xs M1 => ∃ i n : Int, xs = [.dat (.int i), .dat (.int n)] ∧ (-(2 ^ 62) ≤ i ∧ i < 2 ^ 62 ∧ -(2 ^ 62) ≤ n ∧ n < 2 ^ 62) ∧ QL (rangeD i (n - i).toNat) M1) ss M)
    (hs1 : starEach [a, b] X.env = [(false, eval a X.env), (false, eval b X.env)] := by rfl) (hs2 : starEach [b] X.env = [(false, eval b X.env)] := by rfl) : WI X B ex tg (.Call (.Name "range" p) [a, b] [] p2) QL ss M := .mk fun ck G A H σ w sl R k => by
  refine ti_of (pi_range2 hg hm pa_self hs1 hs2) ?_
  refine h ck G A H σ w sl _ fun vs xs G1 A1 M1 H1 e1 w1 s1 h1 => ?_
  obtain ⟨i, n, rfl, hz, q⟩ := h1
  cases s1 with
  | cons s r =>
    cases r with
    | cons s' r =>
      cases r
      cases s
      cases s'
      exact ⟨i, n, rfl, hz, k _ _ G1 A1 M1 H1 e1 w1 src_range q⟩
/-- pairs that are made while one walks -/
theorem src_pair {K : PySem.W.Frag} {G1 : Hp} {J : It} {Gp : Hp → Prop} {xs ys : Nat → Option V} {ds es : List D} {n : Nat} (wk : Walk J n Gp (YPair xs ys)) (hG : ∀ H, Same G1 H → Gp H) (h1 : ds.length = n) (h2 : es.length = n)
    (r1 : ∀ i x, i < n → xs i = some x → ∃ d, ds[i]? = some d ∧ Rep K G1 x d) (r2 : ∀ i x, i < n → ys i = some x → ∃ d, es[i]? = some d ∧ Rep K G1 x d) : SrcOk K B J G1 (List.zipWith (fun a b => D.tup [a, b]) ds es) := by
  have e : (List.zipWith (fun a b => D.tup [a, b]) ds es).length = n := by rw [List.length_zipWith, h1, h2, Nat.min_self]
  refine ⟨Gp, _, by rw [e]; exact wk, hG, fun i H x H' G A M hi s w hy => ?_⟩
  rw [e] at hi
  obtain ⟨T, x1, x2, rfl, hT, rfl, hx, hy⟩ := hy
  obtain ⟨d1, e1, q1⟩ := r1 i x1 hi hx
  obtain ⟨d2, e2, q2⟩ := r2 i x2 hi hy
  obtain ⟨w2, ext⟩ := w.newD (o := .tup [x1, x2]) hT
  refine ⟨_, .tup [d1, d2], ext.1, w2, ?_, .tup (.inl upd_same) (.cons (q1.mono (s.trans ext.1)) (.cons (q2.mono (s.trans ext.1)) .nil)), same_upd hT, fun b o e => ?_⟩
  · rw [List.getElem?_zipWith, e1, e2]
  · by_cases c : b = T
    · subst c; exact .inr hT
    · rw [upd_ne c] at e; exact .inl e
theorem wi_enum {elts : List Expr} {kk : Nat} {tpos : Pos} (hm : X.mg "enumerate" = none) (hg : Gl X "enumerate") (h : WA X B ex [e] (fun xs M1 => ∃ ds : List D, xs = [.dat (.lst ds)] ∧ QL (List.zipWith (fun a b => D.tup [a, b]) (rangeD 0 ds.length) ds) M1) ss M)
    (hs1 : starEach [e] X.env = [(false, eval e X.env)] := by rfl) : WI X B ex (.Tuple elts kk tpos) (.Call (.Name "enumerate" p) [e] [] p2) QL ss M := .mk fun ck G A H σ w sl R k => by
  refine ti_of (pi_enum hg hm pa_self hs1) ?_
  refine h ck G A H σ w sl _ fun vs xs G1 A1 M1 H1 e1 w1 s1 h1 => ?_
  obtain ⟨ds, rfl, q⟩ := h1
  cases s1 with
  | cons s r =>
    cases r
    have s : Rep X.K G1 _ (.lst ds) := s
    cases s with
    | lst hl r =>
      rename_i l vs
      refine ⟨l, vs, rfl, .inl (rdM w1.gh hl), k _ _ G1 A1 M1 H1 e1 w1 (src_pair (n := vs.length) (walk_enum (K := X.K) (a := l) (xs := vs)) (fun H s => .inl (rdM s hl)) (by unfold rangeD; rw [List.length_map, List.length_range, r.length]) r.length.symm (fun i x hi hx => ?_) fun i x hi hx => r.at hx) q⟩
      cases hx
      refine ⟨.int (0 + (i : Int)), ?_, by rw [Int.zero_add]; exact .int _⟩
      unfold rangeD
      rw [List.getElem?_map, List.getElem?_range (by rw [← r.length]; exact hi)]
      rfl
theorem wi_zip {elts : List Expr} {kk : Nat} {tpos : Pos} (hm : X.mg "zip" = none) (hg : Gl X "zip") (h : WA X B ex [a, b] (fun xs M1 => ∃ ds es : List D, xs = [.dat (.lst ds), .dat (.lst es)] ∧ ds.length = es.length ∧ QL (List.zipWith (fun a b => D.tup [a, b]) ds es) M1) ss M)
    (hs1 : starEach [a, b] X.env = (false, eval a X.env) :: starEach [b] X.env := by rfl) (hpl : (backTo p2 (starEach [b] X.env)).any (·.1) = false := by rfl) : WI X B ex (.Tuple elts kk tpos) (.Call (.Name "zip" p) [a, b] [] p2) QL ss M := .mk fun ck G A H σ w sl R k => by
  refine ti_of (pi_zip hg hm pa_self hs1 hpl) ?_
  refine h ck G A H σ w sl _ fun vs xs G1 A1 M1 H1 e1 w1 s1 h1 => ?_
  obtain ⟨ds, es, rfl, hl, q⟩ := h1
  cases s1 with
  | cons s r =>
    cases r with
    | cons s' r =>
      cases r
      have s : Rep X.K G1 _ (.lst ds) := s
      have s' : Rep X.K G1 _ (.lst es) := s'
      cases s with
      | lst h1 r1 =>
        cases s' with
        | lst h2 r2 =>
          refine ⟨_, _, _, _, rfl, .inl (rdM w1.gh h1), .inl (rdM w1.gh h2), k _ _ G1 A1 M1 H1 e1 w1 (src_pair (n := ds.length) (walk_zip (by rw [r1.length, r2.length, ← hl, Nat.min_self])) (fun H s => ⟨.inl (rdM s h1), .inl (rdM s h2)⟩) rfl hl.symm (fun i x hi hx => r1.at hx) fun i x hi hx => r2.at hx) q⟩
/-! ### for -/
/-- the turns of a loop: I by the number of turns -/
def ForQ (X : Cx) (B : Base) (ex : XD) (tg : Expr) (body : List Stmt) (N : Nd) (ds : List D) (I : Nat → Sst → Mem → Prop) : Prop :=
  (∀ i d ss M, ds[i]? = some d → I i ss M → WG X B ex tg (.dat d) (fun ss2 M2 => WB X B ex body { N with nx := I (i + 1), ct := I (i + 1), bk := N.nx } ss2 M2) ss M) ∧ ∀ ss M, I ds.length ss M → N.nx ss M
theorem ws_for (hc : X.calm = true) (h : WI X B ex tg iter (fun ds M1 => ∃ I, I 0 ss M1 ∧ ForQ X B ex tg body N ds I) ss M) (hs : ∀ x, foldedSetIterable iter X.env x = pure x := by intro _; rfl) : WS X B ex (.For tg iter body [] pos) N ss M := .mk fun ck G A H σ w sl E k => by
  refine ts_of (ps_for ck.ps hc pi_self pg_self pb_self hs) ?_
  refine h ck G A H σ w sl _ fun J ds G1 A1 M1 H1 e1 w1 src h1 => ?_
  obtain ⟨I, h0, hq⟩ := h1
  obtain ⟨Gp, Y, wk, hG, hY⟩ := src
  refine for_it wk (fun i σ H => ∃ ss G A M, Same G1 G ∧ Wd X.K B G A M H ∧ Sl X.K G A σ ss ∧ I i ss M) ⟨ss, G1, A1, M1, Same.refl _, w1, sl.mono e1, h0⟩ (fun i σ H _ ⟨_, G', _, _, s', w', _⟩ => hG H (s'.trans w'.gh)) (fun i y σ H H' hi hj hy => ?_) fun σ H hj => ?_
  · obtain ⟨ss, G2, A2, M2, s1, w2, sl2, q⟩ := hj
    obtain ⟨G3, d, s3, w3, hd, rd, _⟩ := hY i H y H' G2 A2 M2 hi s1 w2 hy
    have s13 := s1.trans s3
    refine hq.1 i d ss M2 hd q ck G3 A2 H' σ y w3 (sl2.mono ⟨s3, [], by simp⟩) rd _ fun σ4 ss4 G4 A4 M4 H4 s4 w4 sl4 h4 => ?_
    have s14 := s13.trans s4
    refine h4 ck G4 A4 H4 σ4 w4 sl4 _ ⟨fun σ' ss' G' A' M' H' s' w' sl' q' => ?_, fun v x G' A' M' H' s' w' sv q' => ?_, fun σ' ss' G' A' M' H' s' w' sl' q' => ?_, fun σ' ss' G' A' M' H' s' w' sl' q' => ?_⟩
    · exact ⟨ss', G', A', M', s14.trans s', w', sl', q'⟩
    · exact k.rt v x G' A' M' H' ((e1.1.trans s14).trans s') w' sv q'
    · exact k.nx σ' ss' G' A' M' H' ((e1.1.trans s14).trans s') w' sl' q'
    · exact ⟨ss', G', A', M', s14.trans s', w', sl', q'⟩
  · obtain ⟨ss, G2, A2, M2, s1, w2, sl2, q⟩ := hj
    exact k.nx σ ss G2 A2 M2 H (e1.1.trans s1) w2 sl2 (hq.2 ss M2 q)
/-- while: I with a measure -/
theorem ws_while (I : Nat → Sst → Mem → Prop) (m : Nat) (h0 : I m ss M) (hs : ∀ m ss' M', I m ss' M' → WT X B ex c (fun b M1 => if b = true then WB X B ex body { N with nx := fun ss2 M2 => ∃ m', m' < m ∧ I m' ss2 M2, ct := fun ss2 M2 => ∃ m', m' < m ∧ I m' ss2 M2, bk := N.nx } ss' M1 else N.nx ss' M1) ss' M') :
    WS X B ex (.While c body [] pos) N ss M := .mk fun ck G A H σ w sl E k => by
  refine ts_of (ps_while ck.ps pt_self pb_self) ?_
  refine ⟨fun m σ H => ∃ ss G' A M, Same G G' ∧ Wd X.K B G' A M H ∧ Sl X.K G' A σ ss ∧ I m ss M, ⟨m, ss, G, A, M, Same.refl _, w, sl, h0⟩, fun m σ H hj => ?_⟩
  obtain ⟨ss1, G1, A1, M1, s1, w1, sl1, q⟩ := hj
  refine hs m ss1 M1 q ck G1 A1 H σ w1 sl1 _ fun b G2 A2 M2 H2 e2 w2 h2 => ?_
  cases b with
  | false =>
    rw [if_neg Bool.false_ne_true] at h2 ⊢
    exact k.nx σ ss1 G2 A2 M2 H2 (s1.trans e2.1) w2 (sl1.mono e2) h2
  | true =>
    rw [if_pos rfl] at h2 ⊢
    refine ⟨fun σ' H' => ∃ m', m' < m ∧ ∃ ss G' A M, Same G G' ∧ Wd X.K B G' A M H' ∧ Sl X.K G' A σ' ss ∧ I m' ss M, fun σ' H' q => q, ?_⟩
    refine h2 ck G2 A2 H2 σ w2 (sl1.mono e2) _ ⟨fun σ' ss' G' A' M' H' s' w' sl' q' => ?_, fun v x G' A' M' H' s' w' sv q' => ?_, fun σ' ss' G' A' M' H' s' w' sl' q' => ?_, fun σ' ss' G' A' M' H' s' w' sl' q' => ?_⟩
    · obtain ⟨m', hm, q'⟩ := q'
      exact ⟨m', hm, ss', G', A', M', (s1.trans e2.1).trans s', w', sl', q'⟩
    · exact k.rt v x G' A' M' H' ((s1.trans e2.1).trans s') w' sv q'
    · exact k.nx σ' ss' G' A' M' H' ((s1.trans e2.1).trans s') w' sl' q'
    · obtain ⟨m', hm, q'⟩ := q'
      exact ⟨m', hm, ss', G', A', M', (s1.trans e2.1).trans s', w', sl', q'⟩
/-! ### a, b = a tuple -/
theorem wg_tup2 {t1 t2 : Expr} {j : Nat} {d1 d2 : D} {Q : Sst → Mem → Prop} (hc : X.calm = true) (h : WG X B ex t1 (.dat d1) (fun ss2 M2 => WG X B ex t2 (.dat d2) Q ss2 M2) ss M)
    (hn : (assignEach [t1, t2] X.env).length = 2 := by rfl) (hst : (assignEach [t1, t2] X.env).findIdx? (·.1) = none := by rfl) (h1 : (assignEach [t1, t2] X.env).map (·.2) = assign t1 X.env :: (assignEach [t2] X.env).map (·.2) := by rfl) (h2 : (assignEach [t2] X.env).map (·.2) = assign t2 X.env :: (assignEach [] X.env).map (·.2) := by rfl) :
    WG X B ex (.Tuple [t1, t2] j pos) (.dat (.tup [d1, d2])) Q ss M := .mk fun ck G A H σ v w sl s Kq k => by
  refine tg_of (pg_tup hc (pgs_cons pg_self (pgs_cons pg_self pgs_nil h2) h1) hn hst) ?_
  have s : Rep X.K G v (.tup [d1, d2]) := s
  cases s with
  | tup hl r =>
    cases r with
    | cons r1 r =>
      cases r with
      | cons r2 r =>
        cases r
        refine ⟨_, _, rfl, .inl (rdM w.gh hl), rfl, _, _, rfl, ?_⟩
        refine h ck G A H σ _ w sl r1 _ fun σ' ss' G' A' M' H' s' w' sl' q => ?_
        refine ⟨_, _, rfl, ?_⟩
        exact q ck G' A' H' σ' _ w' sl' (Rep.mono s' r2) _ fun σ2 ss2 G2 A2 M2 H2 s2 w2 sl2 q2 => ⟨rfl, k σ2 ss2 G2 A2 M2 H2 (s'.trans s2) w2 sl2 q2⟩
theorem wg_tup3 {t1 t2 t3 : Expr} {j : Nat} {d1 d2 d3 : D} {Q : Sst → Mem → Prop} (hc : X.calm = true) (h : WG X B ex t1 (.dat d1) (fun ss2 M2 => WG X B ex t2 (.dat d2) (fun ss3 M3 => WG X B ex t3 (.dat d3) Q ss3 M3) ss2 M2) ss M)
    (hn : (assignEach [t1, t2, t3] X.env).length = 3 := by rfl) (hst : (assignEach [t1, t2, t3] X.env).findIdx? (·.1) = none := by rfl) (h1 : (assignEach [t1, t2, t3] X.env).map (·.2) = assign t1 X.env :: (assignEach [t2, t3] X.env).map (·.2) := by rfl)
    (h2 : (assignEach [t2, t3] X.env).map (·.2) = assign t2 X.env :: (assignEach [t3] X.env).map (·.2) := by rfl) (h3 : (assignEach [t3] X.env).map (·.2) = assign t3 X.env :: (assignEach [] X.env).map (·.2) := by rfl) :
    WG X B ex (.Tuple [t1, t2, t3] j pos) (.dat (.tup [d1, d2, d3])) Q ss M := .mk fun ck G A H σ v w sl s Kq k => by
  refine tg_of (pg_tup hc (pgs_cons pg_self (pgs_cons pg_self (pgs_cons pg_self pgs_nil h3) h2) h1) hn hst) ?_
  have s : Rep X.K G v (.tup [d1, d2, d3]) := s
  cases s with
  | tup hl r =>
    cases r with
    | cons r1 r =>
      cases r with
      | cons r2 r =>
        cases r with
        | cons r3 r =>
          cases r
          refine ⟨_, _, rfl, .inl (rdM w.gh hl), rfl, _, _, rfl, ?_⟩
          refine h ck G A H σ _ w sl r1 _ fun σ' ss' G' A' M' H' s' w' sl' q => ⟨_, _, rfl, ?_⟩
          refine q ck G' A' H' σ' _ w' sl' (Rep.mono s' r2) _ fun σ2 ss2 G2 A2 M2 H2 s2 w2 sl2 q2 => ⟨_, _, rfl, ?_⟩
          exact q2 ck G2 A2 H2 σ2 _ w2 sl2 (Rep.mono (s'.trans s2) r3) _ fun σ3 ss3 G3 A3 M3 H3 s3 w3 sl3 q3 => ⟨rfl, k σ3 ss3 G3 A3 M3 H3 ((s'.trans s2).trans s3) w3 sl3 q3⟩
/-- a, b = a list of two -/
theorem wg_lst2 {t1 t2 : Expr} {j : Nat} {d1 d2 : D} {Q : Sst → Mem → Prop} (hc : X.calm = true) (h : WG X B ex t1 (.dat d1) (fun ss2 M2 => WG X B ex t2 (.dat d2) Q ss2 M2) ss M)
    (hn : (assignEach [t1, t2] X.env).length = 2 := by rfl) (hst : (assignEach [t1, t2] X.env).findIdx? (·.1) = none := by rfl) (h1 : (assignEach [t1, t2] X.env).map (·.2) = assign t1 X.env :: (assignEach [t2] X.env).map (·.2) := by rfl) (h2 : (assignEach [t2] X.env).map (·.2) = assign t2 X.env :: (assignEach [] X.env).map (·.2) := by rfl) :
    WG X B ex (.Tuple [t1, t2] j pos) (.dat (.lst [d1, d2])) Q ss M := .mk fun ck G A H σ v w sl s Kq k => by
  refine tg_of (pg_lst hc (pgs_cons pg_self (pgs_cons pg_self pgs_nil h2) h1) hn hst) ?_
  have s : Rep X.K G v (.lst [d1, d2]) := s
  cases s with
  | lst hl r =>
    cases r with
    | cons r1 r =>
      cases r with
      | cons r2 r =>
        cases r
        refine ⟨_, _, rfl, .inl (rdM w.gh hl), rfl, _, _, rfl, ?_⟩
        refine h ck G A H σ _ w sl r1 _ fun σ' ss' G' A' M' H' s' w' sl' q => ?_
        refine ⟨_, _, rfl, ?_⟩
        exact q ck G' A' H' σ' _ w' sl' (Rep.mono s' r2) _ fun σ2 ss2 G2 A2 M2 H2 s2 w2 sl2 q2 => ⟨rfl, k σ2 ss2 G2 A2 M2 H2 (s'.trans s2) w2 sl2 q2⟩
/-! ### methods of lists -/
def rExtT : V → List V → Hp → VK → Prop := fun x vs H Q => ∃ l b xs zs, x = .ref l ∧ vs = [.ref b] ∧ H l = some (.lst xs) ∧ Rd H b (.lst zs) ∧ xs.length + zs.length ≤ sizeLine ∧ Q .non (upd H l (.lst (xs ++ zs)))
theorem mt_extT : MtR X "list.extend" rExtT := by
  intro pins s σ H x vs v us Q I rx rv hh
  obtain ⟨l, b, xs, zs, rfl, rfl, hH, hB, hz, q⟩ := hh
  cases rx
  obtain ⟨u, rfl, ru⟩ := rv.one
  cases ru
  obtain ⟨z, i1, n1, r1, hl1, e1⟩ := I.lstM hH
  obtain ⟨_, i2, n2, r2, e2⟩ := hB.ok I.hok
  have hl2 := r2.length
  have n3 : i1.toArray.size + i2.toArray.size ≤ sizeLine := by rw [List.size_toArray, List.size_toArray]; omega
  have n4 : ¬ (!i1.toArray.isEmpty && Builtin.List.listTooLong (i1.toArray.size + i2.toArray.size)) = true := by rw [notLongL n3, Bool.and_false]; simp
  refine call_meets F.slot_list_extend ⟨_, e1, rfl⟩ F.entry_list_extend (F.args_list_extend_2 _ _) (AutoSeq1.list_extend_list_list_0 l i1.toArray n1 b i2.toArray n2 n4 (by rw [List.size_toArray]; omega) (by omega)) ⟨e1, e2, ?_⟩
  exact ⟨.non, _, I.lset (its' := i1 ++ i2) hH e1 (by simp) (r1.append r2) (by rw [List.length_append]; omega), rfl, q⟩
/-- x a list of ours: its items -/
def cellL0 (M : Mem) (x : SV) (k : Nat → List D → Prop) : Prop := match x with
  | .cel i => match M[i]? with
    | some (.lst ds) => k i ds
    | _ => False
  | _ => False
structure cellL (M : Mem) (x : SV) (k : Nat → List D → Prop) : Prop where
  run : cellL0 M x k
theorem cellL_get {M : Mem} {x : SV} {k : Nat → List D → Prop} (h : cellL M x k) : ∃ i ds, x = .cel i ∧ M[i]? = some (.lst ds) ∧ k i ds := by
  have h := h.run
  unfold cellL0 at h
  cases x with
  | dat d => exact h.elim
  | raw u => exact h.elim
  | exc u v w => exact h.elim
  | cel i =>
    simp only at h
    cases e : M[i]? with
    | none => simp [e] at h
    | some c =>
      cases c <;> simp [e] at h
      exact ⟨i, _, rfl, e, h⟩
/-- one argument, data -/
def one10 (ys : List SV) (k : D → Prop) : Prop := match ys with
  | [.dat d] => k d
  | _ => False
structure one1 (ys : List SV) (k : D → Prop) : Prop where
  run : one10 ys k
theorem one1_get {K : PySem.W.Frag} {G : Hp} {A : List Addr} {vs : List V} {ys : List SV} {k : D → Prop} (r : Svs K G A vs ys) (h : one1 ys k) : ∃ v d, vs = [v] ∧ Rep K G v d ∧ ys = [.dat d] ∧ k d := by
  have h := h.run
  unfold one10 at h
  split at h
  · cases r with
    | cons s r => cases r; exact ⟨_, _, rfl, s, rfl, h⟩
  · exact h.elim
theorem we_append (h : WE X B ex o (fun x M1 => cellL M1 x fun _ _ => WA X B ex [e] (fun ys M2 => one1 ys fun d => cellL M2 x fun i ds => ds.length < sizeLine ∧ Q (.dat .non) (M2.set i (.lst (ds ++ [d])))) ss M1) ss M)
    (hbase : attributeBase o "append" X.env (eval o X.env) = eval o X.env := by rfl)
    (hfew : ((backTo pos (starEach [e] X.env)).all (fun x => !x.1) && (backToKw pos (keywordEach [] X.env)).all (fun x => x.1.isSome) && decide ([e].length + ([] : List Keyword).length + (if ([] : List Keyword).isEmpty then 0 else 1) < 30)) = true := by rfl)
    (hline : (apos.endLine == pos.line) = true := by rfl) (hs : starEach [e] X.env = (false, eval e X.env) :: starEach [] X.env := by rfl) (hpl : (backTo pos (starEach [] X.env)).any (·.1) = false := by rfl) :
    WE X B ex (.Call (.Attribute o "append" apos) [e] [] pos) Q ss M := .mk fun ck G A H σ w sl Kq k => by
  refine te_of (pe_bm PySem.F.plainAttrs_list PySem.F.slot_list_append PySem.F.type_list_append mt_append pe_self pa_self hbase hfew hline hs hpl) ?_
  refine h ck G A H σ w sl _ fun v x G1 A1 M1 H1 e1 w1 s1 h1 => ?_
  obtain ⟨i, ds, rfl, hM, h1⟩ := cellL_get h1
  obtain ⟨l, rfl, hl⟩ := s1
  obtain ⟨gn, vs, hv, r⟩ := w1.cl.get hl hM
  refine ⟨.inl ⟨rfl, vs, .inl (.inl hv)⟩, ?_⟩
  refine h1 ck G1 A1 H1 σ w1 (sl.mono e1) _ fun us ys G2 A2 M2 H2 e2 w2 s2 h2 => ?_
  obtain ⟨u, d, rfl, ru, eys, h3⟩ := one1_get s2 h2
  obtain ⟨j, ds2, ej, hM2, hz, h4⟩ := cellL_get h3
  cases ej
  have hl2 := pre_get e2.2 hl
  obtain ⟨gn2, vs2, hv2, r2⟩ := w2.cl.get hl2 hM2
  refine ⟨l, vs2, u, rfl, rfl, hv2, by rw [r2.length]; exact hz, ?_⟩
  exact k .non (.dat .non) G2 A2 _ _ (e1.trans e2) (w2.setC (c' := .lst (ds2 ++ [d])) hl2 gn2 ⟨gn2, _, upd_same, r2.append (.cons ru .nil)⟩) .non h4
theorem we_extend (h : WE X B ex o (fun x M1 => cellL M1 x fun _ _ => WA X B ex [e] (fun ys M2 => ∃ y, ys = [y] ∧ with1 M2 y fun d => ∃ es, d = .lst es ∧ cellL M2 x fun i ds => ds.length + es.length ≤ sizeLine ∧ Q (.dat .non) (M2.set i (.lst (ds ++ es)))) ss M1) ss M)
    (hbase : attributeBase o "extend" X.env (eval o X.env) = eval o X.env := by rfl)
    (hfew : ((backTo pos (starEach [e] X.env)).all (fun x => !x.1) && (backToKw pos (keywordEach [] X.env)).all (fun x => x.1.isSome) && decide ([e].length + ([] : List Keyword).length + (if ([] : List Keyword).isEmpty then 0 else 1) < 30)) = true := by rfl)
    (hline : (apos.endLine == pos.line) = true := by rfl) (hs : starEach [e] X.env = (false, eval e X.env) :: starEach [] X.env := by rfl) (hpl : (backTo pos (starEach [] X.env)).any (·.1) = false := by rfl) :
    WE X B ex (.Call (.Attribute o "extend" apos) [e] [] pos) Q ss M := .mk fun ck G A H σ w sl Kq k => by
  refine te_of (pe_bm PySem.F.plainAttrs_list PySem.F.slot_list_extend PySem.F.type_list_extend mt_extT pe_self pa_self hbase hfew hline hs hpl) ?_
  refine h ck G A H σ w sl _ fun v x G1 A1 M1 H1 e1 w1 s1 h1 => ?_
  obtain ⟨i, ds, rfl, hM, h1⟩ := cellL_get h1
  obtain ⟨l, rfl, hl⟩ := s1
  obtain ⟨gn, vs, hv, r⟩ := w1.cl.get hl hM
  refine ⟨.inl ⟨rfl, vs, .inl (.inl hv)⟩, ?_⟩
  refine h1 ck G1 A1 H1 σ w1 (sl.mono e1) _ fun us ys G2 A2 M2 H2 e2 w2 s2 h2 => ?_
  obtain ⟨y, rfl, h2⟩ := h2
  obtain ⟨d, g, es2, rfl, h2⟩ := with1_get h2
  cases s2 with
  | cons sy r0 =>
    cases r0
    obtain ⟨b, vb, rfl, hb, rb⟩ := sy.s w2 g
    obtain ⟨j, ds2, ej, hM2, hz, h2⟩ := cellL_get h2
    cases ej
    have hl2 := pre_get e2.2 hl
    obtain ⟨gn2, vs2, hv2, r2⟩ := w2.cl.get hl2 hM2
    refine ⟨l, b, vs2, vb, rfl, rfl, hv2, hb, by rw [r2.length, rb.length]; exact hz, ?_⟩
    exact k .non (.dat .non) G2 A2 _ _ (e1.trans e2) (w2.setC (c' := .lst (ds2 ++ es2)) hl2 gn2 ⟨gn2, _, upd_same, r2.append rb⟩) .non h2
/-! ### texts: join, split -/
theorem strOk_app {x y : Str} (a : PyData.strOk x = true) (b : PyData.strOk y = true) : PyData.strOk (x ++ y) = true := by
  unfold PyData.strOk at a b ⊢
  show (x.cps ++ y.cps).all _ = true
  rw [Array.all_append, a, b]
  rfl
theorem join_ok {z : Str} (hz : PyData.strOk z = true) : ∀ (ys : List Str), (∀ y ∈ ys, PyData.strOk y = true) → PyData.strOk (Str.join z ys) = true ∧ (Str.join z ys).length ≤ (ys.map (·.length)).sum + ys.length * z.length
  | [], _ => ⟨(by decide +kernel : PyData.strOk Str.empty = true), by show 0 ≤ _; omega⟩
  | [y], h => ⟨h y List.mem_cons_self, by show y.length ≤ _; simp⟩
  | y :: y2 :: r, h => by
    have q := join_ok hz (y2 :: r) fun t m => h t (List.mem_cons_of_mem _ m)
    refine ⟨?_, ?_⟩
    · show PyData.strOk (y ++ z ++ Str.join z (y2 :: r)) = true
      exact strOk_app (strOk_app (h y List.mem_cons_self) hz) q.1
    · show (y ++ z ++ Str.join z (y2 :: r)).length ≤ _
      rw [str_len_app, str_len_app]
      have q2 := q.2
      rw [List.map_cons, List.sum_cons, List.length_cons, Nat.add_mul, Nat.one_mul]
      omega
theorem tjoin_ok {z : Str} {ys : List Str} (hz : SOk z) (yok : ∀ y ∈ ys, SOk y) (hn : (ys.map (·.length)).sum + ys.length * z.length ≤ 16777216) : SOk (Txt.join z ys) := by
  have q := join_ok hz.2 ys fun y m => (yok y m).2
  rw [TL.join_eq]
  refine ⟨?_, q.1⟩
  rw [sizeLine_eq]
  exact Nat.le_trans q.2 hn
theorem we_join (h : WE X B ex o (fun x M1 => ∃ z, x = .dat (.str z) ∧ WE X B ex e (fun y M2 => with1 M2 y fun d => ∃ ys : List Str, (d = .lst (ys.map D.str) ∨ d = .tup (ys.map D.str)) ∧ (ys.map (·.length)).sum + ys.length * z.length ≤ 16777216 ∧ Q (.dat (.str (Txt.join z ys))) M2) ss M1) ss M)
    (hs : starEach [e] X.env = [(false, eval e X.env)] := by rfl) (hbase : attributeBase o "join" X.env (eval o X.env) = eval o X.env := by rfl) (hline : (apos.endLine == pos.line) = true := by rfl) :
    WE X B ex (.Call (.Attribute o "join" apos) [e] [] pos) Q ss M := .mk fun ck G A H σ w sl Kq k => by
  refine te_of (pe_join pe_self pe_self hs hbase hline) ?_
  refine h ck G A H σ w sl _ fun v x G1 A1 M1 H1 e1 w1 s1 h1 => ?_
  obtain ⟨z, rfl, h1⟩ := h1
  have s1 : Rep X.K G1 v (.str z) := s1
  cases s1 with
  | str _ hz =>
    refine ⟨⟨z, rfl⟩, ?_⟩
    refine h1 ck G1 A1 H1 σ w1 (sl.mono e1) _ fun u y G2 A2 M2 H2 e2 w2 s2 h2 => ?_
    obtain ⟨d, g, ys, hd, hn, q⟩ := with1_get h2
    have qs := s2.s w2 g
    have fin : ∀ yok : (∀ y ∈ ys, SOk y), SOk (Txt.join z ys) := fun yok => tjoin_ok hz yok hn
    rcases hd with rfl | rfl
    · obtain ⟨l, vs, rfl, hl, r⟩ := qs
      obtain ⟨rfl, yok⟩ := reps_strs r
      exact ⟨z, l, ys, rfl, rfl, .inl (.inl hl), hn, k _ (.dat _) G2 A2 M2 H2 (e1.trans e2) w2 (Rep.str _ (fin yok)) q⟩
    · obtain ⟨l, vs, rfl, hl, r⟩ := qs
      obtain ⟨rfl, yok⟩ := reps_strs r
      exact ⟨z, l, ys, rfl, rfl, .inr (.inl hl), hn, k _ (.dat _) G2 A2 M2 H2 (e1.trans e2) w2 (Rep.str _ (fin yok)) q⟩
theorem we_split (h : WE X B ex o (fun x M1 => ∃ z, x = .dat (.str z) ∧ WE X B ex e (fun y M2 => ∃ u, y = .dat (.str u) ∧ ((u.length == 0) = false ∧ z.length + 2 ≤ sizeLine ∧ ∀ t ∈ Txt.split z u, SOk t) ∧ Q (.dat (.lst ((Txt.split z u).map D.str))) M2) ss M1) ss M)
    (hs : starEach [e] X.env = [(false, eval e X.env)] := by rfl) (hbase : attributeBase o "split" X.env (eval o X.env) = eval o X.env := by rfl) (hline : (apos.endLine == pos.line) = true := by rfl) :
    WE X B ex (.Call (.Attribute o "split" apos) [e] [] pos) Q ss M := .mk fun ck G A H σ w sl Kq k => by
  refine te_of (pe_split pe_self pe_self hs hbase hline) ?_
  refine h ck G A H σ w sl _ fun v x G1 A1 M1 H1 e1 w1 s1 h1 => ?_
  obtain ⟨z, rfl, h1⟩ := h1
  have s1 : Rep X.K G1 v (.str z) := s1
  cases s1 with
  | str _ hz =>
    refine ⟨⟨z, rfl⟩, ?_⟩
    refine h1 ck G1 A1 H1 σ w1 (sl.mono e1) _ fun u y G2 A2 M2 H2 e2 w2 s2 h2 => ?_
    obtain ⟨t, rfl, hc, q⟩ := h2
    have s2 : Rep X.K G2 u (.str t) := s2
    cases s2 with
    | str _ ht =>
      refine ⟨z, t, rfl, rfl, hc.1, hc.2.1, ?_⟩
      exact k.new (e1.trans e2) w2 q fun p hp => .lst (.inl upd_same) (strs_reps hc.2.2)
/-! ### slices -/
def cutD (xs : List D) (lo hi : Option Int) : List D := (xs.drop (HT.sIx xs.length 0 lo)).take (HT.sIx xs.length xs.length hi - HT.sIx xs.length 0 lo)
def slD (M : Mem) (d : D) (lo hi : Option Int) (Q : SV → Mem → Prop) : Prop := match d with
  | .lst ds => Q (.dat (.lst (cutD ds lo hi))) M
  | .tup ds => Q (.dat (.tup (cutD ds lo hi))) M
  | .str z => Q (.dat (.str (cutS z lo hi))) M
  | _ => False
/-- a part of a slice -/
def WO0 (X : Cx) (B : Base) (ex : XD) (e : Option Expr) (Q : Option Int → Mem → Prop) (ss : Sst) (M : Mem) : Prop := match e with
  | none => Q none M
  | some e => WE X B ex e (fun x M1 => ∃ i, x = .dat (.int i) ∧ Q (some i) M1) ss M
structure WO (X : Cx) (B : Base) (ex : XD) (e : Option Expr) (Q : Option Int → Mem → Prop) (ss : Sst) (M : Mem) : Prop where
  run : WO0 X B ex e Q ss M
def toW (X : Cx) (e : Option Expr) : TO := match e with
  | none => tNoPart
  | some e => tPart (teW X e)
theorem po_self {e : Option Expr} : PO X e (toW X e) := by
  cases e with
  | none => exact po_none
  | some e => exact po_some pe_self
theorem WO.goes {e : Option Expr} {QO : Option Int → Mem → Prop} {G : Hp} {A : List Addr} {H : Hp} {σ : L2.St} {Kq : Option Int → Hp → Prop} (ck : Cok X B ex) (h : WO X B ex e QO ss M) (w : Wd X.K B G A M H) (sl : Sl X.K G A σ ss)
    (k : ∀ o G' A' M' H', Ext G A G' A' → Wd X.K B G' A' M' H' → QO o M' → Kq o H') : toW X e σ H Kq := by
  cases e with
  | none => exact k none G A M H .refl w h.run
  | some e =>
    refine WE.run h.run ck G A H σ w sl _ fun v x G1 A1 M1 H1 e1 w1 s1 h1 => ?_
    obtain ⟨i, rfl, q⟩ := h1
    cases s1
    exact ⟨i, rfl, k _ G1 A1 M1 H1 e1 w1 q⟩
theorem cutV_reps {K : PySem.W.Frag} {G : Hp} {vs : List V} {ds : List D} (r : Reps K G vs ds) (lo hi : Option Int) : Reps K G (cutV vs lo hi) (cutD ds lo hi) := by
  unfold cutV cutD
  rw [r.length]
  exact (r.drop _).take _
theorem cutS_ok {z : Str} (h : SOk z) (lo hi : Option Int) : SOk (cutS z lo hi) := by
  refine ⟨Nat.le_trans (cutS_length z lo hi) h.1, ?_⟩
  have a := h.2
  unfold PyData.strOk at a ⊢
  rw [Array.all_eq_true'] at a ⊢
  intro c m
  refine a c ?_
  unfold cutS at m
  rw [List.mem_toArray] at m
  exact Array.mem_def.mpr (List.mem_of_mem_drop (List.mem_of_mem_take m))
theorem we_slice {lo hi : Option Expr} (h : WE X B ex e (fun x M1 => WO X B ex lo (fun l M2 => WO X B ex hi (fun u M3 => with1 M3 x fun d => slD M3 d l u Q) ss M2) ss M1) ss M) : WE X B ex (.Subscript e (.Slice lo hi none p2) pos) Q ss M := .mk fun ck G A H σ w sl Kq k => by
  refine te_of (pe_slice (SlR.or (SlR.or sl_list sl_tupA) sl_str) pe_self po_self po_self) ?_
  refine h ck G A H σ w sl _ fun v x G1 A1 M1 H1 e1 w1 s1 h1 => ?_
  refine WO.goes ck h1 w1 (sl.mono e1) fun l G2 A2 M2 H2 e2 w2 h2 => ?_
  refine WO.goes ck h2 w2 (sl.mono (e1.trans e2)) fun u G3 A3 M3 H3 e3 w3 h3 => ?_
  have s3 := s1.mono (e2.trans e3)
  have e123 := (e1.trans e2).trans e3
  obtain ⟨d, g, h3⟩ := with1_get h3
  have q := s3.s w3 g
  cases d <;> try exact h3.elim
  · obtain ⟨rfl, z⟩ := q
    exact .inr ⟨_, rfl, z.1, k _ (.dat _) G3 A3 M3 H3 e123 w3 (Rep.str _ (cutS_ok z _ _)) h3⟩
  · obtain ⟨t, vs, rfl, ht, r⟩ := q
    exact .inl (.inl ⟨t, vs, rfl, .inl ht, k.new e123 w3 h3 fun p hp => .lst (.inl upd_same) ((cutV_reps r _ _).mono (same_upd (w3.none hp).2.2))⟩)
  · have rd := RepS.data (H := H3) s3 g ⟨fun _ z => (by cases z), fun _ z => (by cases z)⟩
    obtain ⟨t, vs, rfl, ht, r⟩ := q
    refine .inl (.inr ⟨t, vs, rfl, .inl ht, fun hw => ?_, fun _ => k.new e123 w3 h3 fun p hp => .tup (.inl upd_same) ((cutV_reps r _ _).mono (same_upd (w3.none hp).2.2))⟩)
    refine k _ (.dat _) G3 A3 M3 H3 e123 w3 rd ?_
    rename_i ds
    have e : cutD ds l u = ds := by
      unfold cutD
      rw [r.length] at hw
      rw [hw.1, hw.2, List.drop_zero, Nat.sub_zero, List.take_length]
    have h3 : Q (.dat (.tup (cutD ds l u))) M3 := h3
    rw [e] at h3
    exact h3
end
end Mb

/-! Mb, part 10: comprehensions. -/
namespace Mb
open PySem L2 PyProof.Rows
section
variable {K : PySem.W.Frag} {B : Base} {G : Hp} {A : List Addr} {M : List Cell} {H : Hp}
/-- a world within a world -/
theorem Wd.rebase (w : Wd K B G A M H) {G' : Hp} {A' : List Addr} {M' : List Cell} {H' : Hp} (w' : Wd K ⟨G, A, H⟩ G' A' M' H') : Wd K B G' A' M' H' ∧ Ext G A G' A' := by
  obtain ⟨more, e⟩ := w'.pre
  have e : A' = A ++ more := e
  refine ⟨⟨w.gg.trans w'.gg, w'.gh, fun b o e nb => ?_, fun b o e => ?_, w'.nd, ?_, w'.there, fun b m => ?_, w'.cl⟩, w'.gg, more, e⟩
  · refine w'.fr b o (w.fr b o e nb) fun m => ?_
    rcases w.an b m with q | q
    · exact nb q
    · rw [q] at e; cases e
  · rcases w'.fresh b o e with q | q
    · exact w.fresh b o q
    · exact .inr (w.none q).1
  · obtain ⟨m0, e0⟩ := w.pre
    exact ⟨m0 ++ more, by rw [e, e0]; simp⟩
  · rcases w'.an b m with q | q
    · exact w.an b q
    · exact .inr (w.none q).1
theorem Wd.self (w : Wd K B G A M H) : Wd K ⟨G, A, H⟩ G A M H := Wd.start w.gh w.nd w.there w.cl
/-- a new object of the heap is taken as data -/
theorem Wd.adopt (w : Wd K B G A M H) {p : Addr} {o : HO} (hp : H p = some o) (hA : p ∉ A) (hg : G p = Option.none) (hb : B.H p = Option.none) : Wd K B (upd G p o) A M H ∧ Ext G A (upd G p o) A := by
  have s1 := same_upd (o := o) hg
  have ex : Ext G A (upd G p o) A := ⟨s1, [], by simp⟩
  refine ⟨⟨w.gg.trans s1, fun b u e => ?_, w.fr, fun b u e => ?_, w.nd, w.pre, w.there, w.an, w.cl.imp fun a c m h => h.keep ex (fun g => ?_) fun _ e => e⟩, ex⟩
  · by_cases c : b = p
    · subst c; rw [upd_same] at e; rw [← e]; exact hp
    · rw [upd_ne c] at e; exact w.gh b u e
  · by_cases c : b = p
    · subst c; exact .inr hb
    · rw [upd_ne c] at e; exact w.fresh b u e
  · rw [upd_ne (show a ≠ p from fun z => hA (z ▸ m))]; exact g
/-- an object that nobody tells of is written -/
theorem Wd.beside (w : Wd K B G A M H) {p : Addr} {o : HO} (hA : p ∉ A) (hg : G p = Option.none) (hb : B.H p = Option.none) : Wd K B G A M (upd H p o) := by
  refine ⟨w.gg, fun b u e => ?_, fun b u e nb => ?_, w.fresh, w.nd, w.pre, fun b m => ?_, w.an, w.cl.imp fun a c m h => h.keep .refl (fun g => g) fun u e => ?_⟩
  · rw [upd_ne (show b ≠ p from fun z => by subst z; rw [hg] at e; cases e)]; exact w.gh b u e
  · rw [upd_ne (show b ≠ p from fun z => by subst z; rw [hb] at e; cases e)]; exact w.fr b u e nb
  · rw [upd_ne (show b ≠ p from fun z => hA (z ▸ m))]; exact w.there b m
  · rw [upd_ne (show a ≠ p from fun z => hA (z ▸ m))]; exact e
end
/-- no exception -/
abbrev exF : XD := fun _ _ _ _ => False
def wipeD (ss : Sst) : List Nat → Sst
  | [] => ss
  | v :: vs => (wipeD ss vs).set v none
theorem Sl.wipe {K : PySem.W.Frag} {G : Hp} {A : List Addr} {σ : L2.St} {ss : Sst} (h : Sl K G A σ ss) : ∀ vs : List Nat, Sl K G A (L2.wipe σ vs) (wipeD ss vs)
  | [] => h
  | v :: vs => (Sl.wipe h vs).setN v
section
variable {X : Cx} {B : Base} {ex : XD} {ss : Sst} {M : Mem} {a b c e tg o iter elt : Expr} {es ifs : List Expr} {pos p p' apos p2 : Pos} {Q : SV → Mem → Prop} {scope : Scope} {own : List (Str × Nat)}
/-- the contexts of a comprehension's block -/
abbrev Blk (X : Cx) (scope : Scope) (s : Shared) (H : Hp) (C : Addr) (cl : List (Str × Addr)) (fp : List Addr) : Cx := X.blk s H scope (compEnvC scope cl C X.env) fp
theorem ck_blk {Y : Cx} (hx : Y.xe = fun _ _ => False) : Cok Y B exF := by
  refine ⟨fun u s' h => ?_, ?_⟩
  · obtain ⟨a, Bh, sI, pins, σ, H, cls, d, _, _, _, _, _, _, _, _, q⟩ := h
    obtain ⟨_, _, _, _, _, _, _, _, _, _, q⟩ := q
    exact q.elim
  · rw [hx]; exact PassesOwn.never
/-- a turn of a comprehension: what stands behind the target's store -/
def LcTurn (X : Cx) (scope : Scope) (elt : Expr) (ifs : List Expr) (acc : List D) (I1 : List D → Mem → Prop) (ss : Sst) (M : Mem) : Prop :=
  match ifs with
  | [] => ∀ (s : Shared) (H : Hp) (C : Addr) (cl : List (Str × Addr)) (fp : List Addr) (B : Base), B.A.length = M.length → WE (Blk X scope s H C cl fp) B exF elt (fun y M4 => ∃ d, y = .dat d ∧ acc.length < sizeLine ∧ I1 (acc ++ [d]) M4) ss M
  | [c] => ∀ (s : Shared) (H : Hp) (C : Addr) (cl : List (Str × Addr)) (fp : List Addr) (B : Base), B.A.length = M.length → WT (Blk X scope s H C cl fp) B exF c (fun b M3 => if b = true then
      ∀ (s : Shared) (H : Hp) (C : Addr) (cl : List (Str × Addr)) (fp : List Addr) (B : Base), B.A.length = M3.length → WE (Blk X scope s H C cl fp) B exF elt (fun y M4 => ∃ d, y = .dat d ∧ acc.length < sizeLine ∧ I1 (acc ++ [d]) M4) ss M3 else I1 acc M3) ss M
  | _ => False
/-- the uniform readings over all blocks -/
def teB (X : Cx) (scope : Scope) (e : Expr) : TE := fun σ H Q => ∀ s0 H0 C cl fp, teW (Blk X scope s0 H0 C cl fp) e σ H Q
def ttB (X : Cx) (scope : Scope) (e : Expr) : TT := fun σ H Q => ∀ s0 H0 C cl fp, ttW (Blk X scope s0 H0 C cl fp) e σ H Q
def tsB (X : Cx) (scope : Scope) (ifs : List Expr) : TT := match ifs with
  | [] => tYes
  | [c] => ttB X scope c
  | _ => fun _ _ _ => False
theorem pe_blk {s : Shared} {H : Hp} {C : Addr} {cl : List (Str × Addr)} {fp : List Addr} : PE (Blk X scope s H C cl fp) e (teB X scope e) := ⟨fun pins t _ _ _ I h => h s H C cl fp pins t I⟩
theorem pt_blk {s : Shared} {H : Hp} {C : Addr} {cl : List (Str × Addr)} {fp : List Addr} : PT (Blk X scope s H C cl fp) e (ttB X scope e) := ⟨fun pins t _ _ _ I h => h s H C cl fp pins t I⟩
theorem ps_blk (hi : ifs.length ≤ 1) {s : Shared} {H : Hp} {C : Addr} {cl : List (Str × Addr)} {fp : List Addr} : PTs (Blk X scope s H C cl fp) ifs (tsB X scope ifs) := by
  match ifs, hi with
  | [], _ => exact pts_nil
  | [c], _ => exact pts_one pt_blk
/-- the invariant of the loop, over the heap -/
def LcInv (K : PySem.W.Frag) (B : Base) (G1 : Hp) (A1 : List Addr) (σ : L2.St) (ss : Sst) (p : Addr) (I : Nat → List D → Mem → Prop) (i : Nat) (H : Hp) : Prop :=
  ∃ acc us G A M, Ext G1 A1 G A ∧ Wd K B G A M H ∧ Sl K G A σ ss ∧ H p = some (.lst us) ∧ Reps K G us acc ∧ p ∉ A ∧ G p = none ∧ I i acc M
theorem lc_turn {I1 : List D → Mem → Prop} {acc : List D} {us : List V} {G1 G : Hp} {A A1 : List Addr} {H : Hp} {σ σ2 : L2.St} {ss0 ss2 : Sst} {q : Addr} {i : Nat} {I : Nat → List D → Mem → Prop} (hI : I1 = I (i + 1)) (hb : B.H q = none) (s1 : Ext G1 A1 G A) (w : Wd X.K B G A M H) (sl : Sl X.K G A σ ss0) (sl2 : Sl X.K G A σ2 ss2) (hq : H q = some (.lst us)) (r : Reps X.K G us acc) (nA : q ∉ A) (gq : G q = none)
    (h : LcTurn X scope elt ifs acc I1 ss2 M) :
    tsB X scope ifs σ2 H fun b H3 => if b = true then teB X scope elt σ2 H3 fun y H4 => ∃ a, H4 q = some (.lst a) ∧ a.length < sizeLine ∧ LcInv X.K B G1 A1 σ ss0 q I (i + 1) (upd H4 q (.lst (a ++ [y]))) else LcInv X.K B G1 A1 σ ss0 q I (i + 1) H3 := by
  have body : ∀ {G : Hp} {A : List Addr} {M : Mem} {H : Hp}, Ext G1 A1 G A → Wd X.K B G A M H → Sl X.K G A σ ss0 → Sl X.K G A σ2 ss2 → H q = some (.lst us) → Reps X.K G us acc → q ∉ A → G q = none →
      (∀ (s : Shared) (H : Hp) (C : Addr) (cl : List (Str × Addr)) (fp : List Addr) (B : Base), B.A.length = M.length → WE (Blk X scope s H C cl fp) B exF elt (fun y M4 => ∃ d, y = .dat d ∧ acc.length < sizeLine ∧ I1 (acc ++ [d]) M4) ss2 M) →
      teB X scope elt σ2 H fun y H4 => ∃ a, H4 q = some (.lst a) ∧ a.length < sizeLine ∧ LcInv X.K B G1 A1 σ ss0 q I (i + 1) (upd H4 q (.lst (a ++ [y]))) := by
    intro G A M H s1 w sl sl2 hq r nA gq h s0 H0 C cl fp
    refine h s0 H0 C cl fp ⟨G, A, H⟩ w.len (ck_blk rfl) G A H σ2 w.self sl2 _ fun v x G' A' M' H' e' w' s' q' => ?_
    obtain ⟨d, rfl, hz, q'⟩ := q'
    obtain ⟨w2, e2⟩ := w.rebase w'
    have hq' : H' q = some (.lst us) := w'.fr q _ hq nA
    have nA' : q ∉ A' := fun m => by
      rcases w'.an q m with z | z
      · exact nA z
      · have z : H q = none := z
        rw [hq] at z; cases z
    have gq' : G' q = none := by
      cases e : G' q with
      | none => rfl
      | some u =>
        rcases w'.fresh q u e with z | z
        · have z : G q = some u := z
          rw [gq] at z; cases z
        · have z : H q = none := z
          rw [hq] at z; cases z
    refine ⟨us, hq', by rw [r.length]; exact hz, acc ++ [d], us ++ [v], G', A', M', s1.trans e2, w2.beside nA' gq' hb, sl.mono e2, upd_same, (r.mono e2.1).append (.cons s' .nil), nA', gq', ?_⟩
    rw [← hI]; exact q'
  match ifs, h with
  | [], h => exact body s1 w sl sl2 hq r nA gq h
  | [c], h =>
    intro s0 H0 C cl fp
    refine h s0 H0 C cl fp ⟨G, A, H⟩ w.len (ck_blk rfl) G A H σ2 w.self sl2 _ fun b G' A' M' H' e' w' q' => ?_
    obtain ⟨w2, e2⟩ := w.rebase w'
    have hq' : H' q = some (.lst us) := w'.fr q _ hq nA
    have nA' : q ∉ A' := fun m => by
      rcases w'.an q m with z | z
      · exact nA z
      · have z : H q = none := z
        rw [hq] at z; cases z
    have gq' : G' q = none := by
      cases e : G' q with
      | none => rfl
      | some u =>
        rcases w'.fresh q u e with z | z
        · have z : G q = some u := z
          rw [gq] at z; cases z
        · have z : H q = none := z
          rw [hq] at z; cases z
    cases b with
    | true =>
      rw [if_pos rfl] at q' ⊢
      exact body (s1.trans e2) w2 (sl.mono e2) (sl2.mono e2) hq' (r.mono e2.1) nA' gq' q'
    | false =>
      rw [if_neg Bool.false_ne_true] at q' ⊢
      refine ⟨acc, us, G', A', M', s1.trans e2, w2, sl.mono e2, hq', r.mono e2.1, nA', gq', ?_⟩
      rw [← hI]; exact q'
/-- what a comprehension over ds with the invariant I asks; T: what the target does to the slots -/
def LcQ (X : Cx) (scope : Scope) (elt : Expr) (ifs : List Expr) (T : D → Sst → (Sst → Prop) → Prop) (vs : List Nat) (ds : List D) (I : Nat → List D → Mem → Prop) (Q : SV → Mem → Prop) (ss : Sst) : Prop :=
  (∀ i d acc M, ds[i]? = some d → I i acc M → T d (wipeD ss vs) fun ss2 => LcTurn X scope elt ifs acc (I (i + 1)) ss2 M) ∧ ∀ acc M, I ds.length acc M → Q (.dat (.lst acc)) M
/-- the target's readings that serve -/
structure TgOk (K : PySem.W.Frag) (g : TG) (T : D → Sst → (Sst → Prop) → Prop) (vs : List Nat) : Prop where
  run : ∀ {B : Base} {G A M H v d σ ss} {R : Sst → Prop} {Q' : L2.St → Hp → Prop}, Wd K B G A M H → Sl K G A σ ss → Rep K G v d → T d (wipeD ss vs) R → (∀ σ2 ss2, L2.wipe σ2 vs = L2.wipe σ vs → Sl K G A σ2 ss2 → R ss2 → Q' σ2 H) → g v (L2.wipe σ vs) H Q'
theorem lc_all {g : TG} {T : D → Sst → (Sst → Prop) → Prop} {vs : List Nat} {σ : L2.St} {G A H Kq} (ck : Cok X B ex) (hT : TgOk X.K g T vs) (w : Wd X.K B G A M H) (sl : Sl X.K G A σ ss) (k : VPost X.K B G A Q Kq)
    (h : WI X B ex tg iter (fun ds M1 => ∃ I, I 0 [] M1 ∧ LcQ X scope elt ifs T vs ds I Q ss) ss M) : tLc (tiW X tg iter) g (tsB X scope ifs) (teB X scope elt) vs σ H Kq := by
  refine h ck G A H σ w sl _ fun J ds G1 A1 M1 H1 e1 w1 src h1 q hq => ?_
  obtain ⟨I, h0, hL⟩ := h1
  obtain ⟨Gp, Y, wk, hG, hY⟩ := src
  obtain ⟨hbq, nAq, ngq⟩ := w1.none hq
  refine lc_it wk (LcInv X.K B G1 A1 σ ss q I) ⟨[], [], G1, A1, M1, .refl, w1.grow hq, sl.mono e1, upd_same, .nil, nAq, ngq, h0⟩ (fun i H _ ⟨_, _, G', _, _, s', w', _⟩ => hG H (s'.1.trans w'.gh)) (fun i y H H' hi hj hy => ?_) fun H hj => ?_
  · obtain ⟨acc, us, G2, A2, M2, s2, w2, sl2, hq2, r2, nA2, gq2, hi2⟩ := hj
    obtain ⟨G3, d, s3, w3, hd, rd, sH, fG⟩ := hY i H y H' G2 A2 M2 hi s2.1 w2 hy
    have hq3 : H' q = some (.lst us) := sH _ _ hq2
    have gq3 : G3 q = none := by
      cases e : G3 q with
      | none => rfl
      | some u =>
        rcases fG q u e with z | z
        · rw [gq2] at z; cases z
        · rw [hq2] at z; cases z
    have e3 : Ext G2 A2 G3 A2 := ⟨s3, [], by simp⟩
    refine hT.run w3 (sl2.mono e3) rd (hL.1 i d acc M2 hd hi2) fun σ2 ss2 hw sl3 ht => ⟨hw, ?_⟩
    exact lc_turn rfl hbq (s2.trans e3) w3 (sl2.mono e3) sl3 hq3 (r2.mono s3) nA2 gq3 ht
  · obtain ⟨acc, us, G2, A2, M2, s2, w2, sl2, hq2, r2, nA2, gq2, hi2⟩ := hj
    obtain ⟨w3, e3⟩ := w2.adopt hq2 nA2 gq2 hbq
    exact k (.ref q) (.dat (.lst acc)) _ A2 M2 H (e1.trans (s2.trans e3)) w3 (.lst (.inl upd_same) (r2.mono e3.1)) (hL.2 acc M2 hi2)
/-! ### targets -/
def tg1 (j : Nat) (d : D) (ss : Sst) (R : Sst → Prop) : Prop := R (ss.set j (some (.dat d)))
theorem tgOk1 {K : PySem.W.Frag} {j : Nat} : TgOk K (gName j) (tg1 j) [j] := by
  refine ⟨fun {B G A M H v d σ ss R Q'} w sl r h k => ?_⟩
  refine k _ _ ?_ ((sl.wipe [j]).set (x := .dat d) r j) h
  show List.set (List.set (List.set σ j none) j (some v)) j none = List.set σ j none
  rw [List.set_set, List.set_set]
def tg2 (i j : Nat) (d : D) (ss : Sst) (R : Sst → Prop) : Prop := ∃ a b, d = .tup [a, b] ∧ R ((ss.set i (some (.dat a))).set j (some (.dat b)))
theorem set_back (σ : L2.St) (i j : Nat) (hij : i ≠ j) (u v : V) : L2.wipe (((L2.wipe σ [i, j]).set i (some u)).set j (some v)) [i, j] = L2.wipe σ [i, j] := by
  show List.set (List.set (List.set (List.set (List.set (List.set σ j none) i none) i (some u)) j (some v)) j none) i none = List.set (List.set σ j none) i none
  apply List.ext_getElem?
  intro n
  simp only [List.getElem?_set, List.length_set]
  by_cases h1 : i = n
  · subst h1; by_cases h3 : i < σ.length <;> simp [h3]
  · by_cases h2 : j = n
    · subst h2; simp [h1]
    · simp [h1, h2]
theorem tgOk2 {K : PySem.W.Frag} {i j : Nat} (hij : i ≠ j) : TgOk K (gTup K 2 (gCons (gName i) (gCons (gName j) gNil))) (tg2 i j) [i, j] := by
  refine ⟨fun {B G A M H v d σ ss R Q'} w sl r h k => ?_⟩
  obtain ⟨a, b, rfl, h⟩ := h
  cases r with
  | tup hl r =>
    cases r with
    | cons r1 r =>
      cases r with
      | cons r2 r =>
        cases r
        refine ⟨_, _, rfl, .inl (rdM w.gh hl), rfl, _, _, rfl, _, _, rfl, rfl, ?_⟩
        exact k _ _ (set_back σ i j hij _ _) (((sl.wipe [i, j]).set (x := .dat a) r1 i).set (x := .dat b) r2 j) h
/-! ### the rules -/
theorem we_lc1 {x : Str} {j : Nat} {tp : Pos} (hc : X.calm = true) (hN : X.N.Nodup) (ok : BlkOk X.N X.env.scope scope [(x, j)]) (hj : X.N[j]? = some x) (hL : ∀ s H C cl fp, Loc (Blk X scope s H C cl fp).env.scope x) (hi : ifs.length ≤ 1)
    (h : WI X B ex (.Name x tp) iter (fun ds M1 => ∃ I, I 0 [] M1 ∧ LcQ X scope elt ifs (tg1 j) [j] ds I Q ss) ss M)
    (hf : ∀ s H C cl fp, (Blk X scope s H C cl fp).fn x = true ∨ (Blk X scope s H C cl fp).env.scope.names.lookup x = some .local := by intro _ _ _ _ _; first | exact .inl rfl | exact .inr rfl)
    (hs : ∀ x, foldedSetIterable iter X.env x = pure x := by intro _; rfl) : WE X B ex (.ListComp elt [⟨.Name x tp, iter, ifs, 0⟩] scope pos) Q ss M := .mk fun ck G A H σ w sl Kq k => by
  refine te_of (pe_lc (own := [(x, j)]) (g := gName j) hc hN pi_self ok (fun s H C cl fp => pg_name (i := j) hN hj (hL s H C cl fp) (hf s H C cl fp)) (fun s H C cl fp => ps_blk hi) (fun s H C cl fp => pe_blk) hs) ?_
  exact lc_all ck tgOk1 w sl k h
theorem we_lc2 {x y : Str} {i j kt : Nat} {tp tp1 tp2 : Pos} (hc : X.calm = true) (hN : X.N.Nodup) (ok : BlkOk X.N X.env.scope scope [(x, i), (y, j)]) (hi : X.N[i]? = some x) (hj : X.N[j]? = some y) (hij : i ≠ j) (hL : ∀ s H C cl fp, Loc (Blk X scope s H C cl fp).env.scope x) (hL2 : ∀ s H C cl fp, Loc (Blk X scope s H C cl fp).env.scope y) (hl : ifs.length ≤ 1)
    (h : WI X B ex (.Tuple [.Name x tp1, .Name y tp2] kt tp) iter (fun ds M1 => ∃ I, I 0 [] M1 ∧ LcQ X scope elt ifs (tg2 i j) [i, j] ds I Q ss) ss M)
    (hf : ∀ s H C cl fp, (Blk X scope s H C cl fp).fn x = true ∨ (Blk X scope s H C cl fp).env.scope.names.lookup x = some .local := by intro _ _ _ _ _; first | exact .inl rfl | exact .inr rfl)
    (hf2 : ∀ s H C cl fp, (Blk X scope s H C cl fp).fn y = true ∨ (Blk X scope s H C cl fp).env.scope.names.lookup y = some .local := by intro _ _ _ _ _; first | exact .inl rfl | exact .inr rfl)
    (hs : ∀ x, foldedSetIterable iter X.env x = pure x := by intro _; rfl) : WE X B ex (.ListComp elt [⟨.Tuple [.Name x tp1, .Name y tp2] kt tp, iter, ifs, 0⟩] scope pos) Q ss M := .mk fun ck G A H σ w sl Kq k => by
  refine te_of (pe_lc (own := [(x, i), (y, j)]) (g := gTup X.K 2 (gCons (gName i) (gCons (gName j) gNil))) hc hN pi_self ok (fun s H C cl fp => pg_tup hc (pgs_cons (pg_name (i := i) hN hi (hL s H C cl fp) (hf s H C cl fp)) (pgs_cons (pg_name (i := j) hN hj (hL2 s H C cl fp) (hf2 s H C cl fp)) pgs_nil))) (fun s H C cl fp => ps_blk hl) (fun s H C cl fp => pe_blk) hs) ?_
  exact lc_all ck (tgOk2 hij) w sl k h
/-- y = [..], y a local of the def, on one line -/
theorem ws_lc1 {x y : Str} {i j : Nat} {tp py spos : Pos} {N : Nd} (hc : X.calm = true) (hN : X.N.Nodup) (hy : X.N[i]? = some y) (hyl : X.env.scope.names.lookup y = some .local) (hsw : swapsWith (.ListComp elt [⟨.Name x tp, iter, ifs, 0⟩] scope pos) (some (.Name y py)) spos.line X.env = pure true)
    (ok : BlkOk X.N X.env.scope scope [(x, j)]) (hj : X.N[j]? = some x) (hL : ∀ s H C cl fp, Loc (Blk X scope s H C cl fp).env.scope x) (hi : ifs.length ≤ 1)
    (h : WI X B ex (.Name x tp) iter (fun ds M1 => ∃ I, I 0 [] M1 ∧ LcQ X scope elt ifs (tg1 j) [j] ds I (fun v M' => N.nx (ss.set i (some v)) M') ss) ss M)
    (hf : ∀ s H C cl fp, (Blk X scope s H C cl fp).fn x = true ∨ (Blk X scope s H C cl fp).env.scope.names.lookup x = some .local := by intro _ _ _ _ _; first | exact .inl rfl | exact .inr rfl)
    (hs : ∀ x, foldedSetIterable iter X.env x = pure x := by intro _; rfl) : WS X B ex (.Assign [.Name y py] (.ListComp elt [⟨.Name x tp, iter, ifs, 0⟩] scope pos) spos) N ss M := .mk fun ck G A H σ w sl E k => by
  refine ts_of (ps_setLc (own := [(x, j)]) (g := gName j) hc hN hy hyl hsw pi_self ok (fun s H C cl fp => pg_name (i := j) hN hj (hL s H C cl fp) (hf s H C cl fp)) (fun s H C cl fp => ps_blk hi) (fun s H C cl fp => pe_blk) hs) ?_
  exact lc_all ck tgOk1 w sl (fun v z G' A' M' H' e' w' s' q => k.nx _ _ G' A' M' H' e'.1 w' ((sl.mono e').set s' i) q) h
theorem ws_lc2 {x y z : Str} {i j n kt : Nat} {tp tp1 tp2 py spos : Pos} {N : Nd} (hc : X.calm = true) (hN : X.N.Nodup) (hz : X.N[n]? = some z) (hzl : X.env.scope.names.lookup z = some .local) (hsw : swapsWith (.ListComp elt [⟨.Tuple [.Name x tp1, .Name y tp2] kt tp, iter, ifs, 0⟩] scope pos) (some (.Name z py)) spos.line X.env = pure true)
    (ok : BlkOk X.N X.env.scope scope [(x, i), (y, j)]) (hi : X.N[i]? = some x) (hj : X.N[j]? = some y) (hij : i ≠ j) (hL : ∀ s H C cl fp, Loc (Blk X scope s H C cl fp).env.scope x) (hL2 : ∀ s H C cl fp, Loc (Blk X scope s H C cl fp).env.scope y) (hl : ifs.length ≤ 1)
    (h : WI X B ex (.Tuple [.Name x tp1, .Name y tp2] kt tp) iter (fun ds M1 => ∃ I, I 0 [] M1 ∧ LcQ X scope elt ifs (tg2 i j) [i, j] ds I (fun v M' => N.nx (ss.set n (some v)) M') ss) ss M)
    (hf : ∀ s H C cl fp, (Blk X scope s H C cl fp).fn x = true ∨ (Blk X scope s H C cl fp).env.scope.names.lookup x = some .local := by intro _ _ _ _ _; first | exact .inl rfl | exact .inr rfl)
    (hf2 : ∀ s H C cl fp, (Blk X scope s H C cl fp).fn y = true ∨ (Blk X scope s H C cl fp).env.scope.names.lookup y = some .local := by intro _ _ _ _ _; first | exact .inl rfl | exact .inr rfl)
    (hs : ∀ x, foldedSetIterable iter X.env x = pure x := by intro _; rfl) : WS X B ex (.Assign [.Name z py] (.ListComp elt [⟨.Tuple [.Name x tp1, .Name y tp2] kt tp, iter, ifs, 0⟩] scope pos) spos) N ss M := .mk fun ck G A H σ w sl E k => by
  refine ts_of (ps_setLc (own := [(x, i), (y, j)]) (g := gTup X.K 2 (gCons (gName i) (gCons (gName j) gNil))) hc hN hz hzl hsw pi_self ok (fun s H C cl fp => pg_tup hc (pgs_cons (pg_name (i := i) hN hi (hL s H C cl fp) (hf s H C cl fp)) (pgs_cons (pg_name (i := j) hN hj (hL2 s H C cl fp) (hf2 s H C cl fp)) pgs_nil))) (fun s H C cl fp => ps_blk hl) (fun s H C cl fp => pe_blk) hs) ?_
  exact lc_all ck (tgOk2 hij) w sl (fun v z G' A' M' H' e' w' s' q => k.nx _ _ G' A' M' H' e'.1 w' ((sl.mono e').set s' n) q) h
end
end Mb

/-! Mb, part 11: exceptions. -/
namespace Mb
open PySem L2 PyProof.Rows
/-! ### the making of an error: its own __init__ stores one field, two fields -/
def spX1 (K : PySem.W.Frag) (f : Str) : Sp := fun vs H Q _ => ∃ (a C : Addr) (v : V), vs = [.ref a, v] ∧ OexC K C ∧ PySem.W.findIn K (.ref C) f = some none ∧ H a = some (exo a C none) ∧ ∀ dx, H dx = none → dx ≠ a → Q .non (upd (upd H dx (exd dx [(f, v)])) a (exo a C (some dx)))
def spX2 (K : PySem.W.Frag) (f g : Str) : Sp := fun vs H Q _ => ∃ (a C : Addr) (v u : V), vs = [.ref a, v, u] ∧ OexC K C ∧ (PySem.W.findIn K (.ref C) f = some none ∧ PySem.W.findIn K (.ref C) g = some none) ∧ H a = some (exo a C none) ∧
  ∀ dx, H dx = none → dx ≠ a → Q .non (upd (upd (upd H dx (exd dx [(f, v)])) a (exo a C (some dx))) dx (exd dx [(g, u), (f, v)]))
/-- what the text says of an error's class -/
structure ErrC (K : PySem.W.Frag) (mg : Str → Option Value) (x : Str) (C fI : Addr) : Prop where
  oex : OexC K C
  gC : mg x = some (.ref C)
  iC : PySem.W.findIn K (.ref C) "__init__" = some (some (.ref fI))
  tI : PySem.W.typeIn K (.ref fI) = some (.type "function")
section
variable {X : Cx} {B : Base} {ex : XD} {ss : Sst} {M : Mem} {a b c e tg o : Expr} {es : List Expr} {pos p p' apos p2 : Pos} {Q : SV → Mem → Prop} {N : Nd} {x : Str}
theorem end_heap {H1 H2 : Hp} {a d : Addr} {u : HO} (ha : H1 a = none) (h2 : ∀ b, b ≠ a → b ≠ d → H2 b = H1 b) : upd (del H2 a) d u = upd H1 d u := by
  funext b
  by_cases c : b = d
  · subst c; rw [upd_same, upd_same]
  · rw [upd_ne c, upd_ne c]
    by_cases c2 : b = a
    · subst c2; rw [del_same, ha]
    · rw [del_ne c2]; exact h2 b c2 c
theorem ws_raise1 {C fI : Addr} {fd : FuncData} {k : Nat} {f y : Str} (hc : X.calm = true) (T : ErrC X.K X.mg x C fI) (hno : PySem.W.findIn X.K (.ref C) f = some none) (F : FnOk X.prog X.w X.K X.mg X.base CX0 k fI fd ["self", y] (spX1 X.K f)) (hr : Room (k + 1) X.A) (hb : Binds X.K fd ["self", y] []) (hg : Gl X x)
    (h : WA X B ex [e] (fun xs M1 => one1 xs fun d => ex C [(f, d)] ss M1) ss M)
    (hdb : (x == ("__debug__" : Str)) = false := by decide) (he : starEach [e] X.env = (false, eval e X.env) :: starEach [] X.env := by rfl) (hpl : (backTo pos (starEach [] X.env)).any (·.1) = false := by rfl) :
    WS X B ex (.Raise (some (.Call (.Name x p) [e] [] pos)) none p2) N ss M := .mk fun ck G A H σ w sl E kk => by
  refine ts_of (ps_raise hc ck.tk (pmk_oex T.oex T.iC T.tI F hr hb .nil pass0 hg T.gC pa_self hdb he hpl)) ?_
  refine h ck G A H σ w sl _ fun vs xs G1 A1 M1 H1 e1 w1 s1 h1 => ?_
  obtain ⟨v, d, rfl, rv, _, q⟩ := one1_get s1 h1
  refine ⟨by show 1 ≤ 1000; decide, fun a ha => ⟨a, C, v, rfl, T.oex, hno, upd_same, fun dx hdx ne => ⟨rfl, dx, [(f, v)], upd_same, ?_, ?_, ?_⟩⟩⟩
  · exact (by rw [upd_ne ne, upd_same])
  · rw [upd_ne ne] at hdx; exact hdx
  · rw [upd_ne ne] at hdx
    rw [end_heap (H1 := H1) ha (fun b h1 h2 => by rw [upd_ne h1, upd_ne h2, upd_ne h1])]
    obtain ⟨w2, e2⟩ := w1.newD (o := .xd [(f, v)]) hdx
    exact ⟨C, [(f, d)], ss, _, A1, M1, rfl, .inr ⟨dx, _, rfl, upd_same, .cons (rv.mono e2.1) .nil⟩, w2, sl.mono (e1.trans e2), q⟩
theorem ws_raise2 {C fI : Addr} {fd : FuncData} {k : Nat} {f g y z : Str} (hc : X.calm = true) (T : ErrC X.K X.mg x C fI) (hno : PySem.W.findIn X.K (.ref C) f = some none ∧ PySem.W.findIn X.K (.ref C) g = some none) (F : FnOk X.prog X.w X.K X.mg X.base CX0 k fI fd ["self", y, z] (spX2 X.K f g)) (hr : Room (k + 1) X.A) (hb : Binds X.K fd ["self", y, z] []) (hg : Gl X x)
    (h : WA X B ex [a, b] (fun xs M1 => ∃ d1 d2, xs = [.dat d1, .dat d2] ∧ ex C [(g, d2), (f, d1)] ss M1) ss M)
    (hdb : (x == ("__debug__" : Str)) = false := by decide) (he : starEach [a, b] X.env = (false, eval a X.env) :: starEach [b] X.env := by rfl) (hpl : (backTo pos (starEach [b] X.env)).any (·.1) = false := by rfl) :
    WS X B ex (.Raise (some (.Call (.Name x p) [a, b] [] pos)) none p2) N ss M := .mk fun ck G A H σ w sl E kk => by
  refine ts_of (ps_raise hc ck.tk (pmk_oex T.oex T.iC T.tI F hr hb .nil pass0 hg T.gC pa_self hdb he hpl)) ?_
  refine h ck G A H σ w sl _ fun vs xs G1 A1 M1 H1 e1 w1 s1 h1 => ?_
  obtain ⟨d1, d2, rfl, q⟩ := h1
  cases s1 with
  | cons rv s1 =>
    cases s1 with
    | cons ru s1 =>
      cases s1
      rename_i v u
      refine ⟨by show 2 ≤ 1000; decide, fun a ha => ⟨a, C, v, u, rfl, T.oex, hno, upd_same, fun dx hdx ne => ⟨rfl, dx, [(g, u), (f, v)], ?_, upd_same, ?_, ?_⟩⟩⟩
      · rw [upd_ne (Ne.symm ne)]; exact upd_same
      · rw [upd_ne ne] at hdx; exact hdx
      · rw [upd_ne ne] at hdx
        rw [end_heap (H1 := H1) ha (fun b h1 h2 => by rw [upd_ne h2, upd_ne h1, upd_ne h2, upd_ne h1])]
        obtain ⟨w2, e2⟩ := w1.newD (o := .xd [(g, u), (f, v)]) hdx
        exact ⟨C, [(g, d2), (f, d1)], ss, _, A1, M1, rfl, .inr ⟨dx, _, rfl, upd_same, .cons (Rep.mono e2.1 ru) (.cons (Rep.mono e2.1 rv) .nil)⟩, w2, sl.mono (e1.trans e2), q⟩
/-! ### try -/
/-- the exception that a suite holds, as a symbolic value -/
def excSV (d : Option Addr) (fs : List (Str × D)) (a : Addr) : SV := match d with
  | some dd => .exc dd fs a
  | none => .raw (.ref a)
theorem excSV_ok {K : PySem.W.Frag} {G : Hp} {A : List Addr} {d : Option Addr} {fs : List (Str × D)} {a : Addr} (h : XdOk K G d fs) : SvOk K G A (.ref a) (excSV d fs a) := by
  rcases h with ⟨rfl, rfl⟩ | ⟨dd, fv, rfl, h1, h2⟩
  · exact rfl
  · exact ⟨rfl, fv, h1, h2⟩
/-- what a suite wants of a caught exception: C its class, fs its fields -/
def SuiteQ (X : Cx) (B : Base) (i : Option Nat) (suite : List Stmt) (N : Nd) (C : Addr) (fs : List (Str × D)) (ss : Sst) (M : Mem) : Prop :=
  ∀ (a : Addr) (oe : Obj) (d : Option Addr) (pn : List (Addr × Obj)), Zc (.ref C) d oe → (∃ vs, oe.data = .fields vs) → (d = none → fs = []) →
    match i with
    | some i => WB (X.suite a ((a, oe) :: pn)) B exF suite { nx := fun ss' M' => N.nx (ss'.set i none) M', rt := N.rt, bk := fun ss' M' => N.bk (ss'.set i none) M', ct := fun ss' M' => N.ct (ss'.set i none) M' } (ss.set i (some (excSV d fs a))) M
    | none => WB (X.suite a ((a, oe) :: pn)) B exF suite N ss M
/-- one clause -/
def ClauseQ (X : Cx) (B : Base) (ex : XD) (C0 : Value) (i : Option Nat) (suite : List Stmt) (N : Nd) : XD := fun C fs ss M =>
  ∃ b, PySem.W.exmOne X.K (.ref C) C0 = some b ∧ if b = true then SuiteQ X B i suite N C fs ss M else ex C fs ss M
theorem ck_tr {B' : Base} {pn : List (Addr × Obj)} {xe : Value → Shared → Prop} {W : WX} {exT : XD} (tk : Takes (X.tr pn xe) W) (ps : PassesOwn (model X.prog X.w) X.A X.env xe) (h : ∀ cls d σ H, XW X.K B' exT cls d σ H → W cls d σ H) : Cok (X.tr pn xe) B' exT := ⟨tk.imp h, ps⟩
theorem nd_rebase {K : PySem.W.Frag} {G : Hp} {A : List Addr} {H : Hp} {E : Ends} (w : Wd K B G A M H) (k : NdOk K B G N E) : NdOk K ⟨G, A, H⟩ G N E :=
  ⟨fun σ ss G' A' M' H' s w' => k.nx σ ss G' A' M' H' s (w.rebase w').1, fun v x G' A' M' H' s w' => k.rt v x G' A' M' H' s (w.rebase w').1, fun σ ss G' A' M' H' s w' => k.bk σ ss G' A' M' H' s (w.rebase w').1, fun σ ss G' A' M' H' s w' => k.ct σ ss G' A' M' H' s (w.rebase w').1⟩
theorem ck_suite {B' : Base} {a : Addr} {pn : List (Addr × Obj)} : Cok (X.suite a pn) B' exF := ck_blk rfl
theorem ws_tryAs {n : Str} {C0 : Value} {i : Nat} {body suite : List Stmt} {b₀ : Stmt} {np pos' : Pos} (hN : X.N.Nodup) (hi : X.N[i]? = some n) (hln : X.env.kindOf n = some .local) (hc : Names X x C0)
    (hb : ∀ pn xe (B' : Base), B'.A.length = M.length → WB (X.tr pn xe) B' (ClauseQ X B ex C0 (some i) (b₀ :: suite) N) body N ss M)
    (hs : X.stack = X.env :: X.outer := by rfl) (hf : X.env.frame = some X.env.locals := by rfl) :
    WS X B ex (.Try body [.ExceptHandler (some (.Name x np)) (some n) (b₀ :: suite) pos'] [] [] pos) N ss M := .mk fun ck G A H σ w sl E k => by
  refine ts_of (ps_try_as (Wout := XW X.K B ex) (tb := fun W D σ H => ∀ pn xe, Takes (X.tr pn xe) W → PassesOwn (model X.prog X.w) X.A X.env xe → tbW (X.tr pn xe) body D σ H) (ts := fun a cls d D σ H => ∀ oe pn, Zc cls d oe → (∃ vs, oe.data = .fields vs) → tbW (X.suite a ((a, oe) :: pn)) (b₀ :: suite) D σ H)
    hs hf hN hi hln hc ck.tk (fun W pn xe tk ps => ⟨fun pins s σ H D I h => h pn xe tk ps pins s I⟩) (fun a oe cls d pn hz hv => ⟨fun pins s σ H D I h => h oe pn hz hv pins s I⟩)) ?_
  intro pn xe tk ps
  refine hb pn xe ⟨G, A, H⟩ w.len (ck_tr tk ps fun cls d σ' H' hx => ?_) G A H σ w.self sl E (nd_rebase w k)
  obtain ⟨C, fs, ss', G', A', M', rfl, xd, w', sl', b, hexm, q⟩ := hx
  obtain ⟨w2, e2⟩ := w.rebase w'
  refine ⟨b, hexm, fun hbt a ha oe pn2 hz hv => ?_, fun hbf => ?_⟩
  · rw [if_pos hbt] at q
    have q := q a oe d pn2 hz hv (fun hd => by rcases xd with ⟨_, h⟩ | ⟨_, _, h, _⟩; exact h; rw [hd] at h; cases h)
    refine q ck_suite G' A' H' _ w2 (sl'.set (excSV_ok xd) i) _ ⟨fun σ2 ss2 G2 A2 M2 H2 s2 w3 sl2 q2 => ?_, fun v y G2 A2 M2 H2 s2 w3 sv q2 => ?_, fun σ2 ss2 G2 A2 M2 H2 s2 w3 sl2 q2 => ?_, fun σ2 ss2 G2 A2 M2 H2 s2 w3 sl2 q2 => ?_⟩
    · exact k.nx _ _ G2 A2 M2 H2 (e2.1.trans s2) w3 (sl2.setN i) q2
    · exact k.rt v y G2 A2 M2 H2 (e2.1.trans s2) w3 sv q2
    · exact k.bk _ _ G2 A2 M2 H2 (e2.1.trans s2) w3 (sl2.setN i) q2
    · exact k.ct _ _ G2 A2 M2 H2 (e2.1.trans s2) w3 (sl2.setN i) q2
  · rw [hbf, if_neg Bool.false_ne_true] at q
    exact ⟨C, fs, ss', G', A', M', rfl, xd, w2, sl', q⟩
theorem ws_tryOnly {C0 : Value} {body suite : List Stmt} {b₀ : Stmt} {np pos' : Pos} (hc : Names X x C0)
    (hb : ∀ pn xe (B' : Base), B'.A.length = M.length → WB (X.tr pn xe) B' (ClauseQ X B ex C0 none (b₀ :: suite) N) body N ss M)
    (hs : X.stack = X.env :: X.outer := by rfl) (hf : X.env.frame = some X.env.locals := by rfl) :
    WS X B ex (.Try body [.ExceptHandler (some (.Name x np)) none (b₀ :: suite) pos'] [] [] pos) N ss M := .mk fun ck G A H σ w sl E k => by
  refine ts_of (ps_try_only (Wout := XW X.K B ex) (tb := fun W D σ H => ∀ pn xe, Takes (X.tr pn xe) W → PassesOwn (model X.prog X.w) X.A X.env xe → tbW (X.tr pn xe) body D σ H) (ts := fun a cls d D σ H => ∀ oe pn, Zc cls d oe → (∃ vs, oe.data = .fields vs) → tbW (X.suite a ((a, oe) :: pn)) (b₀ :: suite) D σ H)
    hs hf hc ck.tk (fun W pn xe tk ps => ⟨fun pins s σ H D I h => h pn xe tk ps pins s I⟩) (fun a oe cls d pn hz hv => ⟨fun pins s σ H D I h => h oe pn hz hv pins s I⟩)) ?_
  intro pn xe tk ps
  refine hb pn xe ⟨G, A, H⟩ w.len (ck_tr tk ps fun cls d σ' H' hx => ?_) G A H σ w.self sl E (nd_rebase w k)
  obtain ⟨C, fs, ss', G', A', M', rfl, xd, w', sl', b, hexm, q⟩ := hx
  obtain ⟨w2, e2⟩ := w.rebase w'
  refine ⟨b, hexm, fun hbt a ha oe pn2 hz hv => ?_, fun hbf => ?_⟩
  · rw [if_pos hbt] at q
    have q := q a oe d pn2 hz hv (fun hd => by rcases xd with ⟨_, h⟩ | ⟨_, _, h, _⟩; exact h; rw [hd] at h; cases h)
    exact q ck_suite G' A' H' _ w2 sl' _ (k.mono e2.1)
  · rw [hbf, if_neg Bool.false_ne_true] at q
    exact ⟨C, fs, ss', G', A', M', rfl, xd, w2, sl', q⟩
/-- e.f, e the exception that the suite holds -/
theorem we_xf {l C dd : Addr} {oe : Obj} {pn : List (Addr × Obj)} {f : Str} (T : XfC X.K C) (hno : PySem.W.findIn X.K (.ref C) f = some none) (hz : Zc (.ref C) (some dd) oe) (hf : ∃ vs, oe.data = .fields vs)
    (h : WE (X.suite l ((l, oe) :: pn)) B ex e (fun x M1 => ∃ fs d, x = .exc dd fs l ∧ fs.lookup f = some d ∧ Q (.dat d) M1) ss M) (hb : attributeBase e f X.env (eval e X.env) = eval e X.env := by rfl) :
    WE (X.suite l ((l, oe) :: pn)) B ex (.Attribute e f pos) Q ss M := .mk fun ck G A H σ w sl Kq k => by
  refine te_of (pe_xf T hno hz hf pe_self hb) ?_
  refine h ck G A H σ w sl _ fun v x G1 A1 M1 H1 e1 w1 s1 h1 => ?_
  obtain ⟨fs, d, rfl, hl, q⟩ := h1
  obtain ⟨rfl, fv, hd, r⟩ := s1
  obtain ⟨y, hy, ry⟩ := r.look hl
  exact ⟨rfl, rfl, dd, fv, y, rfl, w1.gh _ _ hd, hy, k _ (.dat d) G1 A1 M1 H1 e1 w1 ry q⟩
theorem call_isX {l D : Addr} {oe : Obj} {d : Option Addr} {pn : List (Addr × Obj)} (C : ExcC X.K D) (hz : Zc (.ref D) d oe) (hf : ∃ vs, oe.data = .fields vs) : CallR (X.suite l ((l, oe) :: pn)) (.builtin "isinstance") (fun xs H Q => (d = none ∨ ∃ dd fv, d = some dd ∧ H dd = some (.xd fv)) ∧ rIsE X.K D l xs H Q) := by
  intro pins s σ H xs us Q I r hh
  obtain ⟨hd, c, cv, b, rfl, hcv, e, q⟩ := hh
  cases r with
  | cons rx rr =>
    cases rr with
    | cons rt rr =>
      cases rr
      cases rx
      obtain rfl := hcv _ rt
      obtain ⟨g0, _⟩ := I.pin (l, oe) (List.mem_append.mpr (.inl List.mem_cons_self))
      obtain ⟨vs, hv⟩ := hf
      have J : ∃ od, PySem.W.InstAt s.heap l oe D od := by
        obtain ⟨oc, ood, oda, osl⟩ := oe
        obtain ⟨h1, h2⟩ := hz
        dsimp only at h1 h2 hv
        subst h1 h2 hv
        rcases hd with rfl | ⟨dd, fv, rfl, hH⟩
        · exact ⟨none, g0, rfl, rfl, trivial⟩
        · have hx : ObjOk X.prog X.w H s.heap dd (.xd fv) := I.hok dd _ hH
          obtain ⟨mA, hns, _⟩ := hx
          obtain ⟨od, ho, _⟩ := lookIn_ns hns
          exact ⟨some od, g0, rfl, rfl, ho⟩
      obtain ⟨od, J⟩ := J
      have hcl : (PySem.W.clsIn X.K D).isSome = true := by
        have z := C.hd
        unfold PySem.W.hasDictIn at z
        cases e : PySem.W.clsIn X.K D with
        | none => simp [e] at z
        | some _ => rfl
      exact PySem.W.kia_one (PySem.W.kitx_exc hcl C.hg C.hk C.hs C.ha C.hn C.ht C.hm) I.kIn J e (fun z => nomatch z) fun tk => ⟨.bl b, H, I.kept (t' := tk) fun _ _ z => z, rfl, q⟩
/-- isinstance(e, C), e the exception that the suite holds -/
theorem we_isX {l D : Addr} {oe : Obj} {d : Option Addr} {pn : List (Addr × Obj)} (C : ExcC X.K D) (hz : Zc (.ref D) d oe) (hf : ∃ vs, oe.data = .fields vs) (hm : X.mg "isinstance" = none) (hg : Gl X "isinstance")
    (h : WA (X.suite l ((l, oe) :: pn)) B ex [a, b] (fun xs M1 => ∃ fs c cv k, xs = [excSV d fs l, .raw c] ∧ ClsV c cv ∧ PySem.W.kitOne X.K (.ref D) cv = some k ∧ Q (.dat (.bl k)) M1) ss M)
    (he : starEach [a, b] X.env = (false, eval a X.env) :: starEach [b] X.env := by rfl) (hpl : (backTo pos (starEach [b] X.env)).any (·.1) = false := by rfl) :
    WE (X.suite l ((l, oe) :: pn)) B ex (.Call (.Name "isinstance" p) [a, b] [] pos) Q ss M := .mk fun ck G A H σ w sl Kq k => by
  refine te_of (pe_callB (call_isX C hz hf) hg hm (by decide +kernel) pa_self (by decide) (by decide) he hpl) ?_
  refine h ck G A H σ w sl _ fun vs xs G1 A1 M1 H1 e1 w1 s1 h1 => ?_
  obtain ⟨fs, c, cv, kb, rfl, hcv, hk, q⟩ := h1
  cases s1 with
  | cons s s1 =>
    cases s1 with
    | cons s' s1 =>
      cases s1
      obtain rfl := s'
      rename_i v0 _
      have : (d = none ∨ ∃ dd fv, d = some dd ∧ H1 dd = some (.xd fv)) ∧ v0 = V.ref l := by
        cases d with
        | none => exact ⟨.inl rfl, s⟩
        | some dd =>
          obtain ⟨h1, fv, h2, _⟩ := s
          exact ⟨.inr ⟨dd, fv, rfl, w1.gh _ _ h2⟩, h1⟩
      obtain ⟨hd, rfl⟩ := this
      exact ⟨hd, _, cv, kb, rfl, fun u r => hcv.eq r, hk, k _ (.dat (.bl kb)) G1 A1 M1 H1 e1 w1 (Rep.bl kb) q⟩
end
end Mb

/-! Mb, part 12: dicts, a class's def called by its name, cells that are frozen everywhere. -/
namespace Mb
open PySem L2 PyProof.Rows
def valD (kvs : List (Key × D)) (k : Key) : Option D := (kvs.find? fun kv => decide (kv.1 = k)).map (·.2)
def putD (kvs : List (Key × D)) (k : Key) (v : D) : List (Key × D) :=
  if (kvs.any fun kv => decide (kv.1 = k)) = true then kvs.map (fun kv => if kv.1 = k then (kv.1, v) else kv) else kvs ++ [(k, v)]
def keyD : D → Option Key
  | .str x => some (Sum.inr x)
  | .int i => some (Sum.inl i)
  | _ => none
theorem valD_pos {p : Key × D} {r : List (Key × D)} {k : Key} (e : p.1 = k) : valD (p :: r) k = some p.2 := by
  unfold valD
  rw [List.find?_cons_of_pos (by simpa using e)]
  rfl
theorem valD_neg {p : Key × D} {r : List (Key × D)} {k : Key} (e : ¬ p.1 = k) : valD (p :: r) k = valD r k := by
  unfold valD
  rw [List.find?_cons_of_neg (by simpa using e)]
theorem RepK.valS {K : PySem.W.Frag} {G : Hp} {k : Key} : ∀ {kv : List (Key × V)} {kvs : List (Key × D)}, RepK K G kv kvs → ∀ d, valD kvs k = some d → ∃ v, valV kv k = some v ∧ Rep K G v d
  | _, _, .nil, d, e => by simp [valD] at e
  | (g, v) :: kv, (_, y) :: kvs, .cons h r, d, e => by
    by_cases c : g = k
    · rw [valD_pos (p := (g, y)) c] at e
      cases e
      exact ⟨v, valV_pos (p := (g, v)) c, h⟩
    · rw [valD_neg (p := (g, y)) c] at e
      obtain ⟨w, h1, h2⟩ := r.valS d e
      exact ⟨w, (valV_neg (p := (g, v)) c).trans h1, h2⟩
theorem RepK.valN {K : PySem.W.Frag} {G : Hp} {k : Key} : ∀ {kv : List (Key × V)} {kvs : List (Key × D)}, RepK K G kv kvs → valD kvs k = none → valV kv k = none
  | _, _, .nil, e => valV_nil
  | (g, v) :: kv, (_, y) :: kvs, .cons h r, e => by
    by_cases c : g = k
    · rw [valD_pos (p := (g, y)) c] at e
      cases e
    · rw [valD_neg (p := (g, y)) c] at e
      exact (valV_neg (p := (g, v)) c).trans (r.valN e)
theorem RepK.some_eq {K : PySem.W.Frag} {G : Hp} {k : Key} {kv : List (Key × V)} {kvs : List (Key × D)} (r : RepK K G kv kvs) : (valV kv k).isSome = (valD kvs k).isSome := by
  cases e : valD kvs k with
  | none => rw [r.valN e]; rfl
  | some d => obtain ⟨v, h, _⟩ := r.valS d e; rw [h]; rfl
theorem RepK.anyE {K : PySem.W.Frag} {G : Hp} {k : Key} : ∀ {kv : List (Key × V)} {kvs : List (Key × D)}, RepK K G kv kvs → (kv.any fun x => decide (x.1 = k)) = kvs.any fun x => decide (x.1 = k)
  | _, _, .nil => rfl
  | (g, v) :: kv, (_, y) :: kvs, .cons h r => by
    rw [List.any_cons, List.any_cons, r.anyE]
theorem RepK.mapE {K : PySem.W.Frag} {G : Hp} {k : Key} {v : V} {d : D} (q : Rep K G v d) : ∀ {kv : List (Key × V)} {kvs : List (Key × D)}, RepK K G kv kvs → RepK K G (kv.map fun x => if x.1 = k then (x.1, v) else x) (kvs.map fun x => if x.1 = k then (x.1, d) else x)
  | _, _, .nil => .nil
  | (g, u) :: kv, (_, y) :: kvs, .cons h r => by
    rw [List.map_cons, List.map_cons]
    by_cases c : g = k
    · rw [if_pos c, if_pos c]; exact .cons q (r.mapE q)
    · rw [if_neg c, if_neg c]; exact .cons h (r.mapE q)
theorem RepK.snoc {K : PySem.W.Frag} {G : Hp} {k : Key} {v : V} {d : D} (q : Rep K G v d) : ∀ {kv : List (Key × V)} {kvs : List (Key × D)}, RepK K G kv kvs → RepK K G (kv ++ [(k, v)]) (kvs ++ [(k, d)])
  | _, _, .nil => .cons q .nil
  | (g, u) :: kv, (_, y) :: kvs, .cons h r => .cons h (r.snoc q)
theorem RepK.put {K : PySem.W.Frag} {G : Hp} {k : Key} {v : V} {d : D} (q : Rep K G v d) {kv : List (Key × V)} {kvs : List (Key × D)} (r : RepK K G kv kvs) : RepK K G (putK kv k v) (putD kvs k d) := by
  unfold putK putD
  rw [r.anyE]
  split
  · exact r.mapE q
  · exact r.snoc q
theorem keyD_kV {K : PySem.W.Frag} {G H : Hp} {v : V} {d : D} {k : Key} (h : RepS K G H v d) (e : keyD d = some k) : v = kV k := by
  cases d <;> simp [keyD] at e
  · subst e; exact h
  · subst e; exact h.1
section
variable {X : Cx} {B : Base} {ex : XD} {ss : Sst} {M : Mem} {a b c e tg o : Expr} {es : List Expr} {pos p p' apos p2 : Pos} {Q : SV → Mem → Prop} {QB : Bool → Mem → Prop} {N : Nd} {x : Str} {sts : List Stmt}
/-! ### dicts -/
theorem we_dnew (q : Q (.cel M.length) (M ++ [.dic []])) : WE X B ex (.Dict [] [] pos) Q ss M := .mk fun ck G A H σ w sl Kq k => by
  refine te_of pe_dnewK fun l hl => ?_
  obtain ⟨w2, e2⟩ := w.newC (c := .dic []) (o := .dK []) hl ⟨(w.none hl).2.2, [], upd_same, .nil⟩
  refine k _ (.cel M.length) _ _ _ _ e2 w2 ⟨l, rfl, ?_⟩ q
  rw [← w.len, List.getElem?_append_right (Nat.le_refl _), Nat.sub_self]
  rfl
def dinD0 (a b : D) (k : Bool → Prop) : Prop := match keyD a, b with
  | some key, .dic kvs => k (valD kvs key).isSome
  | _, _ => False
structure dinD (a b : D) (k : Bool → Prop) : Prop where
  run : dinD0 a b k
theorem dinD_get {a b : D} {k : Bool → Prop} (h : dinD a b k) : ∃ key kvs, keyD a = some key ∧ b = .dic kvs ∧ k (valD kvs key).isSome := by
  have h := h.run
  unfold dinD0 at h
  cases e : keyD a with
  | none => simp [e] at h
  | some key => cases b <;> simp [e] at h; exact ⟨key, _, rfl, rfl, h⟩
theorem wt_din {k : Nat} (hr : Room k X.A) (hm : behindInMarks .In b = false) (h : WE X B ex a (fun x M1 => WE X B ex b (fun y M2 => with1 M2 x fun p => with1 M2 y fun q => dinD p q fun k => QB k M2) ss M1) ss M) : WT X B ex (.Compare a [.In] [b] pos) QB ss M := .mk fun ck G A H σ w sl Kq k => by
  refine tt_of (pt_cmp (pc_din (hu_of hr) pe_self pe_self) hm) ?_
  refine h ck G A H σ w sl _ fun u x G1 A1 M1 H1 e1 w1 s1 h1 => ?_
  refine h1 ck G1 A1 H1 σ w1 (sl.mono e1) _ fun v y G2 A2 M2 H2 e2 w2 s2 h2 => ?_
  obtain ⟨d1, g1, h2⟩ := with1_get h2
  obtain ⟨d2, g2, h2⟩ := with1_get h2
  obtain ⟨key, kvs, hk, rfl, h9⟩ := dinD_get h2
  obtain ⟨l, kv, rfl, hl, r⟩ := s2.s w2 g2
  obtain rfl := keyD_kV ((s1.mono e2).s w2 g1) hk
  refine ⟨l, _, rfl, DGet.k hl, _, rfl, ?_⟩
  rw [r.some_eq]
  exact k _ G2 A2 M2 H2 (e1.trans e2) w2 h9
theorem wt_dni {k : Nat} (hr : Room k X.A) (hm : behindInMarks .NotIn b = false) (h : WE X B ex a (fun x M1 => WE X B ex b (fun y M2 => with1 M2 x fun p => with1 M2 y fun q => dinD p q fun k => QB (!k) M2) ss M1) ss M) : WT X B ex (.Compare a [.NotIn] [b] pos) QB ss M := .mk fun ck G A H σ w sl Kq k => by
  refine tt_of (pt_cmp (pc_dnotin (hu_of hr) pe_self pe_self) hm) ?_
  refine h ck G A H σ w sl _ fun u x G1 A1 M1 H1 e1 w1 s1 h1 => ?_
  refine h1 ck G1 A1 H1 σ w1 (sl.mono e1) _ fun v y G2 A2 M2 H2 e2 w2 s2 h2 => ?_
  obtain ⟨d1, g1, h2⟩ := with1_get h2
  obtain ⟨d2, g2, h2⟩ := with1_get h2
  obtain ⟨key, kvs, hk, rfl, h9⟩ := dinD_get h2
  obtain ⟨l, kv, rfl, hl, r⟩ := s2.s w2 g2
  obtain rfl := keyD_kV ((s1.mono e2).s w2 g1) hk
  refine ⟨l, _, rfl, DGet.k hl, _, rfl, ?_⟩
  rw [r.some_eq]
  exact k _ G2 A2 M2 H2 (e1.trans e2) w2 h9
theorem we_dget {k : Nat} (hr : Room k X.A) (h : WE X B ex a (fun x M1 => WE X B ex b (fun y M2 => with1 M2 x fun p => with1 M2 y fun q => ∃ key kvs d, keyD q = some key ∧ p = .dic kvs ∧ valD kvs key = some d ∧ Q (.dat d) M2) ss M1) ss M) (hs : NoSl b := by intro _ _; rfl) : WE X B ex (.Subscript a b pos) Q ss M := .mk fun ck G A H σ w sl Kq kk => by
  refine te_of (pe_dget (hu_of hr) pe_self pe_self hs) ?_
  refine h ck G A H σ w sl _ fun u x G1 A1 M1 H1 e1 w1 s1 h1 => ?_
  refine h1 ck G1 A1 H1 σ w1 (sl.mono e1) _ fun v y G2 A2 M2 H2 e2 w2 s2 h2 => ?_
  obtain ⟨d1, g1, h2⟩ := with1_get h2
  obtain ⟨d2, g2, key, kvs, d, hk, rfl, hv, q⟩ := with1_get h2
  obtain ⟨l, kv, rfl, hl, r⟩ := (s1.mono e2).s w2 g1
  obtain rfl := keyD_kV (s2.s w2 g2) hk
  obtain ⟨z, hz, rz⟩ := r.valS d hv
  refine ⟨l, z, rfl, ?_, kk _ (.dat d) G2 A2 M2 H2 (e1.trans e2) w2 rz q⟩
  rw [← hz]; exact DGet.k hl
/-- x a dict of ours -/
def cellDc0 (M : Mem) (x : SV) (k : Nat → List (Key × D) → Prop) : Prop := match x with
  | .cel i => match M[i]? with
    | some (.dic ds) => k i ds
    | _ => False
  | _ => False
structure cellDc (M : Mem) (x : SV) (k : Nat → List (Key × D) → Prop) : Prop where
  run : cellDc0 M x k
theorem cellDc_get {M : Mem} {x : SV} {k : Nat → List (Key × D) → Prop} (h : cellDc M x k) : ∃ i ds, x = .cel i ∧ M[i]? = some (.dic ds) ∧ k i ds := by
  have h := h.run
  unfold cellDc0 at h
  cases x with
  | dat d => exact h.elim
  | raw u => exact h.elim
  | exc u v w => exact h.elim
  | cel i =>
    simp only at h
    cases e : M[i]? with
    | none => simp [e] at h
    | some c =>
      cases c <;> simp [e] at h
      exact ⟨i, _, rfl, e, h⟩
theorem ws_dput {k : Nat} (hr : Room k X.A) (h : WE X B ex e (fun v M1 => WE X B ex a (fun x M2 => WE X B ex b (fun y M3 => ∃ d key, v = .dat d ∧ y.get M3 = some (match key with | Sum.inr s => .str s | Sum.inl i => .int i) ∧ cellDc M3 x fun i kvs => kvs.length < sizeLine ∧ N.nx ss (M3.set i (.dic (putD kvs key d)))) ss M2) ss M1) ss M)
    (hs : swapsWith e (some (.Subscript a b p')) pos.line X.env = pure false := by rfl) : WS X B ex (.Assign [.Subscript a b p'] e pos) N ss M := .mk fun ck G A H σ w sl E kk => by
  refine ts_of (ps_dput (hu_of hr) pe_self pe_self pe_self hs) ?_
  refine h ck G A H σ w sl _ fun v z G1 A1 M1 H1 e1 w1 s1 h1 => ?_
  refine h1 ck G1 A1 H1 σ w1 (sl.mono e1) _ fun u x G2 A2 M2 H2 e2 w2 s2 h2 => ?_
  refine h2 ck G2 A2 H2 σ w2 (sl.mono (e1.trans e2)) _ fun t y G3 A3 M3 H3 e3 w3 s3 h3 => ?_
  obtain ⟨d, key, rfl, hy, h3⟩ := h3
  obtain ⟨i, kvs, rfl, hM, hz, q⟩ := cellDc_get h3
  obtain ⟨l, rfl, hl⟩ := s2.mono e3
  obtain ⟨gn, kv, hv, r⟩ := w3.cl.get hl hM
  obtain rfl := keyD_kV (k := key) (s3.s w3 hy) (by cases key <;> rfl)
  have rd : Rep X.K G3 v d := (SvOk.mono (e2.trans e3) s1 : SvOk X.K G3 A3 v (.dat d))
  refine ⟨l, _, rfl, DPut.k hv (by rw [r.length]; exact hz), ?_⟩
  exact kk.nx σ ss G3 A3 _ _ ((e1.trans e2).trans e3).1 (w3.setC (c' := .dic (putD kvs key d)) hl gn ⟨gn, _, upd_same, r.put rd⟩) (sl.mono ((e1.trans e2).trans e3)) q
/-! ### C.m(self, ..), the class written out -/
theorem we_cls {C f : Addr} {m y : Str} {fd : FuncData} {ps : List Str} {k n : Nat} {S : SpD} {pl : Sem Bool} {mc : Value} (hm : X.mg y = some (.ref C)) (hg : Gl X y) (cr : ClX.CRead X.K C mc) (cv : ClX.CVal X.K C mc m (.ref f) (.ref f)) (hk : PySem.W.keepIn X.K (.ref f) = true)
    (F : FnOk X.prog X.w X.K X.mg X.base (L2.CX X.prog X.w) k f fd ps (spOf X.K n S)) (hr : Room k X.A) (hb : Binds X.K fd ps [])
    (h : WA X B ex (e :: es) (fun xs M2 => CallQ n S xs M2 Q ex ss) ss M)
    (hdb : (y == ("__debug__" : Str)) = false := by decide) (hst : starEach (e :: es) X.env = (false, eval e X.env) :: starEach es X.env := by rfl) (hpl : (backTo pos (starEach es X.env)).any (·.1) = false := by rfl)
    (ht : eval (.Call (.Attribute (.Name y p) m apos) (e :: es) [] pos) X.env = (do
      let ov ← eval (.Name y p) X.env
      standAt apos.atName
      let (f, first) ← holding [ov] (getMethod ov m pl)
      callWith pos f first (backTo pos (starEach (e :: es) X.env)) (backToKw pos (keywordEach [] X.env))) := by rfl) :
    WE X B ex (.Call (.Attribute (.Name y p) m apos) (e :: es) [] pos) Q ss M := .mk fun ck G A H σ w sl Kq kk pins s I => by
  refine PySem.W.methodCall_KW (pl := pl) (ld_glob I hg hm ?_ hdb) ht
  refine PySem.W.method_cls I.kIn cr.ga (ClX.getcval_ok I cr cv fun s1 I1 => ?_)
  have hO : taW X (e :: es) σ H (fun vs H2 => spOf X.K n S vs H2 Kq (fun cls d H' => XW X.K B ex cls d σ H')) := by
    refine h ck G A H σ w sl _ fun vs xs G2 A2 M2 H2 e2 w2 s2 h2 => ?_
    exact call_sp w2 (sl.mono e2) s2 h2 fun v x G' A' M' H' e' => kk v x G' A' M' H' (e2.trans e')
  refine PySem.W.callWith_K (first := []) (h₀ := X.base) I.ok.mod.kin hk (thn (hO pos pins s1 I1) fun us s2 ⟨vs, H2, I2, r, q2⟩ => ⟨I2.kIn, ?_⟩) hst hpl
  exact run_fnSD (E := fun σ cls d H' => XW X.K B ex cls d σ H') (dvs := []) (us := us) (vs := vs) F hr hb .nil (ck.at σ) I2 r (by rw [List.append_nil]; exact q2)
end
/-! ### a cell is frozen wherever it is named -/
def SV.fz (j : Nat) (d : D) : SV → SV
  | .cel i => if i = j then .dat d else .cel i
  | x => x
def Cell.fz (j : Nat) (d : D) : Cell → Cell
  | .ins C fs => .ins C (fs.map fun p => (p.1, p.2.fz j d))
  | c => c
def cellD : Cell → Option D
  | .lst ds => some (.lst ds)
  | .dic ds => some (.dic ds)
  | .ins C fs => (fdats fs).map (.ins C)
  | .dead => none
section
variable {K : PySem.W.Frag} {B : Base} {G : Hp} {A : List Addr} {M : List Cell} {H : Hp}
theorem SvOk.fz {v : V} {x : SV} {j : Nat} {d : D} {a : Addr} (hj : A[j]? = some a) (r : Rep K G (.ref a) d) (h : SvOk K G A v x) : SvOk K G A v (x.fz j d) := by
  cases x with
  | dat d => exact h
  | raw u => exact h
  | exc u v w => exact h
  | cel i =>
    unfold SV.fz
    by_cases c : i = j
    · simp only [c, if_true]
      obtain ⟨b, rfl, hb⟩ := h
      subst c
      rw [hj] at hb
      cases hb
      exact r
    · simp only [c, if_false]; exact h
theorem Sl.fz {j : Nat} {d : D} {a : Addr} (hj : A[j]? = some a) (r : Rep K G (.ref a) d) : ∀ {σ : L2.St} {ss : Sst}, Sl K G A σ ss → Sl K G A σ (ss.map (Option.map (SV.fz j d)))
  | _, _, .nil => .nil
  | _, _, .skip s => .skip (s.fz hj r)
  | _, _, .cons h s => .cons (h.fz hj r) (s.fz hj r)
theorem FldsOk.fz {j : Nat} {d : D} {a : Addr} (hj : A[j]? = some a) (r : Rep K G (.ref a) d) : ∀ {fv : List (Str × V)} {fs : List (Str × SV)}, FldsOk K G A fv fs → FldsOk K G A fv (fs.map fun p => (p.1, p.2.fz j d))
  | _, _, .nil => .nil
  | _, _, .cons h s => .cons (h.fz hj r) (s.fz hj r)
theorem CellOk.fz {j : Nat} {d : D} {a b : Addr} {c : Cell} (hj : A[j]? = some a) (r : Rep K G (.ref a) d) (h : CellOk K G A H b c) : CellOk K G A H b (c.fz j d) := by
  cases c with
  | dead => trivial
  | lst ds => exact h
  | dic ds => exact h
  | ins C fs =>
    obtain ⟨g, dx, fv, h1, q⟩ := h
    exact ⟨g, dx, fv, h1, q.fz hj r⟩
theorem Cells.fz {j : Nat} {d : D} {a : Addr} (hj : A[j]? = some a) (r : Rep K G (.ref a) d) : ∀ {as : List Addr} {cs : List Cell}, Cells K G A H as cs → Cells K G A H as (cs.map (Cell.fz j d))
  | _, _, .nil => .nil
  | _, _, .cons h s => .cons (h.fz hj r) (s.fz hj r)
theorem Wd.freezeA (w : Wd K B G A M H) {j : Nat} {c : Cell} {d : D} (hb : B.A.length ≤ j) (hM : M[j]? = some c) (hd : cellD c = some d) :
    ∃ G' a, A[j]? = some a ∧ Wd K B G' A ((M.map (Cell.fz j d)).set j .dead) H ∧ Same G G' ∧ Rep K G' (.ref a) d := by
  have hl := w.len
  have hj : j < A.length := by rw [hl]; exact (List.getElem?_eq_some_iff.mp hM).1
  have ha : A[j]? = some A[j] := List.getElem?_eq_getElem hj
  generalize A[j] = a at ha
  have hc := w.cl.get ha hM
  have hA : a ∈ A := List.mem_of_getElem? ha
  obtain ⟨gn, o, ho, rep⟩ : G a = Option.none ∧ ∃ o, H a = some o ∧ ∀ G', Same G G' → G' a = some o → Rep K G' (.ref a) d := by
    cases c with
    | dead => simp [cellD] at hd
    | lst ds =>
      simp only [cellD, Option.some.injEq] at hd; subst hd
      obtain ⟨g, vs, h1, r⟩ := hc
      exact ⟨g, _, h1, fun G' s e => .lst (.inl e) (r.mono s)⟩
    | dic ds =>
      simp only [cellD, Option.some.injEq] at hd; subst hd
      obtain ⟨g, vs, h1, r⟩ := hc
      exact ⟨g, _, h1, fun G' s e => .dic e (r.mono s)⟩
    | ins C fs =>
      simp only [cellD, Option.map_eq_some_iff] at hd
      obtain ⟨ds, hf, rfl⟩ := hd
      obtain ⟨g, dx, fv, h1, r⟩ := hc
      exact ⟨g, _, h1, fun G' s e => .ins e ((r.repF hf).mono s)⟩
  have hnB : B.H a = Option.none := by
    rcases w.an a hA with q | q
    · exfalso
      obtain ⟨more, e⟩ := w.pre
      obtain ⟨i, hi, ei⟩ := List.mem_iff_getElem.mp q
      have h1 : A[i]? = some a := by rw [e, List.getElem?_append_left hi, List.getElem?_eq_getElem hi, ei]
      have := nd_ix w.nd ha h1
      omega
    · exact q
  have s1 : Same G (upd G a o) := same_upd gn
  have ex : Ext G A (upd G a o) A := ⟨s1, [], by simp⟩
  have r1 := rep (upd G a o) s1 upd_same
  refine ⟨upd G a o, a, ha, ⟨w.gg.trans s1, fun b u e => ?_, w.fr, fun b u e => ?_, w.nd, w.pre, w.there, w.an, ?_⟩, s1, r1⟩
  · by_cases c : b = a
    · subst c; rw [upd_same] at e; rw [← e]; exact ho
    · rw [upd_ne c] at e; exact w.gh b u e
  · by_cases c : b = a
    · subst c; exact .inr hnB
    · rw [upd_ne c] at e; exact w.fresh b u e
  · have go : ∀ {as : List Addr} {cs : List Cell} {i : Nat}, as.Nodup → Cells K G A H as cs → as[i]? = some a → Cells K (upd G a o) A H as ((cs.map (Cell.fz j d)).set i .dead) := by
      intro as cs i nd q
      induction q generalizing i with
      | nil => intro e; simp at e
      | @cons b as c cs h r ih =>
        intro e
        cases i with
        | zero =>
          simp at e
          subst e
          refine .cons trivial (Cells.fz ha r1 (r.imp fun x y m q => q.keep ex (fun g => ?_) fun _ e => e))
          rw [upd_ne (show x ≠ b from fun z => (List.nodup_cons.mp nd).1 (z ▸ m))]; exact g
        | succ n =>
          have e' : as[n]? = some a := by simpa using e
          have hp : a ∈ as := List.mem_of_getElem? e'
          refine .cons ((h.keep ex (fun g => ?_) fun _ e => e).fz ha r1) (ih (List.nodup_cons.mp nd).2 e')
          rw [upd_ne (show b ≠ a from fun z => (List.nodup_cons.mp nd).1 (z ▸ hp))]; exact g
    exact go w.nd w.cl ha
end
section
variable {X : Cx} {B : Base} {ex : XD} {ss : Sst} {M : Mem} {N : Nd} {sts : List Stmt}
theorem wb_freeze (j : Nat) {c : Cell} {d : D} (hb : B.A.length ≤ j) (hM : M[j]? = some c) (hd : cellD c = some d) (h : WB X B ex sts N (ss.map (Option.map (SV.fz j d))) ((M.map (Cell.fz j d)).set j .dead)) : WB X B ex sts N ss M := .mk fun ck G A H σ w sl E k => by
  obtain ⟨G', a, ha, w', s', r⟩ := w.freezeA hb hM hd
  exact h ck G' A H σ w' ((sl.mono ⟨s', [], by simp⟩).fz ha r) E (k.mono s')
end
end Mb

/-! Mb, part 13: small steps, what a law's top holds, the draw. -/
namespace Mb
open PySem L2 PyProof.Rows
section
variable {M : Mem} {k : D → Prop} {A B : Prop} {X : Cx}
theorem w1d {d : D} (h : k d) : with1 M (.dat d) k := ⟨h⟩
theorem w1c {i : Nat} {ds : List D} (e : M[i]? = some (.lst ds)) (h : k (.lst ds)) : with1 M (.cel i) k := by
  have g : SV.get M (.cel i) = some (.lst ds) := by simp only [SV.get, e]
  exact with1_mk g h
theorem w1k {i : Nat} {ds : List (Key × D)} (e : M[i]? = some (.dic ds)) (h : k (.dic ds)) : with1 M (.cel i) k := by
  have g : SV.get M (.cel i) = some (.dic ds) := by simp only [SV.get, e]
  exact with1_mk g h
theorem addI {i j : Int} (h : k (.int (i + j))) : addD (.int i) (.int j) k := ⟨h⟩
theorem addS {i j : Str} (hl : i.length + j.length ≤ sizeLine) (h : k (.str (i ++ j))) : addD (.str i) (.str j) k := ⟨⟨hl, h⟩⟩
theorem addL {i j : List D} (hl : i.length + j.length ≤ sizeLine) (h : k (.lst (i ++ j))) : addD (.lst i) (.lst j) k := ⟨⟨hl, h⟩⟩
theorem addT {i j : List D} (hl : i.length + j.length ≤ sizeLine) (h : k (.tup (i ++ j))) : addD (.tup i) (.tup j) k := ⟨⟨hl, h⟩⟩
theorem mulI {i j : Int} (hl : CMul i j) (h : k (.int (i * j))) : mulD (.int i) (.int j) k := ⟨⟨hl, h⟩⟩
theorem wsd {xs : List SV} {ds : List D} {k : List D → Prop} (e : datsOf xs = some ds) (h : k ds) : withs xs k := by
  refine ⟨?_⟩
  unfold withs0
  rw [e]
  exact h
theorem deq_int {i j : Int} : deq (.int i) (.int j) = decide (i = j) := by
  unfold deq
  simp only [py, PyData.eqv]
  rfl
theorem deq_str {i j : Str} : deq (.str i) (.str j) = decide (i = j) := by
  unfold deq
  simp only [py, PyData.eqv]
  by_cases c : i = j
  · subst c; simp
  · rw [decide_eq_false c]; simpa using c
theorem eqI {i j : Int} {Q : Bool → Mem → Prop} (h : Q (decide (i = j)) M) : eq2t false M (.dat (.int i)) (.dat (.int j)) Q := ⟨w1d (w1d ⟨⟨rfl, rfl⟩, by rw [deq_int]; exact h⟩)⟩
theorem neI {i j : Int} {Q : Bool → Mem → Prop} (h : Q (!decide (i = j)) M) : eq2t true M (.dat (.int i)) (.dat (.int j)) Q := ⟨w1d (w1d ⟨⟨rfl, rfl⟩, by rw [deq_int]; exact h⟩)⟩
theorem eqS {i j : Str} {Q : Bool → Mem → Prop} (h : Q (decide (i = j)) M) : eq2t false M (.dat (.str i)) (.dat (.str j)) Q := ⟨w1d (w1d ⟨⟨rfl, rfl⟩, by rw [deq_str]; exact h⟩)⟩
theorem neS {i j : Str} {Q : Bool → Mem → Prop} (h : Q (!decide (i = j)) M) : eq2t true M (.dat (.str i)) (.dat (.str j)) Q := ⟨w1d (w1d ⟨⟨rfl, rfl⟩, by rw [deq_str]; exact h⟩)⟩
theorem eqD {d e : D} {Q : Bool → Mem → Prop} (h1 : D.pl 60 d = true) (h2 : D.pl 60 e = true) (h : Q (deq d e) M) : eq2t false M (.dat d) (.dat e) Q := ⟨w1d (w1d ⟨⟨h1, h2⟩, h⟩)⟩
theorem neD {d e : D} {Q : Bool → Mem → Prop} (h1 : D.pl 60 d = true) (h2 : D.pl 60 e = true) (h : Q (!deq d e) M) : eq2t true M (.dat d) (.dat e) Q := ⟨w1d (w1d ⟨⟨h1, h2⟩, h⟩)⟩
theorem ixL {ds : List D} {n : Int} {d : D} (e : atI ds n = some d) (h : k d) : ixD (.lst ds) (.int n) k := ⟨⟨d, e, h⟩⟩
theorem ixT {ds : List D} {n : Int} {d : D} (e : atI ds n = some d) (h : k d) : ixD (.tup ds) (.int n) k := ⟨⟨d, e, h⟩⟩
theorem ixS {z : Str} {n : Int} {c : Nat} (e : atI z.cps.toList n = some c) (h : k (.str ⟨#[c]⟩)) : ixD (.str z) (.int n) k := ⟨⟨c, e, h⟩⟩
theorem ite_b {p : Prop} [Decidable p] (h1 : p → A) (h2 : ¬ p → B) : if decide p = true then A else B := by
  by_cases c : p
  · rw [if_pos (decide_eq_true c)]; exact h1 c
  · rw [if_neg (by rw [decide_eq_false c]; exact Bool.false_ne_true)]; exact h2 c
theorem ite_n {p : Prop} [Decidable p] (h1 : ¬ p → A) (h2 : p → B) : if (!decide p) = true then A else B := by
  by_cases c : p
  · rw [if_neg (by rw [decide_eq_true c]; exact Bool.false_ne_true)]; exact h2 c
  · rw [if_pos (by rw [decide_eq_false c]; rfl)]; exact h1 c
theorem ite_v {b : Bool} (h1 : b = true → A) (h2 : b = false → B) : if b = true then A else B := by
  cases b with
  | true => rw [if_pos rfl]; exact h1 rfl
  | false => rw [if_neg Bool.false_ne_true]; exact h2 rfl
theorem it_t {b : Bool} (e : b = true) (h : A) : if b = true then A else B := by rw [if_pos e]; exact h
theorem it_f {b : Bool} (e : b = false) (h : B) : if b = true then A else B := by rw [if_neg (by rw [e]; exact Bool.false_ne_true)]; exact h
theorem vis {sc : Scope} {x : Str} (h : (sc.names.lookup x == some .local || sc.names.lookup x == some .cell || sc.names.lookup x == some .free) = true) : Vis sc x := by
  simp only [Bool.or_eq_true, beq_iff_eq] at h
  rcases h with (h | h) | h
  · exact .inl h
  · exact .inr (.inl h)
  · exact .inr (.inr h)
theorem room {j k : Nat} {A : Around} (r : Room k A) (h : j ≤ k) : Room j A := r.mono h
end
section
variable {X : Cx} {B : Base} {ex : XD} {ss : Sst} {M : Mem} {a b c : Expr} {pos : Pos} {Q : SV → Mem → Prop} {QB : Bool → Mem → Prop}
theorem we_lt (h : WE X B ex a (fun x M1 => WE X B ex b (fun y M2 => ∃ i j, x = .dat (.int i) ∧ y = .dat (.int j) ∧ Q (.dat (.bl (decide (i < j)))) M2) ss M1) ss M) (hm : behindInMarks .Lt b = false := by exact nomark _) : WE X B ex (.Compare a [.Lt] [b] pos) Q ss M :=
  we_cmpI op_lt hm (h.mono fun x M1 h1 => h1.mono fun y M2 ⟨i, j, e1, e2, q⟩ => by subst e1; subst e2; exact w1d (w1d q))
theorem wt_lt (h : WE X B ex a (fun x M1 => WE X B ex b (fun y M2 => ∃ i j, x = .dat (.int i) ∧ y = .dat (.int j) ∧ QB (decide (i < j)) M2) ss M1) ss M) (hm : behindInMarks .Lt b = false := by exact nomark _) : WT X B ex (.Compare a [.Lt] [b] pos) QB ss M :=
  wt_cmpI op_lt hm (h.mono fun x M1 h1 => h1.mono fun y M2 ⟨i, j, e1, e2, q⟩ => by subst e1; subst e2; exact w1d (w1d q))
theorem we_le (h : WE X B ex a (fun x M1 => WE X B ex b (fun y M2 => ∃ i j, x = .dat (.int i) ∧ y = .dat (.int j) ∧ Q (.dat (.bl (decide (i ≤ j)))) M2) ss M1) ss M) (hm : behindInMarks .LtE b = false := by exact nomark _) : WE X B ex (.Compare a [.LtE] [b] pos) Q ss M :=
  we_cmpI op_le hm (h.mono fun x M1 h1 => h1.mono fun y M2 ⟨i, j, e1, e2, q⟩ => by subst e1; subst e2; exact w1d (w1d q))
theorem wt_le (h : WE X B ex a (fun x M1 => WE X B ex b (fun y M2 => ∃ i j, x = .dat (.int i) ∧ y = .dat (.int j) ∧ QB (decide (i ≤ j)) M2) ss M1) ss M) (hm : behindInMarks .LtE b = false := by exact nomark _) : WT X B ex (.Compare a [.LtE] [b] pos) QB ss M :=
  wt_cmpI op_le hm (h.mono fun x M1 h1 => h1.mono fun y M2 ⟨i, j, e1, e2, q⟩ => by subst e1; subst e2; exact w1d (w1d q))
theorem we_gt (h : WE X B ex a (fun x M1 => WE X B ex b (fun y M2 => ∃ i j, x = .dat (.int i) ∧ y = .dat (.int j) ∧ Q (.dat (.bl (decide (j < i)))) M2) ss M1) ss M) (hm : behindInMarks .Gt b = false := by exact nomark _) : WE X B ex (.Compare a [.Gt] [b] pos) Q ss M :=
  we_cmpI op_gt hm (h.mono fun x M1 h1 => h1.mono fun y M2 ⟨i, j, e1, e2, q⟩ => by subst e1; subst e2; exact w1d (w1d q))
theorem wt_gt (h : WE X B ex a (fun x M1 => WE X B ex b (fun y M2 => ∃ i j, x = .dat (.int i) ∧ y = .dat (.int j) ∧ QB (decide (j < i)) M2) ss M1) ss M) (hm : behindInMarks .Gt b = false := by exact nomark _) : WT X B ex (.Compare a [.Gt] [b] pos) QB ss M :=
  wt_cmpI op_gt hm (h.mono fun x M1 h1 => h1.mono fun y M2 ⟨i, j, e1, e2, q⟩ => by subst e1; subst e2; exact w1d (w1d q))
theorem we_ge (h : WE X B ex a (fun x M1 => WE X B ex b (fun y M2 => ∃ i j, x = .dat (.int i) ∧ y = .dat (.int j) ∧ Q (.dat (.bl (decide (j ≤ i)))) M2) ss M1) ss M) (hm : behindInMarks .GtE b = false := by exact nomark _) : WE X B ex (.Compare a [.GtE] [b] pos) Q ss M :=
  we_cmpI op_ge hm (h.mono fun x M1 h1 => h1.mono fun y M2 ⟨i, j, e1, e2, q⟩ => by subst e1; subst e2; exact w1d (w1d q))
theorem wt_ge (h : WE X B ex a (fun x M1 => WE X B ex b (fun y M2 => ∃ i j, x = .dat (.int i) ∧ y = .dat (.int j) ∧ QB (decide (j ≤ i)) M2) ss M1) ss M) (hm : behindInMarks .GtE b = false := by exact nomark _) : WT X B ex (.Compare a [.GtE] [b] pos) QB ss M :=
  wt_cmpI op_ge hm (h.mono fun x M1 h1 => h1.mono fun y M2 ⟨i, j, e1, e2, q⟩ => by subst e1; subst e2; exact w1d (w1d q))
theorem wt_lele (h : WE X B ex a (fun x M1 => WE X B ex b (fun y M2 => ∃ i j, x = .dat (.int i) ∧ y = .dat (.int j) ∧ if decide (i ≤ j) = true then WE X B ex c (fun z M3 => ∃ n, z = .dat (.int n) ∧ QB (decide (j ≤ n)) M3) ss M2 else QB false M2) ss M1) ss M)
    (hm : lastMarks [.LtE, .LtE] [b, c] = false := by with_unfolding_all rfl) : WT X B ex (.Compare a [.LtE, .LtE] [b, c] pos) QB ss M := wt_chain op_le op_le h hm
theorem wt_lelt (h : WE X B ex a (fun x M1 => WE X B ex b (fun y M2 => ∃ i j, x = .dat (.int i) ∧ y = .dat (.int j) ∧ if decide (i ≤ j) = true then WE X B ex c (fun z M3 => ∃ n, z = .dat (.int n) ∧ QB (decide (j < n)) M3) ss M2 else QB false M2) ss M1) ss M)
    (hm : lastMarks [.LtE, .Lt] [b, c] = false := by with_unfolding_all rfl) : WT X B ex (.Compare a [.LtE, .Lt] [b, c] pos) QB ss M := wt_chain op_le op_lt h hm
theorem wt_ltle (h : WE X B ex a (fun x M1 => WE X B ex b (fun y M2 => ∃ i j, x = .dat (.int i) ∧ y = .dat (.int j) ∧ if decide (i < j) = true then WE X B ex c (fun z M3 => ∃ n, z = .dat (.int n) ∧ QB (decide (j ≤ n)) M3) ss M2 else QB false M2) ss M1) ss M)
    (hm : lastMarks [.Lt, .LtE] [b, c] = false := by with_unfolding_all rfl) : WT X B ex (.Compare a [.Lt, .LtE] [b, c] pos) QB ss M := wt_chain op_lt op_le h hm
theorem wt_ltlt (h : WE X B ex a (fun x M1 => WE X B ex b (fun y M2 => ∃ i j, x = .dat (.int i) ∧ y = .dat (.int j) ∧ if decide (i < j) = true then WE X B ex c (fun z M3 => ∃ n, z = .dat (.int n) ∧ QB (decide (j < n)) M3) ss M2 else QB false M2) ss M1) ss M)
    (hm : lastMarks [.Lt, .Lt] [b, c] = false := by with_unfolding_all rfl) : WT X B ex (.Compare a [.Lt, .Lt] [b, c] pos) QB ss M := wt_chain op_lt op_lt h hm
theorem we_sub1 (h : WE X B ex a (fun x M1 => WE X B ex b (fun y M2 => ∃ i j, x = .dat (.int i) ∧ y = .dat (.int j) ∧ Q (.dat (.int (i - j))) M2) ss M1) ss M) : WE X B ex (.BinOp a .Sub b pos) Q ss M :=
  we_sub (h.mono fun x M1 h1 => h1.mono fun y M2 ⟨i, j, e1, e2, q⟩ => by subst e1; subst e2; exact w1d (w1d q))
theorem we_fdiv1 (h : WE X B ex a (fun x M1 => WE X B ex b (fun y M2 => ∃ i j, x = .dat (.int i) ∧ y = .dat (.int j) ∧ (0 < j ∧ j < 1073741824) ∧ Q (.dat (.int (i / j))) M2) ss M1) ss M) : WE X B ex (.BinOp a .FloorDiv b pos) Q ss M :=
  we_fdiv (h.mono fun x M1 h1 => h1.mono fun y M2 ⟨i, j, e1, e2, q⟩ => by subst e1; subst e2; exact w1d (w1d q))
theorem we_mod1 (h : WE X B ex a (fun x M1 => WE X B ex b (fun y M2 => ∃ i j, x = .dat (.int i) ∧ y = .dat (.int j) ∧ (0 < j) ∧ Q (.dat (.int (i % j))) M2) ss M1) ss M) : WE X B ex (.BinOp a .Mod b pos) Q ss M :=
  we_mod (h.mono fun x M1 h1 => h1.mono fun y M2 ⟨i, j, e1, e2, q⟩ => by subst e1; subst e2; exact w1d (w1d q))
theorem we_pow1 (h : WE X B ex a (fun x M1 => WE X B ex b (fun y M2 => ∃ i j, x = .dat (.int i) ∧ y = .dat (.int j) ∧ (0 ≤ j ∧ j ≤ 1000000 ∧ i.natAbs < 2 ^ 64) ∧ Q (.dat (.int (i ^ j.toNat))) M2) ss M1) ss M) : WE X B ex (.BinOp a .Pow b pos) Q ss M :=
  we_pow (h.mono fun x M1 h1 => h1.mono fun y M2 ⟨i, j, e1, e2, q⟩ => by subst e1; subst e2; exact w1d (w1d q))
theorem we_mul1 (h : WE X B ex a (fun x M1 => WE X B ex b (fun y M2 => ∃ i j, x = .dat (.int i) ∧ y = .dat (.int j) ∧ ((-(2 ^ 64) < i ∧ i < 2 ^ 64) ∨ (-(2 ^ 64) < j ∧ j < 2 ^ 64)) ∧ Q (.dat (.int (i * j))) M2) ss M1) ss M) : WE X B ex (.BinOp a .Mult b pos) Q ss M :=
  we_mul (h.mono fun x M1 h1 => h1.mono fun y M2 ⟨i, j, e1, e2, q⟩ => by subst e1; subst e2; exact w1d (w1d ⟨q⟩))
end
section
variable {X : Cx} {B : Base} {ex : XD} {ss : Sst} {M : Mem} {a b c : Expr} {es : List Expr} {pos : Pos} {Q : SV → Mem → Prop} {QB : Bool → Mem → Prop} {N : Nd} {st : Stmt} {sts : List Stmt}
theorem a1 {k : Mem → D → (SV → Mem → Prop) → Prop} {x : SV} (h : with1 M x fun d => k M d Q) : arg1 k M [x] Q := ⟨h⟩
theorem gF (x : Str) {p : Pos} {kw : List Keyword} (h : WE X B ex (.Call (.Name x p) es kw pos) Q ss M) : WE X B ex (.Call (.Name x p) es kw pos) Q ss M := h
theorem gX (x : Str) {p : Pos} {kw : List Keyword} (h : WE X B ex (.Call (.Attribute a x p) es kw pos) Q ss M) : WE X B ex (.Call (.Attribute a x p) es kw pos) Q ss M := h
theorem cq {n : Nat} {S : SpD} {xs : List SV} (h0 : (xs.all (SV.lt n) && (M.take n).all (Cell.lt n) && decide (n ≤ M.length)) = true) (h : S xs (M.take n) (fun x M' => Q (x.sh n M.length) (M'.take n ++ M.drop n ++ M'.drop n)) (fun C fs M' => ex C fs ss (M'.take n ++ M.drop n ++ M'.drop n))) : CallQ n S xs M Q ex ss := ⟨⟨h0, h⟩⟩
theorem mq {S : SpD} {C : Addr} {xs : List SV} (h0 : (xs.all (SV.lt 0) && M.all (Cell.lt M.length)) = true) (h : S (.cel 0 :: xs) [.ins C []] (fun y M' => y = .dat .non ∧ ∃ fs ds, M'[0]? = some (.ins C fs) ∧ fdats fs = some ds ∧ Q (.dat (.ins C ds)) M) (fun D fs _ => ex D fs ss M)) : MakeQ S C xs M Q ex ss := ⟨⟨h0, h⟩⟩
theorem wo_none {Q : Option Int → Mem → Prop} (q : Q none M) : WO X B ex none Q ss M := ⟨q⟩
theorem wo_some {Q : Option Int → Mem → Prop} (h : WE X B ex a (fun x M1 => ∃ i, x = .dat (.int i) ∧ Q (some i) M1) ss M) : WO X B ex (some a) Q ss M := ⟨h⟩
theorem gB (h : WB X B ex sts N ss M) : WB X B ex sts N ss M := h
theorem gS (h : WS X B ex st N ss M) : WS X B ex st N ss M := h
theorem gE (h : WE X B ex a Q ss M) : WE X B ex a Q ss M := h
theorem gT (h : WT X B ex a QB ss M) : WT X B ex a QB ss M := h
theorem gW (h : WW X B ex a QB ss M) : WW X B ex a QB ss M := h
theorem gA {Q : List SV → Mem → Prop} (h : WA X B ex es Q ss M) : WA X B ex es Q ss M := h
theorem gN {x : Str} (h : WE X B ex (.Name x pos) Q ss M) : WE X B ex (.Name x pos) Q ss M := h
theorem gC {x : Const} {j : Nat} (h : WE X B ex (.Constant x j pos) Q ss M) : WE X B ex (.Constant x j pos) Q ss M := h
theorem gO {op : Operator} (h : WE X B ex (.BinOp a op b pos) Q ss M) : WE X B ex (.BinOp a op b pos) Q ss M := h
theorem gI (h : WE X B ex (.Subscript a b pos) Q ss M) : WE X B ex (.Subscript a b pos) Q ss M := h
theorem gL {kw : List Keyword} (h : WE X B ex (.Call a es kw pos) Q ss M) : WE X B ex (.Call a es kw pos) Q ss M := h
theorem gM {ops : List CmpOp} (h : WE X B ex (.Compare a ops es pos) Q ss M) : WE X B ex (.Compare a ops es pos) Q ss M := h
theorem gR {x : Expr} (h : WS X B ex (.Assign [x] a pos) N ss M) : WS X B ex (.Assign [x] a pos) N ss M := h
end
instance {x : Str} : Decidable (SOk x) := inferInstanceAs (Decidable (_ ∧ _))
/-! ### what the top holds -/
def FnRaw (K : PySem.W.Frag) (x qual : Str) (st : Stmt) (f : Addr) : Prop := ∃ fd : FuncData, Fun K x qual st f fd
def ConS (K : PySem.W.Frag) (x y : Str) : Prop := ∃ t, PySem.W.nsIn K mainGlobals x = some (some (.str y t))
def ConI (K : PySem.W.Frag) (x : Str) (i : Int) : Prop := ∃ t, PySem.W.nsIn K mainGlobals x = some (some (.int i t))
section
variable {K : PySem.W.Frag} {h : Heap} {mg : Str → Option Value}
theorem conS_of {x y : Str} (X : K.In h) (G : h.Ns mainGlobals mg) (c : ConS K x y) : ∃ t, mg x = some (.str y t) := by
  obtain ⟨t, e⟩ := c
  exact ⟨t, PySem.W.mg_of X G e⟩
theorem conI_of {x : Str} {i : Int} (X : K.In h) (G : h.Ns mainGlobals mg) (c : ConI K x i) : ∃ t, mg x = some (.int i t) := by
  obtain ⟨t, e⟩ := c
  exact ⟨t, PySem.W.mg_of X G e⟩
theorem fnraw {x qual : Str} {st : Stmt} {f : Addr} {oc : Value} {od an : Option Addr} {osl : Array (Option Value)} {kV doc pm cdv ct : Value} (l : K.lookup f = some ⟨oc, od, .func (PySem.W.fnOf x qual (defArgs st) (defBody st) (defScope st) .none kV doc pm an cdv ct), osl⟩)
    (c : PySem.W.codeIn K cdv qual = true) (k : PySem.W.keepIn K (.ref f) = true) : FnRaw K x qual st f := ⟨_, fun_mk l c k⟩
theorem oexc {C : Addr} {nm q : Str} {N : Addr} {bs bm : List Value} {sn : List Str} {sub : List Value} {ab : Bool} {col : Option Bool} {dd : Option Addr} {m0 m1 m2 m3 m5 : Option Value}
    (xL : K.lookup C = some (excClassObj nm q C N bs bm true sn sub ab col dd m0 m1 m2 m3 m5 "ValueError.__new__")) (xr : PySem.HandSPX.refsVE bm = true)
    (sa : PySem.W.findIn K (.ref C) "__setattr__" = some (some (.builtin "object.__setattr__"))) (eC : PySem.W.subIn K (.ref C) (.type "BaseException") = some true) (tC : PySem.W.typeIn K (.ref C) = some (.type "type")) (kC : PySem.W.keepIn K (.ref C) = true) : OexC K C :=
  ⟨⟨nm, q, N, bs, bm, sn, sub, ab, col, dd, m0, m1, m2, m3, m5, xL, xr⟩, sa, eC, tC, kC⟩
end
/-! ### the errors' __init__ -/
section
variable {P : Program} {w : World} {K : PySem.W.Frag} {mg : Str → Option Value} {base : Heap}
end
end Mb

/-! Mb, part 14: the draw that all laws share, plain. -/
namespace Mb
open PySem L2 PyProof.Rows
def dC (st : Int × Int × Int) : Cell := .lst [.int st.1, .int st.2.1, .int st.2.2]
structure DOk (st : Int × Int × Int) : Prop where
  a : 0 ≤ st.1
  b : 0 ≤ st.2.1 ∧ st.2.1 < 2147483647
  c : 0 ≤ st.2.2 ∧ st.2.2 < 2147483647
/-- a state of the draw from any whole number -/
def sp_state : SpD := fun xs M R _ => ∃ n : Int, xs = [.dat (.int n)] ∧ M = [] ∧ ∀ st, DOk st → R (.cel 0) [dC st]
/-- a draw below b: some number below b, the state is changed -/
def sp_digit : SpD := fun xs M R _ => ∃ st b, xs = [.cel 0, .dat (.int b)] ∧ M = [dC st] ∧ DOk st ∧ (0 < b ∧ b < 1073741824) ∧ ∀ st' n, DOk st' → 0 ≤ n → n < b → R (.dat (.int n)) [dC st']
theorem atI_lt {α : Type} {l : List α} {n : Int} (h0 : 0 ≤ n) (h1 : n < l.length) : ∃ c, atI l n = some c := by
  obtain ⟨m, rfl⟩ := Int.eq_ofNat_of_zero_le h0
  have hm : m < l.length := by omega
  exact ⟨l[m], atI_nat (List.getElem?_eq_getElem hm)⟩
theorem atI_mem {α : Type} {l : List α} {n : Int} {c : α} (h : atI l n = some c) : c ∈ l := by
  obtain ⟨j, _, h2, _⟩ := atI_get h
  exact List.mem_of_getElem? h2
theorem size_ge {n : Nat} (h : n ≤ 1000000) : n ≤ sizeLine := Nat.le_trans h (by decide)
theorem ix_str {z : Str} {n : Int} {k : D → Prop} (h0 : 0 ≤ n) (h1 : n < z.cps.size) (h : ∀ c, c ∈ z.cps.toList → k (.str ⟨#[c]⟩)) : ixD (.str z) (.int n) k := by
  obtain ⟨c, e⟩ := atI_lt (l := z.cps.toList) h0 (by simpa using h1)
  exact ixS e (h c (atI_mem e))
theorem ix_lst {ds : List D} {n : Int} {k : D → Prop} (h0 : 0 ≤ n) (h1 : n < ds.length) (h : ∀ d, d ∈ ds → k d) : ixD (.lst ds) (.int n) k := by
  obtain ⟨c, e⟩ := atI_lt (l := ds) h0 h1
  exact ixL e (h c (atI_mem e))
theorem ix_tup {ds : List D} {n : Int} {k : D → Prop} (h0 : 0 ≤ n) (h1 : n < ds.length) (h : ∀ d, d ∈ ds → k d) : ixD (.tup ds) (.int n) k := by
  obtain ⟨c, e⟩ := atI_lt (l := ds) h0 h1
  exact ixT e (h c (atI_mem e))
theorem rangeD_get {lo : Int} {n i : Nat} {d : D} (h : (rangeD lo n)[i]? = some d) : i < n ∧ d = .int (lo + i) := by
  unfold rangeD at h
  rw [List.getElem?_map] at h
  cases e : (List.range n)[i]? with
  | none => rw [e] at h; cases h
  | some j =>
    rw [e] at h
    obtain ⟨h1, h2⟩ := List.getElem?_eq_some_iff.mp e
    simp at h1 h2
    subst h2
    exact ⟨h1, (Option.some.inj h).symm⟩
theorem rangeD_len {lo : Int} {n : Nat} : (rangeD lo n).length = n := by unfold rangeD; simp
/-- a text of n signs at most -/
def sp_plain : SpD := fun xs M R _ => ∃ st n, xs = [.cel 0, .dat (.int n)] ∧ M = [dC st] ∧ DOk st ∧ (0 ≤ n ∧ n ≤ 100) ∧ ∀ st' z, DOk st' → z.length ≤ 100 → R (.dat (.str z)) [dC st']
/-- any text, drawn -/
def sp_text : SpD := fun xs M R _ => ∃ st, xs = [.cel 0] ∧ M = [dC st] ∧ DOk st ∧ ∀ st' z, DOk st' → z.length ≤ 300 → R (.dat (.str z)) [dC st']
end Mb

/-! Mb, part 15: what can be called, bundled. -/
namespace Mb
open PySem L2 PyProof.Rows
section
variable (P : Program) (w : World) (K : PySem.W.Frag) (mg : Str → Option Value) (base : Heap)
/-- the module's def x keeps S (n cells handed in, k levels) -/
def Cal (x : Str) (k n : Nat) (S : SpD) : Prop := ∃ f fd ps, FnOk P w K mg base (L2.CX P w) k f fd ps (spOf K n S) ∧ mg x = some (.ref f) ∧ PySem.W.keepIn K (.ref f) = true ∧ Binds K fd ps []
/-- the method m of the class C -/
def Mtd (C : Addr) (m : Str) (k n : Nat) (S : SpD) : Prop := ∃ f fd ps, Cls K C ∧ Meth K C m f ∧ FnOk P w K mg base (L2.CX P w) k f fd ps (spOf K n S) ∧ Binds K fd ps []
/-- C(..) -/
def Mkr (x : Str) (C : Addr) (k : Nat) (S : SpD) : Prop := ∃ f fd ps, Mk K C f ∧ FnOk P w K mg base (L2.CX P w) k f fd ps (spOf K 1 S) ∧ mg x = some (.ref C) ∧ Binds K fd ps []
/-- D.m(self, ..) -/
def Clm (x : Str) (m : Str) (k n : Nat) (S : SpD) : Prop := ∃ C f fd ps mc, mg x = some (.ref C) ∧ ClX.CRead K C mc ∧ ClX.CVal K C mc m (.ref f) (.ref f) ∧ PySem.W.keepIn K (.ref f) = true ∧ FnOk P w K mg base (L2.CX P w) k f fd ps (spOf K n S) ∧ Binds K fd ps []
/-- raise x(v): its one field f -/
def Rai (x : Str) (C : Addr) (f : Str) : Prop := ∃ fI fd y, ErrC K mg x C fI ∧ PySem.W.findIn K (.ref C) f = some none ∧ FnOk P w K mg base CX0 1 fI fd ["self", y] (spX1 K f) ∧ Binds K fd ["self", y] []
def Rai2 (x : Str) (C : Addr) (f g : Str) : Prop := ∃ fI fd y z, ErrC K mg x C fI ∧ (PySem.W.findIn K (.ref C) f = some none ∧ PySem.W.findIn K (.ref C) g = some none) ∧ FnOk P w K mg base CX0 1 fI fd ["self", y, z] (spX2 K f g) ∧ Binds K fd ["self", y, z] []
end
section
variable {X : Cx} {B : Base} {ex : XD} {ss : Sst} {M : Mem} {a b e o : Expr} {es : List Expr} {pos p p2 apos : Pos} {Q : SV → Mem → Prop} {N : Nd} {x : Str} {k n : Nat} {S : SpD} {C : Addr} {m : Str}
theorem we_own (F : Cal X.prog X.w X.K X.mg X.base x k n S) (hr : Room k X.A) (hg : Gl X x) (h : WA X B ex (e :: es) (fun xs M1 => CallQ n S xs M1 Q ex ss) ss M)
    (hdb : (x == ("__debug__" : Str)) = false := by decide) (he : starEach (e :: es) X.env = (false, eval e X.env) :: starEach es X.env := by rfl) (hpl : (backTo pos (starEach es X.env)).any (·.1) = false := by rfl) : WE X B ex (.Call (.Name x p) (e :: es) [] pos) Q ss M := by
  obtain ⟨f, fd, ps, F, hm, hk, hb⟩ := F
  refine we_call (dvs := []) (dxs := []) (ds := []) F hr hm hk hb .nil (fun _ _ => .nil) hg ?_ hdb he hpl
  refine .mk fun ck G A H σ w sl Kq kq => ?_
  exact h ck G A H σ w sl Kq fun vs xs G' A' M' H' e1 w' s q => kq vs xs G' A' M' H' e1 w' s (by show CallQ n S (xs ++ []) M' Q ex ss; rw [List.append_nil]; exact q)
theorem we_mtd {pl : Sem Bool} (F : Mtd X.prog X.w X.K X.mg X.base C m k n S) (hr : Room k X.A)
    (h : WE X B ex o (fun x M1 => insS M1 x C m ∧ WA X B ex (e :: es) (fun xs M2 => CallQ n S (x :: xs) M2 Q ex ss) ss M1) ss M)
    (hst : starEach (e :: es) X.env = (false, eval e X.env) :: starEach es X.env := by rfl) (hpl : (backTo pos (starEach es X.env)).any (·.1) = false := by rfl)
    (ht : eval (.Call (.Attribute o m apos) (e :: es) [] pos) X.env = (do
      let ov ← eval o X.env
      standAt apos.atName
      let (f, first) ← holding [ov] (getMethod ov m pl)
      callWith pos f first (backTo pos (starEach (e :: es) X.env)) (backToKw pos (keywordEach [] X.env))) := by rfl) :
    WE X B ex (.Call (.Attribute o m apos) (e :: es) [] pos) Q ss M := by
  obtain ⟨f, fd, ps, cl, hm, F, hb⟩ := F
  exact we_meth cl hm F hr hb h hst hpl ht
theorem we_mtd0 {pl : Sem Bool} (F : Mtd X.prog X.w X.K X.mg X.base C m k n S) (hr : Room k X.A)
    (h : WE X B ex o (fun x M1 => insS M1 x C m ∧ CallQ n S [x] M1 Q ex ss) ss M)
    (ht : eval (.Call (.Attribute o m apos) [] [] pos) X.env = (do
      let ov ← eval o X.env
      standAt apos.atName
      let (f, first) ← holding [ov] (getMethod ov m pl)
      callWith pos f first (backTo pos (starEach [] X.env)) (backToKw pos (keywordEach [] X.env))) := by rfl) :
    WE X B ex (.Call (.Attribute o m apos) [] [] pos) Q ss M := by
  obtain ⟨f, fd, ps, cl, hm, F, hb⟩ := F
  exact we_meth0 cl hm F hr hb h ht
theorem we_mkr (F : Mkr X.prog X.w X.K X.mg X.base x C k S) (hr : Room (k + 1) X.A) (hg : Gl X x) (h : WA X B ex (e :: es) (fun xs M1 => MakeQ S C xs M1 Q ex ss) ss M)
    (hdb : (x == ("__debug__" : Str)) = false := by decide) (he : starEach (e :: es) X.env = (false, eval e X.env) :: starEach es X.env := by rfl) (hpl : (backTo pos (starEach es X.env)).any (·.1) = false := by rfl) : WE X B ex (.Call (.Name x p) (e :: es) [] pos) Q ss M := by
  obtain ⟨f, fd, ps, Mk0, F, hm, hb⟩ := F
  refine we_make (dvs := []) (dxs := []) (ds := []) Mk0 F hr hm hb .nil (fun _ _ => .nil) hg ?_ hdb he hpl
  refine .mk fun ck G A H σ w sl Kq kq => ?_
  exact h ck G A H σ w sl Kq fun vs xs G' A' M' H' e1 w' s q => kq vs xs G' A' M' H' e1 w' s (by show MakeQ S C (xs ++ []) M' Q ex ss; rw [List.append_nil]; exact q)
theorem we_clm {pl : Sem Bool} (F : Clm X.prog X.w X.K X.mg X.base x m k n S) (hr : Room k X.A) (hg : Gl X x) (h : WA X B ex (e :: es) (fun xs M1 => CallQ n S xs M1 Q ex ss) ss M)
    (hdb : (x == ("__debug__" : Str)) = false := by decide) (hst : starEach (e :: es) X.env = (false, eval e X.env) :: starEach es X.env := by rfl) (hpl : (backTo pos (starEach es X.env)).any (·.1) = false := by rfl)
    (ht : eval (.Call (.Attribute (.Name x p) m apos) (e :: es) [] pos) X.env = (do
      let ov ← eval (.Name x p) X.env
      standAt apos.atName
      let (f, first) ← holding [ov] (getMethod ov m pl)
      callWith pos f first (backTo pos (starEach (e :: es) X.env)) (backToKw pos (keywordEach [] X.env))) := by rfl) :
    WE X B ex (.Call (.Attribute (.Name x p) m apos) (e :: es) [] pos) Q ss M := by
  obtain ⟨C, f, fd, ps, mc, hm, cr, cv, hk, F, hb⟩ := F
  exact we_cls hm hg cr cv hk F hr hb h hdb hst hpl ht
theorem ws_rai {f : Str} (F : Rai X.prog X.w X.K X.mg X.base x C f) (hr : Room 2 X.A) (hc : X.calm = true) (hg : Gl X x) (h : WA X B ex [e] (fun xs M1 => one1 xs fun d => ex C [(f, d)] ss M1) ss M)
    (hdb : (x == ("__debug__" : Str)) = false := by decide) (he : starEach [e] X.env = (false, eval e X.env) :: starEach [] X.env := by rfl) (hpl : (backTo pos (starEach [] X.env)).any (·.1) = false := by rfl) :
    WS X B ex (.Raise (some (.Call (.Name x p) [e] [] pos)) none p2) N ss M := by
  obtain ⟨fI, fd, y, T, hno, F, hb⟩ := F
  exact ws_raise1 hc T hno F hr hb hg h hdb he hpl
theorem ws_rai2 {f g : Str} (F : Rai2 X.prog X.w X.K X.mg X.base x C f g) (hr : Room 2 X.A) (hc : X.calm = true) (hg : Gl X x) (h : WA X B ex [a, b] (fun xs M1 => ∃ d1 d2, xs = [.dat d1, .dat d2] ∧ ex C [(g, d2), (f, d1)] ss M1) ss M)
    (hdb : (x == ("__debug__" : Str)) = false := by decide) (he : starEach [a, b] X.env = (false, eval a X.env) :: starEach [b] X.env := by rfl) (hpl : (backTo pos (starEach [b] X.env)).any (·.1) = false := by rfl) :
    WS X B ex (.Raise (some (.Call (.Name x p) [a, b] [] pos)) none p2) N ss M := by
  obtain ⟨fI, fd, y, z, T, hno, F, hb⟩ := F
  exact ws_raise2 hc T hno F hr hb hg h hdb he hpl
end
section
variable {X : Cx} {B : Base} {ex : XD} {ss : Sst} {M : Mem} {a b e elt : Expr} {es : List Expr} {pos : Pos} {Q : SV → Mem → Prop} {QB : Bool → Mem → Prop} {scope : Scope}
theorem we_gI {x : Str} {i : Int} (hm : ∃ t, X.mg x = some (.int i t)) (hg : Gl X x) (q : Q (.dat (.int i)) M) (hd : (x == ("__debug__" : Str)) = false := by decide) : WE X B ex (.Name x pos) Q ss M := by
  obtain ⟨t, hm⟩ := hm
  exact we_globI hg hm q hd
theorem we_gS {x y : Str} (hm : ∃ t, X.mg x = some (.str y t)) (hg : Gl X x) (hz : SOk y) (q : Q (.dat (.str y)) M) (hd : (x == ("__debug__" : Str)) = false := by decide) : WE X B ex (.Name x pos) Q ss M := by
  obtain ⟨t, hm⟩ := hm
  exact we_globS hg hm hz q hd
theorem gTc {kw : List Keyword} (h : WT X B ex (.Call a es kw pos) QB ss M) : WT X B ex (.Call a es kw pos) QB ss M := h
theorem on1 {d : D} {k : D → Prop} (h : k d) : one1 [.dat d] k := ⟨h⟩
theorem dinS {z : Str} {kvs : List (Key × D)} {k : Bool → Prop} (h : k (valD kvs (Sum.inr z)).isSome) : dinD (.str z) (.dic kvs) k := ⟨h⟩
theorem dinI {z : Int} {kvs : List (Key × D)} {k : Bool → Prop} (h : k (valD kvs (Sum.inl z)).isSome) : dinD (.int z) (.dic kvs) k := ⟨h⟩
theorem cdc {i : Nat} {ds : List (Key × D)} {k : Nat → List (Key × D) → Prop} (e : M[i]? = some (.dic ds)) (h : k i ds) : cellDc M (.cel i) k := by
  refine ⟨?_⟩
  unfold cellDc0
  simp only [e]
  exact h
theorem cl1 {i : Nat} {ds : List D} {k : Nat → List D → Prop} (e : M[i]? = some (.lst ds)) (h : k i ds) : cellL M (.cel i) k := by
  refine ⟨?_⟩
  unfold cellL0
  simp only [e]
  exact h
theorem gNa (x : Str) (h : WE X B ex (.Name x pos) Q ss M) : WE X B ex (.Name x pos) Q ss M := h
theorem inSs {c : Nat} {z : Str} (h : QB (decide (c ∈ z.cps.toList)) M) : in2t false M (.dat (.str ⟨#[c]⟩)) (.dat (.str z)) QB := ⟨w1d (w1d (inD_sign (k := fun b => QB (if false = true then !b else b) M) h))⟩
theorem niSs {c : Nat} {z : Str} (h : QB (!decide (c ∈ z.cps.toList)) M) : in2t true M (.dat (.str ⟨#[c]⟩)) (.dat (.str z)) QB := ⟨w1d (w1d (inD_sign (k := fun b => QB (if true = true then !b else b) M) h))⟩
theorem inSe {c : Nat} {z : Str} (h : Q (.dat (.bl (decide (c ∈ z.cps.toList)))) M) : in2 false M (.dat (.str ⟨#[c]⟩)) (.dat (.str z)) Q := ⟨w1d (w1d (inD_sign (k := fun b => Q (.dat (.bl (if false = true then !b else b))) M) h))⟩
theorem niSe {c : Nat} {z : Str} (h : Q (.dat (.bl (!decide (c ∈ z.cps.toList)))) M) : in2 true M (.dat (.str ⟨#[c]⟩)) (.dat (.str z)) Q := ⟨w1d (w1d (inD_sign (k := fun b => Q (.dat (.bl (if true = true then !b else b))) M) h))⟩
theorem inTp {d : D} {ds : List D} (h1 : D.pl 0 d = true) (h2 : ds.all (D.pl 0) = true) (h : QB (ds.any fun z => deq z d) M) : in2t false M (.dat d) (.dat (.tup ds)) QB := by
  refine ⟨w1d (w1d ⟨?_⟩)⟩
  unfold inD0
  cases d <;> first | exact ⟨⟨h1, h2⟩, h⟩ | cases h1
theorem inLs {d : D} {ds : List D} (h1 : D.pl 60 d = true) (h2 : ds.all (D.pl 60) = true) (h : QB (ds.any fun z => deq z d) M) : in2t false M (.dat d) (.dat (.lst ds)) QB := by
  refine ⟨w1d (w1d ⟨?_⟩)⟩
  unfold inD0
  cases d <;> first | exact ⟨⟨h1, h2⟩, h⟩ | cases h1
theorem map_take_succ {α β : Type} (f : α → β) : ∀ {l : List α} {i : Nat} {d : α}, l[i]? = some d → (l.take i).map f ++ [f d] = (l.take (i + 1)).map f
  | [], _, _, h => by simp at h
  | x :: l, 0, d, h => by simp at h; subst h; simp
  | x :: l, i + 1, d, h => by
    have := map_take_succ f (l := l) (i := i) (d := d) (by simpa using h)
    simp only [List.take_succ_cons, List.map_cons, List.cons_append, this]
/-- a comprehension that maps -/
theorem lcq_map {j : Nat} {ds : List D} (f : D → D) (hl : ds.length ≤ sizeLine)
    (ht : ∀ (i : Nat) (d : D), ds[i]? = some d → ∀ (s : Shared) (H : Hp) (C : Addr) (cl : List (Str × Addr)) (fp : List Addr) (B : Base), B.A.length = M.length → WE (Blk X scope s H C cl fp) B exF elt (fun y M4 => y = .dat (f d) ∧ M4 = M) ((wipeD ss [j]).set j (some (.dat d))) M)
    (q : Q (.dat (.lst (ds.map f))) M) : ∃ I, I 0 [] M ∧ LcQ X scope elt [] (tg1 j) [j] ds I Q ss := by
  refine ⟨fun i acc M' => i ≤ ds.length ∧ acc = (ds.take i).map f ∧ M' = M, ⟨Nat.zero_le _, rfl, rfl⟩, ?_, ?_⟩
  · rintro i d acc M' hd ⟨hi, rfl, rfl⟩
    intro s H C cl fp B hB
    have hlt := (List.getElem?_eq_some_iff.mp hd).1
    refine (ht i d hd s H C cl fp B hB).mono ?_
    rintro y M4 ⟨rfl, rfl⟩
    refine ⟨_, rfl, ?_, hlt, map_take_succ f hd, rfl⟩
    rw [List.length_map, List.length_take]
    omega
  · rintro acc M' ⟨_, rfl, rfl⟩
    rw [List.take_length]
    exact q
theorem lcq_map2 {j j' : Nat} {ds : List D} (f : D → D) (hl : ds.length ≤ sizeLine)
    (ht : ∀ (i : Nat) (d : D), ds[i]? = some d → ∃ a b, d = .tup [a, b] ∧ ∀ (s : Shared) (H : Hp) (C : Addr) (cl : List (Str × Addr)) (fp : List Addr) (B : Base), B.A.length = M.length → WE (Blk X scope s H C cl fp) B exF elt (fun y M4 => y = .dat (f d) ∧ M4 = M) (((wipeD ss [j, j']).set j (some (.dat a))).set j' (some (.dat b))) M)
    (q : Q (.dat (.lst (ds.map f))) M) : ∃ I, I 0 [] M ∧ LcQ X scope elt [] (tg2 j j') [j, j'] ds I Q ss := by
  refine ⟨fun i acc M' => i ≤ ds.length ∧ acc = (ds.take i).map f ∧ M' = M, ⟨Nat.zero_le _, rfl, rfl⟩, ?_, ?_⟩
  · rintro i d acc M' hd ⟨hi, rfl, rfl⟩
    have hlt := (List.getElem?_eq_some_iff.mp hd).1
    obtain ⟨a, b, e, ht⟩ := ht i d hd
    refine ⟨a, b, e, ?_⟩
    intro s H C cl fp B hB
    refine (ht s H C cl fp B hB).mono ?_
    rintro y M4 ⟨rfl, rfl⟩
    refine ⟨_, rfl, ?_, hlt, map_take_succ f hd, rfl⟩
    rw [List.length_map, List.length_take]
    omega
  · rintro acc M' ⟨_, rfl, rfl⟩
    rw [List.take_length]
    exact q
end
end Mb

/-! Mb, part 16: the script that a law is handed. -/
namespace Mb
open PySem L2 PyProof.Rows
/-- the script: a list of ours to read, or one that the top holds -/
def Scr (K : PySem.W.Frag) (x : SV) (ns : List Int) : Prop := x = .dat (.lst (ns.map D.int)) ∨ ∃ a, x = .raw (.ref a) ∧ ∀ H : Hp, SqL K H a (ns.map V.int)
theorem Scr.sq {K : PySem.W.Frag} {x : SV} {ns : List Int} {G H : Hp} {A : List Addr} {v : V} (h : Scr K x ns) (s : SvOk K G A v x) (e : Same G H) : ∃ a, v = .ref a ∧ SqL K H a (ns.map V.int) := by
  rcases h with rfl | ⟨a, rfl, h⟩
  · obtain ⟨a, vs, rfl, hr, r⟩ := Rep.s e (show Rep K G v (.lst (ns.map D.int)) from s)
    rw [reps_ints r] at hr
    exact ⟨a, rfl, .inl hr⟩
  · exact ⟨a, s, h H⟩
section
variable {X : Cx} {B : Base} {ex : XD} {ss : Sst} {M : Mem} {a b e : Expr} {es : List Expr} {pos p p2 : Pos} {Q : SV → Mem → Prop}
def rCatQ (K : PySem.W.Frag) : R2 := fun x y H Q => ∃ l b xs zs, x = .ref l ∧ y = .ref b ∧ SqL K H l xs ∧ Rd H b (.lst zs) ∧ xs.length + zs.length ≤ sizeLine ∧ ∀ p, H p = none → Q (.ref p) (upd H p (.lst (xs ++ zs)))
theorem op_catQ : OpR X (binaryOp .Add) (rCatQ X.K) := by
  intro pins s σ H x y v u Q I rx ry h
  obtain ⟨l, b, xs, zs, rfl, rfl, hL, hB, hz, q⟩ := h
  cases rx
  cases ry
  obtain ⟨its, r1, ⟨⟨c1, d1, dt1, sl1⟩, n1, g1, hc1, hd1, hs1⟩, _⟩ := I.list hL
  obtain ⟨_, its2, n2, r2, e2⟩ := hB.ok I.hok
  simp only at hc1 hd1 hs1
  subst hc1
  subst hd1
  subst hs1
  have k1 := r1.length
  have k2 := r2.length
  refine concat_meets (T := "list") (id := "list.__add__") ⟨_, g1, rfl⟩ ⟨_, e2, rfl⟩ noFill_list_add
    seq_list_add PySem.F.slot_list_add PySem.F.entry_list_add (PySem.F.args_list_add_2 _ _)
    (list_addW l b its.toArray its2.toArray n1 n2 none none sl1 _ (by rw [List.size_toArray, List.size_toArray]; omega)) ⟨g1, e2, ?_⟩
  have ea : its.toArray ++ its2.toArray = (its ++ its2).toArray := by simp
  rw [ea]
  exact ⟨.ref _, _, I.lnew (t' := s.toks) (r1.append r2) (by rw [List.length_append]; omega), rfl, q _ I.fresh⟩
theorem ints_app {K : PySem.W.Frag} {G : Hp} {ns : List Int} {vs : List V} {ds : List D} (r : Reps K G vs ds) : Reps K G (ns.map V.int ++ vs) (ns.map D.int ++ ds) := ints_reps.append r
/-- script + [..] -/
theorem we_sadd (h : WE X B ex a (fun x M1 => WE X B ex b (fun y M2 => ∃ ns ds, Scr X.K x ns ∧ y = .dat (.lst ds) ∧ ns.length + ds.length ≤ sizeLine ∧ Q (.dat (.lst (ns.map D.int ++ ds))) M2) ss M1) ss M) : WE X B ex (.BinOp a .Add b pos) Q ss M := by
  refine we_op2 (f := fun M2 x y Q => ∃ ns ds, Scr X.K x ns ∧ y = .dat (.lst ds) ∧ ns.length + ds.length ≤ sizeLine ∧ Q (.dat (.lst (ns.map D.int ++ ds))) M2) op_catQ (fun G A H M x y u v Q Kq w sx sy hh k => ?_) h
  obtain ⟨ns, ds, hs, rfl, hl, q⟩ := hh
  obtain ⟨l, rfl, sq⟩ := hs.sq sx w.gh
  obtain ⟨c, vs, rfl, hr, r⟩ := Rep.s w.gh (show Rep X.K G v (.lst ds) from sy)
  refine ⟨_, _, _, vs, rfl, rfl, sq, hr, by rw [List.length_map, r.length]; exact hl, k.new .refl w q fun p hp => ?_⟩
  exact .lst (.inl upd_same) ((ints_app r).mono (same_upd (w.none hp).2.2))
/-- script[i] -/
theorem we_six (h : WE X B ex a (fun x M1 => WE X B ex b (fun y M2 => ∃ ns i n, Scr X.K x ns ∧ y = .dat (.int i) ∧ atI ns i = some n ∧ Q (.dat (.int n)) M2) ss M1) ss M) (hs : PlainIx b := by intro _ _; rfl) : WE X B ex (.Subscript a b pos) Q ss M := by
  refine .mk fun ck G A H σ w sl Kq k => ?_
  refine te_of (pe_ix ix_seq pe_self pe_self hs) ?_
  refine h ck G A H σ w sl _ fun u x G1 A1 M1 H1 e1 w1 s1 h1 => ?_
  refine h1 ck G1 A1 H1 σ w1 (sl.mono e1) _ fun v y G2 A2 M2 H2 e2 w2 s2 h2 => ?_
  obtain ⟨ns, i, n, hs, rfl, hn, q⟩ := h2
  obtain ⟨l, rfl, sq⟩ := hs.sq (s1.mono e2) w2.gh
  cases s2
  refine .inl ⟨_, _, i, .int n, rfl, rfl, sq, ?_, k _ (.dat _) G2 A2 M2 H2 (e1.trans e2) w2 (Rep.int n) q⟩
  unfold atI at hn ⊢
  rw [List.length_map]
  cases e : ixN ns.length i with
  | none => simp [e] at hn
  | some j =>
    simp only [e, Option.bind_some] at hn ⊢
    rw [List.getElem?_map, hn]
    rfl
/-- len(script) -/
theorem we_slen (hm : X.mg "len" = none) (hg : Gl X "len") (h : WA X B ex (e :: es) (fun xs M1 => ∃ x ns, xs = [x] ∧ Scr X.K x ns ∧ Q (.dat (.int (ns.length : Int))) M1) ss M)
    (he : starEach (e :: es) X.env = (false, eval e X.env) :: starEach es X.env := by rfl) (hpl : (backTo pos (starEach es X.env)).any (·.1) = false := by rfl) : WE X B ex (.Call (.Name "len" p) (e :: es) [] pos) Q ss M := by
  refine we_cb (f := fun M1 xs Q => ∃ x ns, xs = [x] ∧ Scr X.K x ns ∧ Q (.dat (.int (ns.length : Int))) M1) call_len_seq (fun G A H M xs vs Q Kq w r h k => ?_) hm (by decide +kernel) hg h (he := he) (hpl := hpl)
  obtain ⟨x, ns, rfl, hs, q⟩ := h
  cases r with
  | cons s r =>
    cases r
    obtain ⟨l, rfl, sq⟩ := hs.sq s w.gh
    refine ⟨_, _, rfl, .inl sq, ?_⟩
    rw [List.length_map]
    exact k.flat .refl w (.int _) q
/-- script[i:j] -/
theorem we_ssl {lo hi : Option Expr} (h : WE X B ex e (fun x M1 => WO X B ex lo (fun l M2 => WO X B ex hi (fun u M3 => ∃ ns, Scr X.K x ns ∧ Q (.dat (.lst (cutD (ns.map D.int) l u))) M3) ss M2) ss M1) ss M) : WE X B ex (.Subscript e (.Slice lo hi none p2) pos) Q ss M := by
  refine .mk fun ck G A H σ w sl Kq k => ?_
  refine te_of (pe_slice sl_list pe_self po_self po_self) ?_
  refine h ck G A H σ w sl _ fun v x G1 A1 M1 H1 e1 w1 s1 h1 => ?_
  refine WO.goes ck h1 w1 (sl.mono e1) fun l G2 A2 M2 H2 e2 w2 h2 => ?_
  refine WO.goes ck h2 w2 (sl.mono (e1.trans e2)) fun u G3 A3 M3 H3 e3 w3 h3 => ?_
  obtain ⟨ns, hs, q⟩ := h3
  obtain ⟨c, rfl, sq⟩ := hs.sq (s1.mono (e2.trans e3)) w3.gh
  refine ⟨_, _, rfl, sq, fun p hp => ?_⟩
  have k' : VPost X.K B G3 A3 Q Kq := fun v x G' A' M' H' e => k v x G' A' M' H' ((e1.trans (e2.trans e3)).trans e)
  refine k'.new .refl w3 q (fun p hp => ?_) p hp
  exact .lst (.inl upd_same) ((cutV_reps ints_reps l u).mono (same_upd (w3.none hp).2.2))
end
/-! ### the law's own promise -/
def sp_law (K : PySem.W.Frag) : SpD := fun xs M R _ => ∃ x ns, xs = [x] ∧ Scr K x ns ∧ ns.length ≤ 63 ∧ M = [] ∧ R (.dat (.bl true)) []
theorem law_sp {K : PySem.W.Frag} {H : Hp} {a : Addr} {ns : List Int} (hl : ns.length ≤ 63) (h : SqL K H a (ns.map V.int)) : spOf K 0 (sp_law K) [.ref a] H (fun v _ => v = .bl true) fun _ _ _ => False := by
  have w : Wd K ⟨H, [], H⟩ H [] [] H := ⟨fun _ _ e => e, fun _ _ e => e, fun _ _ e _ => e, fun _ _ e => .inl e, List.nodup_nil, ⟨[], rfl⟩, fun _ m => (by cases m), fun _ m => (by cases m), .nil⟩
  have fin : ∀ v x G' A' M' H', Wd K ⟨H, [], H⟩ G' A' M' H' → SvOk K G' A' v x → M'.all (Cell.lt 0) = true → (x = .dat (.bl true)) → v = .bl true := fun v x G' A' M' H' _ s _ q => by
    subst q
    cases s
    rfl
  rcases h with h | h
  · refine ⟨[.dat (.lst (ns.map D.int))], [], H, [], rfl, w, .cons (Rep.lst h ints_reps) .nil, fun x _ => x = .dat (.bl true), fun _ _ _ => False, ⟨_, ns, rfl, .inl rfl, hl, rfl, rfl⟩, fin, fun _ _ _ _ _ _ _ _ _ _ q => q⟩
  · refine ⟨[.raw (.ref a)], [], H, [], rfl, w, .cons rfl .nil, fun x _ => x = .dat (.bl true), fun _ _ _ => False, ⟨_, ns, rfl, .inr ⟨a, rfl, fun _ => .inr h⟩, hl, rfl, rfl⟩, fin, fun _ _ _ _ _ _ _ _ _ _ q => q⟩
end Mb

namespace Mb
open PySem L2 PyProof.Rows
def topS (i : Nat) : Stmt := PySem.Challenge.pw_manyboard_k01_names_at_each_door.main.body.getD i (.Pass ⟨0, 0, 0, 0⟩)
abbrev s_BadCount_init : Stmt := inClass (topS 3) 0
theorem sc_BadCount_init : FnScope ["self", "what", "count"] ["self", "what", "count"] (defScope s_BadCount_init) := ⟨rfl, rfl, rfl, by decide +kernel, rfl, by decide +kernel, by decide +kernel⟩
abbrev s_NoName_init : Stmt := inClass (topS 4) 0
theorem sc_NoName_init : FnScope ["self", "name"] ["self", "name"] (defScope s_NoName_init) := ⟨rfl, rfl, rfl, by decide +kernel, rfl, by decide +kernel, by decide +kernel⟩
abbrev s_Twice_init : Stmt := inClass (topS 5) 0
theorem sc_Twice_init : FnScope ["self", "name"] ["self", "name"] (defScope s_Twice_init) := ⟨rfl, rfl, rfl, by decide +kernel, rfl, by decide +kernel, by decide +kernel⟩
abbrev s_NoCell_init : Stmt := inClass (topS 6) 0
theorem sc_NoCell_init : FnScope ["self", "name"] ["self", "name"] (defScope s_NoCell_init) := ⟨rfl, rfl, rfl, by decide +kernel, rfl, by decide +kernel, by decide +kernel⟩
abbrev s_is_name : Stmt := topS 11
theorem sc_is_name : FnScope ["text", "sign"] ["text"] (defScope s_is_name) := ⟨rfl, rfl, rfl, by decide +kernel, rfl, by decide +kernel, by decide +kernel⟩
abbrev s_asked_names : Stmt := topS 12
theorem sc_asked_names : FnScope ["texts", "text"] ["texts"] (defScope s_asked_names) := ⟨rfl, rfl, rfl, by decide +kernel, rfl, by decide +kernel, by decide +kernel⟩
abbrev s_asked_once : Stmt := topS 13
theorem sc_asked_once : FnScope ["names", "seen", "name"] ["names"] (defScope s_asked_once) := ⟨rfl, rfl, rfl, by decide +kernel, rfl, by decide +kernel, by decide +kernel⟩
abbrev s_asked_cells : Stmt := topS 18
theorem sc_asked_cells : FnScope ["cells", "name", "values"] ["cells"] (defScope s_asked_cells) := ⟨rfl, rfl, rfl, by decide +kernel, rfl, by decide +kernel, by decide +kernel⟩
abbrev s_Board_init : Stmt := inClass (topS 19) 0
theorem sc_Board_init : FnScope ["self", "cells", "name", "values"] ["self", "cells"] (defScope s_Board_init) := ⟨rfl, rfl, rfl, by decide +kernel, rfl, by decide +kernel, by decide +kernel⟩
abbrev s_Board_cells : Stmt := inClass (topS 19) 1
theorem sc_Board_cells : FnScope ["self"] ["self"] (defScope s_Board_cells) := ⟨rfl, rfl, rfl, by decide +kernel, rfl, by decide +kernel, by decide +kernel⟩
abbrev s_Board_values_of : Stmt := inClass (topS 19) 2
theorem sc_Board_values_of : FnScope ["self", "cell"] ["self", "cell"] (defScope s_Board_values_of) := ⟨rfl, rfl, rfl, by decide +kernel, rfl, by decide +kernel, by decide +kernel⟩
abbrev s_asked_size : Stmt := topS 23
theorem sc_asked_size : FnScope ["size", "deep"] ["size", "deep"] (defScope s_asked_size) := ⟨rfl, rfl, rfl, by decide +kernel, rfl, by decide +kernel, by decide +kernel⟩
abbrev s_OnCell_init : Stmt := inClass (topS 25) 0
theorem sc_OnCell_init : FnScope ["self", "cell", "value"] ["self", "cell", "value"] (defScope s_OnCell_init) := ⟨rfl, rfl, rfl, by decide +kernel, rfl, by decide +kernel, by decide +kernel⟩
abbrev s_Mark_init : Stmt := inClass (topS 28) 0
theorem sc_Mark_init : FnScope ["self", "name"] ["self", "name"] (defScope s_Mark_init) := ⟨rfl, rfl, rfl, by decide +kernel, rfl, by decide +kernel, by decide +kernel⟩
abbrev s_If_init : Stmt := inClass (topS 30) 0
theorem sc_If_init : FnScope ["self", "cell", "value", "yes", "no"] ["self", "cell", "value", "yes", "no"] (defScope s_If_init) := ⟨rfl, rfl, rfl, by decide +kernel, rfl, by decide +kernel, by decide +kernel⟩
abbrev s_While_init : Stmt := inClass (topS 31) 0
theorem sc_While_init : FnScope ["self", "cell", "value", "body"] ["self", "cell", "value", "body"] (defScope s_While_init) := ⟨rfl, rfl, rfl, by decide +kernel, rfl, by decide +kernel, by decide +kernel⟩
abbrev s_Program_init : Stmt := inClass (topS 32) 0
theorem sc_Program_init : FnScope ["self", "statements"] ["self", "statements"] (defScope s_Program_init) := ⟨rfl, rfl, rfl, by decide +kernel, rfl, by decide +kernel, by decide +kernel⟩
abbrev s_Program_size : Stmt := inClass (topS 32) 1
theorem sc_Program_size : FnScope ["self", "statement"] ["self"] (defScope s_Program_size) := ⟨rfl, rfl, rfl, by decide +kernel, rfl, by decide +kernel, by decide +kernel⟩
abbrev s_Program_deep : Stmt := inClass (topS 32) 2
theorem sc_Program_deep : FnScope ["self", "found", "statement", "part"] ["self"] (defScope s_Program_deep) := ⟨rfl, rfl, rfl, by decide +kernel, rfl, by decide +kernel, by decide +kernel⟩
abbrev s_law_state : Stmt := topS 35
theorem sc_law_state : FnScope ["_law_cell"] ["_law_cell"] (defScope s_law_state) := ⟨rfl, rfl, rfl, by decide +kernel, rfl, by decide +kernel, by decide +kernel⟩
abbrev s_law_digit : Stmt := topS 36
theorem sc_law_digit : FnScope ["_law_state_here", "_law_base", "_law_found_here", "_law_more"] ["_law_state_here", "_law_base"] (defScope s_law_digit) := ⟨rfl, rfl, rfl, by decide +kernel, rfl, by decide +kernel, by decide +kernel⟩
abbrev s_law_plain : Stmt := topS 37
theorem sc_law_plain : FnScope ["_law_s", "_law_many", "_law_some", "_law_found_here", "_law_k"] ["_law_s", "_law_many"] (defScope s_law_plain) := ⟨rfl, rfl, rfl, by decide +kernel, rfl, by decide +kernel, by decide +kernel⟩
abbrev s_law_text : Stmt := topS 38
theorem sc_law_text : FnScope ["_law_s", "_law_kind", "_law_many", "_law_other", "_law_text_here", "_law_at"] ["_law_s"] (defScope s_law_text) := ⟨rfl, rfl, rfl, by decide +kernel, rfl, by decide +kernel, by decide +kernel⟩
abbrev s_law_is_name : Stmt := topS 39
theorem sc_law_is_name : FnScope ["_law_text_here", "_law_letters", "_law_sign"] ["_law_text_here"] (defScope s_law_is_name) := ⟨rfl, rfl, rfl, by decide +kernel, rfl, by decide +kernel, by decide +kernel⟩
abbrev s_law_fields : Stmt := topS 40
theorem sc_law_fields : FnScope ["_law_one"] ["_law_one"] (defScope s_law_fields) := ⟨rfl, rfl, rfl, by decide +kernel, rfl, by decide +kernel, by decide +kernel⟩
abbrev s_law_made : Stmt := topS 41
theorem sc_law_made : FnScope ["_law_door", "_law_text_here", "_law_values"] ["_law_door", "_law_text_here"] (defScope s_law_made) := ⟨rfl, rfl, rfl, by decide +kernel, rfl, by decide +kernel, by decide +kernel⟩
abbrev s_law_found : Stmt := topS 42
theorem sc_law_found : FnScope ["_law_door", "_law_text_here", "_law_found_here", "e"] ["_law_door", "_law_text_here"] (defScope s_law_found) := ⟨rfl, rfl, rfl, by decide +kernel, rfl, by decide +kernel, by decide +kernel⟩
abbrev s_law : Stmt := topS 43
theorem sc_law : FnScope ["_law_script", "_law_cell", "_law_s", "_law_door", "_law_text_here", "_law_due"] ["_law_script"] (defScope s_law) := ⟨rfl, rfl, rfl, by decide +kernel, rfl, by decide +kernel, by decide +kernel⟩
/-- what the top holds -/
structure Tx (K : PySem.W.Frag) (mg : Str → Option Value) where
  C_Program : Addr
  C_While : Addr
  C_If : Addr
  C_Mark : Addr
  C_Wait : Addr
  C_Write : Addr
  C_OnCell : Addr
  C_Statement : Addr
  C_Board : Addr
  C_NoCell : Addr
  C_Twice : Addr
  C_NoName : Addr
  C_BadCount : Addr
  C_BoardError : Addr
  z_len : mg "len" = none
  z_abs : mg "abs" = none
  z_int : mg "int" = none
  z_max : mg "max" = none
  z_list : mg "list" = none
  z_tuple : mg "tuple" = none
  z_sum : mg "sum" = none
  z_all : mg "all" = none
  z_range : mg "range" = none
  z_isinstance : mg "isinstance" = none
  z_ValueError : mg "ValueError" = none
  c_LETTERS : ∃ t, mg "LETTERS" = some (.str "abcdefghijklmnopqrstuvwxyz" t)
  c_FIGURES : ∃ t, mg "FIGURES" = some (.str "0123456789" t)
  c_LONGEST : ∃ t, mg "LONGEST" = some (.int 10 t)
  c_MOST_CELLS : ∃ t, mg "MOST_CELLS" = some (.int 3 t)
  c_LEAST_VALUES : ∃ t, mg "LEAST_VALUES" = some (.int 2 t)
  c_MOST_VALUES : ∃ t, mg "MOST_VALUES" = some (.int 4 t)
  c_MOST_STATEMENTS : ∃ t, mg "MOST_STATEMENTS" = some (.int 24 t)
  c_MOST_DEEP : ∃ t, mg "MOST_DEEP" = some (.int 6 t)
  f_BadCount_init : Addr
  d_BadCount_init : FuncData
  F_BadCount_init : Fun K "__init__" "BadCount.__init__" s_BadCount_init f_BadCount_init d_BadCount_init
  b_BadCount_init : Binds K d_BadCount_init ["self", "what", "count"] []
  f_NoName_init : Addr
  d_NoName_init : FuncData
  F_NoName_init : Fun K "__init__" "NoName.__init__" s_NoName_init f_NoName_init d_NoName_init
  b_NoName_init : Binds K d_NoName_init ["self", "name"] []
  f_Twice_init : Addr
  d_Twice_init : FuncData
  F_Twice_init : Fun K "__init__" "Twice.__init__" s_Twice_init f_Twice_init d_Twice_init
  b_Twice_init : Binds K d_Twice_init ["self", "name"] []
  f_NoCell_init : Addr
  d_NoCell_init : FuncData
  F_NoCell_init : Fun K "__init__" "NoCell.__init__" s_NoCell_init f_NoCell_init d_NoCell_init
  b_NoCell_init : Binds K d_NoCell_init ["self", "name"] []
  f_is_name : Addr
  d_is_name : FuncData
  F_is_name : Fun K "is_name" "is_name" s_is_name f_is_name d_is_name
  b_is_name : Binds K d_is_name ["text"] []
  g_is_name : mg "is_name" = some (.ref f_is_name)
  f_asked_names : Addr
  d_asked_names : FuncData
  F_asked_names : Fun K "asked_names" "asked_names" s_asked_names f_asked_names d_asked_names
  b_asked_names : Binds K d_asked_names ["texts"] []
  g_asked_names : mg "asked_names" = some (.ref f_asked_names)
  f_asked_once : Addr
  d_asked_once : FuncData
  F_asked_once : Fun K "asked_once" "asked_once" s_asked_once f_asked_once d_asked_once
  b_asked_once : Binds K d_asked_once ["names"] []
  g_asked_once : mg "asked_once" = some (.ref f_asked_once)
  f_asked_cells : Addr
  d_asked_cells : FuncData
  F_asked_cells : Fun K "asked_cells" "asked_cells" s_asked_cells f_asked_cells d_asked_cells
  b_asked_cells : Binds K d_asked_cells ["cells"] []
  g_asked_cells : mg "asked_cells" = some (.ref f_asked_cells)
  f_Board_init : Addr
  d_Board_init : FuncData
  F_Board_init : Fun K "__init__" "Board.__init__" s_Board_init f_Board_init d_Board_init
  b_Board_init : Binds K d_Board_init ["self", "cells"] []
  f_Board_cells : Addr
  d_Board_cells : FuncData
  F_Board_cells : Fun K "cells" "Board.cells" s_Board_cells f_Board_cells d_Board_cells
  b_Board_cells : Binds K d_Board_cells ["self"] []
  f_Board_values_of : Addr
  d_Board_values_of : FuncData
  F_Board_values_of : Fun K "values_of" "Board.values_of" s_Board_values_of f_Board_values_of d_Board_values_of
  b_Board_values_of : Binds K d_Board_values_of ["self", "cell"] []
  f_asked_size : Addr
  d_asked_size : FuncData
  F_asked_size : Fun K "asked_size" "asked_size" s_asked_size f_asked_size d_asked_size
  b_asked_size : Binds K d_asked_size ["size", "deep"] []
  g_asked_size : mg "asked_size" = some (.ref f_asked_size)
  f_OnCell_init : Addr
  d_OnCell_init : FuncData
  F_OnCell_init : Fun K "__init__" "OnCell.__init__" s_OnCell_init f_OnCell_init d_OnCell_init
  b_OnCell_init : Binds K d_OnCell_init ["self", "cell", "value"] []
  f_Mark_init : Addr
  d_Mark_init : FuncData
  F_Mark_init : Fun K "__init__" "Mark.__init__" s_Mark_init f_Mark_init d_Mark_init
  b_Mark_init : Binds K d_Mark_init ["self", "name"] []
  f_If_init : Addr
  d_If_init : FuncData
  F_If_init : Fun K "__init__" "If.__init__" s_If_init f_If_init d_If_init
  b_If_init : Binds K d_If_init ["self", "cell", "value", "yes", "no"] []
  f_While_init : Addr
  d_While_init : FuncData
  F_While_init : Fun K "__init__" "While.__init__" s_While_init f_While_init d_While_init
  b_While_init : Binds K d_While_init ["self", "cell", "value", "body"] []
  f_Program_init : Addr
  d_Program_init : FuncData
  F_Program_init : Fun K "__init__" "Program.__init__" s_Program_init f_Program_init d_Program_init
  b_Program_init : Binds K d_Program_init ["self", "statements"] []
  f_Program_size : Addr
  d_Program_size : FuncData
  F_Program_size : Fun K "size" "Program.size" s_Program_size f_Program_size d_Program_size
  b_Program_size : Binds K d_Program_size ["self"] []
  f_Program_deep : Addr
  d_Program_deep : FuncData
  F_Program_deep : Fun K "deep" "Program.deep" s_Program_deep f_Program_deep d_Program_deep
  b_Program_deep : Binds K d_Program_deep ["self"] []
  f_law_state : Addr
  d_law_state : FuncData
  F_law_state : Fun K "_law_state" "_law_state" s_law_state f_law_state d_law_state
  b_law_state : Binds K d_law_state ["_law_cell"] []
  g_law_state : mg "_law_state" = some (.ref f_law_state)
  f_law_digit : Addr
  d_law_digit : FuncData
  F_law_digit : Fun K "_law_digit" "_law_digit" s_law_digit f_law_digit d_law_digit
  b_law_digit : Binds K d_law_digit ["_law_state_here", "_law_base"] []
  g_law_digit : mg "_law_digit" = some (.ref f_law_digit)
  f_law_plain : Addr
  d_law_plain : FuncData
  F_law_plain : Fun K "_law_plain" "_law_plain" s_law_plain f_law_plain d_law_plain
  b_law_plain : Binds K d_law_plain ["_law_s", "_law_many"] []
  g_law_plain : mg "_law_plain" = some (.ref f_law_plain)
  f_law_text : Addr
  d_law_text : FuncData
  F_law_text : Fun K "_law_text" "_law_text" s_law_text f_law_text d_law_text
  b_law_text : Binds K d_law_text ["_law_s"] []
  g_law_text : mg "_law_text" = some (.ref f_law_text)
  f_law_is_name : Addr
  d_law_is_name : FuncData
  F_law_is_name : Fun K "_law_is_name" "_law_is_name" s_law_is_name f_law_is_name d_law_is_name
  b_law_is_name : Binds K d_law_is_name ["_law_text_here"] []
  g_law_is_name : mg "_law_is_name" = some (.ref f_law_is_name)
  f_law_fields : Addr
  d_law_fields : FuncData
  F_law_fields : Fun K "_law_fields" "_law_fields" s_law_fields f_law_fields d_law_fields
  b_law_fields : Binds K d_law_fields ["_law_one"] []
  g_law_fields : mg "_law_fields" = some (.ref f_law_fields)
  f_law_made : Addr
  d_law_made : FuncData
  F_law_made : Fun K "_law_made" "_law_made" s_law_made f_law_made d_law_made
  b_law_made : Binds K d_law_made ["_law_door", "_law_text_here"] []
  g_law_made : mg "_law_made" = some (.ref f_law_made)
  f_law_found : Addr
  d_law_found : FuncData
  F_law_found : Fun K "_law_found" "_law_found" s_law_found f_law_found d_law_found
  b_law_found : Binds K d_law_found ["_law_door", "_law_text_here"] []
  g_law_found : mg "_law_found" = some (.ref f_law_found)
  f_law : Addr
  d_law : FuncData
  F_law : Fun K "law" "law" s_law f_law d_law
  b_law : Binds K d_law ["_law_script"] []
  g_law : mg "law" = some (.ref f_law)
  g_BoardError : mg "BoardError" = some (.ref C_BoardError)
  x_BoardError : XfC K C_BoardError
  e_BoardError : ExcC K C_BoardError
  k_BoardError_BoardError : PySem.W.kitOne K (.ref C_BoardError) (.ref C_BoardError) = some true
  y_BoardError_BoardError : PySem.W.exmOne K (.ref C_BoardError) (.ref C_BoardError) = some true
  k_BoardError_BadCount : PySem.W.kitOne K (.ref C_BoardError) (.ref C_BadCount) = some false
  y_BoardError_BadCount : PySem.W.exmOne K (.ref C_BoardError) (.ref C_BadCount) = some false
  k_BoardError_NoName : PySem.W.kitOne K (.ref C_BoardError) (.ref C_NoName) = some false
  y_BoardError_NoName : PySem.W.exmOne K (.ref C_BoardError) (.ref C_NoName) = some false
  k_BoardError_Twice : PySem.W.kitOne K (.ref C_BoardError) (.ref C_Twice) = some false
  y_BoardError_Twice : PySem.W.exmOne K (.ref C_BoardError) (.ref C_Twice) = some false
  k_BoardError_NoCell : PySem.W.kitOne K (.ref C_BoardError) (.ref C_NoCell) = some false
  y_BoardError_NoCell : PySem.W.exmOne K (.ref C_BoardError) (.ref C_NoCell) = some false
  kV_BoardError : PySem.W.kitOne K (.ref C_BoardError) (.type "ValueError") = some true
  g_BadCount : mg "BadCount" = some (.ref C_BadCount)
  x_BadCount : XfC K C_BadCount
  e_BadCount : ExcC K C_BadCount
  o_BadCount : OexC K C_BadCount
  i_BadCount : PySem.W.findIn K (.ref C_BadCount) "__init__" = some (some (.ref f_BadCount_init))
  t_BadCount : PySem.W.typeIn K (.ref f_BadCount_init) = some (.type "function")
  n_BadCount_what : PySem.W.findIn K (.ref C_BadCount) "what" = some none
  n_BadCount_count : PySem.W.findIn K (.ref C_BadCount) "count" = some none
  k_BadCount_BoardError : PySem.W.kitOne K (.ref C_BadCount) (.ref C_BoardError) = some true
  y_BadCount_BoardError : PySem.W.exmOne K (.ref C_BadCount) (.ref C_BoardError) = some true
  k_BadCount_BadCount : PySem.W.kitOne K (.ref C_BadCount) (.ref C_BadCount) = some true
  y_BadCount_BadCount : PySem.W.exmOne K (.ref C_BadCount) (.ref C_BadCount) = some true
  k_BadCount_NoName : PySem.W.kitOne K (.ref C_BadCount) (.ref C_NoName) = some false
  y_BadCount_NoName : PySem.W.exmOne K (.ref C_BadCount) (.ref C_NoName) = some false
  k_BadCount_Twice : PySem.W.kitOne K (.ref C_BadCount) (.ref C_Twice) = some false
  y_BadCount_Twice : PySem.W.exmOne K (.ref C_BadCount) (.ref C_Twice) = some false
  k_BadCount_NoCell : PySem.W.kitOne K (.ref C_BadCount) (.ref C_NoCell) = some false
  y_BadCount_NoCell : PySem.W.exmOne K (.ref C_BadCount) (.ref C_NoCell) = some false
  kV_BadCount : PySem.W.kitOne K (.ref C_BadCount) (.type "ValueError") = some true
  g_NoName : mg "NoName" = some (.ref C_NoName)
  x_NoName : XfC K C_NoName
  e_NoName : ExcC K C_NoName
  o_NoName : OexC K C_NoName
  i_NoName : PySem.W.findIn K (.ref C_NoName) "__init__" = some (some (.ref f_NoName_init))
  t_NoName : PySem.W.typeIn K (.ref f_NoName_init) = some (.type "function")
  n_NoName_name : PySem.W.findIn K (.ref C_NoName) "name" = some none
  k_NoName_BoardError : PySem.W.kitOne K (.ref C_NoName) (.ref C_BoardError) = some true
  y_NoName_BoardError : PySem.W.exmOne K (.ref C_NoName) (.ref C_BoardError) = some true
  k_NoName_BadCount : PySem.W.kitOne K (.ref C_NoName) (.ref C_BadCount) = some false
  y_NoName_BadCount : PySem.W.exmOne K (.ref C_NoName) (.ref C_BadCount) = some false
  k_NoName_NoName : PySem.W.kitOne K (.ref C_NoName) (.ref C_NoName) = some true
  y_NoName_NoName : PySem.W.exmOne K (.ref C_NoName) (.ref C_NoName) = some true
  k_NoName_Twice : PySem.W.kitOne K (.ref C_NoName) (.ref C_Twice) = some false
  y_NoName_Twice : PySem.W.exmOne K (.ref C_NoName) (.ref C_Twice) = some false
  k_NoName_NoCell : PySem.W.kitOne K (.ref C_NoName) (.ref C_NoCell) = some false
  y_NoName_NoCell : PySem.W.exmOne K (.ref C_NoName) (.ref C_NoCell) = some false
  kV_NoName : PySem.W.kitOne K (.ref C_NoName) (.type "ValueError") = some true
  g_Twice : mg "Twice" = some (.ref C_Twice)
  x_Twice : XfC K C_Twice
  e_Twice : ExcC K C_Twice
  o_Twice : OexC K C_Twice
  i_Twice : PySem.W.findIn K (.ref C_Twice) "__init__" = some (some (.ref f_Twice_init))
  t_Twice : PySem.W.typeIn K (.ref f_Twice_init) = some (.type "function")
  n_Twice_name : PySem.W.findIn K (.ref C_Twice) "name" = some none
  k_Twice_BoardError : PySem.W.kitOne K (.ref C_Twice) (.ref C_BoardError) = some true
  y_Twice_BoardError : PySem.W.exmOne K (.ref C_Twice) (.ref C_BoardError) = some true
  k_Twice_BadCount : PySem.W.kitOne K (.ref C_Twice) (.ref C_BadCount) = some false
  y_Twice_BadCount : PySem.W.exmOne K (.ref C_Twice) (.ref C_BadCount) = some false
  k_Twice_NoName : PySem.W.kitOne K (.ref C_Twice) (.ref C_NoName) = some false
  y_Twice_NoName : PySem.W.exmOne K (.ref C_Twice) (.ref C_NoName) = some false
  k_Twice_Twice : PySem.W.kitOne K (.ref C_Twice) (.ref C_Twice) = some true
  y_Twice_Twice : PySem.W.exmOne K (.ref C_Twice) (.ref C_Twice) = some true
  k_Twice_NoCell : PySem.W.kitOne K (.ref C_Twice) (.ref C_NoCell) = some false
  y_Twice_NoCell : PySem.W.exmOne K (.ref C_Twice) (.ref C_NoCell) = some false
  kV_Twice : PySem.W.kitOne K (.ref C_Twice) (.type "ValueError") = some true
  g_NoCell : mg "NoCell" = some (.ref C_NoCell)
  x_NoCell : XfC K C_NoCell
  e_NoCell : ExcC K C_NoCell
  o_NoCell : OexC K C_NoCell
  i_NoCell : PySem.W.findIn K (.ref C_NoCell) "__init__" = some (some (.ref f_NoCell_init))
  t_NoCell : PySem.W.typeIn K (.ref f_NoCell_init) = some (.type "function")
  n_NoCell_name : PySem.W.findIn K (.ref C_NoCell) "name" = some none
  k_NoCell_BoardError : PySem.W.kitOne K (.ref C_NoCell) (.ref C_BoardError) = some true
  y_NoCell_BoardError : PySem.W.exmOne K (.ref C_NoCell) (.ref C_BoardError) = some true
  k_NoCell_BadCount : PySem.W.kitOne K (.ref C_NoCell) (.ref C_BadCount) = some false
  y_NoCell_BadCount : PySem.W.exmOne K (.ref C_NoCell) (.ref C_BadCount) = some false
  k_NoCell_NoName : PySem.W.kitOne K (.ref C_NoCell) (.ref C_NoName) = some false
  y_NoCell_NoName : PySem.W.exmOne K (.ref C_NoCell) (.ref C_NoName) = some false
  k_NoCell_Twice : PySem.W.kitOne K (.ref C_NoCell) (.ref C_Twice) = some false
  y_NoCell_Twice : PySem.W.exmOne K (.ref C_NoCell) (.ref C_Twice) = some false
  k_NoCell_NoCell : PySem.W.kitOne K (.ref C_NoCell) (.ref C_NoCell) = some true
  y_NoCell_NoCell : PySem.W.exmOne K (.ref C_NoCell) (.ref C_NoCell) = some true
  kV_NoCell : PySem.W.kitOne K (.ref C_NoCell) (.type "ValueError") = some true
  g_Board : mg "Board" = some (.ref C_Board)
  cl_Board : Cls K C_Board
  n_Board_names : NoAttr K C_Board "names"
  n_Board_rows : NoAttr K C_Board "rows"
  mk_Board : Mk K C_Board f_Board_init
  m_Board_cells : Meth K C_Board "cells" f_Board_cells
  m_Board_values_of : Meth K C_Board "values_of" f_Board_values_of
  g_Statement : mg "Statement" = some (.ref C_Statement)
  cl_Statement : Cls K C_Statement
  g_OnCell : mg "OnCell" = some (.ref C_OnCell)
  cl_OnCell : Cls K C_OnCell
  n_OnCell_cell : NoAttr K C_OnCell "cell"
  n_OnCell_value : NoAttr K C_OnCell "value"
  mk_OnCell : Mk K C_OnCell f_OnCell_init
  g_Write : mg "Write" = some (.ref C_Write)
  cl_Write : Cls K C_Write
  n_Write_cell : NoAttr K C_Write "cell"
  n_Write_value : NoAttr K C_Write "value"
  mk_Write : Mk K C_Write f_OnCell_init
  g_Wait : mg "Wait" = some (.ref C_Wait)
  cl_Wait : Cls K C_Wait
  n_Wait_cell : NoAttr K C_Wait "cell"
  n_Wait_value : NoAttr K C_Wait "value"
  mk_Wait : Mk K C_Wait f_OnCell_init
  g_Mark : mg "Mark" = some (.ref C_Mark)
  cl_Mark : Cls K C_Mark
  n_Mark_name : NoAttr K C_Mark "name"
  mk_Mark : Mk K C_Mark f_Mark_init
  g_If : mg "If" = some (.ref C_If)
  cl_If : Cls K C_If
  n_If_yes : NoAttr K C_If "yes"
  n_If_no : NoAttr K C_If "no"
  n_If_cell : NoAttr K C_If "cell"
  n_If_value : NoAttr K C_If "value"
  mk_If : Mk K C_If f_If_init
  g_While : mg "While" = some (.ref C_While)
  cl_While : Cls K C_While
  n_While_body : NoAttr K C_While "body"
  n_While_cell : NoAttr K C_While "cell"
  n_While_value : NoAttr K C_While "value"
  mk_While : Mk K C_While f_While_init
  g_Program : mg "Program" = some (.ref C_Program)
  cl_Program : Cls K C_Program
  n_Program_row : NoAttr K C_Program "row"
  mk_Program : Mk K C_Program f_Program_init
  m_Program_size : Meth K C_Program "size" f_Program_size
  m_Program_deep : Meth K C_Program "deep" f_Program_deep
  cr_OnCell : ClX.CRead K C_OnCell (.type "type")
  cv_OnCell : ClX.CVal K C_OnCell (.type "type") "__init__" (.ref f_OnCell_init) (.ref f_OnCell_init)


section
variable {P : Program} {w : World} {K : PySem.W.Frag} {mg : Str → Option Value} {base : Heap}
local macro_rules | `(tactic| walk_at "cl") => `(tactic| first | exact (‹Tx _ _›).cl_Board | exact (‹Tx _ _›).cl_Statement | exact (‹Tx _ _›).cl_OnCell | exact (‹Tx _ _›).cl_Write | exact (‹Tx _ _›).cl_Wait | exact (‹Tx _ _›).cl_Mark | exact (‹Tx _ _›).cl_If | exact (‹Tx _ _›).cl_While | exact (‹Tx _ _›).cl_Program)
local macro_rules | `(tactic| walk_at "no") => `(tactic| first | exact (‹Tx _ _›).n_Board_names | exact (‹Tx _ _›).n_Board_rows | exact (‹Tx _ _›).n_OnCell_cell | exact (‹Tx _ _›).n_OnCell_value | exact (‹Tx _ _›).n_Write_cell | exact (‹Tx _ _›).n_Write_value | exact (‹Tx _ _›).n_Wait_cell | exact (‹Tx _ _›).n_Wait_value | exact (‹Tx _ _›).n_Mark_name | exact (‹Tx _ _›).n_If_yes | exact (‹Tx _ _›).n_If_no | exact (‹Tx _ _›).n_If_cell | exact (‹Tx _ _›).n_If_value | exact (‹Tx _ _›).n_While_body | exact (‹Tx _ _›).n_While_cell | exact (‹Tx _ _›).n_While_value | exact (‹Tx _ _›).n_Program_row)
local macro_rules | `(tactic| walk_at "na") => `(tactic| first | (refine ⟨⟨?_, ?_⟩, ?_⟩; walk_at "cl"; walk_at "no") | (refine ⟨_, _, _, rfl, rfl, ⟨?_, ?_⟩, ?_⟩; walk_at "cl"; walk_at "no") | (refine ⟨_, _, _, rfl, rfl, ?_, ?_, Nat.le_of_ble_eq_true rfl, ?_⟩; walk_at "cl"; walk_at "no"))
local macro_rules | `(tactic| walk_at "glob") => `(tactic| first
  | (refine gNa "LONGEST" ?_; refine we_gI (‹Tx _ _›).c_LONGEST rfl ?_)
  | (refine gNa "MOST_CELLS" ?_; refine we_gI (‹Tx _ _›).c_MOST_CELLS rfl ?_)
  | (refine gNa "LEAST_VALUES" ?_; refine we_gI (‹Tx _ _›).c_LEAST_VALUES rfl ?_)
  | (refine gNa "MOST_VALUES" ?_; refine we_gI (‹Tx _ _›).c_MOST_VALUES rfl ?_)
  | (refine gNa "MOST_STATEMENTS" ?_; refine we_gI (‹Tx _ _›).c_MOST_STATEMENTS rfl ?_)
  | (refine gNa "MOST_DEEP" ?_; refine we_gI (‹Tx _ _›).c_MOST_DEEP rfl ?_)
  | (refine gNa "LETTERS" ?_; refine we_gS (‹Tx _ _›).c_LETTERS rfl (by decide +kernel) ?_)
  | (refine gNa "FIGURES" ?_; refine we_gS (‹Tx _ _›).c_FIGURES rfl (by decide +kernel) ?_))
local macro_rules | `(tactic| walk_at "blt") => `(tactic| first
  | (refine gF "len" ?_; refine we_len (‹Tx _ _›).z_len rfl ?_)
  | (refine gF "abs" ?_; refine we_abs (‹Tx _ _›).z_abs rfl ?_)
  | (refine gF "int" ?_; refine we_toint (‹Tx _ _›).z_int rfl ?_)
  | (refine gF "str" ?_; refine we_tostr (‹Tx _ _›).z_str rfl ?_)
  | (refine gF "list" ?_; refine we_list (‹Tx _ _›).z_list rfl ?_)
  | (refine gF "tuple" ?_; refine we_tuple (‹Tx _ _›).z_tuple rfl ?_)
  | (refine gF "sum" ?_; refine we_sum rfl (‹Tx _ _›).z_sum rfl ?_)
  | (refine gF "all" ?_; refine we_all rfl (‹Tx _ _›).z_all rfl ?_)
  | (refine gF "any" ?_; refine we_any rfl (‹Tx _ _›).z_any rfl ?_)
  | (refine gF "max" ?_; refine we_max rfl (‹Tx _ _›).z_max rfl ?_)
  | (refine gX "append" ?_; refine we_append ?_) | (refine gX "extend" ?_; refine we_extend ?_) | (refine gX "join" ?_; refine we_join ?_) | (refine gX "split" ?_; refine we_split ?_))
local macro_rules | `(tactic| walk_at "v") => `(tactic| first
  | refine we_var (i := 0) rfl (vis rfl) rfl ?_
  | refine we_var (i := 1) rfl (vis rfl) rfl ?_
  | refine we_var (i := 2) rfl (vis rfl) rfl ?_
  | refine we_var (i := 3) rfl (vis rfl) rfl ?_
  | refine we_var (i := 4) rfl (vis rfl) rfl ?_
  | refine we_var (i := 5) rfl (vis rfl) rfl ?_
  | refine we_var (i := 6) rfl (vis rfl) rfl ?_
  | refine we_var (i := 7) rfl (vis rfl) rfl ?_
  | refine we_var (i := 8) rfl (vis rfl) rfl ?_
  | refine we_var (i := 9) rfl (vis rfl) rfl ?_
  | refine we_var (i := 10) rfl (vis rfl) rfl ?_
  | refine we_var (i := 11) rfl (vis rfl) rfl ?_)
local macro_rules | `(tactic| walk_at "set") => `(tactic| first
  | refine ws_set (i := 0) (by assumption) rfl (by first | exact .inl rfl | exact .inr rfl) ?_
  | refine ws_set (i := 1) (by assumption) rfl (by first | exact .inl rfl | exact .inr rfl) ?_
  | refine ws_set (i := 2) (by assumption) rfl (by first | exact .inl rfl | exact .inr rfl) ?_
  | refine ws_set (i := 3) (by assumption) rfl (by first | exact .inl rfl | exact .inr rfl) ?_
  | refine ws_set (i := 4) (by assumption) rfl (by first | exact .inl rfl | exact .inr rfl) ?_
  | refine ws_set (i := 5) (by assumption) rfl (by first | exact .inl rfl | exact .inr rfl) ?_
  | refine ws_set (i := 6) (by assumption) rfl (by first | exact .inl rfl | exact .inr rfl) ?_
  | refine ws_set (i := 7) (by assumption) rfl (by first | exact .inl rfl | exact .inr rfl) ?_
  | refine ws_set (i := 8) (by assumption) rfl (by first | exact .inl rfl | exact .inr rfl) ?_
  | refine ws_set (i := 9) (by assumption) rfl (by first | exact .inl rfl | exact .inr rfl) ?_
  | refine ws_set (i := 10) (by assumption) rfl (by first | exact .inl rfl | exact .inr rfl) ?_
  | refine ws_set (i := 11) (by assumption) rfl (by first | exact .inl rfl | exact .inr rfl) ?_)
local macro_rules | `(tactic| walk_at "w") => `(tactic| ((first | refine w1d ?_ | refine w1c rfl ?_ | refine w1k rfl ?_); (first | refine w1d ?_ | refine w1c rfl ?_ | refine w1k rfl ?_ | skip)))
local macro_rules | `(tactic| walk_at "e") => `(tactic| first
  | (refine gN ?_; first | walk_at "v" | walk_at "glob")
  | (refine gC ?_; first | refine we_int ?_ | refine we_str (by decide +kernel) ?_ | refine we_bl ?_ | refine we_non ?_)
  | (refine gO ?_; first | refine we_add ?_ | refine we_sub1 ?_ | refine we_mul1 ?_ | refine we_fdiv1 ?_ | refine we_mod1 ?_ | refine we_pow1 ?_)
  | (refine gI ?_; first | refine we_slice ?_ | refine we_ix ?_)
  | (refine gL ?_; first | walk_at "call" | walk_at "blt")
  | (refine gM ?_; first | refine we_lt ?_ | refine we_le ?_ | refine we_gt ?_ | refine we_ge ?_ | refine we_eq (by assumption) ?_ | refine we_ne (by assumption) ?_ | refine we_in (by assumption) rfl ?_ | refine we_ni (by assumption) rfl ?_)
  | refine we_or ?_ | refine we_and ?_ | refine we_one ?_ | refine we_not ?_ | refine we_tup ?_ | refine we_fld ?_)
local macro_rules | `(tactic| walk_at "t") => `(tactic| first
  | refine wt_lt ?_ | refine wt_le ?_ | refine wt_gt ?_ | refine wt_ge ?_ | refine wt_lele ?_ | refine wt_eq (by assumption) ?_ | refine wt_ne (by assumption) ?_ | refine wt_not ?_ | refine wt_in (by assumption) rfl ?_ | refine wt_ni (by assumption) rfl ?_ | (refine wt_w ?_; first | refine ww_or ?_ | refine ww_and ?_) | (refine gTc ?_; refine wt_val ?_))
local macro_rules | `(tactic| walk_at "st") => `(tactic| first
  | (refine gR ?_; first | walk_at "set" | refine ws_fld ?_ | refine ws_asg ?_)
  | refine ws_if ?_ | refine ws_ret ?_ | refine ws_expr ?_ | walk_at "raise")
local macro_rules | `(tactic| walk_at "x") => `(tactic| first
  | refine a1 ?_ | refine on1 ?_ | refine dinS ?_ | refine cl1 rfl ?_ | refine cdc rfl ?_ | walk_at "w" | refine wsd rfl ⟨Nat.le_of_ble_eq_true rfl, ?_⟩ | refine eqI ?_ | refine neI ?_ | refine eqS ?_ | refine neS ?_ | refine inSs ?_ | refine niSs ?_ | refine inSe ?_ | refine niSe ?_ | refine addI ?_ | refine ixL rfl ?_ | refine ixT rfl ?_ | refine wg_item ?_
  | walk_at "na" | refine ⟨_, _, _, _, _, rfl, rfl, rfl, rfl, rfl, ?_⟩ | refine ⟨_, _, rfl, rfl, ⟨by omega, by omega⟩, ?_⟩ | refine ⟨_, _, rfl, rfl, by omega, ?_⟩ | refine ⟨_, _, rfl, rfl, ?_⟩ | refine wo_none ?_ | refine wo_some ?_ | refine ⟨_, rfl, ?_⟩)
local macro_rules | `(tactic| walk_at "s") => `(tactic| first
  | (refine gE ?_; walk_at "e")
  | (refine gB ?_; first | refine wb_cons ?_ | refine wb_nil ?_)
  | (refine gS ?_; walk_at "st")
  | (refine gT ?_; walk_at "t")
  | (refine gA ?_; first | refine wa_cons ?_ | refine wa_nil ?_)
  | (refine gW ?_; first | refine ww_or ?_ | refine ww_and ?_ | refine ww_or1 ?_ | refine ww_and1 ?_)
  | walk_at "x")
theorem ok_digit (T : Tx K mg) : FnOk P w K mg base (L2.CX P w) 1 T.f_law_digit T.d_law_digit ["_law_state_here", "_law_base"] (spOf K 1 sp_digit) := by
  refine fn_ok T.F_law_digit sc_law_digit (fun xs M R Rx h => by obtain ⟨_, _, rfl, _⟩ := h; rfl) (fun cdv A outer s H E B xs M R Rx hr hB h => ?_)
  obtain ⟨⟨a, b, c⟩, n, rfl, rfl, ok, hb, hR⟩ := h
  have nd := sc_law_digit.nd
  have oa := ok.a
  have ob := ok.b
  have oc := ok.c
  simp only at oa ob oc
  repeat walk_at "s"
  refine ite_b (fun ha => ?_) (fun ha => ?_)
  · repeat walk_at "s"
    exact ⟨rfl, hR (a / n, b, c) _ ⟨Int.ediv_nonneg oa (by omega), ob, oc⟩ (Int.emod_nonneg _ (by omega)) (Int.emod_lt_of_pos _ hb.1)⟩
  · repeat walk_at "s"
    refine ⟨.inl ⟨by show -2 ^ 64 < b; omega, by show b < 2 ^ 64; omega⟩, ?_⟩
    repeat walk_at "s"
    refine ⟨rfl, hR (a, (b * (b / 1009 + 69621) + c) % 2147483629 + 7, c) _ ?_ (Int.emod_nonneg _ (by omega)) (Int.emod_lt_of_pos _ hb.1)⟩
    exact ⟨oa, by constructor <;> (dsimp only; omega), oc⟩
theorem ok_state (T : Tx K mg) : FnOk P w K mg base (L2.CX P w) 1 T.f_law_state T.d_law_state ["_law_cell"] (spOf K 0 sp_state) := by
  refine fn_okC T.F_law_state sc_law_state (fun xs M R Rx h => by obtain ⟨_, rfl, _⟩ := h; rfl) (fun cdv A outer s H E B xs M R Rx hr hB h => ?_)
  obtain ⟨n, rfl, rfl, hR⟩ := h
  have nd := sc_law_state.nd
  repeat walk_at "s"
  have hm : 0 ≤ (if n < 0 then -n else n) := by split <;> omega
  generalize (if n < 0 then -n else n) = m at hm
  refine we_lstC ?_
  iterate 3 walk_at "s"
  refine gF "int" ?_
  refine we_toint T.z_int rfl ?_
  refine wa_cons ?_
  refine we_ge ?_
  walk_at "s"
  refine we_pow1 ?_
  iterate 2 walk_at "s"
  refine ⟨10, 18, rfl, rfl, ⟨by omega, by omega, by decide⟩, ?_⟩
  refine ⟨m, 10 ^ (18 : Int).toNat, rfl, rfl, ?_⟩
  generalize decide ((10 : Int) ^ (18 : Int).toNat ≤ m) = bb
  refine wa_nil ?_
  refine a1 (w1d ?_)
  refine ⟨m, _, rfl, rfl, .inr ⟨by split <;> omega, by split <;> omega⟩, ?_⟩
  repeat walk_at "s"
  refine ⟨rfl, hR (_, _, _) ⟨?_, ⟨?_, ?_⟩, ⟨?_, ?_⟩⟩⟩
  · show 0 ≤ m * if bb = true then 1 else 0
    split <;> omega
  all_goals (dsimp only; omega)
theorem cal_digit (T : Tx K mg) : Cal P w K mg base "_law_digit" 1 1 sp_digit := ⟨_, _, _, ok_digit T, T.g_law_digit, T.F_law_digit.kp, T.b_law_digit⟩
local macro_rules | `(tactic| walk_at "call") => `(tactic| (refine gF "_law_digit" ?_; refine we_own (k := 1) (n := 1) (S := sp_digit) ?_ ?_ rfl ?_; exact cal_digit ‹Tx _ _›; exact room ‹Room _ _› (by decide)))
theorem cal_state (T : Tx K mg) : Cal P w K mg base "_law_state" 1 0 sp_state := ⟨_, _, _, ok_state T, T.g_law_state, T.F_law_state.kp, T.b_law_state⟩
local macro_rules | `(tactic| walk_at "call") => `(tactic| (refine gF "_law_state" ?_; refine we_own (k := 1) (n := 0) (S := sp_state) ?_ ?_ rfl ?_; exact cal_state ‹Tx _ _›; exact room ‹Room _ _› (by decide)))
local macro_rules | `(tactic| walk_at "dig") => `(tactic| (refine cq rfl ⟨_, _, rfl, rfl, by assumption, ⟨by omega, by omega⟩, fun _ _ _ _ _ => ?_⟩))

theorem ok_plain (T : Tx K mg) : FnOk P w K mg base (L2.CX P w) 2 T.f_law_plain T.d_law_plain ["_law_s", "_law_many"] (spOf K 1 sp_plain) := by
  refine fn_ok T.F_law_plain sc_law_plain (fun xs M R Rx h => by obtain ⟨_, _, rfl, _⟩ := h; rfl) (fun cdv A outer s H E B xs M R Rx hr hB h => ?_)
  obtain ⟨st, n, rfl, rfl, ok, hb, hR⟩ := h
  have nd := sc_law_plain.nd
  repeat walk_at "s"
  walk_at "dig"
  repeat walk_at "s"
  refine ix_str (by assumption) (by show _ < (36 : Int); omega) (fun c hc => ?_)
  repeat walk_at "s"
  refine ws_for rfl (wi_range1 T.z_range rfl ?_)
  repeat walk_at "s"
  refine ⟨⟨by omega, by omega⟩, ?_⟩
  refine ⟨fun i ss M => ∃ st z o, DOk st ∧ z.length ≤ i + 1 ∧ ss = [some (.cel 0), some (.dat (.int n)), some (.dat (.str "abcdefghijklmnopqrstuvwxyz0123456789")), some (.dat (.str z)), o] ∧ M = [dC st], ⟨_, _, _, by assumption, Nat.le_refl 1, rfl, rfl⟩, ?_, ?_⟩
  · rintro i d ss M hd ⟨st, z, o, ok, hz, rfl, rfl⟩
    obtain ⟨hi, rfl⟩ := rangeD_get hd
    refine wg_name (i := 4) nd rfl (.inl rfl) ?_
    repeat walk_at "s"
    walk_at "dig"
    repeat walk_at "s"
    refine ix_str (by assumption) (by show _ < (36 : Int); omega) (fun c hc => ?_)
    repeat walk_at "s"
    refine addS (size_ge (by show _ + 1 ≤ 1000000; omega)) ?_
    repeat walk_at "s"
    exact ⟨_, _, _, by assumption, by rw [str_len_app]; show _ + 1 ≤ _; omega, rfl, rfl⟩
  · rintro ss M ⟨st, z, o, ok, hz, rfl, rfl⟩
    rw [rangeD_len] at hz
    repeat walk_at "s"
    exact ⟨rfl, hR _ _ (by assumption) (by omega)⟩
theorem cal_plain (T : Tx K mg) : Cal P w K mg base "_law_plain" 2 1 sp_plain := ⟨_, _, _, ok_plain T, T.g_law_plain, T.F_law_plain.kp, T.b_law_plain⟩
local macro_rules | `(tactic| walk_at "call") => `(tactic| (refine gF "_law_plain" ?_; refine we_own (k := 2) (n := 1) (S := sp_plain) ?_ ?_ rfl ?_; exact cal_plain ‹Tx _ _›; exact room ‹Room _ _› (by decide)))
local macro_rules | `(tactic| walk_at "pla") => `(tactic| (refine cq rfl ⟨_, _, rfl, rfl, by assumption, ⟨by omega, by omega⟩, fun _ _ _ _ => ?_⟩))

def others1 : List Str := ["", "9", "Ab", "a b", "a-b", "aB", " a", "a ", "{", "}", "a{", "_a", "a_b", "~", "a.b", "9a", "if "]
theorem others1_len : ∀ z ∈ others1, z.length ≤ 300 := by decide +kernel
theorem ok_text (T : Tx K mg) : FnOk P w K mg base (L2.CX P w) 3 T.f_law_text T.d_law_text ["_law_s"] (spOf K 1 sp_text) := by
  refine fn_ok T.F_law_text sc_law_text (fun xs M R Rx h => by obtain ⟨_, rfl, _⟩ := h; rfl) (fun cdv A outer s H E B xs M R Rx hr hB h => ?_)
  obtain ⟨st, rfl, rfl, ok, hR⟩ := h
  have nd := sc_law_text.nd
  repeat walk_at "s"
  walk_at "dig"
  rename_i kind ok1 k0 k1
  repeat walk_at "s"
  walk_at "dig"
  rename_i many ok2 m0 m1
  repeat walk_at "s"
  refine ite_b (fun h1 => ?_) (fun h1 => ?_)
  · repeat walk_at "s"
    walk_at "pla"
    exact ⟨rfl, hR _ _ (by assumption) (by omega)⟩
  repeat walk_at "s"
  refine ite_b (fun h2 => ?_) (fun h2 => ?_)
  · repeat walk_at "s"
    walk_at "dig"
    repeat walk_at "s"
    walk_at "pla"
    exact ⟨rfl, hR _ _ (by assumption) (by omega)⟩
  repeat walk_at "s"
  refine ite_b (fun h3 => ?_) (fun h3 => ?_)
  · repeat walk_at "s"
    refine we_lst ?_
    repeat walk_at "s"
    walk_at "dig"
    repeat walk_at "s"
    refine ix_lst (by assumption) (by show _ < (17 : Int); omega) (fun d hd => ?_)
    obtain ⟨z, hz, rfl⟩ : ∃ z, z ∈ others1 ∧ d = .str z := by
      obtain ⟨z, hz, e⟩ := List.mem_map.mp (show d ∈ others1.map D.str from hd)
      exact ⟨z, hz, e.symm⟩
    exact ⟨rfl, hR _ _ (by assumption) (others1_len z hz)⟩
  repeat walk_at "s"
  walk_at "pla"
  rename_i z okz hz
  repeat walk_at "s"
  walk_at "dig"
  rename_i at1 ok3 a0 a1
  repeat walk_at "s"
  walk_at "dig"
  repeat walk_at "s"
  refine ix_str (by assumption) (by show _ < (11 : Int); omega) (fun c hc => ?_)
  repeat walk_at "s"
  have l1 := cutS_length z none (some at1)
  refine addS (size_ge (by show _ + 1 ≤ 1000000; omega)) ?_
  repeat walk_at "s"
  have l2 := cutS_length z (some (at1 + 1)) none
  have l3 : (cutS z none (some at1) ++ (⟨#[c]⟩ : Str)).length = (cutS z none (some at1)).length + 1 := str_len_app _ _
  refine addS (size_ge (by rw [l3]; omega)) ?_
  exact ⟨rfl, hR _ _ (by assumption) (by rw [str_len_app, l3]; omega)⟩
theorem cal_text (T : Tx K mg) : Cal P w K mg base "_law_text" 3 1 sp_text := ⟨_, _, _, ok_text T, T.g_law_text, T.F_law_text.kp, T.b_law_text⟩
local macro_rules | `(tactic| walk_at "call") => `(tactic| (refine gF "_law_text" ?_; refine we_own (k := 3) (n := 1) (S := sp_text) ?_ ?_ rfl ?_; exact cal_text ‹Tx _ _›; exact room ‹Room _ _› (by decide)))

/-- a name: 1 to 10 signs, a letter ahead, letters and figures -/
def lets : Str := "abcdefghijklmnopqrstuvwxyz"
def figs : Str := "0123456789"
def signOk (c : Nat) : Bool := decide (c ∈ lets.cps.toList) || decide (c ∈ figs.cps.toList)
def isNm (z : Str) : Bool := match z.cps.toList with
  | [] => false
  | c :: r => decide (r.length ≤ 9) && decide (c ∈ lets.cps.toList) && (c :: r).all signOk
def sp_isname : SpD := fun xs M R _ => ∃ z, xs = [.dat (.str z)] ∧ M = [] ∧ R (.dat (.bl (isNm z))) []
theorem isNm_short {z : Str} (h : isNm z = true) : z.length ≤ 10 ∧ 1 ≤ z.length := by
  unfold isNm at h
  have e : z.length = z.cps.toList.length := by simp [Str.length]
  split at h
  · cases h
  · rename_i c r e2
    rw [e, e2]
    simp only [Bool.and_eq_true, decide_eq_true_eq] at h
    simp only [List.length_cons]
    omega
theorem ok_isname (T : Tx K mg) : FnOk P w K mg base (L2.CX P w) 1 T.f_is_name T.d_is_name ["text"] (spOf K 0 sp_isname) := by
  refine fn_ok T.F_is_name sc_is_name (fun xs M R Rx h => by obtain ⟨_, rfl, _⟩ := h; rfl) (fun cdv A outer s H E B xs M R Rx hr hB h => ?_)
  obtain ⟨z, rfl, rfl, hR⟩ := h
  have nd := sc_is_name.nd
  repeat walk_at "s"
  have e : z.length = z.cps.toList.length := by simp [Str.length]
  refine ite_b (fun h1 => ?_) (fun h1 => ?_)
  · repeat walk_at "s"
    refine ite_n (fun h2 => ?_) (fun h2 => ?_)
    · refine it_t rfl ?_
      repeat walk_at "s"
      refine ⟨rfl, ?_⟩
      have : isNm z = false := by
        cases ez : isNm z with
        | false => rfl
        | true => have := (isNm_short ez).1; omega
      rw [this] at hR
      exact hR
    cases ez : z.cps.toList with
    | nil => rw [ez] at e; simp at e; omega
    | cons c r =>
    have en : isNm z = (decide (c ∈ lets.cps.toList) && (c :: r).all signOk) := by
      unfold isNm
      rw [ez]
      have : decide (r.length ≤ 9) = true := by
        rw [ez, List.length_cons] at e
        exact decide_eq_true (by omega)
      simp only [this, Bool.true_and]
    rw [en] at hR
    repeat walk_at "s"
    refine ixS (c := c) (by rw [ez]; exact atI_nat (j := 0) rfl) ?_
    repeat walk_at "s"
    refine ite_n (fun h3 => ?_) (fun h3 => ?_)
    · repeat walk_at "s"
      refine ⟨rfl, ?_⟩
      rw [decide_eq_false (show ¬ c ∈ lets.cps.toList from h3)] at hR
      exact hR
    rw [decide_eq_true (show c ∈ lets.cps.toList from h3), Bool.true_and] at hR
    repeat walk_at "s"
    refine we_lc1 (j := 1) rfl nd (blkOk_by rfl) rfl (fun _ _ _ _ _ => .inl rfl) (by decide) (wi_str ?_)
    repeat walk_at "s"
    refine lcq_map (fun d => match d with | .str y => .bl (match y.cps.toList with | [c] => signOk c | _ => false) | _ => .bl false) ?_ ?_ ?_
    · unfold signsD
      rw [List.length_map, ← e]
      exact size_ge (by omega)
    · intro i d hd s H C cl fp B hB
      obtain ⟨c', rfl⟩ : ∃ c', d = .str ⟨#[c']⟩ := by
        unfold signsD at hd
        rw [List.getElem?_map] at hd
        cases e2 : z.cps.toList[i]? with
        | none => rw [e2] at hd; cases hd
        | some c' => rw [e2] at hd; exact ⟨c', (Option.some.inj hd).symm⟩
      repeat walk_at "s"
      refine ite_b (fun h4 => ?_) (fun h4 => ?_)
      · have : signOk c' = true := by unfold signOk; rw [decide_eq_true (show c' ∈ lets.cps.toList from h4)]; rfl
        exact ⟨by show _ = SV.dat (D.bl (signOk c')); rw [this], rfl⟩
      · repeat walk_at "s"
        have : signOk c' = decide (c' ∈ figs.cps.toList) := by unfold signOk; rw [decide_eq_false (show ¬ c' ∈ lets.cps.toList from h4)]; rfl
        exact ⟨by show _ = SV.dat (D.bl (signOk c')); rw [this]; rfl, rfl⟩
    · repeat walk_at "s"
      refine ⟨z.cps.toList.map signOk, ?_, ?_⟩
      · unfold signsD
        rw [List.map_map, List.map_map]
        rfl
      · refine ⟨rfl, ?_⟩
        have : (z.cps.toList.map signOk).all id = (c :: r).all signOk := by rw [ez, List.all_map]; rfl
        rw [← this] at hR
        exact hR
  · repeat walk_at "s"
    refine ⟨rfl, ?_⟩
    have : isNm z = false := by
      cases ez : isNm z with
      | false => rfl
      | true => have := (isNm_short ez).2; omega
    rw [this] at hR
    exact hR
theorem cal_isname (T : Tx K mg) : Cal P w K mg base "is_name" 1 0 sp_isname := ⟨_, _, _, ok_isname T, T.g_is_name, T.F_is_name.kp, T.b_is_name⟩
local macro_rules | `(tactic| walk_at "call") => `(tactic| (refine gF "is_name" ?_; refine we_own (k := 1) (n := 0) (S := sp_isname) ?_ ?_ rfl ?_; exact cal_isname ‹Tx _ _›; exact room ‹Room _ _› (by decide)))

theorem ok_lisname (T : Tx K mg) : FnOk P w K mg base (L2.CX P w) 1 T.f_law_is_name T.d_law_is_name ["_law_text_here"] (spOf K 0 sp_isname) := by
  refine fn_ok T.F_law_is_name sc_law_is_name (fun xs M R Rx h => by obtain ⟨_, rfl, _⟩ := h; rfl) (fun cdv A outer s H E B xs M R Rx hr hB h => ?_)
  obtain ⟨z, rfl, rfl, hR⟩ := h
  have nd := sc_law_is_name.nd
  have e : z.length = z.cps.toList.length := by simp [Str.length]
  repeat walk_at "s"
  refine ite_b (fun h1 => ?_) (fun h1 => ?_)
  · repeat walk_at "s"
    refine ⟨rfl, ?_⟩
    rw [h1] at hR
    exact hR
  repeat walk_at "s"
  refine ite_b (fun h2 => ?_) (fun h2 => ?_)
  · repeat walk_at "s"
    refine ⟨rfl, ?_⟩
    have : isNm z = false := by
      cases ez : isNm z with
      | false => rfl
      | true => have := (isNm_short ez).1; omega
    rw [this] at hR
    exact hR
  cases ez : z.cps.toList with
  | nil =>
    exfalso
    apply h1
    cases z with | mk cp =>
    have : cp = #[] := by simpa using ez
    rw [this]
    rfl
  | cons c r =>
  have en : isNm z = (decide (c ∈ lets.cps.toList) && (c :: r).all signOk) := by
    unfold isNm
    rw [ez]
    have : decide (r.length ≤ 9) = true := by
      rw [ez, List.length_cons] at e
      exact decide_eq_true (by omega)
    simp only [this, Bool.true_and]
  rw [en] at hR
  repeat walk_at "s"
  refine ixS (c := c) (by rw [ez]; exact atI_nat (j := 0) rfl) ?_
  repeat walk_at "s"
  refine ite_n (fun h3 => ?_) (fun h3 => ?_)
  · repeat walk_at "s"
    refine ⟨rfl, ?_⟩
    rw [decide_eq_false (show ¬ c ∈ lets.cps.toList from h3)] at hR
    exact hR
  rw [decide_eq_true (show c ∈ lets.cps.toList from h3), Bool.true_and] at hR
  repeat walk_at "s"
  refine we_lc1 (j := 2) rfl nd (blkOk_by rfl) rfl (fun _ _ _ _ _ => .inl rfl) (by decide) (wi_str ?_)
  repeat walk_at "s"
  refine lcq_map (fun d => match d with | .str y => .bl (match y.cps.toList with | [c] => signOk c | _ => false) | _ => .bl false) ?_ ?_ ?_
  · unfold signsD
    rw [List.length_map, ← e]
    exact size_ge (by omega)
  · intro i d hd s H C cl fp B hB
    obtain ⟨c', rfl⟩ : ∃ c', d = .str ⟨#[c']⟩ := by
      unfold signsD at hd
      rw [List.getElem?_map] at hd
      cases e2 : z.cps.toList[i]? with
      | none => rw [e2] at hd; cases hd
      | some c' => rw [e2] at hd; exact ⟨c', (Option.some.inj hd).symm⟩
    repeat walk_at "s"
    refine ite_b (fun h4 => ?_) (fun h4 => ?_)
    · have : signOk c' = true := by unfold signOk; rw [decide_eq_true (show c' ∈ lets.cps.toList from h4)]; rfl
      exact ⟨by show _ = SV.dat (D.bl (signOk c')); rw [this], rfl⟩
    · repeat walk_at "s"
      have : signOk c' = decide (c' ∈ figs.cps.toList) := by unfold signOk; rw [decide_eq_false (show ¬ c' ∈ lets.cps.toList from h4)]; rfl
      exact ⟨by show _ = SV.dat (D.bl (signOk c')); rw [this]; rfl, rfl⟩
  · repeat walk_at "s"
    refine ⟨z.cps.toList.map signOk, ?_, ?_⟩
    · unfold signsD
      rw [List.map_map, List.map_map]
      rfl
    · refine ⟨rfl, ?_⟩
      have : (z.cps.toList.map signOk).all id = (c :: r).all signOk := by rw [ez, List.all_map]; rfl
      rw [← this] at hR
      exact hR
theorem cal_lisname (T : Tx K mg) : Cal P w K mg base "_law_is_name" 1 0 sp_isname := ⟨_, _, _, ok_lisname T, T.g_law_is_name, T.F_law_is_name.kp, T.b_law_is_name⟩
local macro_rules | `(tactic| walk_at "call") => `(tactic| (refine gF "_law_is_name" ?_; refine we_own (k := 1) (n := 0) (S := sp_isname) ?_ ?_ rfl ?_; exact cal_lisname ‹Tx _ _›; exact room ‹Room _ _› (by decide)))

theorem ok_NoName_init (T : Tx K mg) : FnOk P w K mg base CX0 1 T.f_NoName_init T.d_NoName_init ["self", "name"] (spX1 K "name") := by
  refine T.F_NoName_init.ok sc_NoName_init (fun vs H Q E h => by obtain ⟨a, C, v, rfl, _⟩ := h; rfl) (fun cdv A outer s H vs Q E hr h => ?_)
  obtain ⟨a, C, v, rfl, hC, hf, ha, k⟩ := h
  exact ⟨_, pss_one (ps_ost (pv 0) (pv 1)), v, rfl, .ref a, rfl, a, C, rfl, hC, hf, .inl ⟨ha, k⟩⟩
theorem rai_NoName (T : Tx K mg) : Rai P w K mg base "NoName" T.C_NoName "name" := ⟨_, _, _, ⟨T.o_NoName, T.g_NoName, T.i_NoName, T.t_NoName⟩, T.n_NoName_name, ok_NoName_init T, T.b_NoName_init⟩
local macro_rules | `(tactic| walk_at "raise") => `(tactic| (refine ws_rai (x := "NoName") (C := (‹Tx _ _›).C_NoName) (f := "name") ?_ ?_ rfl rfl ?_; exact rai_NoName ‹Tx _ _›; exact room ‹Room _ _› (by decide)))
/-- the first that is no name -/
def badNm (zs : List Str) : Option Str := zs.find? fun z => !isNm z
def sp_names (CN : Addr) : SpD := fun xs M R Rx => ∃ zs : List Str, xs = [.dat (.lst (zs.map D.str))] ∧ M = [] ∧ (match badNm zs with
  | none => R (.dat .non) []
  | some z => Rx CN [("name", .str z)] [])
theorem str_get {zs : List Str} {i : Nat} {d : D} (h : (zs.map D.str)[i]? = some d) : ∃ z, zs[i]? = some z ∧ d = .str z := by
  rw [List.getElem?_map] at h
  cases e : zs[i]? with
  | none => rw [e] at h; cases h
  | some z => rw [e] at h; exact ⟨z, rfl, (Option.some.inj h).symm⟩
theorem find_at {α : Type} {p : α → Bool} : ∀ {l : List α} {i : Nat} {z : α}, l[i]? = some z → (∀ j y, j < i → l[j]? = some y → p y = false) → p z = true → l.find? p = some z
  | [], _, _, h, _, _ => by simp at h
  | x :: l, 0, z, h, _, hz => by simp at h; subst h; simp [hz]
  | x :: l, i + 1, z, h, hl, hz => by
    have hx := hl 0 x (by omega) (by simp)
    rw [List.find?_cons, hx]
    exact find_at (i := i) (by simpa using h) (fun j y hj hy => hl (j + 1) y (by omega) (by simpa using hy)) hz
theorem find_no {α : Type} {p : α → Bool} {l : List α} (h : ∀ (j : Nat) y, j < l.length → l[j]? = some y → p y = false) : l.find? p = none := by
  rw [List.find?_eq_none]
  intro x hx
  obtain ⟨j, hj⟩ := List.getElem?_of_mem hx
  have := h j x (List.getElem?_eq_some_iff.mp hj).1 hj
  rw [this]
  exact Bool.false_ne_true
theorem ok_names (T : Tx K mg) : FnOk P w K mg base (L2.CX P w) 3 T.f_asked_names T.d_asked_names ["texts"] (spOf K 0 (sp_names T.C_NoName)) := by
  refine fn_ok T.F_asked_names sc_asked_names (fun xs M R Rx h => by obtain ⟨_, rfl, _⟩ := h; rfl) (fun cdv A outer s H E B xs M R Rx hr hB h => ?_)
  obtain ⟨zs, rfl, rfl, hR⟩ := h
  have nd := sc_asked_names.nd
  walk_at "s"
  refine ws_for rfl (wi_list ?_)
  repeat walk_at "s"
  refine ⟨fun i ss M => (∀ (j : Nat) y, j < i → zs[j]? = some y → isNm y = true) ∧ (∃ o, ss = [some (.dat (.lst (zs.map D.str))), o]) ∧ M = [], ⟨fun j y hj => absurd hj (Nat.not_lt_zero j), ⟨_, rfl⟩, rfl⟩, ?_, ?_⟩
  · rintro i d ss M hd ⟨hz, ⟨o, rfl⟩, rfl⟩
    obtain ⟨z, hi, rfl⟩ := str_get hd
    refine wg_name (i := 1) nd rfl (.inl rfl) ?_
    repeat walk_at "s"
    refine cq rfl ⟨z, rfl, rfl, ?_⟩
    repeat walk_at "s"
    refine ite_v (fun h => ?_) (fun h => ?_)
    · repeat walk_at "s"
      have : badNm zs = some z := find_at hi (fun j y hj hy => by rw [hz j y hj hy]; rfl) h
      rw [this] at hR
      exact ⟨rfl, hR⟩
    · repeat walk_at "s"
      refine ⟨fun j y hj hy => ?_, ⟨_, rfl⟩, rfl⟩
      rcases Nat.lt_succ_iff_lt_or_eq.mp hj with h1 | h1
      · exact hz j y h1 hy
      · subst h1
        rw [hi] at hy
        cases hy
        simpa using h
  · rintro ss M ⟨hz, ⟨o, rfl⟩, rfl⟩
    have : badNm zs = none := find_no fun j y hj hy => by rw [hz j y (by rw [List.length_map]; exact hj) hy]; rfl
    rw [this] at hR
    repeat walk_at "s"
    exact ⟨rfl, hR⟩
theorem cal_names (T : Tx K mg) : Cal P w K mg base "asked_names" 3 0 (sp_names T.C_NoName) := ⟨_, _, _, ok_names T, T.g_asked_names, T.F_asked_names.kp, T.b_asked_names⟩
local macro_rules | `(tactic| walk_at "call") => `(tactic| (refine gF "asked_names" ?_; refine we_own (k := 3) (n := 0) (S := (sp_names (‹Tx _ _›).C_NoName)) ?_ ?_ rfl ?_; exact cal_names ‹Tx _ _›; exact room ‹Room _ _› (by decide)))

theorem valD_none {kvs : List (Key × D)} {k : Key} (h : ∀ kv ∈ kvs, kv.1 ≠ k) : valD kvs k = none := by
  unfold valD
  have : (kvs.find? fun kv => decide (kv.1 = k)) = none := by
    rw [List.find?_eq_none]
    intro x hx
    simpa using h x hx
  rw [this]
  rfl
theorem putD_new {kvs : List (Key × D)} {k : Key} {v : D} (h : ∀ kv ∈ kvs, kv.1 ≠ k) : putD kvs k v = kvs ++ [(k, v)] := by
  unfold putD
  rw [if_neg]
  rw [List.any_eq_true]
  rintro ⟨x, hx, e⟩
  exact h x hx (by simpa using e)
theorem nodup_take {α : Type} {l : List α} {i : Nat} {z : α} (nd : l.Nodup) (h : l[i]? = some z) : ∀ y ∈ l.take i, y ≠ z := by
  intro y hy e
  subst e
  obtain ⟨j, hj⟩ := List.getElem?_of_mem hy
  rw [List.getElem?_take] at hj
  split at hj
  · rename_i hlt
    have := (List.getElem?_inj (List.getElem?_eq_some_iff.mp hj).1 nd).mp (hj.trans h.symm)
    omega
  · cases hj
def seenD (zs : List Str) : List (Key × D) := zs.map fun z => (Sum.inr z, D.bl true)
def sp_once : SpD := fun xs M R _ => ∃ zs : List Str, xs = [.dat (.lst (zs.map D.str))] ∧ M = [] ∧ zs.Nodup ∧ zs.length ≤ 1000 ∧ R (.dat .non) []
theorem seen_no {zs : List Str} {i : Nat} {z : Str} (nd : zs.Nodup) (h : zs[i]? = some z) : ∀ kv ∈ seenD (zs.take i), kv.1 ≠ Sum.inr z := by
  intro kv hk e
  unfold seenD at hk
  obtain ⟨y, hy, rfl⟩ := List.mem_map.mp hk
  exact nodup_take nd h y hy (Sum.inr.inj e)
theorem ok_once (T : Tx K mg) : FnOk P w K mg base (L2.CX P w) 3 T.f_asked_once T.d_asked_once ["names"] (spOf K 0 sp_once) := by
  refine fn_ok T.F_asked_once sc_asked_once (fun xs M R Rx h => by obtain ⟨_, rfl, _⟩ := h; rfl) (fun cdv A outer s H E B xs M R Rx hr hB h => ?_)
  obtain ⟨zs, rfl, rfl, zn, zl, hR⟩ := h
  have nd := sc_asked_once.nd
  repeat walk_at "s"
  refine we_dnew ?_
  repeat walk_at "s"
  refine ws_for rfl (wi_list ?_)
  repeat walk_at "s"
  refine ⟨fun i ss M => (∃ o, ss = [some (.dat (.lst (zs.map D.str))), some (.cel 0), o]) ∧ M = [.dic (seenD (zs.take i))], ⟨⟨_, rfl⟩, rfl⟩, ?_, ?_⟩
  · rintro i d ss M hd ⟨⟨o, rfl⟩, rfl⟩
    obtain ⟨z, hi, rfl⟩ := str_get hd
    have no := seen_no zn hi
    have hlt := (List.getElem?_eq_some_iff.mp hi).1
    refine wg_name (i := 2) nd rfl (.inl rfl) ?_
    walk_at "s"
    refine ws_if (wt_din (by assumption) rfl ?_)
    repeat walk_at "s"
    refine it_f (by rw [valD_none no]; rfl) ?_
    iterate 2 walk_at "s"
    refine ws_dput (by assumption) ?_
    repeat walk_at "s"
    refine ⟨.bl true, Sum.inr z, rfl, rfl, ?_⟩
    refine cdc rfl ⟨?_, ?_⟩
    · show (seenD (zs.take i)).length < sizeLine
      unfold seenD
      rw [List.length_map, List.length_take]
      exact Nat.lt_of_le_of_lt (Nat.min_le_left _ _) (Nat.lt_of_lt_of_le hlt (size_ge (by omega)))
    · repeat walk_at "s"
      refine ⟨⟨_, rfl⟩, ?_⟩
      rw [putD_new no]
      have : seenD (zs.take i) ++ [(Sum.inr z, D.bl true)] = seenD (zs.take (i + 1)) := map_take_succ (fun z => ((Sum.inr z : Key), D.bl true)) hi
      rw [this]
      rfl
  · rintro ss M ⟨⟨o, rfl⟩, rfl⟩
    repeat walk_at "s"
    exact ⟨rfl, hR⟩
theorem cal_once (T : Tx K mg) : Cal P w K mg base "asked_once" 3 0 sp_once := ⟨_, _, _, ok_once T, T.g_asked_once, T.F_asked_once.kp, T.b_asked_once⟩
local macro_rules | `(tactic| walk_at "call") => `(tactic| (refine gF "asked_once" ?_; refine we_own (k := 3) (n := 0) (S := sp_once) ?_ ?_ rfl ?_; exact cal_once ‹Tx _ _›; exact room ‹Room _ _› (by decide)))

/-- a cell as it is handed in: its name, its values -/
def cD (c : Str × List Str) : D := .tup [.str c.1, .lst (c.2.map D.str)]
def cNs (c : Str × List Str) : List Str := c.1 :: c.2
/-- cells as a board takes them, but for the names -/
structure CsOk (cs : List (Str × List Str)) : Prop where
  len : 1 ≤ cs.length ∧ cs.length ≤ 3
  vals : ∀ c ∈ cs, 2 ≤ c.2.length ∧ c.2.length ≤ 4 ∧ c.2.Nodup
  nms : (cs.map (·.1)).Nodup
def sp_cells (CN : Addr) : SpD := fun xs M R Rx => ∃ cs : List (Str × List Str), xs = [.dat (.lst (cs.map cD))] ∧ M = [] ∧ CsOk cs ∧ (match badNm (cs.flatMap cNs) with
  | none => R (.dat .non) []
  | some z => Rx CN [("name", .str z)] [])
theorem cD_get {cs : List (Str × List Str)} {i : Nat} {d : D} (h : (cs.map cD)[i]? = some d) : ∃ c, cs[i]? = some c ∧ d = .tup [.str c.1, .lst (c.2.map D.str)] := by
  rw [List.getElem?_map] at h
  cases e : cs[i]? with
  | none => rw [e] at h; cases h
  | some z => rw [e] at h; exact ⟨z, rfl, (Option.some.inj h).symm⟩
theorem take_at {α : Type} : ∀ {l : List α} {i : Nat} {d : α}, l[i]? = some d → l.take (i + 1) = l.take i ++ [d]
  | [], _, _, h => by simp at h
  | x :: l, 0, d, h => by simp at h; subst h; simp
  | x :: l, i + 1, d, h => by
    have := take_at (l := l) (i := i) (d := d) (by simpa using h)
    rw [List.take_succ_cons, this]
    rfl
theorem bad_app (a b : List Str) : badNm (a ++ b) = (badNm a).or (badNm b) := by
  unfold badNm
  rw [List.find?_append]
theorem bad_at {cs : List (Str × List Str)} {i : Nat} {c : Str × List Str} (h : cs[i]? = some c) (hn : badNm ((cs.take i).flatMap cNs) = none) :
    badNm ((cs.take (i + 1)).flatMap cNs) = (badNm [c.1]).or (badNm c.2) ∧ badNm (cs.flatMap cNs) = ((badNm [c.1]).or (badNm c.2)).or (badNm ((cs.drop (i + 1)).flatMap cNs)) := by
  have h1 : badNm ((cs.take (i + 1)).flatMap cNs) = (badNm [c.1]).or (badNm c.2) := by
    rw [take_at h, List.flatMap_append, bad_app, hn]
    show badNm (List.flatMap cNs [c]) = _
    have : List.flatMap cNs [c] = [c.1] ++ c.2 := by simp [cNs]
    rw [this, bad_app]
  refine ⟨h1, ?_⟩
  have e : cs = cs.take (i + 1) ++ cs.drop (i + 1) := (List.take_append_drop _ _).symm
  conv => lhs; rw [e]
  rw [List.flatMap_append, bad_app, h1]
theorem ok_cells (T : Tx K mg) : FnOk P w K mg base (L2.CX P w) 4 T.f_asked_cells T.d_asked_cells ["cells"] (spOf K 0 (sp_cells T.C_NoName)) := by
  refine fn_ok T.F_asked_cells sc_asked_cells (fun xs M R Rx h => by obtain ⟨_, rfl, _⟩ := h; rfl) (fun cdv A outer s H E B xs M R Rx hr hB h => ?_)
  obtain ⟨cs, rfl, rfl, ok, hR⟩ := h
  have nd := sc_asked_cells.nd
  have hl := ok.len
  have el : (cs.map cD).length = cs.length := List.length_map ..
  repeat walk_at "s"
  refine it_t (decide_eq_true (by omega)) ?_
  repeat walk_at "s"
  refine it_f (by rw [decide_eq_true (show ((cs.map cD).length : Int) ≤ 3 by omega)]; rfl) ?_
  repeat walk_at "s"
  refine ws_for rfl (wi_list ?_)
  repeat walk_at "s"
  refine ⟨fun i ss M => badNm ((cs.take i).flatMap cNs) = none ∧ (∃ o1 o2, ss = [some (.dat (.lst (cs.map cD))), o1, o2]) ∧ M = [], ⟨rfl, ⟨_, _, rfl⟩, rfl⟩, ?_, ?_⟩
  · rintro i d ss M hd ⟨hn, ⟨o1, o2, rfl⟩, rfl⟩
    obtain ⟨c, hi, rfl⟩ := cD_get hd
    obtain ⟨b1, b2⟩ := bad_at hi hn
    obtain ⟨v1, v2, v3⟩ := ok.vals c (List.mem_of_getElem? hi)
    refine wg_tup2 rfl ?_
    refine wg_name (i := 1) nd rfl (.inl rfl) ?_
    refine wg_name (i := 2) nd rfl (.inl rfl) ?_
    repeat walk_at "s"
    refine we_lst ?_
    repeat walk_at "s"
    refine cq rfl ⟨[c.1], rfl, rfl, ?_⟩
    cases e1 : badNm [c.1] with
    | some z =>
      refine ⟨rfl, ?_⟩
      rw [b2, e1] at hR
      exact hR
    | none =>
    repeat walk_at "s"
    refine it_t (decide_eq_true (by rw [List.length_map]; omega)) ?_
    repeat walk_at "s"
    refine it_f (by rw [decide_eq_true (show ((c.2.map D.str).length : Int) ≤ 4 by rw [List.length_map]; omega)]; rfl) ?_
    repeat walk_at "s"
    refine cq rfl ⟨c.2, rfl, rfl, ?_⟩
    cases e2 : badNm c.2 with
    | some z =>
      refine ⟨rfl, ?_⟩
      rw [b2, e1, e2] at hR
      exact hR
    | none =>
    repeat walk_at "s"
    refine cq rfl ⟨c.2, rfl, rfl, v3, by omega, ?_⟩
    repeat walk_at "s"
    exact ⟨by rw [b1, e1, e2]; rfl, ⟨_, _, rfl⟩, rfl⟩
  · rintro ss M ⟨hn, ⟨o1, o2, rfl⟩, rfl⟩
    rw [el, List.take_length] at hn
    rw [hn] at hR
    repeat walk_at "s"
    refine we_lc2 (i := 1) (j := 2) rfl nd (blkOk_by rfl) rfl rfl (by decide) (fun _ _ _ _ _ => .inl rfl) (fun _ _ _ _ _ => .inl rfl) (by decide) (wi_list ?_)
    repeat walk_at "s"
    refine lcq_map2 (fun d => match d with | .tup [a, _] => a | x => x) (by rw [el]; exact size_ge (by omega)) ?_ ?_
    · intro i d hd
      obtain ⟨c, hi, rfl⟩ := cD_get hd
      refine ⟨_, _, rfl, ?_⟩
      intro s H C cl fp B hB
      repeat walk_at "s"
      exact ⟨rfl, rfl⟩
    · repeat walk_at "s"
      refine cq rfl ⟨cs.map (·.1), ?_, rfl, ok.nms, by rw [List.length_map]; omega, ?_⟩
      · rw [List.map_map, List.map_map]
        rfl
      · repeat walk_at "s"
        exact ⟨rfl, hR⟩
theorem cal_cells (T : Tx K mg) : Cal P w K mg base "asked_cells" 4 0 (sp_cells T.C_NoName) := ⟨_, _, _, ok_cells T, T.g_asked_cells, T.F_asked_cells.kp, T.b_asked_cells⟩
local macro_rules | `(tactic| walk_at "call") => `(tactic| (refine gF "asked_cells" ?_; refine we_own (k := 4) (n := 0) (S := (sp_cells (‹Tx _ _›).C_NoName)) ?_ ?_ rfl ?_; exact cal_cells ‹Tx _ _›; exact room ‹Room _ _› (by decide)))

/-- a board: its names, its rows -/
def bNs (cs : List (Str × List Str)) : List D := cs.map fun c => .str c.1
def bRows (cs : List (Str × List Str)) : List (Key × D) := cs.map fun c => (Sum.inr c.1, D.tup (c.2.map D.str))
def bD (CB : Addr) (cs : List (Str × List Str)) : D := .ins CB [("names", .tup (bNs cs)), ("rows", .dic (bRows cs))]
def sp_Board (CB CN : Addr) : SpD := fun xs M R Rx => ∃ cs : List (Str × List Str), xs = [.cel 0, .dat (.lst (cs.map cD))] ∧ M = [.ins CB []] ∧ CsOk cs ∧ (match badNm (cs.flatMap cNs) with
  | none => R (.dat .non) [.ins CB [("names", .dat (.tup (bNs cs))), ("rows", .dat (.dic (bRows cs)))]]
  | some z => Rx CN [("name", .str z)] [.ins CB []])
theorem bRows_no {cs : List (Str × List Str)} {i : Nat} {c : Str × List Str} (nd : (cs.map (·.1)).Nodup) (h : cs[i]? = some c) : ∀ kv ∈ bRows (cs.take i), kv.1 ≠ Sum.inr c.1 := by
  intro kv hk e
  unfold bRows at hk
  obtain ⟨y, hy, rfl⟩ := List.mem_map.mp hk
  refine nodup_take nd (z := c.1) (i := i) (by rw [List.getElem?_map, h]; rfl) y.1 ?_ (Sum.inr.inj e)
  rw [← List.map_take]
  exact List.mem_map_of_mem hy
theorem ok_Board (T : Tx K mg) : FnOk P w K mg base (L2.CX P w) 5 T.f_Board_init T.d_Board_init ["self", "cells"] (spOf K 1 (sp_Board T.C_Board T.C_NoName)) := by
  refine fn_ok T.F_Board_init sc_Board_init (fun xs M R Rx h => by obtain ⟨_, rfl, _⟩ := h; rfl) (fun cdv A outer s H E B xs M R Rx hr hB h => ?_)
  obtain ⟨cs, rfl, rfl, ok, hR⟩ := h
  have nd := sc_Board_init.nd
  have hl := ok.len
  have el : (cs.map cD).length = cs.length := List.length_map ..
  repeat walk_at "s"
  refine cq rfl ⟨cs, rfl, rfl, ok, ?_⟩
  cases e1 : badNm (cs.flatMap cNs) with
  | some z =>
    rw [e1] at hR
    exact ⟨rfl, hR⟩
  | none =>
  rw [e1] at hR
  repeat walk_at "s"
  refine we_lc2 (i := 2) (j := 3) rfl nd (blkOk_by rfl) rfl rfl (by decide) (fun _ _ _ _ _ => .inl rfl) (fun _ _ _ _ _ => .inl rfl) (by decide) (wi_list ?_)
  repeat walk_at "s"
  refine lcq_map2 (fun d => match d with | .tup [a, _] => a | x => x) (by rw [el]; exact size_ge (by omega)) ?_ ?_
  · intro i d hd
    obtain ⟨c, hi, rfl⟩ := cD_get hd
    refine ⟨_, _, rfl, ?_⟩
    intro s H C cl fp B hB
    repeat walk_at "s"
    exact ⟨rfl, rfl⟩
  have en : (cs.map cD).map (fun d => match d with | .tup [a, _] => a | x => x) = bNs cs := by
    unfold bNs
    rw [List.map_map]
    rfl
  rw [en]
  repeat walk_at "s"
  refine we_dnew ?_
  repeat walk_at "s"
  refine ws_for rfl (wi_list ?_)
  repeat walk_at "s"
  refine ⟨fun i ss M => (∃ o1 o2, ss = [some (.cel 0), some (.dat (.lst (cs.map cD))), o1, o2]) ∧ M = [.ins T.C_Board [("names", .dat (.tup (bNs cs))), ("rows", .cel 1)], .dic (bRows (cs.take i))], ⟨⟨_, _, rfl⟩, rfl⟩, ?_, ?_⟩
  · rintro i d ss M hd ⟨⟨o1, o2, rfl⟩, rfl⟩
    obtain ⟨c, hi, rfl⟩ := cD_get hd
    have no := bRows_no ok.nms hi
    refine wg_tup2 rfl ?_
    refine wg_name (i := 2) nd rfl (.inl rfl) ?_
    refine wg_name (i := 3) nd rfl (.inl rfl) ?_
    walk_at "s"
    refine ws_dput (by assumption) ?_
    repeat walk_at "s"
    refine ⟨_, Sum.inr c.1, rfl, rfl, ?_⟩
    refine cdc rfl ⟨?_, ?_⟩
    · show (bRows (cs.take i)).length < sizeLine
      unfold bRows
      rw [List.length_map, List.length_take]
      exact Nat.lt_of_le_of_lt (Nat.min_le_right _ _) (Nat.lt_of_le_of_lt hl.2 (by decide))
    · repeat walk_at "s"
      refine ⟨⟨_, _, rfl⟩, ?_⟩
      rw [putD_new no]
      have : bRows (cs.take i) ++ [(Sum.inr c.1, D.tup (c.2.map D.str))] = bRows (cs.take (i + 1)) := map_take_succ (fun (c : Str × List Str) => ((Sum.inr c.1 : Key), D.tup (c.2.map D.str))) hi
      rw [this]
      rfl
  · rintro ss M ⟨⟨o1, o2, rfl⟩, rfl⟩
    rw [el, List.take_length]
    refine wb_freeze 1 (Nat.le_of_eq hB) rfl rfl ?_
    walk_at "s"
    exact ⟨rfl, hR⟩
def sp_bcells (CB : Addr) : SpD := fun xs M R _ => ∃ cs : List (Str × List Str), xs = [.dat (bD CB cs)] ∧ M = [] ∧ R (.dat (.lst (bNs cs))) []
theorem ok_bcells (T : Tx K mg) : FnOk P w K mg base (L2.CX P w) 1 T.f_Board_cells T.d_Board_cells ["self"] (spOf K 0 (sp_bcells T.C_Board)) := by
  refine fn_ok T.F_Board_cells sc_Board_cells (fun xs M R Rx h => by obtain ⟨_, rfl, _⟩ := h; rfl) (fun cdv A outer s H E B xs M R Rx hr hB h => ?_)
  obtain ⟨cs, rfl, rfl, hR⟩ := h
  have nd := sc_Board_cells.nd
  repeat walk_at "s"
  exact ⟨rfl, hR⟩
def sp_bvals (CB : Addr) : SpD := fun xs M R _ => ∃ cs c, xs = [.dat (bD CB cs), .dat (.str c.1)] ∧ M = [] ∧ (cs.map (·.1)).Nodup ∧ c ∈ cs ∧ R (.dat (.lst (c.2.map D.str))) []
theorem bRows_val {c : Str × List Str} : ∀ {cs : List (Str × List Str)}, (cs.map (·.1)).Nodup → c ∈ cs → valD (bRows cs) (Sum.inr c.1) = some (.tup (c.2.map D.str))
  | [], _, h => by cases h
  | x :: cs, nd, h => by
    rw [List.map_cons, List.nodup_cons] at nd
    rcases List.mem_cons.mp h with e | e
    · subst e
      exact valD_pos rfl
    · have ne : ¬ (Sum.inr x.1 : Key) = Sum.inr c.1 := fun z => nd.1 (by rw [Sum.inr.inj z]; exact List.mem_map_of_mem e)
      show valD ((Sum.inr x.1, D.tup (x.2.map D.str)) :: bRows cs) (Sum.inr c.1) = _
      rw [valD_neg ne]
      exact bRows_val nd.2 e
theorem ok_bvals (T : Tx K mg) : FnOk P w K mg base (L2.CX P w) 1 T.f_Board_values_of T.d_Board_values_of ["self", "cell"] (spOf K 0 (sp_bvals T.C_Board)) := by
  refine fn_ok T.F_Board_values_of sc_Board_values_of (fun xs M R Rx h => by obtain ⟨_, _, rfl, _⟩ := h; rfl) (fun cdv A outer s H E B xs M R Rx hr hB h => ?_)
  obtain ⟨cs, c, rfl, rfl, cn, hc, hR⟩ := h
  have nd := sc_Board_values_of.nd
  have hv := bRows_val cn hc
  walk_at "s"
  refine ws_if (wt_dni (by assumption) rfl ?_)
  repeat walk_at "s"
  refine it_f (by rw [hv]; rfl) ?_
  iterate 5 walk_at "s"
  refine we_dget (by assumption) ?_
  repeat walk_at "s"
  refine ⟨_, _, _, rfl, rfl, hv, ?_⟩
  repeat walk_at "s"
  exact ⟨rfl, hR⟩
theorem mkr_Board (T : Tx K mg) : Mkr P w K mg base "Board" T.C_Board 5 (sp_Board T.C_Board T.C_NoName) := ⟨_, _, _, T.mk_Board, ok_Board T, T.g_Board, T.b_Board_init⟩
local macro_rules | `(tactic| walk_at "call") => `(tactic| (refine gF "Board" ?_; refine we_mkr (mkr_Board ‹Tx _ _›) (room ‹Room _ _› (by decide)) rfl ?_))
theorem mtd_bcells (T : Tx K mg) : Mtd P w K mg base T.C_Board "cells" 1 0 (sp_bcells T.C_Board) := ⟨_, _, _, T.cl_Board, T.m_Board_cells, ok_bcells T, T.b_Board_cells⟩
theorem mtd_bvals (T : Tx K mg) : Mtd P w K mg base T.C_Board "values_of" 1 0 (sp_bvals T.C_Board) := ⟨_, _, _, T.cl_Board, T.m_Board_values_of, ok_bvals T, T.b_Board_values_of⟩

/-- a statement's own class takes the fields -/
structure FC (K : PySem.W.Frag) (C : Addr) : Prop where
  cl : Cls K C
  cell : NoAttr K C "cell"
  value : NoAttr K C "value"
def sp_OnCell (K : PySem.W.Frag) (CN : Addr) : SpD := fun xs M R Rx => ∃ C a b, xs = [.cel 0, .dat (.str a), .dat (.str b)] ∧ M = [.ins C []] ∧ FC K C ∧ (match badNm [a, b] with
  | none => R (.dat .non) [.ins C [("cell", .dat (.str a)), ("value", .dat (.str b))]]
  | some z => Rx CN [("name", .str z)] [.ins C []])
theorem ok_OnCell (T : Tx K mg) : FnOk P w K mg base (L2.CX P w) 4 T.f_OnCell_init T.d_OnCell_init ["self", "cell", "value"] (spOf K 1 (sp_OnCell K T.C_NoName)) := by
  refine fn_ok T.F_OnCell_init sc_OnCell_init (fun xs M R Rx h => by obtain ⟨_, _, _, rfl, _⟩ := h; rfl) (fun cdv A outer s H E B xs M R Rx hr hB h => ?_)
  obtain ⟨C, a, b, rfl, rfl, fc, hR⟩ := h
  have nd := sc_OnCell_init.nd
  repeat walk_at "s"
  refine we_lst ?_
  repeat walk_at "s"
  refine cq rfl ⟨[a, b], rfl, rfl, ?_⟩
  cases e1 : badNm [a, b] with
  | some z =>
    rw [e1] at hR
    exact ⟨rfl, hR⟩
  | none =>
  rw [e1] at hR
  repeat walk_at "s"
  refine ⟨_, _, _, rfl, rfl, fc.cl, fc.cell, Nat.le_of_ble_eq_true rfl, ?_⟩
  repeat walk_at "s"
  refine ⟨_, _, _, rfl, rfl, fc.cl, fc.value, Nat.le_of_ble_eq_true rfl, ?_⟩
  repeat walk_at "s"
  exact ⟨rfl, hR⟩
theorem mkr_Write (T : Tx K mg) : Mkr P w K mg base "Write" T.C_Write 4 (sp_OnCell K T.C_NoName) := ⟨_, _, _, T.mk_Write, ok_OnCell T, T.g_Write, T.b_OnCell_init⟩
local macro_rules | `(tactic| walk_at "call") => `(tactic| (refine gF "Write" ?_; refine we_mkr (mkr_Write ‹Tx _ _›) (room ‹Room _ _› (by decide)) rfl ?_))
theorem mkr_Wait (T : Tx K mg) : Mkr P w K mg base "Wait" T.C_Wait 4 (sp_OnCell K T.C_NoName) := ⟨_, _, _, T.mk_Wait, ok_OnCell T, T.g_Wait, T.b_OnCell_init⟩
local macro_rules | `(tactic| walk_at "call") => `(tactic| (refine gF "Wait" ?_; refine we_mkr (mkr_Wait ‹Tx _ _›) (room ‹Room _ _› (by decide)) rfl ?_))
theorem clm_OnCell (T : Tx K mg) : Clm P w K mg base "OnCell" "__init__" 4 1 (sp_OnCell K T.C_NoName) := ⟨_, _, _, _, _, T.g_OnCell, T.cr_OnCell, T.cv_OnCell, T.F_OnCell_init.kp, ok_OnCell T, T.b_OnCell_init⟩
local macro_rules | `(tactic| walk_at "call") => `(tactic| (refine gX "__init__" ?_; refine we_clm (clm_OnCell ‹Tx _ _›) (room ‹Room _ _› (by decide)) rfl ?_))
def sp_If (CI CN : Addr) : SpD := fun xs M R Rx => ∃ a b y n, xs = [.cel 0, .dat (.str a), .dat (.str b), .dat y, .dat n] ∧ M = [.ins CI []] ∧ (match badNm [a, b] with
  | none => R (.dat .non) [.ins CI [("cell", .dat (.str a)), ("value", .dat (.str b)), ("yes", .dat y), ("no", .dat n)]]
  | some z => Rx CN [("name", .str z)] [.ins CI []])
theorem ok_If (T : Tx K mg) : FnOk P w K mg base (L2.CX P w) 5 T.f_If_init T.d_If_init ["self", "cell", "value", "yes", "no"] (spOf K 1 (sp_If T.C_If T.C_NoName)) := by
  refine fn_ok T.F_If_init sc_If_init (fun xs M R Rx h => by obtain ⟨_, _, _, _, rfl, _⟩ := h; rfl) (fun cdv A outer s H E B xs M R Rx hr hB h => ?_)
  obtain ⟨a, b, y, n, rfl, rfl, hR⟩ := h
  have nd := sc_If_init.nd
  repeat walk_at "s"
  refine cq rfl ⟨T.C_If, a, b, rfl, rfl, ⟨T.cl_If, T.n_If_cell, T.n_If_value⟩, ?_⟩
  cases e1 : badNm [a, b] with
  | some z =>
    rw [e1] at hR
    exact ⟨rfl, hR⟩
  | none =>
  rw [e1] at hR
  repeat walk_at "s"
  exact ⟨rfl, hR⟩
def sp_While (CI CN : Addr) : SpD := fun xs M R Rx => ∃ a b y, xs = [.cel 0, .dat (.str a), .dat (.str b), .dat y] ∧ M = [.ins CI []] ∧ (match badNm [a, b] with
  | none => R (.dat .non) [.ins CI [("cell", .dat (.str a)), ("value", .dat (.str b)), ("body", .dat y)]]
  | some z => Rx CN [("name", .str z)] [.ins CI []])
theorem ok_While (T : Tx K mg) : FnOk P w K mg base (L2.CX P w) 5 T.f_While_init T.d_While_init ["self", "cell", "value", "body"] (spOf K 1 (sp_While T.C_While T.C_NoName)) := by
  refine fn_ok T.F_While_init sc_While_init (fun xs M R Rx h => by obtain ⟨_, _, _, rfl, _⟩ := h; rfl) (fun cdv A outer s H E B xs M R Rx hr hB h => ?_)
  obtain ⟨a, b, y, rfl, rfl, hR⟩ := h
  have nd := sc_While_init.nd
  repeat walk_at "s"
  refine cq rfl ⟨T.C_While, a, b, rfl, rfl, ⟨T.cl_While, T.n_While_cell, T.n_While_value⟩, ?_⟩
  cases e1 : badNm [a, b] with
  | some z =>
    rw [e1] at hR
    exact ⟨rfl, hR⟩
  | none =>
  rw [e1] at hR
  repeat walk_at "s"
  exact ⟨rfl, hR⟩
def sp_Mark (CM CN : Addr) : SpD := fun xs M R Rx => ∃ a, xs = [.cel 0, .dat (.str a)] ∧ M = [.ins CM []] ∧ (match badNm [a] with
  | none => R (.dat .non) [.ins CM [("name", .dat (.str a))]]
  | some z => Rx CN [("name", .str z)] [.ins CM []])
theorem ok_Mark (T : Tx K mg) : FnOk P w K mg base (L2.CX P w) 4 T.f_Mark_init T.d_Mark_init ["self", "name"] (spOf K 1 (sp_Mark T.C_Mark T.C_NoName)) := by
  refine fn_ok T.F_Mark_init sc_Mark_init (fun xs M R Rx h => by obtain ⟨_, rfl, _⟩ := h; rfl) (fun cdv A outer s H E B xs M R Rx hr hB h => ?_)
  obtain ⟨a, rfl, rfl, hR⟩ := h
  have nd := sc_Mark_init.nd
  repeat walk_at "s"
  refine we_lst ?_
  repeat walk_at "s"
  refine cq rfl ⟨[a], rfl, rfl, ?_⟩
  cases e1 : badNm [a] with
  | some z =>
    rw [e1] at hR
    exact ⟨rfl, hR⟩
  | none =>
  rw [e1] at hR
  repeat walk_at "s"
  exact ⟨rfl, hR⟩
theorem mkr_If (T : Tx K mg) : Mkr P w K mg base "If" T.C_If 5 (sp_If T.C_If T.C_NoName) := ⟨_, _, _, T.mk_If, ok_If T, T.g_If, T.b_If_init⟩
local macro_rules | `(tactic| walk_at "call") => `(tactic| (refine gF "If" ?_; refine we_mkr (mkr_If ‹Tx _ _›) (room ‹Room _ _› (by decide)) rfl ?_))
theorem mkr_While (T : Tx K mg) : Mkr P w K mg base "While" T.C_While 5 (sp_While T.C_While T.C_NoName) := ⟨_, _, _, T.mk_While, ok_While T, T.g_While, T.b_While_init⟩
local macro_rules | `(tactic| walk_at "call") => `(tactic| (refine gF "While" ?_; refine we_mkr (mkr_While ‹Tx _ _›) (room ‹Room _ _› (by decide)) rfl ?_))
theorem mkr_Mark (T : Tx K mg) : Mkr P w K mg base "Mark" T.C_Mark 4 (sp_Mark T.C_Mark T.C_NoName) := ⟨_, _, _, T.mk_Mark, ok_Mark T, T.g_Mark, T.b_Mark_init⟩
local macro_rules | `(tactic| walk_at "call") => `(tactic| (refine gF "Mark" ?_; refine we_mkr (mkr_Mark ‹Tx _ _›) (room ‹Room _ _› (by decide)) rfl ?_))

def sp_asize : SpD := fun xs M R _ => ∃ a b : Int, xs = [.dat (.int a), .dat (.int b)] ∧ M = [] ∧ a ≤ 24 ∧ b ≤ 6 ∧ R (.dat .non) []
theorem ok_asize (T : Tx K mg) : FnOk P w K mg base (L2.CX P w) 1 T.f_asked_size T.d_asked_size ["size", "deep"] (spOf K 0 sp_asize) := by
  refine fn_ok T.F_asked_size sc_asked_size (fun xs M R Rx h => by obtain ⟨_, _, rfl, _⟩ := h; rfl) (fun cdv A outer s H E B xs M R Rx hr hB h => ?_)
  obtain ⟨a, b, rfl, rfl, ha, hb, hR⟩ := h
  have nd := sc_asked_size.nd
  repeat walk_at "s"
  refine it_f (decide_eq_false (by omega)) ?_
  repeat walk_at "s"
  refine it_f (decide_eq_false (by omega)) ?_
  repeat walk_at "s"
  exact ⟨rfl, hR⟩
theorem cal_asize (T : Tx K mg) : Cal P w K mg base "asked_size" 1 0 sp_asize := ⟨_, _, _, ok_asize T, T.g_asked_size, T.F_asked_size.kp, T.b_asked_size⟩
local macro_rules | `(tactic| walk_at "call") => `(tactic| (refine gF "asked_size" ?_; refine we_own (k := 1) (n := 0) (S := sp_asize) ?_ ?_ rfl ?_; exact cal_asize ‹Tx _ _›; exact room ‹Room _ _› (by decide)))
/-- the empty program -/
def pC (CP : Addr) : Cell := .ins CP [("row", .dat (.tup []))]
def sp_Psize (CP : Addr) : SpD := fun xs M R _ => xs = [.cel 0] ∧ M = [pC CP] ∧ R (.dat (.int 0)) [pC CP]
def sp_Pdeep (CP : Addr) : SpD := fun xs M R _ => xs = [.cel 0] ∧ M = [pC CP] ∧ R (.dat (.int 1)) [pC CP]
theorem ok_Psize (T : Tx K mg) : FnOk P w K mg base (L2.CX P w) 1 T.f_Program_size T.d_Program_size ["self"] (spOf K 1 (sp_Psize T.C_Program)) := by
  refine fn_ok T.F_Program_size sc_Program_size (fun xs M R Rx h => by obtain ⟨rfl, _⟩ := h; rfl) (fun cdv A outer s H E B xs M R Rx hr hB h => ?_)
  obtain ⟨rfl, rfl, hR⟩ := h
  have nd := sc_Program_size.nd
  repeat walk_at "s"
  refine we_lc1 (j := 1) rfl nd (blkOk_by rfl) rfl (fun _ _ _ _ _ => .inl rfl) (by decide) (wi_tup ?_)
  repeat walk_at "s"
  refine ⟨fun i acc M => acc = [] ∧ M = [pC T.C_Program], ⟨rfl, rfl⟩, ?_, ?_⟩
  · intro i d acc M hd
    cases hd
  · rintro acc M ⟨rfl, rfl⟩
    repeat walk_at "s"
    exact ⟨[], rfl, rfl, hR⟩
theorem ok_Pdeep (T : Tx K mg) : FnOk P w K mg base (L2.CX P w) 1 T.f_Program_deep T.d_Program_deep ["self"] (spOf K 1 (sp_Pdeep T.C_Program)) := by
  refine fn_ok T.F_Program_deep sc_Program_deep (fun xs M R Rx h => by obtain ⟨rfl, _⟩ := h; rfl) (fun cdv A outer s H E B xs M R Rx hr hB h => ?_)
  obtain ⟨rfl, rfl, hR⟩ := h
  have nd := sc_Program_deep.nd
  repeat walk_at "s"
  refine ws_for rfl (wi_tup ?_)
  repeat walk_at "s"
  refine ⟨fun i ss M => (∃ o1 o2, ss = [some (.cel 0), some (.dat (.int 0)), o1, o2]) ∧ M = [pC T.C_Program], ⟨⟨_, _, rfl⟩, rfl⟩, ?_, ?_⟩
  · intro i d acc M hd
    cases hd
  · rintro ss M ⟨⟨o1, o2, rfl⟩, rfl⟩
    repeat walk_at "s"
    exact ⟨rfl, hR⟩
theorem mtd_Psize (T : Tx K mg) : Mtd P w K mg base T.C_Program "size" 1 1 (sp_Psize T.C_Program) := ⟨_, _, _, T.cl_Program, T.m_Program_size, ok_Psize T, T.b_Program_size⟩
theorem mtd_Pdeep (T : Tx K mg) : Mtd P w K mg base T.C_Program "deep" 1 1 (sp_Pdeep T.C_Program) := ⟨_, _, _, T.cl_Program, T.m_Program_deep, ok_Pdeep T, T.b_Program_deep⟩
def sp_Prog (CP : Addr) : SpD := fun xs M R _ => xs = [.cel 0, .dat (.lst [])] ∧ M = [.ins CP []] ∧ R (.dat .non) [pC CP]
theorem ok_Prog (T : Tx K mg) : FnOk P w K mg base (L2.CX P w) 2 T.f_Program_init T.d_Program_init ["self", "statements"] (spOf K 1 (sp_Prog T.C_Program)) := by
  refine fn_ok T.F_Program_init sc_Program_init (fun xs M R Rx h => by obtain ⟨rfl, _⟩ := h; rfl) (fun cdv A outer s H E B xs M R Rx hr hB h => ?_)
  obtain ⟨rfl, rfl, hR⟩ := h
  have nd := sc_Program_init.nd
  repeat walk_at "s"
  refine we_mtd0 (C := T.C_Program) (k := 1) (n := 1) (S := sp_Psize T.C_Program) (mtd_Psize T) (room hr (by decide)) ?_
  repeat walk_at "s"
  refine ⟨⟨_, rfl, rfl⟩, cq rfl ⟨rfl, rfl, ?_⟩⟩
  repeat walk_at "s"
  refine we_mtd0 (C := T.C_Program) (k := 1) (n := 1) (S := sp_Pdeep T.C_Program) (mtd_Pdeep T) (room hr (by decide)) ?_
  repeat walk_at "s"
  refine ⟨⟨_, rfl, rfl⟩, cq rfl ⟨rfl, rfl, ?_⟩⟩
  repeat walk_at "s"
  refine cq rfl ⟨_, _, rfl, rfl, by omega, by omega, ?_⟩
  repeat walk_at "s"
  exact ⟨rfl, hR⟩
theorem mkr_Prog (T : Tx K mg) : Mkr P w K mg base "Program" T.C_Program 2 (sp_Prog T.C_Program) := ⟨_, _, _, T.mk_Program, ok_Prog T, T.g_Program, T.b_Program_init⟩
local macro_rules | `(tactic| walk_at "call") => `(tactic| (refine gF "Program" ?_; refine we_mkr (mkr_Prog ‹Tx _ _›) (room ‹Room _ _› (by decide)) rfl ?_))

theorem csok0 {z : Str} (h : z ≠ "a") : CsOk [("a", ["b", "c"]), (z, ["b", "c"])] := by
  refine ⟨⟨by show 1 ≤ 2; decide, by show 2 ≤ 3; decide⟩, ?_, ?_⟩
  · intro c hc
    rcases List.mem_cons.mp hc with e | hc
    · subst e; exact ⟨by decide, by decide, by decide +kernel⟩
    rcases List.mem_cons.mp hc with e | hc
    · subst e; exact ⟨Nat.le_refl 2, by show 2 ≤ 4; decide, show (["b", "c"] : List Str).Nodup by decide +kernel⟩
    cases hc
  · show (["a", z] : List Str).Nodup
    simp
    exact fun e => h e.symm
theorem csok1 {z : Str} (h1 : z ≠ "nine") (h2 : z ≠ "ten") : CsOk [("a", ["nine", "ten", z])] := by
  refine ⟨⟨by show 1 ≤ 1; decide, by show 1 ≤ 3; decide⟩, ?_, by show (["a"] : List Str).Nodup; decide +kernel⟩
  intro c hc
  rcases List.mem_cons.mp hc with e | hc
  · subst e
    refine ⟨by show 2 ≤ 3; decide, by show 3 ≤ 4; decide, ?_⟩
    show (["nine", "ten", z] : List Str).Nodup
    have n1 : ¬ ("nine" : Str) = "ten" := by decide +kernel
    simp
    exact ⟨⟨n1, fun e => h1 e.symm⟩, fun e => h2 e.symm⟩
  cases hc
theorem csok2 {z : Str} (h1 : z ≠ "nine") (h2 : z ≠ "ten") : CsOk [("a", [z, "nine", "ten"])] := by
  refine ⟨⟨by show 1 ≤ 1; decide, by show 1 ≤ 3; decide⟩, ?_, by show (["a"] : List Str).Nodup; decide +kernel⟩
  intro c hc
  rcases List.mem_cons.mp hc with e | hc
  · subst e
    refine ⟨by show 2 ≤ 3; decide, by show 3 ≤ 4; decide, ?_⟩
    show ([z, "nine", "ten"] : List Str).Nodup
    have n1 : ¬ ("nine" : Str) = "ten" := by decide +kernel
    simp
    exact ⟨⟨h1, h2⟩, n1⟩
  cases hc
theorem nm_a : isNm "a" = true := by decide +kernel
theorem nm_b : isNm "b" = true := by decide +kernel
theorem nm_c : isNm "c" = true := by decide +kernel
theorem nm_nine : isNm "nine" = true := by decide +kernel
theorem nm_ten : isNm "ten" = true := by decide +kernel
theorem bad_cons {z : Str} {r : List Str} : badNm (z :: r) = if isNm z then badNm r else some z := by
  unfold badNm
  rw [List.find?_cons]
  cases isNm z <;> rfl
theorem bad_nil : badNm [] = none := rfl
def sp_fields (K : PySem.W.Frag) : SpD := fun xs M R _ => ∃ C fs a b, xs = [.dat (.ins C fs)] ∧ M = [] ∧ FC K C ∧ fs.lookup ("cell" : Str) = some (D.str a) ∧ fs.lookup ("value" : Str) = some (D.str b) ∧ R (.dat (.lst [.str a, .str b])) []
theorem ok_fields (T : Tx K mg) : FnOk P w K mg base (L2.CX P w) 1 T.f_law_fields T.d_law_fields ["_law_one"] (spOf K 0 (sp_fields K)) := by
  refine fn_ok T.F_law_fields sc_law_fields (fun xs M R Rx h => by obtain ⟨_, _, _, _, rfl, _⟩ := h; rfl) (fun cdv A outer s H E B xs M R Rx hr hB h => ?_)
  obtain ⟨C, fs, a, b, rfl, rfl, fc, h1, h2, hR⟩ := h
  have nd := sc_law_fields.nd
  repeat walk_at "s"
  refine we_lst ?_
  iterate 3 walk_at "s"
  refine ⟨_, h1, ⟨fc.cl, fc.cell⟩, ?_⟩
  iterate 3 walk_at "s"
  refine ⟨_, h2, ⟨fc.cl, fc.value⟩, ?_⟩
  repeat walk_at "s"
  exact ⟨rfl, hR⟩
theorem cal_fields (T : Tx K mg) : Cal P w K mg base "_law_fields" 1 0 (sp_fields K) := ⟨_, _, _, ok_fields T, T.g_law_fields, T.F_law_fields.kp, T.b_law_fields⟩
local macro_rules | `(tactic| walk_at "call") => `(tactic| (refine gF "_law_fields" ?_; refine we_own (cal_fields ‹Tx _ _›) (room ‹Room _ _› (by decide)) rfl ?_))
local macro_rules | `(tactic| walk_at "z") => `(tactic| first | walk_at "s" | refine we_lst ?_)
def sp_made (CN : Addr) : SpD := fun xs M R Rx => ∃ (n : Int) (z : Str), xs = [.dat (.int n), .dat (.str z)] ∧ M = [] ∧ (0 ≤ n ∧ n < 12) ∧ (z ≠ "a" ∧ z ≠ "nine" ∧ z ≠ "ten") ∧ (if isNm z = true then R (.dat (.str z)) [] else Rx CN [("name", .str z)] [])
theorem ok_made (T : Tx K mg) : FnOk P w K mg base (L2.CX P w) 8 T.f_law_made T.d_law_made ["_law_door", "_law_text_here"] (spOf K 0 (sp_made T.C_NoName)) := by
  refine fn_ok T.F_law_made sc_law_made (fun xs M R Rx h => by obtain ⟨_, _, rfl, _⟩ := h; rfl) (fun cdv A outer s H E B xs M R Rx hr hB h => ?_)
  obtain ⟨n, z, rfl, rfl, hn, hz, hR⟩ := h
  have nd := sc_law_made.nd
  have cases12 : n = 0 ∨ n = 1 ∨ n = 2 ∨ n = 3 ∨ n = 4 ∨ n = 5 ∨ n = 6 ∨ n = 7 ∨ n = 8 ∨ n = 9 ∨ n = 10 ∨ n = 11 := by omega
  rcases cases12 with rfl | rfl | rfl | rfl | rfl | rfl | rfl | rfl | rfl | rfl | rfl | rfl
  · have en : isNm z = true → badNm ["a", "b", "c", z, "b", "c"] = none := fun h => by simp only [bad_cons, nm_a, nm_b, nm_c, nm_nine, nm_ten, h, if_true, bad_nil]
    have ey : isNm z = false → badNm ["a", "b", "c", z, "b", "c"] = some z := fun h => by simp only [bad_cons, nm_a, nm_b, nm_c, nm_nine, nm_ten, h, if_true, bad_nil]; rfl
    repeat walk_at "z"
    refine we_mtd0 (mtd_bcells T) (room hr (by decide)) ?_
    repeat walk_at "z"
    refine mq rfl ⟨[("a", ["b", "c"]), (z, ["b", "c"])], rfl, rfl, csok0 hz.1, ?_⟩
    show match badNm ["a", "b", "c", z, "b", "c"] with | none => _ | some z => _
    cases hnm : isNm z with
    | true =>
      rw [en hnm]
      refine ⟨rfl, _, _, rfl, rfl, ?_⟩
      refine ⟨⟨rfl, rfl⟩, cq rfl ⟨[("a", ["b", "c"]), (z, ["b", "c"])], rfl, rfl, ?_⟩⟩
      repeat walk_at "z"
      rw [if_pos hnm] at hR
      exact ⟨rfl, hR⟩
    | false =>
      rw [ey hnm]
      rw [if_neg (by rw [hnm]; exact Bool.false_ne_true)] at hR
      exact ⟨rfl, hR⟩
  · have en : isNm z = true → badNm ["a", "nine", "ten", z] = none := fun h => by simp only [bad_cons, nm_a, nm_b, nm_c, nm_nine, nm_ten, h, if_true, bad_nil]
    have ey : isNm z = false → badNm ["a", "nine", "ten", z] = some z := fun h => by simp only [bad_cons, nm_a, nm_b, nm_c, nm_nine, nm_ten, h, if_true, bad_nil]; rfl
    repeat walk_at "z"
    refine we_mtd (mtd_bvals T) (room hr (by decide)) ?_
    repeat walk_at "z"
    refine mq rfl ⟨[("a", ["nine", "ten", z])], rfl, rfl, csok1 hz.2.1 hz.2.2, ?_⟩
    show match badNm ["a", "nine", "ten", z] with | none => _ | some z => _
    cases hnm : isNm z with
    | true =>
      rw [en hnm]
      refine ⟨rfl, _, _, rfl, rfl, ?_⟩
      refine ⟨⟨rfl, rfl⟩, ?_⟩
      repeat walk_at "z"
      refine cq rfl ⟨[("a", ["nine", "ten", z])], ("a", ["nine", "ten", z]), rfl, rfl, by show (["a"] : List Str).Nodup; decide +kernel, List.mem_cons_self .., ?_⟩
      repeat walk_at "z"
      rw [if_pos hnm] at hR
      exact ⟨rfl, hR⟩
    | false =>
      rw [ey hnm]
      rw [if_neg (by rw [hnm]; exact Bool.false_ne_true)] at hR
      exact ⟨rfl, hR⟩
  · have en : isNm z = true → badNm ["a", z, "nine", "ten"] = none := fun h => by simp only [bad_cons, nm_a, nm_b, nm_c, nm_nine, nm_ten, h, if_true, bad_nil]
    have ey : isNm z = false → badNm ["a", z, "nine", "ten"] = some z := fun h => by simp only [bad_cons, nm_a, nm_b, nm_c, nm_nine, nm_ten, h, if_true, bad_nil]; rfl
    repeat walk_at "z"
    refine we_mtd (mtd_bvals T) (room hr (by decide)) ?_
    repeat walk_at "z"
    refine mq rfl ⟨[("a", [z, "nine", "ten"])], rfl, rfl, csok2 hz.2.1 hz.2.2, ?_⟩
    show match badNm ["a", z, "nine", "ten"] with | none => _ | some z => _
    cases hnm : isNm z with
    | true =>
      rw [en hnm]
      refine ⟨rfl, _, _, rfl, rfl, ?_⟩
      refine ⟨⟨rfl, rfl⟩, ?_⟩
      repeat walk_at "z"
      refine cq rfl ⟨[("a", [z, "nine", "ten"])], ("a", [z, "nine", "ten"]), rfl, rfl, by show (["a"] : List Str).Nodup; decide +kernel, List.mem_cons_self .., ?_⟩
      repeat walk_at "z"
      rw [if_pos hnm] at hR
      exact ⟨rfl, hR⟩
    | false =>
      rw [ey hnm]
      rw [if_neg (by rw [hnm]; exact Bool.false_ne_true)] at hR
      exact ⟨rfl, hR⟩
  · have en : isNm z = true → badNm [z, "a"] = none := fun h => by simp only [bad_cons, nm_a, nm_b, nm_c, nm_nine, nm_ten, h, if_true, bad_nil]
    have ey : isNm z = false → badNm [z, "a"] = some z := fun h => by simp only [bad_cons, nm_a, nm_b, nm_c, nm_nine, nm_ten, h, if_true, bad_nil]; rfl
    repeat walk_at "z"
    refine mq rfl ⟨T.C_Write, z, "a", rfl, rfl, ⟨T.cl_Write, T.n_Write_cell, T.n_Write_value⟩, ?_⟩
    show match badNm [z, "a"] with | none => _ | some z => _
    cases hnm : isNm z with
    | true =>
      rw [en hnm]
      refine ⟨rfl, _, _, rfl, rfl, ?_⟩
      repeat walk_at "z"
      refine cq rfl ⟨_, _, z, "a", rfl, rfl, ⟨T.cl_Write, T.n_Write_cell, T.n_Write_value⟩, rfl, rfl, ?_⟩
      repeat walk_at "z"
      rw [if_pos hnm] at hR
      exact ⟨rfl, hR⟩
    | false =>
      rw [ey hnm]
      rw [if_neg (by rw [hnm]; exact Bool.false_ne_true)] at hR
      exact ⟨rfl, hR⟩
  · have en : isNm z = true → badNm ["a", z] = none := fun h => by simp only [bad_cons, nm_a, nm_b, nm_c, nm_nine, nm_ten, h, if_true, bad_nil]
    have ey : isNm z = false → badNm ["a", z] = some z := fun h => by simp only [bad_cons, nm_a, nm_b, nm_c, nm_nine, nm_ten, h, if_true, bad_nil]; rfl
    repeat walk_at "z"
    refine mq rfl ⟨T.C_Write, "a", z, rfl, rfl, ⟨T.cl_Write, T.n_Write_cell, T.n_Write_value⟩, ?_⟩
    show match badNm ["a", z] with | none => _ | some z => _
    cases hnm : isNm z with
    | true =>
      rw [en hnm]
      refine ⟨rfl, _, _, rfl, rfl, ?_⟩
      repeat walk_at "z"
      refine cq rfl ⟨_, _, "a", z, rfl, rfl, ⟨T.cl_Write, T.n_Write_cell, T.n_Write_value⟩, rfl, rfl, ?_⟩
      repeat walk_at "z"
      rw [if_pos hnm] at hR
      exact ⟨rfl, hR⟩
    | false =>
      rw [ey hnm]
      rw [if_neg (by rw [hnm]; exact Bool.false_ne_true)] at hR
      exact ⟨rfl, hR⟩
  · have en : isNm z = true → badNm [z, "a"] = none := fun h => by simp only [bad_cons, nm_a, nm_b, nm_c, nm_nine, nm_ten, h, if_true, bad_nil]
    have ey : isNm z = false → badNm [z, "a"] = some z := fun h => by simp only [bad_cons, nm_a, nm_b, nm_c, nm_nine, nm_ten, h, if_true, bad_nil]; rfl
    repeat walk_at "z"
    refine mq rfl ⟨T.C_Wait, z, "a", rfl, rfl, ⟨T.cl_Wait, T.n_Wait_cell, T.n_Wait_value⟩, ?_⟩
    show match badNm [z, "a"] with | none => _ | some z => _
    cases hnm : isNm z with
    | true =>
      rw [en hnm]
      refine ⟨rfl, _, _, rfl, rfl, ?_⟩
      repeat walk_at "z"
      refine cq rfl ⟨_, _, z, "a", rfl, rfl, ⟨T.cl_Wait, T.n_Wait_cell, T.n_Wait_value⟩, rfl, rfl, ?_⟩
      repeat walk_at "z"
      rw [if_pos hnm] at hR
      exact ⟨rfl, hR⟩
    | false =>
      rw [ey hnm]
      rw [if_neg (by rw [hnm]; exact Bool.false_ne_true)] at hR
      exact ⟨rfl, hR⟩
  · have en : isNm z = true → badNm ["a", z] = none := fun h => by simp only [bad_cons, nm_a, nm_b, nm_c, nm_nine, nm_ten, h, if_true, bad_nil]
    have ey : isNm z = false → badNm ["a", z] = some z := fun h => by simp only [bad_cons, nm_a, nm_b, nm_c, nm_nine, nm_ten, h, if_true, bad_nil]; rfl
    repeat walk_at "z"
    refine mq rfl ⟨T.C_Wait, "a", z, rfl, rfl, ⟨T.cl_Wait, T.n_Wait_cell, T.n_Wait_value⟩, ?_⟩
    show match badNm ["a", z] with | none => _ | some z => _
    cases hnm : isNm z with
    | true =>
      rw [en hnm]
      refine ⟨rfl, _, _, rfl, rfl, ?_⟩
      repeat walk_at "z"
      refine cq rfl ⟨_, _, "a", z, rfl, rfl, ⟨T.cl_Wait, T.n_Wait_cell, T.n_Wait_value⟩, rfl, rfl, ?_⟩
      repeat walk_at "z"
      rw [if_pos hnm] at hR
      exact ⟨rfl, hR⟩
    | false =>
      rw [ey hnm]
      rw [if_neg (by rw [hnm]; exact Bool.false_ne_true)] at hR
      exact ⟨rfl, hR⟩
  · have en : isNm z = true → badNm [z, "a"] = none := fun h => by simp only [bad_cons, nm_a, nm_b, nm_c, nm_nine, nm_ten, h, if_true, bad_nil]
    have ey : isNm z = false → badNm [z, "a"] = some z := fun h => by simp only [bad_cons, nm_a, nm_b, nm_c, nm_nine, nm_ten, h, if_true, bad_nil]; rfl
    repeat walk_at "z"
    refine mq rfl ⟨rfl, rfl, ?_⟩
    refine ⟨rfl, _, _, rfl, rfl, ?_⟩
    repeat walk_at "z"
    refine mq rfl ⟨rfl, rfl, ?_⟩
    refine ⟨rfl, _, _, rfl, rfl, ?_⟩
    repeat walk_at "z"
    refine mq rfl ⟨z, "a", _, _, rfl, rfl, ?_⟩
    show match badNm [z, "a"] with | none => _ | some z => _
    cases hnm : isNm z with
    | true =>
      rw [en hnm]
      refine ⟨rfl, _, _, rfl, rfl, ?_⟩
      repeat walk_at "z"
      refine cq rfl ⟨_, _, z, "a", rfl, rfl, ⟨T.cl_If, T.n_If_cell, T.n_If_value⟩, rfl, rfl, ?_⟩
      repeat walk_at "z"
      rw [if_pos hnm] at hR
      exact ⟨rfl, hR⟩
    | false =>
      rw [ey hnm]
      rw [if_neg (by rw [hnm]; exact Bool.false_ne_true)] at hR
      exact ⟨rfl, hR⟩
  · have en : isNm z = true → badNm ["a", z] = none := fun h => by simp only [bad_cons, nm_a, nm_b, nm_c, nm_nine, nm_ten, h, if_true, bad_nil]
    have ey : isNm z = false → badNm ["a", z] = some z := fun h => by simp only [bad_cons, nm_a, nm_b, nm_c, nm_nine, nm_ten, h, if_true, bad_nil]; rfl
    repeat walk_at "z"
    refine mq rfl ⟨rfl, rfl, ?_⟩
    refine ⟨rfl, _, _, rfl, rfl, ?_⟩
    repeat walk_at "z"
    refine mq rfl ⟨rfl, rfl, ?_⟩
    refine ⟨rfl, _, _, rfl, rfl, ?_⟩
    repeat walk_at "z"
    refine mq rfl ⟨"a", z, _, _, rfl, rfl, ?_⟩
    show match badNm ["a", z] with | none => _ | some z => _
    cases hnm : isNm z with
    | true =>
      rw [en hnm]
      refine ⟨rfl, _, _, rfl, rfl, ?_⟩
      repeat walk_at "z"
      refine cq rfl ⟨_, _, "a", z, rfl, rfl, ⟨T.cl_If, T.n_If_cell, T.n_If_value⟩, rfl, rfl, ?_⟩
      repeat walk_at "z"
      rw [if_pos hnm] at hR
      exact ⟨rfl, hR⟩
    | false =>
      rw [ey hnm]
      rw [if_neg (by rw [hnm]; exact Bool.false_ne_true)] at hR
      exact ⟨rfl, hR⟩
  · have en : isNm z = true → badNm [z, "a"] = none := fun h => by simp only [bad_cons, nm_a, nm_b, nm_c, nm_nine, nm_ten, h, if_true, bad_nil]
    have ey : isNm z = false → badNm [z, "a"] = some z := fun h => by simp only [bad_cons, nm_a, nm_b, nm_c, nm_nine, nm_ten, h, if_true, bad_nil]; rfl
    repeat walk_at "z"
    refine mq rfl ⟨rfl, rfl, ?_⟩
    refine ⟨rfl, _, _, rfl, rfl, ?_⟩
    repeat walk_at "z"
    refine mq rfl ⟨z, "a", _, rfl, rfl, ?_⟩
    show match badNm [z, "a"] with | none => _ | some z => _
    cases hnm : isNm z with
    | true =>
      rw [en hnm]
      refine ⟨rfl, _, _, rfl, rfl, ?_⟩
      repeat walk_at "z"
      refine cq rfl ⟨_, _, z, "a", rfl, rfl, ⟨T.cl_While, T.n_While_cell, T.n_While_value⟩, rfl, rfl, ?_⟩
      repeat walk_at "z"
      rw [if_pos hnm] at hR
      exact ⟨rfl, hR⟩
    | false =>
      rw [ey hnm]
      rw [if_neg (by rw [hnm]; exact Bool.false_ne_true)] at hR
      exact ⟨rfl, hR⟩
  · have en : isNm z = true → badNm ["a", z] = none := fun h => by simp only [bad_cons, nm_a, nm_b, nm_c, nm_nine, nm_ten, h, if_true, bad_nil]
    have ey : isNm z = false → badNm ["a", z] = some z := fun h => by simp only [bad_cons, nm_a, nm_b, nm_c, nm_nine, nm_ten, h, if_true, bad_nil]; rfl
    repeat walk_at "z"
    refine mq rfl ⟨rfl, rfl, ?_⟩
    refine ⟨rfl, _, _, rfl, rfl, ?_⟩
    repeat walk_at "z"
    refine mq rfl ⟨"a", z, _, rfl, rfl, ?_⟩
    show match badNm ["a", z] with | none => _ | some z => _
    cases hnm : isNm z with
    | true =>
      rw [en hnm]
      refine ⟨rfl, _, _, rfl, rfl, ?_⟩
      repeat walk_at "z"
      refine cq rfl ⟨_, _, "a", z, rfl, rfl, ⟨T.cl_While, T.n_While_cell, T.n_While_value⟩, rfl, rfl, ?_⟩
      repeat walk_at "z"
      rw [if_pos hnm] at hR
      exact ⟨rfl, hR⟩
    | false =>
      rw [ey hnm]
      rw [if_neg (by rw [hnm]; exact Bool.false_ne_true)] at hR
      exact ⟨rfl, hR⟩
  · have en : isNm z = true → badNm [z] = none := fun h => by simp only [bad_cons, h, if_true, bad_nil]
    have ey : isNm z = false → badNm [z] = some z := fun h => by simp only [bad_cons, h]; rfl
    repeat walk_at "z"
    refine mq rfl ⟨z, rfl, rfl, ?_⟩
    show match badNm [z] with | none => _ | some z => _
    cases hnm : isNm z with
    | true =>
      rw [en hnm]
      refine ⟨rfl, _, _, rfl, rfl, ?_⟩
      repeat walk_at "z"
      rw [if_pos hnm] at hR
      exact ⟨rfl, hR⟩
    | false =>
      rw [ey hnm]
      rw [if_neg (by rw [hnm]; exact Bool.false_ne_true)] at hR
      exact ⟨rfl, hR⟩
theorem cal_made (T : Tx K mg) : Cal P w K mg base "_law_made" 8 0 (sp_made T.C_NoName) := ⟨_, _, _, ok_made T, T.g_law_made, T.F_law_made.kp, T.b_law_made⟩
local macro_rules | `(tactic| walk_at "call") => `(tactic| (refine gF "_law_made" ?_; refine we_own (k := 8) (n := 0) (S := (sp_made (‹Tx _ _›).C_NoName)) ?_ ?_ rfl ?_; exact cal_made ‹Tx _ _›; exact room ‹Room _ _› (by decide)))

def dueD (z : Str) : D := if isNm z = true then .tup [.str "made", .str z] else .tup [.str "refused", .str z, .bl true, .bl true, .bl false]
theorem due_made {z : Str} (h : (!isNm z) = false) : dueD z = .tup [.str "made", .str z] := by
  unfold dueD
  rw [if_pos (by simpa using h)]
theorem due_ref {z : Str} (h : (!isNm z) = true) : dueD z = .tup [.str "refused", .str z, .bl true, .bl true, .bl false] := by
  unfold dueD
  rw [if_neg (by simpa using h)]
theorem dueD_pl {z : Str} : D.pl 60 (dueD z) = true := by
  unfold dueD
  split <;> rfl
def sp_found : SpD := fun xs M R _ => ∃ (n : Int) (z : Str), xs = [.dat (.int n), .dat (.str z)] ∧ M = [] ∧ (0 ≤ n ∧ n < 12) ∧ (z ≠ "a" ∧ z ≠ "nine" ∧ z ≠ "ten") ∧ R (.dat (dueD z)) []
theorem ok_found (T : Tx K mg) : FnOk P w K mg base (L2.CX P w) 9 T.f_law_found T.d_law_found ["_law_door", "_law_text_here"] (spOf K 0 sp_found) := by
  refine fn_ok T.F_law_found sc_law_found (fun xs M R Rx h => by obtain ⟨_, _, rfl, _⟩ := h; rfl) (fun cdv A outer s H E B xs M R Rx hr hB h => ?_)
  obtain ⟨n, z, rfl, rfl, hn, hz, hR⟩ := h
  have nd := sc_law_found.nd
  repeat walk_at "s"
  refine ws_tryAs (i := 3) (C0 := .ref T.C_NoName) nd rfl rfl ⟨rfl, by decide, .inl T.g_NoName⟩ (fun pn xe B' hB' => ?_)
  repeat walk_at "s"
  refine cq rfl ⟨n, z, rfl, rfl, hn, hz, ?_⟩
  cases hnm : isNm z with
  | true =>
    have ed : dueD z = .tup [.str "made", .str z] := by unfold dueD; rw [if_pos hnm]
    rw [ed] at hR
    refine it_t rfl ?_
    repeat walk_at "s"
    exact ⟨rfl, hR⟩
  | false =>
    have ed : dueD z = .tup [.str "refused", .str z, .bl true, .bl true, .bl false] := by unfold dueD; rw [if_neg (by rw [hnm]; exact Bool.false_ne_true)]
    rw [ed] at hR
    refine it_f rfl ?_
    refine ⟨true, T.y_NoName_NoName, it_t rfl ?_⟩
    intro a oe d pn hz hf hd
    cases d with
    | none => cases hd rfl
    | some dd =>
    show WB _ _ _ _ _ _ _
    iterate 6 walk_at "s"
    refine we_xf T.x_NoName T.n_NoName_name hz hf ?_
    repeat walk_at "s"
    refine we_isX T.e_NoName hz hf T.z_isinstance rfl ?_
    repeat walk_at "s"
    refine we_globR rfl T.g_BoardError ?_
    walk_at "s"
    refine ⟨_, _, _, _, rfl, ClsV.own _, T.k_NoName_BoardError, ?_⟩
    repeat walk_at "s"
    refine we_isX T.e_NoName hz hf T.z_isinstance rfl ?_
    repeat walk_at "s"
    refine we_bltn (n := "ValueError") rfl T.z_ValueError (by decide +kernel) ?_
    walk_at "s"
    refine ⟨_, _, _, _, rfl, ClsV.ty _, T.kV_NoName, ?_⟩
    repeat walk_at "s"
    refine we_isX T.e_NoName hz hf T.z_isinstance rfl ?_
    repeat walk_at "s"
    refine we_globR rfl T.g_Twice ?_
    walk_at "s"
    refine ⟨_, _, _, _, rfl, ClsV.own _, T.k_NoName_Twice, ?_⟩
    repeat walk_at "s"
    exact ⟨rfl, hR⟩
theorem cal_found (T : Tx K mg) : Cal P w K mg base "_law_found" 9 0 sp_found := ⟨_, _, _, ok_found T, T.g_law_found, T.F_law_found.kp, T.b_law_found⟩
local macro_rules | `(tactic| walk_at "call") => `(tactic| (refine gF "_law_found" ?_; refine we_own (k := 9) (n := 0) (S := sp_found) ?_ ?_ rfl ?_; exact cal_found ‹Tx _ _›; exact room ‹Room _ _› (by decide)))
theorem drawn_no {z : Str} (h : ([D.str "a", D.str "nine", D.str "ten"].any fun y => deq y (.str z)) = false) : z ≠ "a" ∧ z ≠ "nine" ∧ z ≠ "ten" := by
  simp only [List.any_cons, List.any_nil, Bool.or_false, Bool.or_eq_false_iff, deq_str, decide_eq_false_iff_not] at h
  exact ⟨fun e => h.1 e.symm, fun e => h.2.1 e.symm, fun e => h.2.2 e.symm⟩
theorem other_no : ("other" : Str) ≠ "a" ∧ ("other" : Str) ≠ "nine" ∧ ("other" : Str) ≠ "ten" := by decide +kernel
theorem scr_get {ns : List Int} {i : Nat} {d : D} {lo hi : Option Int} (h : (cutD (ns.map D.int ++ [.int 0]) lo hi)[i]? = some d) : ∃ n, d = .int n := by
  have m := List.mem_of_mem_drop (List.mem_of_mem_take (List.mem_of_getElem? h))
  rcases List.mem_append.mp m with m | m
  · obtain ⟨n, _, e⟩ := List.mem_map.mp m
    exact ⟨n, e.symm⟩
  · exact ⟨0, List.mem_singleton.mp m⟩
theorem ok_law (T : Tx K mg) : FnOk P w K mg base (L2.CX P w) 10 T.f_law T.d_law ["_law_script"] (spOf K 0 (sp_law K)) := by
  refine fn_ok T.F_law sc_law (fun xs M R Rx h => by obtain ⟨_, _, rfl, _⟩ := h; rfl) (fun cdv A outer s H E B xs M R Rx hr hB h => ?_)
  obtain ⟨x, ns, rfl, hx, hl, rfl, hR⟩ := h
  have nd := sc_law.nd
  walk_at "s"
  refine ws_for rfl (wi_list ?_)
  refine we_slice ?_
  refine we_sadd ?_
  walk_at "s"
  refine we_lst ?_
  repeat walk_at "s"
  refine ⟨ns, _, hx, rfl, size_ge (by show _ + 1 ≤ 1000000; omega), ?_⟩
  repeat walk_at "s"
  have x0 : SV.lt 0 x = true := by
    rcases hx with rfl | ⟨a, rfl, _⟩ <;> rfl
  refine ⟨fun i ss M => ss = [some x, none, none, none, none, none] ∧ M = [], ⟨rfl, rfl⟩, ?_, ?_⟩
  · rintro i d ss M hd ⟨rfl, rfl⟩
    obtain ⟨n, rfl⟩ := scr_get hd
    refine wg_name (i := 1) nd rfl (.inl rfl) ?_
    repeat walk_at "s"
    refine cq rfl ⟨n, rfl, rfl, fun st ok => ?_⟩
    repeat walk_at "s"
    walk_at "dig"
    repeat walk_at "s"
    refine cq rfl ⟨_, rfl, rfl, by assumption, fun st' z ok' hz => ?_⟩
    repeat walk_at "s"
    refine inTp rfl rfl ?_
    refine ite_v (fun ht => ?_) (fun ht => ?_)
    all_goals repeat walk_at "s"
    · have h2 := other_no
      revert h2
      generalize ("other" : Str) = z2
      intro h2
      refine cq rfl ⟨_, rfl, rfl, ?_⟩
      all_goals repeat walk_at "s"
      all_goals refine ite_v (fun hn => ?_) (fun hn => ?_)
      all_goals repeat walk_at "s"
      all_goals refine cq rfl ⟨_, _, rfl, rfl, ⟨by omega, by omega⟩, h2, ?_⟩
      all_goals first | rw [due_made hn] | rw [due_ref hn]
      all_goals repeat walk_at "s"
      all_goals refine neD rfl rfl ?_
      all_goals refine it_f (by rw [deq_refl (n := 60) rfl]; rfl) ?_
      all_goals repeat walk_at "s"
      all_goals refine cq rfl ⟨_, _, rfl, rfl, ⟨by omega, by omega⟩, h2, ?_⟩
      all_goals first | rw [due_made hn] | rw [due_ref hn]
      all_goals repeat walk_at "s"
      all_goals refine neD rfl rfl ?_
      all_goals refine it_f (by rw [deq_refl (n := 60) rfl]; rfl) ?_
      all_goals refine wb_forget (k := 0) (ss' := [some x, none, none, none, none, none]) (.keep (.drop (.drop (.drop (.drop (.drop .nil)))))) (Nat.le_of_eq hB) rfl (by show (SV.lt 0 x && true) = true; rw [x0]; rfl) ?_
      all_goals repeat walk_at "s"
      all_goals exact ⟨rfl, rfl⟩
    · have h2 := drawn_no ht
      refine cq rfl ⟨_, rfl, rfl, ?_⟩
      all_goals repeat walk_at "s"
      all_goals refine ite_v (fun hn => ?_) (fun hn => ?_)
      all_goals repeat walk_at "s"
      all_goals refine cq rfl ⟨_, _, rfl, rfl, ⟨by omega, by omega⟩, h2, ?_⟩
      all_goals first | rw [due_made hn] | rw [due_ref hn]
      all_goals repeat walk_at "s"
      all_goals refine neD rfl rfl ?_
      all_goals refine it_f (by rw [deq_refl (n := 60) rfl]; rfl) ?_
      all_goals repeat walk_at "s"
      all_goals refine cq rfl ⟨_, _, rfl, rfl, ⟨by omega, by omega⟩, h2, ?_⟩
      all_goals first | rw [due_made hn] | rw [due_ref hn]
      all_goals repeat walk_at "s"
      all_goals refine neD rfl rfl ?_
      all_goals refine it_f (by rw [deq_refl (n := 60) rfl]; rfl) ?_
      all_goals refine wb_forget (k := 0) (ss' := [some x, none, none, none, none, none]) (.keep (.drop (.drop (.drop (.drop (.drop .nil)))))) (Nat.le_of_eq hB) rfl (by show (SV.lt 0 x && true) = true; rw [x0]; rfl) ?_
      all_goals repeat walk_at "s"
      all_goals exact ⟨rfl, rfl⟩
  · rintro ss M ⟨rfl, rfl⟩
    repeat walk_at "s"
    exact ⟨rfl, hR⟩

theorem walk {l : PySem.W.OpenLaw} {q : Program} {loose : List Str} {XP : (Str → Option Value) → Heap → Prop} {YP : World → Heap → Prop} {d : DefRec} {K : Params → PySem.W.Frag} (hn : l.most = some 63) (hdf : d.params.defaults = []) (hdn : d.name = "law")
    (hY : ∀ (w : World) (h : Heap), YP w h → (K w.params).In h)
    (F : ∀ (w : World) (mg : Str → Option Value) (h : Heap), (K w.params).In h → h.Ns mainGlobals mg → ∃ T : Tx (K w.params) mg, T.f_law = T.f_law) :
    PySem.W.WalkO q loose XP YP l.row.toRowW d [] (fun f vs => PySem.call f vs) := by
  refine L2.walk_of (n := 63) (k := 10) (x := "_law_script") (CX := fun w => L2.CX l.prog w) (sp := fun w => spOf (K w.params) 0 (sp_law (K w.params))) hn (by decide) hdf ⟨rfl, by decide, by decide⟩ hY (fun w mg fa h X G hm => ?_) (fun w H a ns hl _ hS => law_sp hl hS) (fun w H s e s' z => ?_)
  · obtain ⟨T, _⟩ := F w mg h X G
    rw [hdn] at hm
    have e := hm.symm.trans T.g_law
    cases e
    refine ⟨T.d_law, fun s u => ?_, fun base _ _ => ok_law T⟩
    obtain ⟨oc, od, kV, doc, pm, an, cdv, ct, osl, e, _⟩ := T.F_law.ex
    rw [e]
    exact .of_eq rfl
  · obtain ⟨_, _, _, _, _, _, _, _, _, _, _, _, z⟩ := z
    exact z
theorem all_mk {K : PySem.W.Frag} {h : Heap} {mg : Str → Option Value} {f_BadCount_init f_NoName_init f_Twice_init f_NoCell_init f_is_name f_asked_names f_asked_once f_asked_cells f_Board_init f_Board_cells f_Board_values_of f_asked_size f_OnCell_init f_Mark_init f_If_init f_While_init f_Program_init f_Program_size f_Program_deep f_law_state f_law_digit f_law_plain f_law_text f_law_is_name f_law_fields f_law_made f_law_found f_law C_BoardError C_BadCount C_NoName C_Twice C_NoCell C_Board C_Statement C_OnCell C_Write C_Wait C_Mark C_If C_While C_Program : Addr} {t_LETTERS t_FIGURES t_LONGEST t_MOST_CELLS t_LEAST_VALUES t_MOST_VALUES t_MOST_STATEMENTS t_MOST_DEEP : Tok} (X : K.In h) (G : h.Ns mainGlobals mg)
    (z_len : PySem.W.nsIn K mainGlobals "len" = some none)
    (z_abs : PySem.W.nsIn K mainGlobals "abs" = some none)
    (z_int : PySem.W.nsIn K mainGlobals "int" = some none)
    (z_max : PySem.W.nsIn K mainGlobals "max" = some none)
    (z_list : PySem.W.nsIn K mainGlobals "list" = some none)
    (z_tuple : PySem.W.nsIn K mainGlobals "tuple" = some none)
    (z_sum : PySem.W.nsIn K mainGlobals "sum" = some none)
    (z_all : PySem.W.nsIn K mainGlobals "all" = some none)
    (z_range : PySem.W.nsIn K mainGlobals "range" = some none)
    (z_isinstance : PySem.W.nsIn K mainGlobals "isinstance" = some none)
    (z_ValueError : PySem.W.nsIn K mainGlobals "ValueError" = some none)
    (c_LETTERS : PySem.W.nsIn K mainGlobals "LETTERS" = some (some (.str "abcdefghijklmnopqrstuvwxyz" t_LETTERS)))
    (c_FIGURES : PySem.W.nsIn K mainGlobals "FIGURES" = some (some (.str "0123456789" t_FIGURES)))
    (c_LONGEST : PySem.W.nsIn K mainGlobals "LONGEST" = some (some (.int 10 t_LONGEST)))
    (c_MOST_CELLS : PySem.W.nsIn K mainGlobals "MOST_CELLS" = some (some (.int 3 t_MOST_CELLS)))
    (c_LEAST_VALUES : PySem.W.nsIn K mainGlobals "LEAST_VALUES" = some (some (.int 2 t_LEAST_VALUES)))
    (c_MOST_VALUES : PySem.W.nsIn K mainGlobals "MOST_VALUES" = some (some (.int 4 t_MOST_VALUES)))
    (c_MOST_STATEMENTS : PySem.W.nsIn K mainGlobals "MOST_STATEMENTS" = some (some (.int 24 t_MOST_STATEMENTS)))
    (c_MOST_DEEP : PySem.W.nsIn K mainGlobals "MOST_DEEP" = some (some (.int 6 t_MOST_DEEP)))
    (l_BadCount_init : FnRaw K "__init__" "BadCount.__init__" s_BadCount_init f_BadCount_init)
    (l_NoName_init : FnRaw K "__init__" "NoName.__init__" s_NoName_init f_NoName_init)
    (l_Twice_init : FnRaw K "__init__" "Twice.__init__" s_Twice_init f_Twice_init)
    (l_NoCell_init : FnRaw K "__init__" "NoCell.__init__" s_NoCell_init f_NoCell_init)
    (l_is_name : FnRaw K "is_name" "is_name" s_is_name f_is_name)
    (a_is_name : PySem.W.nsIn K mainGlobals "is_name" = some (some (.ref f_is_name)))
    (l_asked_names : FnRaw K "asked_names" "asked_names" s_asked_names f_asked_names)
    (a_asked_names : PySem.W.nsIn K mainGlobals "asked_names" = some (some (.ref f_asked_names)))
    (l_asked_once : FnRaw K "asked_once" "asked_once" s_asked_once f_asked_once)
    (a_asked_once : PySem.W.nsIn K mainGlobals "asked_once" = some (some (.ref f_asked_once)))
    (l_asked_cells : FnRaw K "asked_cells" "asked_cells" s_asked_cells f_asked_cells)
    (a_asked_cells : PySem.W.nsIn K mainGlobals "asked_cells" = some (some (.ref f_asked_cells)))
    (l_Board_init : FnRaw K "__init__" "Board.__init__" s_Board_init f_Board_init)
    (l_Board_cells : FnRaw K "cells" "Board.cells" s_Board_cells f_Board_cells)
    (l_Board_values_of : FnRaw K "values_of" "Board.values_of" s_Board_values_of f_Board_values_of)
    (l_asked_size : FnRaw K "asked_size" "asked_size" s_asked_size f_asked_size)
    (a_asked_size : PySem.W.nsIn K mainGlobals "asked_size" = some (some (.ref f_asked_size)))
    (l_OnCell_init : FnRaw K "__init__" "OnCell.__init__" s_OnCell_init f_OnCell_init)
    (l_Mark_init : FnRaw K "__init__" "Mark.__init__" s_Mark_init f_Mark_init)
    (l_If_init : FnRaw K "__init__" "If.__init__" s_If_init f_If_init)
    (l_While_init : FnRaw K "__init__" "While.__init__" s_While_init f_While_init)
    (l_Program_init : FnRaw K "__init__" "Program.__init__" s_Program_init f_Program_init)
    (l_Program_size : FnRaw K "size" "Program.size" s_Program_size f_Program_size)
    (l_Program_deep : FnRaw K "deep" "Program.deep" s_Program_deep f_Program_deep)
    (l_law_state : FnRaw K "_law_state" "_law_state" s_law_state f_law_state)
    (a_law_state : PySem.W.nsIn K mainGlobals "_law_state" = some (some (.ref f_law_state)))
    (l_law_digit : FnRaw K "_law_digit" "_law_digit" s_law_digit f_law_digit)
    (a_law_digit : PySem.W.nsIn K mainGlobals "_law_digit" = some (some (.ref f_law_digit)))
    (l_law_plain : FnRaw K "_law_plain" "_law_plain" s_law_plain f_law_plain)
    (a_law_plain : PySem.W.nsIn K mainGlobals "_law_plain" = some (some (.ref f_law_plain)))
    (l_law_text : FnRaw K "_law_text" "_law_text" s_law_text f_law_text)
    (a_law_text : PySem.W.nsIn K mainGlobals "_law_text" = some (some (.ref f_law_text)))
    (l_law_is_name : FnRaw K "_law_is_name" "_law_is_name" s_law_is_name f_law_is_name)
    (a_law_is_name : PySem.W.nsIn K mainGlobals "_law_is_name" = some (some (.ref f_law_is_name)))
    (l_law_fields : FnRaw K "_law_fields" "_law_fields" s_law_fields f_law_fields)
    (a_law_fields : PySem.W.nsIn K mainGlobals "_law_fields" = some (some (.ref f_law_fields)))
    (l_law_made : FnRaw K "_law_made" "_law_made" s_law_made f_law_made)
    (a_law_made : PySem.W.nsIn K mainGlobals "_law_made" = some (some (.ref f_law_made)))
    (l_law_found : FnRaw K "_law_found" "_law_found" s_law_found f_law_found)
    (a_law_found : PySem.W.nsIn K mainGlobals "_law_found" = some (some (.ref f_law_found)))
    (l_law : FnRaw K "law" "law" s_law f_law)
    (a_law : PySem.W.nsIn K mainGlobals "law" = some (some (.ref f_law)))
    (a_BoardError : PySem.W.nsIn K mainGlobals "BoardError" = some (some (.ref C_BoardError)))
    (x_BoardError : XfC K C_BoardError)
    (e_BoardError : ExcC K C_BoardError)
    (k_BoardError_BoardError : PySem.W.kitOne K (.ref C_BoardError) (.ref C_BoardError) = some true)
    (y_BoardError_BoardError : PySem.W.exmOne K (.ref C_BoardError) (.ref C_BoardError) = some true)
    (k_BoardError_BadCount : PySem.W.kitOne K (.ref C_BoardError) (.ref C_BadCount) = some false)
    (y_BoardError_BadCount : PySem.W.exmOne K (.ref C_BoardError) (.ref C_BadCount) = some false)
    (k_BoardError_NoName : PySem.W.kitOne K (.ref C_BoardError) (.ref C_NoName) = some false)
    (y_BoardError_NoName : PySem.W.exmOne K (.ref C_BoardError) (.ref C_NoName) = some false)
    (k_BoardError_Twice : PySem.W.kitOne K (.ref C_BoardError) (.ref C_Twice) = some false)
    (y_BoardError_Twice : PySem.W.exmOne K (.ref C_BoardError) (.ref C_Twice) = some false)
    (k_BoardError_NoCell : PySem.W.kitOne K (.ref C_BoardError) (.ref C_NoCell) = some false)
    (y_BoardError_NoCell : PySem.W.exmOne K (.ref C_BoardError) (.ref C_NoCell) = some false)
    (kV_BoardError : PySem.W.kitOne K (.ref C_BoardError) (.type "ValueError") = some true)
    (a_BadCount : PySem.W.nsIn K mainGlobals "BadCount" = some (some (.ref C_BadCount)))
    (x_BadCount : XfC K C_BadCount)
    (e_BadCount : ExcC K C_BadCount)
    (o_BadCount : OexC K C_BadCount)
    (i_BadCount : PySem.W.findIn K (.ref C_BadCount) "__init__" = some (some (.ref f_BadCount_init)))
    (t_BadCount : PySem.W.typeIn K (.ref f_BadCount_init) = some (.type "function"))
    (n_BadCount_what : PySem.W.findIn K (.ref C_BadCount) "what" = some none)
    (n_BadCount_count : PySem.W.findIn K (.ref C_BadCount) "count" = some none)
    (k_BadCount_BoardError : PySem.W.kitOne K (.ref C_BadCount) (.ref C_BoardError) = some true)
    (y_BadCount_BoardError : PySem.W.exmOne K (.ref C_BadCount) (.ref C_BoardError) = some true)
    (k_BadCount_BadCount : PySem.W.kitOne K (.ref C_BadCount) (.ref C_BadCount) = some true)
    (y_BadCount_BadCount : PySem.W.exmOne K (.ref C_BadCount) (.ref C_BadCount) = some true)
    (k_BadCount_NoName : PySem.W.kitOne K (.ref C_BadCount) (.ref C_NoName) = some false)
    (y_BadCount_NoName : PySem.W.exmOne K (.ref C_BadCount) (.ref C_NoName) = some false)
    (k_BadCount_Twice : PySem.W.kitOne K (.ref C_BadCount) (.ref C_Twice) = some false)
    (y_BadCount_Twice : PySem.W.exmOne K (.ref C_BadCount) (.ref C_Twice) = some false)
    (k_BadCount_NoCell : PySem.W.kitOne K (.ref C_BadCount) (.ref C_NoCell) = some false)
    (y_BadCount_NoCell : PySem.W.exmOne K (.ref C_BadCount) (.ref C_NoCell) = some false)
    (kV_BadCount : PySem.W.kitOne K (.ref C_BadCount) (.type "ValueError") = some true)
    (a_NoName : PySem.W.nsIn K mainGlobals "NoName" = some (some (.ref C_NoName)))
    (x_NoName : XfC K C_NoName)
    (e_NoName : ExcC K C_NoName)
    (o_NoName : OexC K C_NoName)
    (i_NoName : PySem.W.findIn K (.ref C_NoName) "__init__" = some (some (.ref f_NoName_init)))
    (t_NoName : PySem.W.typeIn K (.ref f_NoName_init) = some (.type "function"))
    (n_NoName_name : PySem.W.findIn K (.ref C_NoName) "name" = some none)
    (k_NoName_BoardError : PySem.W.kitOne K (.ref C_NoName) (.ref C_BoardError) = some true)
    (y_NoName_BoardError : PySem.W.exmOne K (.ref C_NoName) (.ref C_BoardError) = some true)
    (k_NoName_BadCount : PySem.W.kitOne K (.ref C_NoName) (.ref C_BadCount) = some false)
    (y_NoName_BadCount : PySem.W.exmOne K (.ref C_NoName) (.ref C_BadCount) = some false)
    (k_NoName_NoName : PySem.W.kitOne K (.ref C_NoName) (.ref C_NoName) = some true)
    (y_NoName_NoName : PySem.W.exmOne K (.ref C_NoName) (.ref C_NoName) = some true)
    (k_NoName_Twice : PySem.W.kitOne K (.ref C_NoName) (.ref C_Twice) = some false)
    (y_NoName_Twice : PySem.W.exmOne K (.ref C_NoName) (.ref C_Twice) = some false)
    (k_NoName_NoCell : PySem.W.kitOne K (.ref C_NoName) (.ref C_NoCell) = some false)
    (y_NoName_NoCell : PySem.W.exmOne K (.ref C_NoName) (.ref C_NoCell) = some false)
    (kV_NoName : PySem.W.kitOne K (.ref C_NoName) (.type "ValueError") = some true)
    (a_Twice : PySem.W.nsIn K mainGlobals "Twice" = some (some (.ref C_Twice)))
    (x_Twice : XfC K C_Twice)
    (e_Twice : ExcC K C_Twice)
    (o_Twice : OexC K C_Twice)
    (i_Twice : PySem.W.findIn K (.ref C_Twice) "__init__" = some (some (.ref f_Twice_init)))
    (t_Twice : PySem.W.typeIn K (.ref f_Twice_init) = some (.type "function"))
    (n_Twice_name : PySem.W.findIn K (.ref C_Twice) "name" = some none)
    (k_Twice_BoardError : PySem.W.kitOne K (.ref C_Twice) (.ref C_BoardError) = some true)
    (y_Twice_BoardError : PySem.W.exmOne K (.ref C_Twice) (.ref C_BoardError) = some true)
    (k_Twice_BadCount : PySem.W.kitOne K (.ref C_Twice) (.ref C_BadCount) = some false)
    (y_Twice_BadCount : PySem.W.exmOne K (.ref C_Twice) (.ref C_BadCount) = some false)
    (k_Twice_NoName : PySem.W.kitOne K (.ref C_Twice) (.ref C_NoName) = some false)
    (y_Twice_NoName : PySem.W.exmOne K (.ref C_Twice) (.ref C_NoName) = some false)
    (k_Twice_Twice : PySem.W.kitOne K (.ref C_Twice) (.ref C_Twice) = some true)
    (y_Twice_Twice : PySem.W.exmOne K (.ref C_Twice) (.ref C_Twice) = some true)
    (k_Twice_NoCell : PySem.W.kitOne K (.ref C_Twice) (.ref C_NoCell) = some false)
    (y_Twice_NoCell : PySem.W.exmOne K (.ref C_Twice) (.ref C_NoCell) = some false)
    (kV_Twice : PySem.W.kitOne K (.ref C_Twice) (.type "ValueError") = some true)
    (a_NoCell : PySem.W.nsIn K mainGlobals "NoCell" = some (some (.ref C_NoCell)))
    (x_NoCell : XfC K C_NoCell)
    (e_NoCell : ExcC K C_NoCell)
    (o_NoCell : OexC K C_NoCell)
    (i_NoCell : PySem.W.findIn K (.ref C_NoCell) "__init__" = some (some (.ref f_NoCell_init)))
    (t_NoCell : PySem.W.typeIn K (.ref f_NoCell_init) = some (.type "function"))
    (n_NoCell_name : PySem.W.findIn K (.ref C_NoCell) "name" = some none)
    (k_NoCell_BoardError : PySem.W.kitOne K (.ref C_NoCell) (.ref C_BoardError) = some true)
    (y_NoCell_BoardError : PySem.W.exmOne K (.ref C_NoCell) (.ref C_BoardError) = some true)
    (k_NoCell_BadCount : PySem.W.kitOne K (.ref C_NoCell) (.ref C_BadCount) = some false)
    (y_NoCell_BadCount : PySem.W.exmOne K (.ref C_NoCell) (.ref C_BadCount) = some false)
    (k_NoCell_NoName : PySem.W.kitOne K (.ref C_NoCell) (.ref C_NoName) = some false)
    (y_NoCell_NoName : PySem.W.exmOne K (.ref C_NoCell) (.ref C_NoName) = some false)
    (k_NoCell_Twice : PySem.W.kitOne K (.ref C_NoCell) (.ref C_Twice) = some false)
    (y_NoCell_Twice : PySem.W.exmOne K (.ref C_NoCell) (.ref C_Twice) = some false)
    (k_NoCell_NoCell : PySem.W.kitOne K (.ref C_NoCell) (.ref C_NoCell) = some true)
    (y_NoCell_NoCell : PySem.W.exmOne K (.ref C_NoCell) (.ref C_NoCell) = some true)
    (kV_NoCell : PySem.W.kitOne K (.ref C_NoCell) (.type "ValueError") = some true)
    (a_Board : PySem.W.nsIn K mainGlobals "Board" = some (some (.ref C_Board)))
    (cl_Board : Cls K C_Board)
    (n_Board_names : PySem.W.findIn K (.ref C_Board) "names" = some none)
    (n_Board_rows : PySem.W.findIn K (.ref C_Board) "rows" = some none)
    (mk_Board : Mk K C_Board f_Board_init)
    (m_Board_cells : Meth K C_Board "cells" f_Board_cells)
    (m_Board_values_of : Meth K C_Board "values_of" f_Board_values_of)
    (a_Statement : PySem.W.nsIn K mainGlobals "Statement" = some (some (.ref C_Statement)))
    (cl_Statement : Cls K C_Statement)
    (a_OnCell : PySem.W.nsIn K mainGlobals "OnCell" = some (some (.ref C_OnCell)))
    (cl_OnCell : Cls K C_OnCell)
    (n_OnCell_cell : PySem.W.findIn K (.ref C_OnCell) "cell" = some none)
    (n_OnCell_value : PySem.W.findIn K (.ref C_OnCell) "value" = some none)
    (mk_OnCell : Mk K C_OnCell f_OnCell_init)
    (a_Write : PySem.W.nsIn K mainGlobals "Write" = some (some (.ref C_Write)))
    (cl_Write : Cls K C_Write)
    (n_Write_cell : PySem.W.findIn K (.ref C_Write) "cell" = some none)
    (n_Write_value : PySem.W.findIn K (.ref C_Write) "value" = some none)
    (mk_Write : Mk K C_Write f_OnCell_init)
    (a_Wait : PySem.W.nsIn K mainGlobals "Wait" = some (some (.ref C_Wait)))
    (cl_Wait : Cls K C_Wait)
    (n_Wait_cell : PySem.W.findIn K (.ref C_Wait) "cell" = some none)
    (n_Wait_value : PySem.W.findIn K (.ref C_Wait) "value" = some none)
    (mk_Wait : Mk K C_Wait f_OnCell_init)
    (a_Mark : PySem.W.nsIn K mainGlobals "Mark" = some (some (.ref C_Mark)))
    (cl_Mark : Cls K C_Mark)
    (n_Mark_name : PySem.W.findIn K (.ref C_Mark) "name" = some none)
    (mk_Mark : Mk K C_Mark f_Mark_init)
    (a_If : PySem.W.nsIn K mainGlobals "If" = some (some (.ref C_If)))
    (cl_If : Cls K C_If)
    (n_If_yes : PySem.W.findIn K (.ref C_If) "yes" = some none)
    (n_If_no : PySem.W.findIn K (.ref C_If) "no" = some none)
    (n_If_cell : PySem.W.findIn K (.ref C_If) "cell" = some none)
    (n_If_value : PySem.W.findIn K (.ref C_If) "value" = some none)
    (mk_If : Mk K C_If f_If_init)
    (a_While : PySem.W.nsIn K mainGlobals "While" = some (some (.ref C_While)))
    (cl_While : Cls K C_While)
    (n_While_body : PySem.W.findIn K (.ref C_While) "body" = some none)
    (n_While_cell : PySem.W.findIn K (.ref C_While) "cell" = some none)
    (n_While_value : PySem.W.findIn K (.ref C_While) "value" = some none)
    (mk_While : Mk K C_While f_While_init)
    (a_Program : PySem.W.nsIn K mainGlobals "Program" = some (some (.ref C_Program)))
    (cl_Program : Cls K C_Program)
    (n_Program_row : PySem.W.findIn K (.ref C_Program) "row" = some none)
    (mk_Program : Mk K C_Program f_Program_init)
    (m_Program_size : Meth K C_Program "size" f_Program_size)
    (m_Program_deep : Meth K C_Program "deep" f_Program_deep)
    (cr_OnCell : ClX.CRead K C_OnCell (.type "type"))
    (cv_OnCell : ClX.CVal K C_OnCell (.type "type") "__init__" (.ref f_OnCell_init) (.ref f_OnCell_init)) :
    ∃ T : Tx K mg, T.f_law = T.f_law := by
  obtain ⟨d_BadCount_init, F_BadCount_init⟩ := l_BadCount_init
  have b_BadCount_init := F_BadCount_init.binds (ps := ["self", "what", "count"]) fun _ _ _ _ _ _ us hl => match us, hl with | [_, _, _], _ => rfl
  obtain ⟨d_NoName_init, F_NoName_init⟩ := l_NoName_init
  have b_NoName_init := F_NoName_init.binds (ps := ["self", "name"]) fun _ _ _ _ _ _ us hl => match us, hl with | [_, _], _ => rfl
  obtain ⟨d_Twice_init, F_Twice_init⟩ := l_Twice_init
  have b_Twice_init := F_Twice_init.binds (ps := ["self", "name"]) fun _ _ _ _ _ _ us hl => match us, hl with | [_, _], _ => rfl
  obtain ⟨d_NoCell_init, F_NoCell_init⟩ := l_NoCell_init
  have b_NoCell_init := F_NoCell_init.binds (ps := ["self", "name"]) fun _ _ _ _ _ _ us hl => match us, hl with | [_, _], _ => rfl
  obtain ⟨d_is_name, F_is_name⟩ := l_is_name
  have b_is_name := F_is_name.binds (ps := ["text"]) fun _ _ _ _ _ _ us hl => match us, hl with | [_], _ => rfl
  obtain ⟨d_asked_names, F_asked_names⟩ := l_asked_names
  have b_asked_names := F_asked_names.binds (ps := ["texts"]) fun _ _ _ _ _ _ us hl => match us, hl with | [_], _ => rfl
  obtain ⟨d_asked_once, F_asked_once⟩ := l_asked_once
  have b_asked_once := F_asked_once.binds (ps := ["names"]) fun _ _ _ _ _ _ us hl => match us, hl with | [_], _ => rfl
  obtain ⟨d_asked_cells, F_asked_cells⟩ := l_asked_cells
  have b_asked_cells := F_asked_cells.binds (ps := ["cells"]) fun _ _ _ _ _ _ us hl => match us, hl with | [_], _ => rfl
  obtain ⟨d_Board_init, F_Board_init⟩ := l_Board_init
  have b_Board_init := F_Board_init.binds (ps := ["self", "cells"]) fun _ _ _ _ _ _ us hl => match us, hl with | [_, _], _ => rfl
  obtain ⟨d_Board_cells, F_Board_cells⟩ := l_Board_cells
  have b_Board_cells := F_Board_cells.binds (ps := ["self"]) fun _ _ _ _ _ _ us hl => match us, hl with | [_], _ => rfl
  obtain ⟨d_Board_values_of, F_Board_values_of⟩ := l_Board_values_of
  have b_Board_values_of := F_Board_values_of.binds (ps := ["self", "cell"]) fun _ _ _ _ _ _ us hl => match us, hl with | [_, _], _ => rfl
  obtain ⟨d_asked_size, F_asked_size⟩ := l_asked_size
  have b_asked_size := F_asked_size.binds (ps := ["size", "deep"]) fun _ _ _ _ _ _ us hl => match us, hl with | [_, _], _ => rfl
  obtain ⟨d_OnCell_init, F_OnCell_init⟩ := l_OnCell_init
  have b_OnCell_init := F_OnCell_init.binds (ps := ["self", "cell", "value"]) fun _ _ _ _ _ _ us hl => match us, hl with | [_, _, _], _ => rfl
  obtain ⟨d_Mark_init, F_Mark_init⟩ := l_Mark_init
  have b_Mark_init := F_Mark_init.binds (ps := ["self", "name"]) fun _ _ _ _ _ _ us hl => match us, hl with | [_, _], _ => rfl
  obtain ⟨d_If_init, F_If_init⟩ := l_If_init
  have b_If_init := F_If_init.binds (ps := ["self", "cell", "value", "yes", "no"]) fun _ _ _ _ _ _ us hl => match us, hl with | [_, _, _, _, _], _ => rfl
  obtain ⟨d_While_init, F_While_init⟩ := l_While_init
  have b_While_init := F_While_init.binds (ps := ["self", "cell", "value", "body"]) fun _ _ _ _ _ _ us hl => match us, hl with | [_, _, _, _], _ => rfl
  obtain ⟨d_Program_init, F_Program_init⟩ := l_Program_init
  have b_Program_init := F_Program_init.binds (ps := ["self", "statements"]) fun _ _ _ _ _ _ us hl => match us, hl with | [_, _], _ => rfl
  obtain ⟨d_Program_size, F_Program_size⟩ := l_Program_size
  have b_Program_size := F_Program_size.binds (ps := ["self"]) fun _ _ _ _ _ _ us hl => match us, hl with | [_], _ => rfl
  obtain ⟨d_Program_deep, F_Program_deep⟩ := l_Program_deep
  have b_Program_deep := F_Program_deep.binds (ps := ["self"]) fun _ _ _ _ _ _ us hl => match us, hl with | [_], _ => rfl
  obtain ⟨d_law_state, F_law_state⟩ := l_law_state
  have b_law_state := F_law_state.binds (ps := ["_law_cell"]) fun _ _ _ _ _ _ us hl => match us, hl with | [_], _ => rfl
  obtain ⟨d_law_digit, F_law_digit⟩ := l_law_digit
  have b_law_digit := F_law_digit.binds (ps := ["_law_state_here", "_law_base"]) fun _ _ _ _ _ _ us hl => match us, hl with | [_, _], _ => rfl
  obtain ⟨d_law_plain, F_law_plain⟩ := l_law_plain
  have b_law_plain := F_law_plain.binds (ps := ["_law_s", "_law_many"]) fun _ _ _ _ _ _ us hl => match us, hl with | [_, _], _ => rfl
  obtain ⟨d_law_text, F_law_text⟩ := l_law_text
  have b_law_text := F_law_text.binds (ps := ["_law_s"]) fun _ _ _ _ _ _ us hl => match us, hl with | [_], _ => rfl
  obtain ⟨d_law_is_name, F_law_is_name⟩ := l_law_is_name
  have b_law_is_name := F_law_is_name.binds (ps := ["_law_text_here"]) fun _ _ _ _ _ _ us hl => match us, hl with | [_], _ => rfl
  obtain ⟨d_law_fields, F_law_fields⟩ := l_law_fields
  have b_law_fields := F_law_fields.binds (ps := ["_law_one"]) fun _ _ _ _ _ _ us hl => match us, hl with | [_], _ => rfl
  obtain ⟨d_law_made, F_law_made⟩ := l_law_made
  have b_law_made := F_law_made.binds (ps := ["_law_door", "_law_text_here"]) fun _ _ _ _ _ _ us hl => match us, hl with | [_, _], _ => rfl
  obtain ⟨d_law_found, F_law_found⟩ := l_law_found
  have b_law_found := F_law_found.binds (ps := ["_law_door", "_law_text_here"]) fun _ _ _ _ _ _ us hl => match us, hl with | [_, _], _ => rfl
  obtain ⟨d_law, F_law⟩ := l_law
  have b_law := F_law.binds (ps := ["_law_script"]) fun _ _ _ _ _ _ us hl => match us, hl with | [_], _ => rfl
  exact ⟨{ z_len := PySem.W.mg_none_of X G z_len, z_abs := PySem.W.mg_none_of X G z_abs, z_int := PySem.W.mg_none_of X G z_int, z_max := PySem.W.mg_none_of X G z_max, z_list := PySem.W.mg_none_of X G z_list, z_tuple := PySem.W.mg_none_of X G z_tuple, z_sum := PySem.W.mg_none_of X G z_sum, z_all := PySem.W.mg_none_of X G z_all, z_range := PySem.W.mg_none_of X G z_range, z_isinstance := PySem.W.mg_none_of X G z_isinstance, z_ValueError := PySem.W.mg_none_of X G z_ValueError, c_LETTERS := ⟨_, PySem.W.mg_of X G c_LETTERS⟩, c_FIGURES := ⟨_, PySem.W.mg_of X G c_FIGURES⟩, c_LONGEST := ⟨_, PySem.W.mg_of X G c_LONGEST⟩, c_MOST_CELLS := ⟨_, PySem.W.mg_of X G c_MOST_CELLS⟩, c_LEAST_VALUES := ⟨_, PySem.W.mg_of X G c_LEAST_VALUES⟩, c_MOST_VALUES := ⟨_, PySem.W.mg_of X G c_MOST_VALUES⟩, c_MOST_STATEMENTS := ⟨_, PySem.W.mg_of X G c_MOST_STATEMENTS⟩, c_MOST_DEEP := ⟨_, PySem.W.mg_of X G c_MOST_DEEP⟩, g_is_name := PySem.W.mg_of X G a_is_name, g_asked_names := PySem.W.mg_of X G a_asked_names, g_asked_once := PySem.W.mg_of X G a_asked_once, g_asked_cells := PySem.W.mg_of X G a_asked_cells, g_asked_size := PySem.W.mg_of X G a_asked_size, g_law_state := PySem.W.mg_of X G a_law_state, g_law_digit := PySem.W.mg_of X G a_law_digit, g_law_plain := PySem.W.mg_of X G a_law_plain, g_law_text := PySem.W.mg_of X G a_law_text, g_law_is_name := PySem.W.mg_of X G a_law_is_name, g_law_fields := PySem.W.mg_of X G a_law_fields, g_law_made := PySem.W.mg_of X G a_law_made, g_law_found := PySem.W.mg_of X G a_law_found, g_law := PySem.W.mg_of X G a_law, g_BoardError := PySem.W.mg_of X G a_BoardError, x_BoardError := x_BoardError, e_BoardError := e_BoardError, k_BoardError_BoardError := k_BoardError_BoardError, y_BoardError_BoardError := y_BoardError_BoardError, k_BoardError_BadCount := k_BoardError_BadCount, y_BoardError_BadCount := y_BoardError_BadCount, k_BoardError_NoName := k_BoardError_NoName, y_BoardError_NoName := y_BoardError_NoName, k_BoardError_Twice := k_BoardError_Twice, y_BoardError_Twice := y_BoardError_Twice, k_BoardError_NoCell := k_BoardError_NoCell, y_BoardError_NoCell := y_BoardError_NoCell, kV_BoardError := kV_BoardError, g_BadCount := PySem.W.mg_of X G a_BadCount, x_BadCount := x_BadCount, e_BadCount := e_BadCount, o_BadCount := o_BadCount, i_BadCount := i_BadCount, t_BadCount := t_BadCount, n_BadCount_what := n_BadCount_what, n_BadCount_count := n_BadCount_count, k_BadCount_BoardError := k_BadCount_BoardError, y_BadCount_BoardError := y_BadCount_BoardError, k_BadCount_BadCount := k_BadCount_BadCount, y_BadCount_BadCount := y_BadCount_BadCount, k_BadCount_NoName := k_BadCount_NoName, y_BadCount_NoName := y_BadCount_NoName, k_BadCount_Twice := k_BadCount_Twice, y_BadCount_Twice := y_BadCount_Twice, k_BadCount_NoCell := k_BadCount_NoCell, y_BadCount_NoCell := y_BadCount_NoCell, kV_BadCount := kV_BadCount, g_NoName := PySem.W.mg_of X G a_NoName, x_NoName := x_NoName, e_NoName := e_NoName, o_NoName := o_NoName, i_NoName := i_NoName, t_NoName := t_NoName, n_NoName_name := n_NoName_name, k_NoName_BoardError := k_NoName_BoardError, y_NoName_BoardError := y_NoName_BoardError, k_NoName_BadCount := k_NoName_BadCount, y_NoName_BadCount := y_NoName_BadCount, k_NoName_NoName := k_NoName_NoName, y_NoName_NoName := y_NoName_NoName, k_NoName_Twice := k_NoName_Twice, y_NoName_Twice := y_NoName_Twice, k_NoName_NoCell := k_NoName_NoCell, y_NoName_NoCell := y_NoName_NoCell, kV_NoName := kV_NoName, g_Twice := PySem.W.mg_of X G a_Twice, x_Twice := x_Twice, e_Twice := e_Twice, o_Twice := o_Twice, i_Twice := i_Twice, t_Twice := t_Twice, n_Twice_name := n_Twice_name, k_Twice_BoardError := k_Twice_BoardError, y_Twice_BoardError := y_Twice_BoardError, k_Twice_BadCount := k_Twice_BadCount, y_Twice_BadCount := y_Twice_BadCount, k_Twice_NoName := k_Twice_NoName, y_Twice_NoName := y_Twice_NoName, k_Twice_Twice := k_Twice_Twice, y_Twice_Twice := y_Twice_Twice, k_Twice_NoCell := k_Twice_NoCell, y_Twice_NoCell := y_Twice_NoCell, kV_Twice := kV_Twice, g_NoCell := PySem.W.mg_of X G a_NoCell, x_NoCell := x_NoCell, e_NoCell := e_NoCell, o_NoCell := o_NoCell, i_NoCell := i_NoCell, t_NoCell := t_NoCell, n_NoCell_name := n_NoCell_name, k_NoCell_BoardError := k_NoCell_BoardError, y_NoCell_BoardError := y_NoCell_BoardError, k_NoCell_BadCount := k_NoCell_BadCount, y_NoCell_BadCount := y_NoCell_BadCount, k_NoCell_NoName := k_NoCell_NoName, y_NoCell_NoName := y_NoCell_NoName, k_NoCell_Twice := k_NoCell_Twice, y_NoCell_Twice := y_NoCell_Twice, k_NoCell_NoCell := k_NoCell_NoCell, y_NoCell_NoCell := y_NoCell_NoCell, kV_NoCell := kV_NoCell, g_Board := PySem.W.mg_of X G a_Board, cl_Board := cl_Board, n_Board_names := n_Board_names, n_Board_rows := n_Board_rows, mk_Board := mk_Board, m_Board_cells := m_Board_cells, m_Board_values_of := m_Board_values_of, g_Statement := PySem.W.mg_of X G a_Statement, cl_Statement := cl_Statement, g_OnCell := PySem.W.mg_of X G a_OnCell, cl_OnCell := cl_OnCell, n_OnCell_cell := n_OnCell_cell, n_OnCell_value := n_OnCell_value, mk_OnCell := mk_OnCell, g_Write := PySem.W.mg_of X G a_Write, cl_Write := cl_Write, n_Write_cell := n_Write_cell, n_Write_value := n_Write_value, mk_Write := mk_Write, g_Wait := PySem.W.mg_of X G a_Wait, cl_Wait := cl_Wait, n_Wait_cell := n_Wait_cell, n_Wait_value := n_Wait_value, mk_Wait := mk_Wait, g_Mark := PySem.W.mg_of X G a_Mark, cl_Mark := cl_Mark, n_Mark_name := n_Mark_name, mk_Mark := mk_Mark, g_If := PySem.W.mg_of X G a_If, cl_If := cl_If, n_If_yes := n_If_yes, n_If_no := n_If_no, n_If_cell := n_If_cell, n_If_value := n_If_value, mk_If := mk_If, g_While := PySem.W.mg_of X G a_While, cl_While := cl_While, n_While_body := n_While_body, n_While_cell := n_While_cell, n_While_value := n_While_value, mk_While := mk_While, g_Program := PySem.W.mg_of X G a_Program, cl_Program := cl_Program, n_Program_row := n_Program_row, mk_Program := mk_Program, m_Program_size := m_Program_size, m_Program_deep := m_Program_deep, cr_OnCell := cr_OnCell, cv_OnCell := cv_OnCell, f_BadCount_init := f_BadCount_init, d_BadCount_init := d_BadCount_init, F_BadCount_init := F_BadCount_init, b_BadCount_init := b_BadCount_init, f_NoName_init := f_NoName_init, d_NoName_init := d_NoName_init, F_NoName_init := F_NoName_init, b_NoName_init := b_NoName_init, f_Twice_init := f_Twice_init, d_Twice_init := d_Twice_init, F_Twice_init := F_Twice_init, b_Twice_init := b_Twice_init, f_NoCell_init := f_NoCell_init, d_NoCell_init := d_NoCell_init, F_NoCell_init := F_NoCell_init, b_NoCell_init := b_NoCell_init, f_is_name := f_is_name, d_is_name := d_is_name, F_is_name := F_is_name, b_is_name := b_is_name, f_asked_names := f_asked_names, d_asked_names := d_asked_names, F_asked_names := F_asked_names, b_asked_names := b_asked_names, f_asked_once := f_asked_once, d_asked_once := d_asked_once, F_asked_once := F_asked_once, b_asked_once := b_asked_once, f_asked_cells := f_asked_cells, d_asked_cells := d_asked_cells, F_asked_cells := F_asked_cells, b_asked_cells := b_asked_cells, f_Board_init := f_Board_init, d_Board_init := d_Board_init, F_Board_init := F_Board_init, b_Board_init := b_Board_init, f_Board_cells := f_Board_cells, d_Board_cells := d_Board_cells, F_Board_cells := F_Board_cells, b_Board_cells := b_Board_cells, f_Board_values_of := f_Board_values_of, d_Board_values_of := d_Board_values_of, F_Board_values_of := F_Board_values_of, b_Board_values_of := b_Board_values_of, f_asked_size := f_asked_size, d_asked_size := d_asked_size, F_asked_size := F_asked_size, b_asked_size := b_asked_size, f_OnCell_init := f_OnCell_init, d_OnCell_init := d_OnCell_init, F_OnCell_init := F_OnCell_init, b_OnCell_init := b_OnCell_init, f_Mark_init := f_Mark_init, d_Mark_init := d_Mark_init, F_Mark_init := F_Mark_init, b_Mark_init := b_Mark_init, f_If_init := f_If_init, d_If_init := d_If_init, F_If_init := F_If_init, b_If_init := b_If_init, f_While_init := f_While_init, d_While_init := d_While_init, F_While_init := F_While_init, b_While_init := b_While_init, f_Program_init := f_Program_init, d_Program_init := d_Program_init, F_Program_init := F_Program_init, b_Program_init := b_Program_init, f_Program_size := f_Program_size, d_Program_size := d_Program_size, F_Program_size := F_Program_size, b_Program_size := b_Program_size, f_Program_deep := f_Program_deep, d_Program_deep := d_Program_deep, F_Program_deep := F_Program_deep, b_Program_deep := b_Program_deep, f_law_state := f_law_state, d_law_state := d_law_state, F_law_state := F_law_state, b_law_state := b_law_state, f_law_digit := f_law_digit, d_law_digit := d_law_digit, F_law_digit := F_law_digit, b_law_digit := b_law_digit, f_law_plain := f_law_plain, d_law_plain := d_law_plain, F_law_plain := F_law_plain, b_law_plain := b_law_plain, f_law_text := f_law_text, d_law_text := d_law_text, F_law_text := F_law_text, b_law_text := b_law_text, f_law_is_name := f_law_is_name, d_law_is_name := d_law_is_name, F_law_is_name := F_law_is_name, b_law_is_name := b_law_is_name, f_law_fields := f_law_fields, d_law_fields := d_law_fields, F_law_fields := F_law_fields, b_law_fields := b_law_fields, f_law_made := f_law_made, d_law_made := d_law_made, F_law_made := F_law_made, b_law_made := b_law_made, f_law_found := f_law_found, d_law_found := d_law_found, F_law_found := F_law_found, b_law_found := b_law_found, f_law := f_law, d_law := d_law, F_law := F_law, b_law := b_law, C_BoardError := C_BoardError, C_BadCount := C_BadCount, C_NoName := C_NoName, C_Twice := C_Twice, C_NoCell := C_NoCell, C_Board := C_Board, C_Statement := C_Statement, C_OnCell := C_OnCell, C_Write := C_Write, C_Wait := C_Wait, C_Mark := C_Mark, C_If := C_If, C_While := C_While, C_Program := C_Program }, rfl⟩

end
end Mb
open PySem PySem.W PyProof.Rows
set_option maxRecDepth 100000 in
set_option maxHeartbeats 0 in
theorem PySem.Challenge.cw_manyboard_k01_names_at_each_door_holds : PySem.Challenge.rw_manyboard_k01_names_at_each_door.Holds := by
  w_on; o_law; k_head; (case hw => w_witness2)
  k_fill
  refine Mb.walk (l := PySem.Challenge.rw_manyboard_k01_names_at_each_door) rfl rfl rfl (fun w h Y => PySem.W.kIn_of Y) ?F
  case F =>
    intro w mg h KX G
    refine' Mb.all_mk KX G ?z_len ?z_abs ?z_int ?z_max ?z_list ?z_tuple ?z_sum ?z_all ?z_range ?z_isinstance ?z_ValueError ?c_LETTERS ?c_FIGURES ?c_LONGEST ?c_MOST_CELLS ?c_LEAST_VALUES ?c_MOST_VALUES ?c_MOST_STATEMENTS ?c_MOST_DEEP ?l_BadCount_init ?l_NoName_init ?l_Twice_init ?l_NoCell_init ?l_is_name ?a_is_name ?l_asked_names ?a_asked_names ?l_asked_once ?a_asked_once ?l_asked_cells ?a_asked_cells ?l_Board_init ?l_Board_cells ?l_Board_values_of ?l_asked_size ?a_asked_size ?l_OnCell_init ?l_Mark_init ?l_If_init ?l_While_init ?l_Program_init ?l_Program_size ?l_Program_deep ?l_law_state ?a_law_state ?l_law_digit ?a_law_digit ?l_law_plain ?a_law_plain ?l_law_text ?a_law_text ?l_law_is_name ?a_law_is_name ?l_law_fields ?a_law_fields ?l_law_made ?a_law_made ?l_law_found ?a_law_found ?l_law ?a_law ?a_BoardError ?x_BoardError ?e_BoardError ?k_BoardError_BoardError ?y_BoardError_BoardError ?k_BoardError_BadCount ?y_BoardError_BadCount ?k_BoardError_NoName ?y_BoardError_NoName ?k_BoardError_Twice ?y_BoardError_Twice ?k_BoardError_NoCell ?y_BoardError_NoCell ?kV_BoardError ?a_BadCount ?x_BadCount ?e_BadCount ?o_BadCount ?i_BadCount ?t_BadCount ?n_BadCount_what ?n_BadCount_count ?k_BadCount_BoardError ?y_BadCount_BoardError ?k_BadCount_BadCount ?y_BadCount_BadCount ?k_BadCount_NoName ?y_BadCount_NoName ?k_BadCount_Twice ?y_BadCount_Twice ?k_BadCount_NoCell ?y_BadCount_NoCell ?kV_BadCount ?a_NoName ?x_NoName ?e_NoName ?o_NoName ?i_NoName ?t_NoName ?n_NoName_name ?k_NoName_BoardError ?y_NoName_BoardError ?k_NoName_BadCount ?y_NoName_BadCount ?k_NoName_NoName ?y_NoName_NoName ?k_NoName_Twice ?y_NoName_Twice ?k_NoName_NoCell ?y_NoName_NoCell ?kV_NoName ?a_Twice ?x_Twice ?e_Twice ?o_Twice ?i_Twice ?t_Twice ?n_Twice_name ?k_Twice_BoardError ?y_Twice_BoardError ?k_Twice_BadCount ?y_Twice_BadCount ?k_Twice_NoName ?y_Twice_NoName ?k_Twice_Twice ?y_Twice_Twice ?k_Twice_NoCell ?y_Twice_NoCell ?kV_Twice ?a_NoCell ?x_NoCell ?e_NoCell ?o_NoCell ?i_NoCell ?t_NoCell ?n_NoCell_name ?k_NoCell_BoardError ?y_NoCell_BoardError ?k_NoCell_BadCount ?y_NoCell_BadCount ?k_NoCell_NoName ?y_NoCell_NoName ?k_NoCell_Twice ?y_NoCell_Twice ?k_NoCell_NoCell ?y_NoCell_NoCell ?kV_NoCell ?a_Board ?cl_Board ?n_Board_names ?n_Board_rows ?mk_Board ?m_Board_cells ?m_Board_values_of ?a_Statement ?cl_Statement ?a_OnCell ?cl_OnCell ?n_OnCell_cell ?n_OnCell_value ?mk_OnCell ?a_Write ?cl_Write ?n_Write_cell ?n_Write_value ?mk_Write ?a_Wait ?cl_Wait ?n_Wait_cell ?n_Wait_value ?mk_Wait ?a_Mark ?cl_Mark ?n_Mark_name ?mk_Mark ?a_If ?cl_If ?n_If_yes ?n_If_no ?n_If_cell ?n_If_value ?mk_If ?a_While ?cl_While ?n_While_body ?n_While_cell ?n_While_value ?mk_While ?a_Program ?cl_Program ?n_Program_row ?mk_Program ?m_Program_size ?m_Program_deep ?cr_OnCell ?cv_OnCell
    (case a_is_name => k_is)
    (case a_asked_names => k_is)
    (case a_asked_once => k_is)
    (case a_asked_cells => k_is)
    (case a_asked_size => k_is)
    (case a_law_state => k_is)
    (case a_law_digit => k_is)
    (case a_law_plain => k_is)
    (case a_law_text => k_is)
    (case a_law_is_name => k_is)
    (case a_law_fields => k_is)
    (case a_law_made => k_is)
    (case a_law_found => k_is)
    (case a_law => k_is)
    (case a_BoardError => k_is)
    (case a_BadCount => k_is)
    (case a_NoName => k_is)
    (case a_Twice => k_is)
    (case a_NoCell => k_is)
    (case a_Board => k_is)
    (case a_Statement => k_is)
    (case a_OnCell => k_is)
    (case a_Write => k_is)
    (case a_Wait => k_is)
    (case a_Mark => k_is)
    (case a_If => k_is)
    (case a_While => k_is)
    (case a_Program => k_is)
    (case i_BadCount => k_is)
    (case i_NoName => k_is)
    (case i_Twice => k_is)
    (case i_NoCell => k_is)
    (case mk_Board => refine' ⟨?a, ?b, ?c, ?d⟩; (case a => k_is); (case b => k_is); (case c => k_is); (case d => k_is))
    (case m_Board_cells => refine' ⟨?a, ?b, ?c⟩; (case a => k_is); (case b => k_is); (case c => k_is))
    (case m_Board_values_of => refine' ⟨?a, ?b, ?c⟩; (case a => k_is); (case b => k_is); (case c => k_is))
    (case mk_OnCell => refine' ⟨?a, ?b, ?c, ?d⟩; (case a => k_is); (case b => k_is); (case c => k_is); (case d => k_is))
    (case mk_Write => refine' ⟨?a, ?b, ?c, ?d⟩; (case a => k_is); (case b => k_is); (case c => k_is); (case d => k_is))
    (case mk_Wait => refine' ⟨?a, ?b, ?c, ?d⟩; (case a => k_is); (case b => k_is); (case c => k_is); (case d => k_is))
    (case mk_Mark => refine' ⟨?a, ?b, ?c, ?d⟩; (case a => k_is); (case b => k_is); (case c => k_is); (case d => k_is))
    (case mk_If => refine' ⟨?a, ?b, ?c, ?d⟩; (case a => k_is); (case b => k_is); (case c => k_is); (case d => k_is))
    (case mk_While => refine' ⟨?a, ?b, ?c, ?d⟩; (case a => k_is); (case b => k_is); (case c => k_is); (case d => k_is))
    (case mk_Program => refine' ⟨?a, ?b, ?c, ?d⟩; (case a => k_is); (case b => k_is); (case c => k_is); (case d => k_is))
    (case m_Program_size => refine' ⟨?a, ?b, ?c⟩; (case a => k_is); (case b => k_is); (case c => k_is))
    (case m_Program_deep => refine' ⟨?a, ?b, ?c⟩; (case a => k_is); (case b => k_is); (case c => k_is))
    (case cv_OnCell => refine' ⟨?a, rfl⟩; (case a => k_is))
    (case z_len => k_is)
    (case z_abs => k_is)
    (case z_int => k_is)
    (case z_max => k_is)
    (case z_list => k_is)
    (case z_tuple => k_is)
    (case z_sum => k_is)
    (case z_all => k_is)
    (case z_range => k_is)
    (case z_isinstance => k_is)
    (case z_ValueError => k_is)
    (case c_LETTERS => k_is)
    (case c_FIGURES => k_is)
    (case c_LONGEST => k_is)
    (case c_MOST_CELLS => k_is)
    (case c_LEAST_VALUES => k_is)
    (case c_MOST_VALUES => k_is)
    (case c_MOST_STATEMENTS => k_is)
    (case c_MOST_DEEP => k_is)
    (case x_BoardError => refine' ⟨?a, ?b, ?c, ?d⟩; (case a => k_is); (case b => k_is); (case c => k_is); (case d => k_is))
    (case e_BoardError => refine' ⟨?a, ?b, ?c, ?d, ?e, ?f, ?g, ?h⟩; (case a => k_is); (case b => k_is); (case c => k_is); (case d => k_is); (case e => k_is); (case f => k_is); (case g => k_is); (case h => k_is))
    (case k_BoardError_BoardError => first | rfl | k_is)
    (case y_BoardError_BoardError => first | rfl | k_is)
    (case k_BoardError_BadCount => first | rfl | k_is)
    (case y_BoardError_BadCount => first | rfl | k_is)
    (case k_BoardError_NoName => first | rfl | k_is)
    (case y_BoardError_NoName => first | rfl | k_is)
    (case k_BoardError_Twice => first | rfl | k_is)
    (case y_BoardError_Twice => first | rfl | k_is)
    (case k_BoardError_NoCell => first | rfl | k_is)
    (case y_BoardError_NoCell => first | rfl | k_is)
    (case kV_BoardError => first | rfl | k_is)
    (case x_BadCount => refine' ⟨?a, ?b, ?c, ?d⟩; (case a => k_is); (case b => k_is); (case c => k_is); (case d => k_is))
    (case e_BadCount => refine' ⟨?a, ?b, ?c, ?d, ?e, ?f, ?g, ?h⟩; (case a => k_is); (case b => k_is); (case c => k_is); (case d => k_is); (case e => k_is); (case f => k_is); (case g => k_is); (case h => k_is))
    (case o_BadCount => refine' Mb.oexc ?x ?r ?s ?e ?t ?k; (case x => k_is); (case r => decide +kernel); (case s => k_is); (case e => k_is); (case t => k_is); (case k => k_is))
    (case t_BadCount => k_is)
    (case n_BadCount_what => k_is)
    (case n_BadCount_count => k_is)
    (case k_BadCount_BoardError => first | rfl | k_is)
    (case y_BadCount_BoardError => first | rfl | k_is)
    (case k_BadCount_BadCount => first | rfl | k_is)
    (case y_BadCount_BadCount => first | rfl | k_is)
    (case k_BadCount_NoName => first | rfl | k_is)
    (case y_BadCount_NoName => first | rfl | k_is)
    (case k_BadCount_Twice => first | rfl | k_is)
    (case y_BadCount_Twice => first | rfl | k_is)
    (case k_BadCount_NoCell => first | rfl | k_is)
    (case y_BadCount_NoCell => first | rfl | k_is)
    (case kV_BadCount => first | rfl | k_is)
    (case x_NoName => refine' ⟨?a, ?b, ?c, ?d⟩; (case a => k_is); (case b => k_is); (case c => k_is); (case d => k_is))
    (case e_NoName => refine' ⟨?a, ?b, ?c, ?d, ?e, ?f, ?g, ?h⟩; (case a => k_is); (case b => k_is); (case c => k_is); (case d => k_is); (case e => k_is); (case f => k_is); (case g => k_is); (case h => k_is))
    (case o_NoName => refine' Mb.oexc ?x ?r ?s ?e ?t ?k; (case x => k_is); (case r => decide +kernel); (case s => k_is); (case e => k_is); (case t => k_is); (case k => k_is))
    (case t_NoName => k_is)
    (case n_NoName_name => k_is)
    (case k_NoName_BoardError => first | rfl | k_is)
    (case y_NoName_BoardError => first | rfl | k_is)
    (case k_NoName_BadCount => first | rfl | k_is)
    (case y_NoName_BadCount => first | rfl | k_is)
    (case k_NoName_NoName => first | rfl | k_is)
    (case y_NoName_NoName => first | rfl | k_is)
    (case k_NoName_Twice => first | rfl | k_is)
    (case y_NoName_Twice => first | rfl | k_is)
    (case k_NoName_NoCell => first | rfl | k_is)
    (case y_NoName_NoCell => first | rfl | k_is)
    (case kV_NoName => first | rfl | k_is)
    (case x_Twice => refine' ⟨?a, ?b, ?c, ?d⟩; (case a => k_is); (case b => k_is); (case c => k_is); (case d => k_is))
    (case e_Twice => refine' ⟨?a, ?b, ?c, ?d, ?e, ?f, ?g, ?h⟩; (case a => k_is); (case b => k_is); (case c => k_is); (case d => k_is); (case e => k_is); (case f => k_is); (case g => k_is); (case h => k_is))
    (case o_Twice => refine' Mb.oexc ?x ?r ?s ?e ?t ?k; (case x => k_is); (case r => decide +kernel); (case s => k_is); (case e => k_is); (case t => k_is); (case k => k_is))
    (case t_Twice => k_is)
    (case n_Twice_name => k_is)
    (case k_Twice_BoardError => first | rfl | k_is)
    (case y_Twice_BoardError => first | rfl | k_is)
    (case k_Twice_BadCount => first | rfl | k_is)
    (case y_Twice_BadCount => first | rfl | k_is)
    (case k_Twice_NoName => first | rfl | k_is)
    (case y_Twice_NoName => first | rfl | k_is)
    (case k_Twice_Twice => first | rfl | k_is)
    (case y_Twice_Twice => first | rfl | k_is)
    (case k_Twice_NoCell => first | rfl | k_is)
    (case y_Twice_NoCell => first | rfl | k_is)
    (case kV_Twice => first | rfl | k_is)
    (case x_NoCell => refine' ⟨?a, ?b, ?c, ?d⟩; (case a => k_is); (case b => k_is); (case c => k_is); (case d => k_is))
    (case e_NoCell => refine' ⟨?a, ?b, ?c, ?d, ?e, ?f, ?g, ?h⟩; (case a => k_is); (case b => k_is); (case c => k_is); (case d => k_is); (case e => k_is); (case f => k_is); (case g => k_is); (case h => k_is))
    (case o_NoCell => refine' Mb.oexc ?x ?r ?s ?e ?t ?k; (case x => k_is); (case r => decide +kernel); (case s => k_is); (case e => k_is); (case t => k_is); (case k => k_is))
    (case t_NoCell => k_is)
    (case n_NoCell_name => k_is)
    (case k_NoCell_BoardError => first | rfl | k_is)
    (case y_NoCell_BoardError => first | rfl | k_is)
    (case k_NoCell_BadCount => first | rfl | k_is)
    (case y_NoCell_BadCount => first | rfl | k_is)
    (case k_NoCell_NoName => first | rfl | k_is)
    (case y_NoCell_NoName => first | rfl | k_is)
    (case k_NoCell_Twice => first | rfl | k_is)
    (case y_NoCell_Twice => first | rfl | k_is)
    (case k_NoCell_NoCell => first | rfl | k_is)
    (case y_NoCell_NoCell => first | rfl | k_is)
    (case kV_NoCell => first | rfl | k_is)
    (case cl_Board => refine' ⟨?a, ?b, ?c, ?d⟩; (case a => k_is); (case b => k_is); (case c => k_is); (case d => k_is))
    (case n_Board_names => k_is)
    (case n_Board_rows => k_is)
    (case cl_Statement => refine' ⟨?a, ?b, ?c, ?d⟩; (case a => k_is); (case b => k_is); (case c => k_is); (case d => k_is))
    (case cl_OnCell => refine' ⟨?a, ?b, ?c, ?d⟩; (case a => k_is); (case b => k_is); (case c => k_is); (case d => k_is))
    (case n_OnCell_cell => k_is)
    (case n_OnCell_value => k_is)
    (case cl_Write => refine' ⟨?a, ?b, ?c, ?d⟩; (case a => k_is); (case b => k_is); (case c => k_is); (case d => k_is))
    (case n_Write_cell => k_is)
    (case n_Write_value => k_is)
    (case cl_Wait => refine' ⟨?a, ?b, ?c, ?d⟩; (case a => k_is); (case b => k_is); (case c => k_is); (case d => k_is))
    (case n_Wait_cell => k_is)
    (case n_Wait_value => k_is)
    (case cl_Mark => refine' ⟨?a, ?b, ?c, ?d⟩; (case a => k_is); (case b => k_is); (case c => k_is); (case d => k_is))
    (case n_Mark_name => k_is)
    (case cl_If => refine' ⟨?a, ?b, ?c, ?d⟩; (case a => k_is); (case b => k_is); (case c => k_is); (case d => k_is))
    (case n_If_yes => k_is)
    (case n_If_no => k_is)
    (case n_If_cell => k_is)
    (case n_If_value => k_is)
    (case cl_While => refine' ⟨?a, ?b, ?c, ?d⟩; (case a => k_is); (case b => k_is); (case c => k_is); (case d => k_is))
    (case n_While_body => k_is)
    (case n_While_cell => k_is)
    (case n_While_value => k_is)
    (case cl_Program => refine' ⟨?a, ?b, ?c, ?d⟩; (case a => k_is); (case b => k_is); (case c => k_is); (case d => k_is))
    (case n_Program_row => k_is)
    (case cr_OnCell => refine' ⟨?a, ?b⟩; (case a => k_is); (case b => k_is))
    (case l_BadCount_init => refine' Mb.fnraw ?l ?c ?k; (case l => k_is); (case c => k_is); (case k => k_is))
    (case l_NoName_init => refine' Mb.fnraw ?l ?c ?k; (case l => k_is); (case c => k_is); (case k => k_is))
    (case l_Twice_init => refine' Mb.fnraw ?l ?c ?k; (case l => k_is); (case c => k_is); (case k => k_is))
    (case l_NoCell_init => refine' Mb.fnraw ?l ?c ?k; (case l => k_is); (case c => k_is); (case k => k_is))
    (case l_is_name => refine' Mb.fnraw ?l ?c ?k; (case l => k_is); (case c => k_is); (case k => k_is))
    (case l_asked_names => refine' Mb.fnraw ?l ?c ?k; (case l => k_is); (case c => k_is); (case k => k_is))
    (case l_asked_once => refine' Mb.fnraw ?l ?c ?k; (case l => k_is); (case c => k_is); (case k => k_is))
    (case l_asked_cells => refine' Mb.fnraw ?l ?c ?k; (case l => k_is); (case c => k_is); (case k => k_is))
    (case l_Board_init => refine' Mb.fnraw ?l ?c ?k; (case l => k_is); (case c => k_is); (case k => k_is))
    (case l_Board_cells => refine' Mb.fnraw ?l ?c ?k; (case l => k_is); (case c => k_is); (case k => k_is))
    (case l_Board_values_of => refine' Mb.fnraw ?l ?c ?k; (case l => k_is); (case c => k_is); (case k => k_is))
    (case l_asked_size => refine' Mb.fnraw ?l ?c ?k; (case l => k_is); (case c => k_is); (case k => k_is))
    (case l_OnCell_init => refine' Mb.fnraw ?l ?c ?k; (case l => k_is); (case c => k_is); (case k => k_is))
    (case l_Mark_init => refine' Mb.fnraw ?l ?c ?k; (case l => k_is); (case c => k_is); (case k => k_is))
    (case l_If_init => refine' Mb.fnraw ?l ?c ?k; (case l => k_is); (case c => k_is); (case k => k_is))
    (case l_While_init => refine' Mb.fnraw ?l ?c ?k; (case l => k_is); (case c => k_is); (case k => k_is))
    (case l_Program_init => refine' Mb.fnraw ?l ?c ?k; (case l => k_is); (case c => k_is); (case k => k_is))
    (case l_Program_size => refine' Mb.fnraw ?l ?c ?k; (case l => k_is); (case c => k_is); (case k => k_is))
    (case l_Program_deep => refine' Mb.fnraw ?l ?c ?k; (case l => k_is); (case c => k_is); (case k => k_is))
    (case l_law_state => refine' Mb.fnraw ?l ?c ?k; (case l => k_is); (case c => k_is); (case k => k_is))
    (case l_law_digit => refine' Mb.fnraw ?l ?c ?k; (case l => k_is); (case c => k_is); (case k => k_is))
    (case l_law_plain => refine' Mb.fnraw ?l ?c ?k; (case l => k_is); (case c => k_is); (case k => k_is))
    (case l_law_text => refine' Mb.fnraw ?l ?c ?k; (case l => k_is); (case c => k_is); (case k => k_is))
    (case l_law_is_name => refine' Mb.fnraw ?l ?c ?k; (case l => k_is); (case c => k_is); (case k => k_is))
    (case l_law_fields => refine' Mb.fnraw ?l ?c ?k; (case l => k_is); (case c => k_is); (case k => k_is))
    (case l_law_made => refine' Mb.fnraw ?l ?c ?k; (case l => k_is); (case c => k_is); (case k => k_is))
    (case l_law_found => refine' Mb.fnraw ?l ?c ?k; (case l => k_is); (case c => k_is); (case k => k_is))
    (case l_law => refine' Mb.fnraw ?l ?c ?k; (case l => k_is); (case c => k_is); (case k => k_is))

