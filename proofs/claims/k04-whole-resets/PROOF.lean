import PyProof.Rows.All
import Wide.All
import OpenK.AllK
import Wide.FinOn
import HandS.ForMost
import KE.KDictKeyed
import HandS.TupAny
import HandS.WideBits
import HandS.Zip
import HandS.Rev
import HandS.Flow
import KE.SortData
import KE.DataEq
import PyProof.ReprRoads
import PyProof.CallFns
import HandS.Walk
import HandS.More
import HandS.ListItems
import HandS.Conv
import HandS.Deep
import HandS.TupLen
import PyProof.FitsInt
import HandS.RevTup
import HandS.DictTup
import KE.KDictDisplayH
import HandS.IsInst
import HandS.SetBool
import HandS.Strs
import HandS.SetFor
import KE.DataMinMax
import KE.KDictCopyH
import PyProof.DictRoadsH
import KE.GoesMore
import KE.GoesEnum
import PySem.Challenge.RW_tellgarner_k04_whole_resets
set_option Elab.async false
set_option linter.all false
set_option maxRecDepth 100000
set_option maxHeartbeats 4000000
/-! TL0: immutable data (Rp), owned trees (Own), the frame's slots (EnvL, EnvF), steps of the heap. -/
namespace TL
open PySem L2

structure TC where
  P : Program
  w : World
  K : PySem.W.Frag

/-- a dict with nested keys: keys, the keys' addresses, values -/
abbrev NKV := List (NestedKey × Addr × V)
def NPair (p : NestedKey × Addr × V) (q : NestedKey × Addr × Value) : Prop := p.1 = q.1 ∧ p.2.1 = q.2.1 ∧ RelV p.2.2 q.2.2
def DnOk (T : TC) (p : Addr) (kvs : NKV) (h : Heap) : Prop :=
  kvs.length ≤ sizeLine ∧ (p == sysModules) = false ∧ ∃ xs : List (NestedKey × Addr × Value), Paired NPair kvs xs ∧
    ∃ o es ep, h.get? p = some o ∧ o.ExactDict ∧ o.data = .dict es ep ∧ es.toList = xs.map (entryOfKey (nestedKind T.P T.w)) ∧ (xs.map (·.1)).Nodup
def DN (T : TC) (p : Addr) (kvs : NKV) : HO := .ext (DnOk T p kvs)

def keyD : Key → PyData
  | .inl i => .int i
  | .inr s => .str s

/-! ### immutable data -/
mutual
inductive Rp (T : TC) (I : Hp) : V → PyData → Prop
  | non : Rp T I .non .none
  | bl (b : Bool) : Rp T I (.bl b) (.bool b)
  | int (i : Int) : Rp T I (.int i) (.int i)
  | str (x : Str) : Rp T I (.str x) (.str x)
  | lst {a : Addr} {vs : List V} {ds : List PyData} : SqL T.K I a vs → RpL T I vs ds → Rp T I (.ref a) (.list ds)
  | tup {a : Addr} {vs : List V} {ds : List PyData} : SqT T.K I a vs → RpL T I vs ds → Rp T I (.ref a) (.tuple ds)
  | dk {a : Addr} {ob : Obj} {kvs : List (Key × V)} {ds : List (PyData × PyData)} : I a = some (.frz ob (.dK kvs)) → ds.map Prod.fst = kvs.map (fun p => keyD p.1) → RpL T I (kvs.map Prod.snd) (ds.map Prod.snd) → Rp T I (.ref a) (.dict ds)
  | dn {a : Addr} {ob : Obj} {kvs : NKV} {ds : List (PyData × PyData)} : I a = some (.frz ob (DN T a kvs)) → ds.map Prod.fst = kvs.map (fun p => p.1.data) → RpL T I (kvs.map fun p => V.ref p.2.1) (ds.map Prod.fst) → RpL T I (kvs.map fun p => p.2.2) (ds.map Prod.snd) → (∃ p ∈ kvs, ∀ k : Key, p.1.data ≠ keyD k) → Rp T I (.ref a) (.dict ds)
  | tn {a : Addr} {ob : Obj} {vs : List V} {ds : List PyData} {ds' : List (PyData × PyData)} : I a = some (.frz ob (.tup vs)) → ob.dict = none → RpL T I vs ds → ds' = [(.list [], .tuple ds)] → Rp T I (.ref a) (.dict ds')
inductive RpL (T : TC) (I : Hp) : List V → List PyData → Prop
  | nil : RpL T I [] []
  | cons {v : V} {vs : List V} {d : PyData} {ds : List PyData} : Rp T I v d → RpL T I vs ds → RpL T I (v :: vs) (d :: ds)
end

theorem sqT_mono {K : PySem.W.Frag} {H H' : Hp} {a : Addr} {xs : List V} (e : Same H H') (h : SqT K H a xs) : SqT K H' a xs := by
  rcases h with (h | ⟨o, h⟩) | h
  · exact .inl (.inl (e _ _ h))
  · exact .inl (.inr ⟨o, e _ _ h⟩)
  · exact .inr h

mutual
theorem Rp.mono {T : TC} {I I' : Hp} (e : Same I I') : ∀ {v : V} {d : PyData}, Rp T I v d → Rp T I' v d
  | _, _, .non => .non
  | _, _, .bl b => .bl b
  | _, _, .int i => .int i
  | _, _, .str x => .str x
  | _, _, .lst h r => .lst (e.seq h) (RpL.mono e r)
  | _, _, .tup h r => .tup (sqT_mono e h) (RpL.mono e r)
  | _, _, .dk h k r => .dk (e _ _ h) k (RpL.mono e r)
  | _, _, .dn h k r s n => .dn (e _ _ h) k (RpL.mono e r) (RpL.mono e s) n
  | _, _, .tn h k r q => .tn (e _ _ h) k (RpL.mono e r) q
theorem RpL.mono {T : TC} {I I' : Hp} (e : Same I I') : ∀ {vs : List V} {ds : List PyData}, RpL T I vs ds → RpL T I' vs ds
  | _, _, .nil => .nil
  | _, _, .cons h r => .cons (Rp.mono e h) (RpL.mono e r)
end
theorem RpL.length {T : TC} {I : Hp} : ∀ {vs : List V} {ds : List PyData}, RpL T I vs ds → vs.length = ds.length
  | _, _, .nil => rfl
  | _, _, .cons _ r => by rw [List.length_cons, List.length_cons, RpL.length r]
theorem RpL.get {T : TC} {I : Hp} : ∀ {vs : List V} {ds : List PyData} {i : Nat} {d : PyData}, RpL T I vs ds → ds[i]? = some d → ∃ v, vs[i]? = some v ∧ Rp T I v d
  | _, _, i, d, .nil, e => by simp at e
  | _, _, 0, d, .cons h _, e => by
    simp at e
    subst e
    exact ⟨_, rfl, h⟩
  | _, _, i + 1, d, .cons _ r, e => by
    obtain ⟨v, h1, h2⟩ := RpL.get (i := i) r (by simpa using e)
    exact ⟨v, by simpa using h1, h2⟩
theorem RpL.get' {T : TC} {I : Hp} : ∀ {vs : List V} {ds : List PyData} {i : Nat} {v : V}, RpL T I vs ds → vs[i]? = some v → ∃ d, ds[i]? = some d ∧ Rp T I v d
  | _, _, i, d, .nil, e => by simp at e
  | _, _, 0, d, .cons h _, e => by
    simp at e
    subst e
    exact ⟨_, rfl, h⟩
  | _, _, i + 1, d, .cons _ r, e => by
    obtain ⟨v, h1, h2⟩ := RpL.get' (i := i) r (by simpa using e)
    exact ⟨v, by simpa using h1, h2⟩
theorem RpL.append {T : TC} {I : Hp} : ∀ {vs ws : List V} {ds es : List PyData}, RpL T I vs ds → RpL T I ws es → RpL T I (vs ++ ws) (ds ++ es)
  | _, _, _, _, .nil, s => s
  | _, _, _, _, .cons h r, s => .cons h (RpL.append r s)
theorem RpL.take {T : TC} {I : Hp} : ∀ {vs : List V} {ds : List PyData} (n : Nat), RpL T I vs ds → RpL T I (vs.take n) (ds.take n)
  | _, _, 0, _ => .nil
  | _, _, _ + 1, .nil => .nil
  | _, _, n + 1, .cons h r => .cons h (RpL.take n r)
theorem RpL.drop {T : TC} {I : Hp} : ∀ {vs : List V} {ds : List PyData} (n : Nat), RpL T I vs ds → RpL T I (vs.drop n) (ds.drop n)
  | _, _, 0, r => r
  | _, _, _ + 1, .nil => .nil
  | _, _, n + 1, .cons _ r => RpL.drop n r
theorem RpL.set {T : TC} {I : Hp} {v : V} {d : PyData} (h : Rp T I v d) : ∀ {vs : List V} {ds : List PyData} (i : Nat), RpL T I vs ds → RpL T I (vs.set i v) (ds.set i d)
  | _, _, _, .nil => .nil
  | _, _, 0, .cons _ r => .cons h r
  | _, _, i + 1, .cons q r => .cons q (RpL.set h i r)
theorem RpL.rev {T : TC} {I : Hp} : ∀ {vs : List V} {ds : List PyData}, RpL T I vs ds → RpL T I vs.reverse ds.reverse
  | _, _, .nil => .nil
  | _, _, .cons h r => by
    rw [List.reverse_cons, List.reverse_cons]
    exact RpL.append (RpL.rev r) (.cons h .nil)

/-! ### owned trees -/
/-- an opaque owned object -/
structure OP where
  own : Hp → Hp → V → List Addr → Prop
  frame : ∀ {I I' H H' : Hp} {v : V} {B : List Addr}, Same I I' → own I H v B → (∀ b ∈ B, H' b = H b ∧ I' b = none) → own I' H' v B
  cells : ∀ {I H : Hp} {v : V} {B : List Addr}, own I H v B → ∀ b ∈ B, (∃ o, H b = some o) ∧ I b = none

inductive OD where
  /-- immutable data -/
  | da (d : PyData)
  /-- an own list of data -/
  | ll (ds : List PyData)
  /-- an own dict of data, keys ints and texts; keys tuples -/
  | dd (kvs : List (Key × PyData))
  | dm (kvs : List (NestedKey × PyData))
  /-- an own list of own things -/
  | ls (xs : List OD)
  /-- an instance: its class, its attributes -/
  | ob (C : Addr) (fs : List (Str × OD))
  | op (R : OP)
  /-- the same, the value itself known -/
  | pin (v : V) (x : OD)

mutual
inductive Own (T : TC) (I H : Hp) : V → OD → List Addr → Prop
  | da {v : V} {d : PyData} : Rp T I v d → Own T I H v (.da d) []
  | ll {p : Addr} {vs : List V} {ds : List PyData} : H p = some (.lst vs) → I p = none → RpL T I vs ds → Own T I H (.ref p) (.ll ds) [p]
  | dd {p : Addr} {kvs : List (Key × V)} {ds : List (Key × PyData)} : H p = some (.dK kvs) → I p = none → kvs.map Prod.fst = ds.map Prod.fst → RpL T I (kvs.map Prod.snd) (ds.map Prod.snd) → Own T I H (.ref p) (.dd ds) [p]
  | dm {p : Addr} {kvs : NKV} {ds : List (NestedKey × PyData)} : H p = some (DN T p kvs) → I p = none → kvs.map Prod.fst = ds.map Prod.fst → RpL T I (kvs.map fun p => V.ref p.2.1) (ds.map fun q => q.1.data) → RpL T I (kvs.map fun p => p.2.2) (ds.map Prod.snd) → Own T I H (.ref p) (.dm ds) [p]
  | ls {p : Addr} {vs : List V} {xs : List OD} {F : List Addr} : H p = some (.lst vs) → I p = none → OwnL T I H vs xs F → Own T I H (.ref p) (.ls xs) (p :: F)
  | ob {p C dx : Addr} {fv : List (Str × V)} {fs : List (Str × OD)} {F : List Addr} : H p = some (.ins C dx fv) → I p = none → fv.map Prod.fst = fs.map Prod.fst → OwnL T I H (fv.map Prod.snd) (fs.map Prod.snd) F → Own T I H (.ref p) (.ob C fs) (p :: F)
  | op {v : V} {B : List Addr} {R : OP} : R.own I H v B → Own T I H v (.op R) B
  | pin {v : V} {x : OD} {F : List Addr} : Own T I H v x F → Own T I H v (.pin v x) F
inductive OwnL (T : TC) (I H : Hp) : List V → List OD → List Addr → Prop
  | nil : OwnL T I H [] [] []
  | cons {v : V} {vs : List V} {x : OD} {xs : List OD} {F G : List Addr} : Own T I H v x F → OwnL T I H vs xs G → OwnL T I H (v :: vs) (x :: xs) (F ++ G)
end

mutual
theorem Own.cells {T : TC} {I H : Hp} : ∀ {v : V} {x : OD} {F : List Addr}, Own T I H v x F → ∀ b ∈ F, (∃ o, H b = some o) ∧ I b = none
  | _, _, _, .da _, b, hb => by cases hb
  | _, _, _, .ll h i _, b, hb => by
    rw [List.mem_singleton] at hb
    subst hb
    exact ⟨⟨_, h⟩, i⟩
  | _, _, _, .dd h i _ _, b, hb => by
    rw [List.mem_singleton] at hb
    subst hb
    exact ⟨⟨_, h⟩, i⟩
  | _, _, _, .dm h i _ _ _, b, hb => by
    rw [List.mem_singleton] at hb
    subst hb
    exact ⟨⟨_, h⟩, i⟩
  | _, _, _, .ls h i r, b, hb => by
    rcases List.mem_cons.mp hb with e | hb
    · subst e
      exact ⟨⟨_, h⟩, i⟩
    · exact OwnL.cells r b hb
  | _, _, _, .ob h i _ r, b, hb => by
    rcases List.mem_cons.mp hb with e | hb
    · subst e
      exact ⟨⟨_, h⟩, i⟩
    · exact OwnL.cells r b hb
  | _, _, _, .op (R := R) h, b, hb => R.cells h b hb
  | _, _, _, .pin r, b, hb => Own.cells r b hb
theorem OwnL.cells {T : TC} {I H : Hp} : ∀ {vs : List V} {xs : List OD} {F : List Addr}, OwnL T I H vs xs F → ∀ b ∈ F, (∃ o, H b = some o) ∧ I b = none
  | _, _, _, .nil, b, hb => by cases hb
  | _, _, _, .cons h r, b, hb => by
    rcases List.mem_append.mp hb with hb | hb
    · exact Own.cells h b hb
    · exact OwnL.cells r b hb
end

mutual
theorem Own.frame {T : TC} {I H I' H' : Hp} (e : Same I I') : ∀ {v : V} {x : OD} {F : List Addr}, Own T I H v x F → (∀ b ∈ F, H' b = H b ∧ I' b = none) → Own T I' H' v x F
  | _, _, _, .da r, _ => .da (r.mono e)
  | _, _, _, .ll h _ r, k => .ll ((k _ (List.mem_singleton.mpr rfl)).1.trans h) (k _ (List.mem_singleton.mpr rfl)).2 (r.mono e)
  | _, _, _, .dd h _ a r, k => .dd ((k _ (List.mem_singleton.mpr rfl)).1.trans h) (k _ (List.mem_singleton.mpr rfl)).2 a (r.mono e)
  | _, _, _, .dm h _ a r s, k => .dm ((k _ (List.mem_singleton.mpr rfl)).1.trans h) (k _ (List.mem_singleton.mpr rfl)).2 a (r.mono e) (s.mono e)
  | _, _, _, .ls h _ r, k => .ls ((k _ List.mem_cons_self).1.trans h) (k _ List.mem_cons_self).2 (OwnL.frame e r fun b hb => k b (List.mem_cons_of_mem _ hb))
  | _, _, _, .ob h _ a r, k => .ob ((k _ List.mem_cons_self).1.trans h) (k _ List.mem_cons_self).2 a (OwnL.frame e r fun b hb => k b (List.mem_cons_of_mem _ hb))
  | _, _, _, .op (R := R) h, k => .op (R.frame e h k)
  | _, _, _, .pin r, k => .pin (Own.frame e r k)
theorem OwnL.frame {T : TC} {I H I' H' : Hp} (e : Same I I') : ∀ {vs : List V} {xs : List OD} {F : List Addr}, OwnL T I H vs xs F → (∀ b ∈ F, H' b = H b ∧ I' b = none) → OwnL T I' H' vs xs F
  | _, _, _, .nil, _ => .nil
  | _, _, _, .cons h r, k => .cons (Own.frame e h fun b hb => k b (List.mem_append_left _ hb)) (OwnL.frame e r fun b hb => k b (List.mem_append_right _ hb))
end
theorem OwnL.length {T : TC} {I H : Hp} : ∀ {vs : List V} {xs : List OD} {F : List Addr}, OwnL T I H vs xs F → vs.length = xs.length
  | _, _, _, .nil => rfl
  | _, _, _, .cons _ r => by rw [List.length_cons, List.length_cons, OwnL.length r]

/-! ### the frame's slots -/
inductive EnvL (T : TC) (I H : Hp) : St → List (Option OD) → List Addr → Prop
  | nil : EnvL T I H [] [] []
  | skip {o : Option V} {σ : St} {Γ : List (Option OD)} {F : List Addr} : EnvL T I H σ Γ F → EnvL T I H (o :: σ) (none :: Γ) F
  | cons {v : V} {σ : St} {x : OD} {Γ : List (Option OD)} {F G : List Addr} : Own T I H v x F → EnvL T I H σ Γ G → EnvL T I H (some v :: σ) (some x :: Γ) (F ++ G)

section
variable {T : TC} {I H I' H' : Hp}
theorem EnvL.cells : ∀ {σ : St} {Γ : List (Option OD)} {F : List Addr}, EnvL T I H σ Γ F → ∀ b ∈ F, (∃ o, H b = some o) ∧ I b = none
  | _, _, _, .nil, b, hb => by cases hb
  | _, _, _, .skip r, b, hb => EnvL.cells r b hb
  | _, _, _, .cons h r, b, hb => by
    rcases List.mem_append.mp hb with hb | hb
    · exact h.cells b hb
    · exact EnvL.cells r b hb
theorem EnvL.frame (e : Same I I') : ∀ {σ : St} {Γ : List (Option OD)} {F : List Addr}, EnvL T I H σ Γ F → (∀ b ∈ F, H' b = H b ∧ I' b = none) → EnvL T I' H' σ Γ F
  | _, _, _, .nil, _ => .nil
  | _, _, _, .skip r, k => .skip (EnvL.frame e r k)
  | _, _, _, .cons h r, k => .cons (h.frame e fun b hb => k b (List.mem_append_left _ hb)) (EnvL.frame e r fun b hb => k b (List.mem_append_right _ hb))
theorem EnvL.length : ∀ {σ : St} {Γ : List (Option OD)} {F : List Addr}, EnvL T I H σ Γ F → σ.length = Γ.length
  | _, _, _, .nil => rfl
  | _, _, _, .skip r => by rw [List.length_cons, List.length_cons, EnvL.length r]
  | _, _, _, .cons _ r => by rw [List.length_cons, List.length_cons, EnvL.length r]

/-- the i-th slot: what it holds, and how it is put anew -/
theorem EnvL.at : ∀ {σ : St} {Γ : List (Option OD)} {F : List Addr} {i : Nat} {x : OD}, EnvL T I H σ Γ F → Γ[i]? = some (some x) → ∃ v A B C, σ[i]? = some (some v) ∧ F = A ++ (B ++ C) ∧ Own T I H v x B ∧ EnvL T I H σ (Γ.set i none) (A ++ C)
  | _, _, _, i, x, .nil, e => by simp at e
  | _, _, _, 0, x, .skip r, e => by simp at e
  | _, _, _, 0, x, .cons (F := F) (G := G) h r, e => by
    simp at e
    subst e
    exact ⟨_, [], F, G, rfl, rfl, h, .skip r⟩
  | _, _, _, i + 1, x, .skip r, e => by
    obtain ⟨v, A, B, C, h1, h2, h3, h4⟩ := EnvL.at (i := i) r (by simpa using e)
    exact ⟨v, A, B, C, by simpa using h1, h2, h3, .skip h4⟩
  | _, _, _, i + 1, x, .cons (F := F) (G := G) h r, e => by
    obtain ⟨v, A, B, C, h1, h2, h3, h4⟩ := EnvL.at (i := i) r (by simpa using e)
    exact ⟨v, F ++ A, B, C, by simpa using h1, by rw [h2, List.append_assoc], h3, by rw [List.append_assoc]; exact .cons h h4⟩
/-- any slot is put anew, or forgotten -/
theorem EnvL.put : ∀ {σ : St} {Γ : List (Option OD)} {F : List Addr} {i : Nat}, EnvL T I H σ Γ F → i < Γ.length → ∃ A B C, F = A ++ (B ++ C) ∧
    (∀ {I' H' : Hp} {v' : V} {y : OD} {B' : List Addr}, Same I I' → (∀ b ∈ A ++ C, H' b = H b ∧ I' b = none) → Own T I' H' v' y B' → EnvL T I' H' (σ.set i (some v')) (Γ.set i (some y)) (A ++ (B' ++ C))) ∧
    (∀ o : Option V, EnvL T I H (σ.set i o) (Γ.set i none) (A ++ C)) ∧ EnvL T I H σ (Γ.set i none) (A ++ C)
  | _, _, _, i, .nil, e => by simp at e
  | _, _, _, 0, .skip (F := F) r, e => ⟨[], [], F, rfl, fun s k o => (by rw [List.nil_append]; exact .cons o (r.frame s fun b hb => k b hb)), fun o => .skip r, .skip r⟩
  | _, _, _, 0, .cons (F := F) (G := G) h r, e => ⟨[], F, G, rfl, fun s k o => (by rw [List.nil_append]; exact .cons o (r.frame s fun b hb => k b hb)), fun o => .skip r, .skip r⟩
  | _, _, _, i + 1, .skip r, e => by
    obtain ⟨A, B, C, h2, h4, h5, h6⟩ := EnvL.put (i := i) r (by simpa using e)
    exact ⟨A, B, C, h2, fun s k o => .skip (h4 s k o), fun o => .skip (h5 o), .skip h6⟩
  | _, _, _, i + 1, .cons (F := F) (G := G) h r, e => by
    obtain ⟨A, B, C, h2, h4, h5, h6⟩ := EnvL.put (i := i) r (by simpa using e)
    refine ⟨F ++ A, B, C, by rw [h2, List.append_assoc], fun s k o => ?_, fun o => ?_, ?_⟩
    · rw [List.append_assoc]
      exact .cons (h.frame s fun b hb => k b (List.mem_append_left _ (List.mem_append_left _ hb))) (h4 s (fun b hb => k b (by
        rcases List.mem_append.mp hb with hb | hb
        · exact List.mem_append_left _ (List.mem_append_right _ hb)
        · exact List.mem_append_right _ hb)) o)
    · rw [List.append_assoc]
      exact .cons h (h5 o)
    · rw [List.append_assoc]
      exact .cons h h6
end

/-- the frame's slots, their own things apart from one another, the frozen heap within the heap -/
structure EnvF (T : TC) (I H : Hp) (σ : St) (Γ : List (Option OD)) (F : List Addr) : Prop where
  env : EnvL T I H σ Γ F
  nd : F.Nodup
  sub : Same I H
/-- from (I, H) to (I', H'): what is frozen stays, what is another's stays -/
structure Step (I H : Hp) (F : List Addr) (I' H' : Hp) (F' : List Addr) : Prop where
  inc : Same I I'
  oth : ∀ b o, H b = some o → I b = none → b ∉ F → H' b = some o ∧ I' b = none ∧ b ∉ F'
theorem Step.refl {I H : Hp} {F : List Addr} : Step I H F I H F := ⟨Same.refl _, fun _ _ h i n => ⟨h, i, n⟩⟩
theorem Step.trans {I H I1 H1 I2 H2 : Hp} {F F1 F2 : List Addr} (a : Step I H F I1 H1 F1) (b : Step I1 H1 F1 I2 H2 F2) : Step I H F I2 H2 F2 :=
  ⟨a.inc.trans b.inc, fun c o h i n => let ⟨h1, i1, n1⟩ := a.oth c o h i n; b.oth c o h1 i1 n1⟩
theorem Step.less {I H : Hp} {F F' : List Addr} (h : ∀ b ∈ F', b ∈ F) : Step I H F I H F' := ⟨Same.refl _, fun b _ e i n => ⟨e, i, fun q => n (h b q)⟩⟩

/-- an own thing taken out of its slot -/
theorem EnvF.take {T : TC} {I H : Hp} {σ : St} {Γ : List (Option OD)} {F : List Addr} {i : Nat} {x : OD} (en : EnvF T I H σ Γ F) (hx : Γ[i]? = some (some x)) :
    ∃ v B G, σ[i]? = some (some v) ∧ Own T I H v x B ∧ EnvF T I H σ (Γ.set i none) G ∧ (B ++ G).Nodup ∧ ∀ b, b ∈ F ↔ b ∈ B ∨ b ∈ G := by
  obtain ⟨v, A, B, C, h1, rfl, h3, h4⟩ := en.env.at hx
  have p : (A ++ (B ++ C)).Perm (B ++ (A ++ C)) := by
    rw [← List.append_assoc, ← List.append_assoc]
    exact List.perm_append_comm.append_right C
  have nd := p.nodup_iff.mp en.nd
  exact ⟨v, B, A ++ C, h1, h3, ⟨h4, (List.nodup_append.mp nd).2.1, en.sub⟩, nd, fun b => by rw [p.mem_iff, List.mem_append]⟩
theorem Step.of_mem {I H I' H' : Hp} {F F' G G' : List Addr} (st : Step I H F I' H' F') (h : ∀ b ∈ F, b ∈ G) (h' : ∀ b ∈ G', b ∈ F') : Step I H G I' H' G' :=
  ⟨st.inc, fun b o e i n => let ⟨h1, h2, h3⟩ := st.oth b o e i (fun q => n (h b q)); ⟨h1, h2, fun q => h3 (h' b q)⟩⟩
end TL

/-! TL1: the judgements WE, WT, WA, WSs over slots. -/
namespace TL
open PySem L2

abbrev _root_.L2.Cx.tc (X : Cx) : TC := ⟨X.prog, X.w, X.K⟩
abbrev Sl := List (Option OD)

/-! ### the canonical readings -/
def wpE (X : Cx) (e : Expr) : TE := fun σ H Q => ∃ t, PE X e t ∧ t σ H Q
def wpT (X : Cx) (e : Expr) : TT := fun σ H Q => ∃ t, PT X e t ∧ t σ H Q
def wpW (X : Cx) (e : Expr) : TT := fun σ H Q => ∃ t, PW X e t ∧ t σ H Q
def wpA (X : Cx) (es : List Expr) : TA := fun σ H Q => ∃ t, PA X es t ∧ t σ H Q
def wpSs (X : Cx) (ss : List Stmt) : TS := fun D σ H => ∃ t, PSs X ss t ∧ t D σ H
def wpOp (X : Cx) (f : Value → Value → Sem Value) : R2 := fun x y H Q => ∃ r, OpR X f r ∧ r x y H Q
def wpCall (X : Cx) (f : Value) : List V → Hp → VK → Prop := fun vs H Q => ∃ r, CallR X f r ∧ r vs H Q
section
variable {X : Cx}
theorem wpE_ok {e : Expr} : PE X e (wpE X e) := ⟨fun pins s σ H Q I ⟨_, h, q⟩ => h.run pins s σ H Q I q⟩
theorem wpT_ok {e : Expr} : PT X e (wpT X e) := ⟨fun pins s σ H Q I ⟨_, h, q⟩ => h.run pins s σ H Q I q⟩
theorem wpW_ok {e : Expr} : PW X e (wpW X e) := ⟨fun wh pins s σ H Q I ⟨_, h, q⟩ => h.run wh pins s σ H Q I q⟩
theorem wpA_ok {es : List Expr} : PA X es (wpA X es) := ⟨fun pos pins s σ H Q I ⟨_, h, q⟩ => h.run pos pins s σ H Q I q⟩
theorem wpSs_ok {ss : List Stmt} : PSs X ss (wpSs X ss) := ⟨fun pins s σ H D I ⟨_, h, q⟩ => h.run pins s σ H D I q⟩
theorem wpOp_ok {f : Value → Value → Sem Value} : OpR X f (wpOp X f) := fun pins s σ H x y v u Q I rx ry ⟨_, h, q⟩ => h pins s σ H x y v u Q I rx ry q
theorem wpCall_ok {f : Value} : CallR X f (wpCall X f) := fun pins s σ H xs us Q I r ⟨_, h, q⟩ => h pins s σ H xs us Q I r q
end

/-! ### the judgements -/
def WE (X : Cx) (e : Expr) (Γ : Sl) (Ψ : OD → Sl → Prop) : Prop := ∀ (I H : Hp) (σ : St) (F : List Addr), EnvF X.tc I H σ Γ F → ∀ Q : VK,
  (∀ (r : OD) (Γ' : Sl) (I' H' : Hp) (v : V) (F' : List Addr), Ψ r Γ' → Step I H F I' H' F' → EnvF X.tc I' H' (some v :: σ) (some r :: Γ') F' → Q v H') → wpE X e σ H Q
def WT (X : Cx) (e : Expr) (Γ : Sl) (Ψ : Bool → Sl → Prop) : Prop := ∀ (I H : Hp) (σ : St) (F : List Addr), EnvF X.tc I H σ Γ F → ∀ Q : Bool → Hp → Prop,
  (∀ (b : Bool) (Γ' : Sl) (I' H' : Hp) (F' : List Addr), Ψ b Γ' → Step I H F I' H' F' → EnvF X.tc I' H' σ Γ' F' → Q b H') → wpT X e σ H Q
def WW (X : Cx) (e : Expr) (Γ : Sl) (Ψ : Bool → Sl → Prop) : Prop := ∀ (I H : Hp) (σ : St) (F : List Addr), EnvF X.tc I H σ Γ F → ∀ Q : Bool → Hp → Prop,
  (∀ (b : Bool) (Γ' : Sl) (I' H' : Hp) (F' : List Addr), Ψ b Γ' → Step I H F I' H' F' → EnvF X.tc I' H' σ Γ' F' → Q b H') → wpW X e σ H Q
/-- which values are those of slots -/
def RefsOk (refs : List (Option Nat)) (vs : List V) (σ : St) : Prop := ∀ (k i : Nat), refs[k]? = some (some i) → ∃ v, vs[k]? = some v ∧ σ[i]? = some (some v)
def WA (X : Cx) (es : List Expr) (Γ : Sl) (Ψ : List OD → List (Option Nat) → Sl → Prop) : Prop := ∀ (I H : Hp) (σ : St) (F : List Addr), EnvF X.tc I H σ Γ F → ∀ Q : List V → Hp → Prop,
  (∀ (rs : List OD) (refs : List (Option Nat)) (Γ' : Sl) (I' H' : Hp) (vs : List V) (F' : List Addr), Ψ rs refs Γ' → vs.length = rs.length → refs.length = rs.length → RefsOk refs vs σ → Step I H F I' H' F' →
    EnvF X.tc I' H' (vs.map some ++ σ) (rs.map some ++ Γ') F' → Q vs H') → wpA X es σ H Q
/-- one answer -/
def XE (X : Cx) (e : Expr) (Γ : Sl) (r : OD) (Γ' : Sl) : Prop := ∀ Ψ : OD → Sl → Prop, Ψ r Γ' → WE X e Γ Ψ
def XT (X : Cx) (e : Expr) (Γ : Sl) (b : Bool) (Γ' : Sl) : Prop := ∀ Ψ : Bool → Sl → Prop, Ψ b Γ' → WT X e Γ Ψ
def XW (X : Cx) (e : Expr) (Γ : Sl) (b : Bool) (Γ' : Sl) : Prop := ∀ Ψ : Bool → Sl → Prop, Ψ b Γ' → WW X e Γ Ψ
def XA (X : Cx) (es : List Expr) (Γ : Sl) (rs : List OD) (refs : List (Option Nat)) (Γ' : Sl) : Prop := ∀ Ψ : List OD → List (Option Nat) → Sl → Prop, Ψ rs refs Γ' → WA X es Γ Ψ

section
variable {T : TC} {I H I' H' : Hp} {σ σ' : St} {Γ Γ' : Sl} {F F' G G' : List Addr} {v : V} {r : OD}
/-- the value on top taken off, and laid on again behind a step of the rest -/
theorem EnvF.pop (h : EnvF T I H (some v :: σ) (some r :: Γ) F) : ∃ B G, F = B ++ G ∧ Own T I H v r B ∧ EnvF T I H σ Γ G ∧
    ∀ {I' H' : Hp} {σ' : St} {Γ' : Sl} {G' : List Addr}, Step I H G I' H' G' → EnvF T I' H' σ' Γ' G' → EnvF T I' H' (some v :: σ') (some r :: Γ') (B ++ G') ∧ Step I H F I' H' (B ++ G') ∧ Own T I' H' v r B := by
  obtain ⟨e, nd, sub⟩ := h
  cases e with
  | cons o e =>
    rename_i B G
    have hd := List.nodup_append.mp nd
    refine ⟨B, G, rfl, o, ⟨e, hd.2.1, sub⟩, fun {I' H' σ' Γ' G'} st en => ?_⟩
    have kp : ∀ b ∈ B, H' b = H b ∧ I' b = none ∧ b ∉ G' := fun b hb => by
      obtain ⟨⟨ob, h1⟩, h2⟩ := o.cells b hb
      obtain ⟨h3, h4, h5⟩ := st.oth b ob h1 h2 fun q => hd.2.2 b hb b q rfl
      exact ⟨h3.trans h1.symm, h4, h5⟩
    have o' := o.frame (H' := H') st.inc fun b hb => ⟨(kp b hb).1, (kp b hb).2.1⟩
    refine ⟨⟨.cons o' en.env, List.nodup_append.mpr ⟨hd.1, en.nd, fun a ha b hb q => ?_⟩, en.sub⟩, ⟨st.inc, fun b ob h1 h2 n => ?_⟩, o'⟩
    · subst q
      exact (kp a ha).2.2 hb
    · rw [List.mem_append, not_or] at n
      obtain ⟨h3, h4, h5⟩ := st.oth b ob h1 h2 n.2
      exact ⟨h3, h4, fun q => (List.mem_append.mp q).elim n.1 h5⟩
/-- the value on top used up by an operation: B its own things, B' the answer's -/
theorem EnvF.use {B : List Addr} {y : OD} {u : V} (e : EnvF T I H σ Γ G) (nd : (B ++ G).Nodup) (st : Step I H B I' H' F') (o : Own T I' H' u y F') (ndF : F'.Nodup) (sub : Same I' H') :
    EnvF T I' H' (some u :: σ) (some y :: Γ) (F' ++ G) ∧ Step I H (B ++ G) I' H' (F' ++ G) := by
  have hd := List.nodup_append.mp nd
  have kp : ∀ b ∈ G, H' b = H b ∧ I' b = none ∧ b ∉ F' := fun b hb => by
    obtain ⟨⟨ob, h1⟩, h2⟩ := e.env.cells b hb
    obtain ⟨h3, h4, h5⟩ := st.oth b ob h1 h2 fun q => hd.2.2 b q b hb rfl
    exact ⟨h3.trans h1.symm, h4, h5⟩
  refine ⟨⟨.cons o (e.env.frame st.inc fun b hb => ⟨(kp b hb).1, (kp b hb).2.1⟩), List.nodup_append.mpr ⟨ndF, hd.2.1, fun a ha b hb q => ?_⟩, sub⟩, st.inc, fun b ob h1 h2 n => ?_⟩
  · subst q
    exact (kp a hb).2.2 ha
  · rw [List.mem_append, not_or] at n
    obtain ⟨h3, h4, h5⟩ := st.oth b ob h1 h2 n.1
    exact ⟨h3, h4, fun q => (List.mem_append.mp q).elim h5 n.2⟩
/-- nothing changes but that a new or no own thing is on top -/
theorem EnvF.da {d : PyData} (e : EnvF T I H σ Γ F) (h : Rp T I v d) : EnvF T I H (some v :: σ) (some (.da d) :: Γ) F := ⟨.cons (F := []) (.da h) e.env, e.nd, e.sub⟩
theorem EnvF.grow (e : EnvF T I H σ Γ F) (st : Step I H [] I' H' []) (sub : Same I' H') : EnvF T I' H' σ Γ F ∧ Step I H F I' H' F := by
  have kp : ∀ b ∈ F, H' b = H b ∧ I' b = none := fun b hb => by
    obtain ⟨⟨ob, h1⟩, h2⟩ := e.env.cells b hb
    obtain ⟨h3, h4, _⟩ := st.oth b ob h1 h2 (by simp)
    exact ⟨h3.trans h1.symm, h4⟩
  exact ⟨⟨e.env.frame st.inc kp, e.nd, sub⟩, st.inc, fun b ob h1 h2 n => ⟨(st.oth b ob h1 h2 (by simp)).1, (st.oth b ob h1 h2 (by simp)).2.1, n⟩⟩
end

section
variable {X : Cx} {e a b o : Expr} {es : List Expr} {Γ Γ' Γ1 Γ2 : Sl} {Ψ : OD → Sl → Prop} {Φt : Bool → Sl → Prop} {pos : Pos} {r x y z : OD} {c c' : Bool}
theorem XE.we (h : XE X e Γ r Γ') (hq : Ψ r Γ') : WE X e Γ Ψ := h Ψ hq
theorem WE.mono {Ψ' : OD → Sl → Prop} (h : WE X e Γ Ψ) (hq : ∀ r Γ', Ψ r Γ' → Ψ' r Γ') : WE X e Γ Ψ' := fun I H σ F en Q k => h I H σ F en Q fun r Γ' I' H' v F' q => k r Γ' I' H' v F' (hq _ _ q)
theorem WT.mono {Ψ' : Bool → Sl → Prop} (h : WT X e Γ Φt) (hq : ∀ r Γ', Φt r Γ' → Ψ' r Γ') : WT X e Γ Ψ' := fun I H σ F en Q k => h I H σ F en Q fun r Γ' I' H' F' q => k r Γ' I' H' F' (hq _ _ q)
theorem XE.of (h : ∀ Ψ : OD → Sl → Prop, Ψ r Γ' → WE X e Γ Ψ) : XE X e Γ r Γ' := h

/-! ### constants, names -/
theorem we_const {d : PyData} {v : V} (hr : ∀ I, Rp X.tc I v d) (h : PE X e (tC v)) (hq : Ψ (.da d) Γ) : WE X e Γ Ψ := fun I H σ F en Q k =>
  ⟨_, h, k _ _ I H v F hq .refl (en.da (hr I))⟩
theorem xe_int {i : Int} {j : Nat} : XE X (.Constant (.int i) j pos) Γ (.da (.int i)) Γ := fun _ hq => we_const (fun _ => .int i) pe_int hq
theorem xe_bl {i : Bool} {j : Nat} : XE X (.Constant (.bool i) j pos) Γ (.da (.bool i)) Γ := fun _ hq => we_const (fun _ => .bl i) pe_bl hq
theorem xe_non {j : Nat} : XE X (.Constant .none j pos) Γ (.da .none) Γ := fun _ hq => we_const (fun _ => .non) pe_non hq
theorem xe_str {i : Str} {j : Nat} : XE X (.Constant (.str i) j pos) Γ (.da (.str i)) Γ := fun _ hq => we_const (fun _ => .str i) pe_str hq
/-- a slot that holds data -/
theorem xe_var {i : Nat} {n : Str} {d : PyData} (hN : X.N[i]? = some n) (hv : Vis X.env.scope n) (hd : Γ[i]? = some (some (.da d))) (h1 : (n == ("__debug__" : Str)) = false := by decide) (h2 : (n == ("__classdict__" : Str)) = false := by decide) :
    XE X (.Name n pos) Γ (.da d) Γ := fun Ψ hq I H σ F en Q k => by
  obtain ⟨v, A, B, C, h3, h4, h5, _⟩ := en.env.at hd
  cases h5 with
  | da h6 => exact ⟨_, pe_var hN hv h1 h2, v, h3, k _ _ I H v F hq .refl (en.da h6)⟩
theorem xv (i : Nat) {n : Str} {d : PyData} (hd : Γ[i]? = some (some (.da d)) := by rfl) (hN : X.N[i]? = some n := by rfl) (hv : Vis X.env.scope n := by first | exact Or.inl rfl | exact Or.inr (Or.inl rfl) | exact Or.inr (Or.inr rfl))
    (h1 : (n == ("__debug__" : Str)) = false := by decide) (h2 : (n == ("__classdict__" : Str)) = false := by decide) : XE X (.Name n pos) Γ (.da d) Γ := xe_var hN hv hd h1 h2

/-! ### operations on two values -/
/-- what an operation by values makes of own things -/
def Op2 (T : TC) (f : R2) (x y z : OD) : Prop := ∀ (I H : Hp) (v u : V) (B : List Addr), OwnL T I H [v, u] [x, y] B → B.Nodup → Same I H → ∀ Q : VK,
  (∀ (I' H' : Hp) (w : V) (B' : List Addr), Step I H B I' H' B' → Own T I' H' w z B' → B'.Nodup → Same I' H' → Q w H') → f v u H Q
/-- .. where both are data and nothing is laid -/
theorem Op2.pure {T : TC} {f : R2} {d e g : PyData} (h : ∀ (I H : Hp) (v u : V), Rp T I v d → Rp T I u e → Same I H → ∀ Q : VK, (∀ w, Rp T I w g → Q w H) → f v u H Q) : Op2 T f (.da d) (.da e) (.da g) := by
  intro I H v u B o nd sub Q k
  cases o with
  | cons o1 o2 =>
    cases o1 with
    | da h1 =>
      cases o2 with
      | cons o2 o3 =>
        cases o2 with
        | da h2 =>
          cases o3
          exact h I H v u h1 h2 sub Q fun w hw => k I H w [] Step.refl (.da hw) List.nodup_nil sub
theorem two_core {wr : R2} (h : WE X a Γ fun x Γ1 => WE X b Γ1 fun y Γ2 => ∃ z, Op2 X.tc wr x y z ∧ Ψ z Γ2) (I H : Hp) (σ : St) (F : List Addr) (en : EnvF X.tc I H σ Γ F) (Q : VK)
    (k : ∀ (r : OD) (Γ' : Sl) (I' H' : Hp) (v : V) (F' : List Addr), Ψ r Γ' → Step I H F I' H' F' → EnvF X.tc I' H' (some v :: σ) (some r :: Γ') F' → Q v H') : tOp wr (wpE X a) (wpE X b) σ H Q := by
  refine h I H σ F en _ fun x Γ1 I1 H1 v F1 h1 st1 en1 => ?_
  obtain ⟨B, G, rfl, o1, en1', up⟩ := en1.pop
  refine h1 I1 H1 σ G en1' _ fun y Γ2 I2 H2 u F2 h2 st2 en2 => ?_
  obtain ⟨z, op, hq⟩ := h2
  obtain ⟨en3, st3, o1'⟩ := up st2 en2
  have st13 := st1.trans st3
  obtain ⟨B2, G2, rfl, o2, en2', _⟩ := en2.pop
  have ndA : ((B ++ B2) ++ G2).Nodup := by rw [List.append_assoc]; exact en3.nd
  have ol : OwnL X.tc I2 H2 [v, u] [x, y] (B ++ B2) := by
    have q := OwnL.cons o1' (OwnL.cons o2 OwnL.nil)
    rwa [List.append_nil] at q
  refine op I2 H2 v u (B ++ B2) ol (List.nodup_append.mp ndA).1 en2.sub _ fun I' H' w B' st o nd sub => ?_
  obtain ⟨en5, st5⟩ := en2'.use ndA st o nd sub
  exact k z Γ2 I' H' w _ hq (st13.trans (by rw [← List.append_assoc]; exact st5)) en5
end
end TL

/-! TL2: defs: contracts that know that no repr runs around (FnG), the def's rule, calls. -/
namespace TL
open PySem PySem.Spec PyProof.Rows L2

/-- as L2.FnOk, where no guard runs -/
structure FnG (P : Program) (w : World) (K : PySem.W.Frag) (mg : Str → Option Value) (bs : Heap) (CX : CXT) (k : Nat) (f : Addr) (fd : FuncData) (ps : List Str) (sp : Sp) : Prop where
  arity : ∀ vs H Q E, sp vs H Q E → vs.length = ps.length
  go : ∀ (A : Around) (fr : List PySem.Env) (s : Shared) (H : Hp) (ar : Args) (us : List Value) (vs : List V) (Q : VK) (E : XK), Room k A → A.guards = some [] → Env0 P w K mg bs A fr s H →
    BindsTo s fd ar (ps.zip us) → Vals vs us → sp vs H Q E → codeAny (model P w) A (.call (.ref f) ar) (CR CX fr P w H s Q E) s
section
variable {P : Program} {w : World} {K : PySem.W.Frag} {mg : Str → Option Value} {bs : Heap} {CX : CXT} {j k : Nat} {f : Addr} {fd : FuncData} {ps : List Str} {sp : Sp}
theorem FnG.mono (F : FnG P w K mg bs CX j f fd ps sp) (h : j ≤ k) : FnG P w K mg bs CX k f fd ps sp :=
  ⟨F.arity, fun A fr s H ar us vs Q E r => F.go A fr s H ar us vs Q E (r.mono h)⟩
/-- a def of the text, by its body -/
theorem fnG_of {x qual : Str} {st : Stmt} {N : List Str} (F : Fun K x qual st f fd) (S : FnScope N ps (defScope st)) (ln : ∀ vs H Q E, sp vs H Q E → vs.length = ps.length)
    (hb : ∀ (cdv : Value) (A : Around) (fr : List PySem.Env) (s : Shared) (H : Hp) (vs : List V) (Q : VK) (E : XK), Room k (A.deeper (envOfC qual (defScope st) s.heap.objs.size f cdv)) → A.guards = some [] → sp vs H Q E →
      wpSs (cxOf CX P w K mg bs N qual (defScope st) f cdv A fr s H E) (defBody st) { nx := fun _ H' => Q .non H', rt := Q } (L2.start N vs) H) : FnG P w K mg bs CX (k + 1) f fd ps sp := by
  obtain ⟨oc, od, kV, doc, pm, an, cdv, ct, osl, rfl, lk, hcd⟩ := F.ex
  refine ⟨ln, fun A fr s H ar us vs Q E hr hg e0 hbd r hsp => ?_⟩
  have hl : vs.length = ps.length := ln _ _ _ _ hsp
  have KX : K.In s.heap := e0.mod.kin.keeps fun b o e => (e0.bs b o e).1
  have kinds : ∀ y ∈ ps.zip us, (defScope st).names.lookup y.1 = some .local ∨ ((defScope st).names.lookup y.1 = some .cell ∧ ((cellsFrom (s.heap.objs.size + 1) (defScope st).names []).lookup y.1).isSome = true) := by
    rintro ⟨n, v⟩ hy
    cases S.par n (List.of_mem_zip hy).1 with
    | inl q => exact .inl q
    | inr q => exact .inr ⟨q, PySem.W.cellsFrom_some _ _ _ (.inl q)⟩
  refine codeAny_call_function hr.depth (KX _ _ lk) rfl S.co S.gen rfl (PySem.W.codeRec_of KX hcd) (hbd _ _ _ _ ?_)
  refine wpAny_newFunctionEnv_cells S.kind kinds fun en hen s1 x => ?_
  subst hen
  refine ⟨(e0.mod.nolimit.keeps fun b o e => (e0.bs b o e).1).keeps x.toInCall.keep, codeAny_func ?_⟩
  have I := inv_start (CX := CX) (E := E) S hr.hd e0 hl r x
  refine wpAny_mono (wpSs_ok.run [] s1 (L2.start N vs) H _ I (hb cdv A fr s H vs Q E (hr.deeper _) hg hsp)) (fun fl s' hs => ?_) fun e s' hs => hs
  cases fl with
  | ret u => exact match hs with | ⟨v, _, H', J, rv, q⟩ => ⟨v, H', J.os, J.bare, J.base, J.hok, rv, q⟩
  | next => exact match hs with | ⟨_, H', J, q⟩ => ⟨V.non, H', J.os, J.bare, J.base, J.hok, rfl, q⟩
  | brk => exact match hs with | ⟨_, _, _, q⟩ => False.elim q
  | cont => exact match hs with | ⟨_, _, _, q⟩ => False.elim q
end

section
variable {X : Cx} {CX : CXT} {k : Nat} {f C : Addr} {fd : FuncData} {ps : List Str} {sp : Sp} {E : XK} {x m : Str} {p pos apos : Pos} {e o : Expr} {es : List Expr} {ta : TE} {t : TA}
theorem runG {pins : List (Addr × Obj)} {σ : L2.St} {H : Hp} {s : Shared} {Q : VK} {us : List Value} {vs : List V} (F : FnG X.prog X.w X.K X.mg X.base CX k f fd ps sp) (hr : Room k X.A) (hg : X.A.guards = some []) (hb : Binds X.K fd ps [])
    (hx : Passes CX X E) (I : Inv X pins σ H s) (r : Vals vs us) (h : sp vs H Q E) : wpAny (model X.prog X.w) X.A (call (.ref f) us) (EP X pins σ Q) X.xe s := by
  have hl : (us ++ ([] : List Value)).length = ps.length := by rw [List.append_nil, ← r.length]; exact F.arity _ _ _ _ h
  have hbd := hb s us I.kIn hl
  rw [List.append_nil] at hbd
  refine wpAny_call (codeAny_mono (F.go X.A X.stack s H ⟨us, []⟩ us vs Q E hr hg I.env0 hbd r h) ?_)
  rintro (e | fl) s' hq
  · exact hx pins σ H s e s' I hq
  · cases fl with
    | ret u => exact I.after hq
    | next => cases hq
    | brk => cases hq
    | cont => cases hq
theorem pe_callG (F : FnG X.prog X.w X.K X.mg X.base CX k f fd ps sp) (hr : Room k X.A) (hgd : X.A.guards = some []) (hg : Gl X x) (hm : X.mg x = some (.ref f)) (hk : PySem.W.keepIn X.K (.ref f) = true) (hb : Binds X.K fd ps [])
    (hx : Passes CX X E) (ha : PA X (e :: es) t) (hdb : (x == ("__debug__" : Str)) = false := by decide) (he : starEach (e :: es) X.env = (false, eval e X.env) :: starEach es X.env := by rfl)
    (hpl : (backTo pos (starEach es X.env)).any (·.1) = false := by rfl) : PE X (.Call (.Name x p) (e :: es) [] pos) (tCall sp [] E t) := by
  constructor
  intro pins s σ H Q I h
  refine wpAny_Call_Name_kw (ld_glob I hg hm ?_ hdb)
  refine PySem.W.callWith_K (h₀ := X.base) I.ok.mod.kin hk ?_ he hpl
  refine thn (ha.run pos pins s σ H _ I h) ?_
  rintro us s1 ⟨vs, H1, I1, r, q⟩
  rw [List.append_nil] at q
  exact ⟨I1.kIn, runG F hr hgd hb hx I1 r q⟩
theorem pe_callG0 (F : FnG X.prog X.w X.K X.mg X.base CX k f fd ps sp) (hr : Room k X.A) (hgd : X.A.guards = some []) (hg : Gl X x) (hm : X.mg x = some (.ref f)) (hk : PySem.W.keepIn X.K (.ref f) = true) (hb : Binds X.K fd ps [])
    (hx : Passes CX X E) (hdb : (x == ("__debug__" : Str)) = false := by decide) : PE X (.Call (.Name x p) [] [] pos) (tCall sp [] E tNil) := by
  constructor
  intro pins s σ H Q I h
  have h : sp ([] ++ []) H Q E := h
  exact wpAny_Call_Name_kw (ld_glob I hg hm (PySem.W.callWith_K0 I.kIn hk (runG (us := []) F hr hgd hb hx I .nil h)) hdb)
end

/-! ### contracts over owned things -/
/-- what a def is worth: from its arguments, what it answers and what it leaves of them -/
abbrev SpD := List OD → (OD → List OD → Prop) → Prop
def mkSp (T : TC) (sp : SpD) : Sp := fun vs H Q _ => ∃ (I : Hp) (as : List OD) (F : List Addr) (Ψ : OD → List OD → Prop), OwnL T I H vs as F ∧ F.Nodup ∧ Same I H ∧ sp as Ψ ∧
  ∀ (r : OD) (as' : List OD) (I' H' : Hp) (v : V) (F' : List Addr), Ψ r as' → Step I H F I' H' F' → OwnL T I' H' (v :: vs) (r :: as') F' → F'.Nodup → Same I' H' → Q v H'
/-- the parameters' slots at the entry: data, or an own thing whose value is known -/
def pinned (x : OD) (v : V) : OD := match x with
  | .da d => .da d
  | y => .pin v y
def start0 (N : List Str) (as : List OD) (vs : List V) : Sl := (List.zipWith (fun x v => some (pinned x v)) as vs) ++ List.replicate (N.length - as.length) none
inductive Back : List OD → List V → Sl → List OD → Prop
  | nil {Γ : Sl} : Back [] [] Γ []
  | da {d : PyData} {as as' : List OD} {v : V} {vs : List V} {o : Option OD} {Γ : Sl} : Back as vs Γ as' → Back (.da d :: as) (v :: vs) (o :: Γ) (.da d :: as')
  | own {x y : OD} {as as' : List OD} {v : V} {vs : List V} {Γ : Sl} : Back as vs Γ as' → Back (x :: as) (v :: vs) (some (.pin v y) :: Γ) (y :: as')

/-! ### outcomes of statements -/
inductive Out where
  | nx (Γ : Sl) | rt (r : OD) (Γ : Sl) | bk (Γ : Sl) | ct (Γ : Sl)
structure EndsOk (T : TC) (I H : Hp) (F : List Addr) (Φ : Out → Prop) (D : Ends) : Prop where
  nx : ∀ {Γ' : Sl} {I' H' : Hp} {σ' : L2.St} {F' : List Addr}, Φ (.nx Γ') → Step I H F I' H' F' → EnvF T I' H' σ' Γ' F' → D.nx σ' H'
  rt : ∀ {r : OD} {Γ' : Sl} {I' H' : Hp} {σ' : L2.St} {v : V} {F' : List Addr}, Φ (.rt r Γ') → Step I H F I' H' F' → EnvF T I' H' (some v :: σ') (some r :: Γ') F' → D.rt v H'
  bk : ∀ {Γ' : Sl} {I' H' : Hp} {σ' : L2.St} {F' : List Addr}, Φ (.bk Γ') → Step I H F I' H' F' → EnvF T I' H' σ' Γ' F' → D.bk σ' H'
  ct : ∀ {Γ' : Sl} {I' H' : Hp} {σ' : L2.St} {F' : List Addr}, Φ (.ct Γ') → Step I H F I' H' F' → EnvF T I' H' σ' Γ' F' → D.ct σ' H'
theorem EndsOk.step {T : TC} {I H I1 H1 : Hp} {F F1 : List Addr} {Φ : Out → Prop} {D : Ends} (k : EndsOk T I H F Φ D) (st : Step I H F I1 H1 F1) : EndsOk T I1 H1 F1 Φ D :=
  ⟨fun a b c => k.nx a (st.trans b) c, fun a b c => k.rt a (st.trans b) c, fun a b c => k.bk a (st.trans b) c, fun a b c => k.ct a (st.trans b) c⟩
def WSs (X : Cx) (ss : List Stmt) (Γ : Sl) (Φ : Out → Prop) : Prop := ∀ (I H : Hp) (σ : L2.St) (F : List Addr), EnvF X.tc I H σ Γ F → ∀ D : Ends, EndsOk X.tc I H F Φ D → wpSs X ss D σ H
theorem WSs.mono {X : Cx} {ss : List Stmt} {Γ : Sl} {Φ Φ' : Out → Prop} (h : WSs X ss Γ Φ) (k : ∀ o, Φ o → Φ' o) : WSs X ss Γ Φ' := fun I H σ F en D e =>
  h I H σ F en D ⟨fun a => e.nx (k _ a), fun a => e.rt (k _ a), fun a => e.bk (k _ a), fun a => e.ct (k _ a)⟩
/-- what a def's body is to come to -/
def fnΦ (as : List OD) (vs : List V) (Ψ : OD → List OD → Prop) : Out → Prop
  | .rt r Γ => ∃ as', Back as vs Γ as' ∧ Ψ r as'
  | .nx Γ => ∃ as', Back as vs Γ as' ∧ Ψ (.da .none) as'
  | _ => False

section
variable {T : TC} {I H I' H' : Hp}
theorem env_none : ∀ n : Nat, EnvL T I H (List.replicate n none) (List.replicate n none) []
  | 0 => .nil
  | n + 1 => .skip (env_none n)
theorem own_pinned {x : OD} {v : V} {F : List Addr} (h : Own T I H v x F) : Own T I H v (pinned x v) F := by
  cases h with
  | da h => exact .da h
  | ll a b c => exact .pin (.ll a b c)
  | dd a b c d => exact .pin (.dd a b c d)
  | dm a b c d e => exact .pin (.dm a b c d e)
  | ls a b c => exact .pin (.ls a b c)
  | ob a b c d => exact .pin (.ob a b c d)
  | op a => exact .pin (.op a)
  | pin a => exact .pin (.pin a)
theorem env_start {N : List Str} : ∀ {as : List OD} {vs : List V} {F : List Addr}, OwnL T I H vs as F → ∀ n : Nat, EnvL T I H (vs.map some ++ List.replicate n none) (List.zipWith (fun x v => some (pinned x v)) as vs ++ List.replicate n none) F
  | _, _, _, .nil, n => env_none n
  | _, _, _, .cons h r, n => .cons (own_pinned h) (env_start (N := N) r n)
/-- the arguments behind the body -/
theorem env_back : ∀ {as : List OD} {vs : List V} {Γ : Sl} {as' : List OD}, Back as vs Γ as' → ∀ {σ : L2.St} {F F0 : List Addr}, OwnL T I H vs as F0 → Same I I' → EnvL T I' H' σ Γ F → ∃ G, OwnL T I' H' vs as' G ∧ G.Sublist F
  | _, _, _, _, .nil, _, F, _, _, _, _ => ⟨[], .nil, List.nil_sublist _⟩
  | _, _, _, _, .da b, σ, F, _, .cons h r, e, en => by
    cases h with
    | da hd =>
      cases en with
      | skip en =>
        obtain ⟨G, o, s⟩ := env_back b r e en
        exact ⟨G, .cons (F := []) (.da (hd.mono e)) o, s⟩
      | cons _ en =>
        obtain ⟨G, o, s⟩ := env_back b r e en
        exact ⟨G, .cons (F := []) (.da (hd.mono e)) o, s.trans (List.sublist_append_right _ _)⟩
  | _, _, _, _, .own b, σ, F, _, .cons _ r, e, en => by
    cases en with
    | cons h en =>
      obtain ⟨G, o, s⟩ := env_back b r e en
      cases h with
      | pin h => exact ⟨_, .cons h o, (List.Sublist.refl _).append s⟩
end
theorem step_sub {I H I' H' : Hp} {F F' G : List Addr} (st : Step I H F I' H' F') (s : ∀ b ∈ G, b ∈ F') : Step I H F I' H' G :=
  ⟨st.inc, fun b o e i n => let ⟨h1, h2, h3⟩ := st.oth b o e i n; ⟨h1, h2, fun q => h3 (s b q)⟩⟩

section
variable {P : Program} {w : World} {K : PySem.W.Frag} {mg : Str → Option Value} {bs : Heap} {k : Nat} {f : Addr} {fd : FuncData} {ps : List Str}
/-- THE RULE for a def: its body over slots -/
theorem fn_ok {x qual : Str} {st : Stmt} {N : List Str} {sp : SpD} (F : Fun K x qual st f fd) (S : FnScope N ps (defScope st)) (ln : ∀ as Ψ, sp as Ψ → as.length = ps.length)
    (hb : ∀ (X : Cx) (cdv : Value) (A : Around) (fr : List PySem.Env) (s : Shared) (H : Hp) (E : XK), X = (cxOf CX0 P w K mg bs N qual (defScope st) f cdv A fr s H E).nox → Room k X.A → X.A.guards = some [] →
      ∀ (as : List OD) (Ψ : OD → List OD → Prop) (vs : List V), sp as Ψ → vs.length = as.length → WSs (cxOf CX0 P w K mg bs N qual (defScope st) f cdv A fr s H E).nox (defBody st) (start0 N as vs) (fnΦ as vs Ψ)) :
    FnG P w K mg bs CX0 (k + 1) f fd ps (mkSp ⟨P, w, K⟩ sp) := by
  refine fnG_of F S (fun vs H Q E h => ?_) fun cdv A fr s H vs Q E hr hg h => ?_
  · obtain ⟨I, as, F, Ψ, o, _, _, q, _⟩ := h
    rw [o.length, ln as Ψ q]
  · obtain ⟨I, as, F, Ψ, o, nd, sub, q, kk⟩ := h
    have en : EnvF (⟨P, w, K⟩ : TC) I H (L2.start N vs) (start0 N as vs) F := ⟨by unfold L2.start start0; rw [o.length]; exact env_start (N := N) o _, nd, sub⟩
    have main := hb _ cdv A fr s H E rfl hr hg as Ψ vs q o.length I H (L2.start N vs) F en { nx := fun _ H' => Q .non H', rt := Q } ?_
    · obtain ⟨t, ht, hq⟩ := main
      exact ⟨t, ht.nox, hq⟩
    · refine ⟨fun a st en => ?_, fun a st en => ?_, fun a => a.elim, fun a => a.elim⟩
      · obtain ⟨as', b, hΨ⟩ := a
        obtain ⟨G, o', sl⟩ := env_back b o st.inc en.env
        exact kk _ as' _ _ .non ([] ++ G) hΨ (step_sub st fun b hb => sl.subset hb) (.cons (.da .non) o') (en.nd.sublist sl) en.sub
      · obtain ⟨as', b, hΨ⟩ := a
        obtain ⟨B, G, rfl, ov, en', _⟩ := en.pop
        obtain ⟨G', o', sl⟩ := env_back b o st.inc en'.env
        have sl' : (B ++ G').Sublist (B ++ G) := (List.Sublist.refl B).append sl
        exact kk _ as' _ _ _ (B ++ G') hΨ (step_sub st fun b hb => sl'.subset hb) (.cons ov o') (en.nd.sublist sl') en.sub
end
end TL

/-! TL3: expressions by rules: ints, comparisons, tests, displays, subscripts, calls; small statements. -/
namespace TL
open PySem PySem.Spec PyProof.Rows L2

section
variable {X : Cx} {e a b c o : Expr} {es : List Expr} {Γ Γ' Γ1 Γ2 : Sl} {Ψ : OD → Sl → Prop} {Φt : Bool → Sl → Prop} {pos : Pos} {r x y z : OD} {k k' : Bool} {wr : R2}

/-! ### operations -/
theorem we_bin {op : Operator} (ho : OpR X (binaryOp op) wr) (h : WE X a Γ fun x Γ1 => WE X b Γ1 fun y Γ2 => ∃ z, Op2 X.tc wr x y z ∧ Ψ z Γ2) : WE X (.BinOp a op b pos) Γ Ψ := fun I H σ F en Q k => ⟨_, pe_op ho wpE_ok wpE_ok, two_core h I H σ F en Q k⟩
theorem xe_bin {op : Operator} (ho : OpR X (binaryOp op) wr) (q : Op2 X.tc wr x y z) (ha : XE X a Γ x Γ1) (hb : XE X b Γ1 y Γ2) : XE X (.BinOp a op b pos) Γ z Γ2 := fun _ hq => we_bin ho (ha _ (hb _ ⟨z, q, hq⟩))
theorem o2_I0 {T : TC} {g : Int → Int → V} {i j : Int} {d : PyData} (hg : ∀ I, Rp T I (g i j) d) : Op2 T (rI0 g) (.da (.int i)) (.da (.int j)) (.da d) := Op2.pure fun I H v u hv hu _ Q k => by
  cases hv
  cases hu
  exact ⟨i, j, rfl, rfl, k _ (hg I)⟩
theorem o2_I {T : TC} {C : Int → Int → Prop} {g : Int → Int → V} {i j : Int} {d : PyData} (hc : C i j) (hg : ∀ I, Rp T I (g i j) d) : Op2 T (rI C g) (.da (.int i)) (.da (.int j)) (.da d) := Op2.pure fun I H v u hv hu _ Q k => by
  cases hv
  cases hu
  exact ⟨i, j, rfl, rfl, hc, k _ (hg I)⟩
section
variable {i j : Int}
theorem xe_add (ha : XE X a Γ (.da (.int i)) Γ1) (hb : XE X b Γ1 (.da (.int j)) Γ2) : XE X (.BinOp a .Add b pos) Γ (.da (.int (i + j))) Γ2 := xe_bin op_add (o2_I0 fun _ => .int _) ha hb
theorem xe_sub (ha : XE X a Γ (.da (.int i)) Γ1) (hb : XE X b Γ1 (.da (.int j)) Γ2) : XE X (.BinOp a .Sub b pos) Γ (.da (.int (i - j))) Γ2 := xe_bin op_sub (o2_I0 fun _ => .int _) ha hb
theorem xe_mul (hc : CMul i j) (ha : XE X a Γ (.da (.int i)) Γ1) (hb : XE X b Γ1 (.da (.int j)) Γ2) : XE X (.BinOp a .Mult b pos) Γ (.da (.int (i * j))) Γ2 := xe_bin op_mul (o2_I hc fun _ => .int _) ha hb
theorem xe_mod (hc : 0 < j) (ha : XE X a Γ (.da (.int i)) Γ1) (hb : XE X b Γ1 (.da (.int j)) Γ2) : XE X (.BinOp a .Mod b pos) Γ (.da (.int (i % j))) Γ2 := xe_bin op_mod (o2_I (C := fun _ j => 0 < j) hc fun _ => .int _) ha hb
theorem xe_fdiv (hc : CDiv i j) (ha : XE X a Γ (.da (.int i)) Γ1) (hb : XE X b Γ1 (.da (.int j)) Γ2) : XE X (.BinOp a .FloorDiv b pos) Γ (.da (.int (i / j))) Γ2 := xe_bin op_fdiv (o2_I hc fun _ => .int _) ha hb
theorem xe_shr (hc : 0 ≤ j) (ha : XE X a Γ (.da (.int i)) Γ1) (hb : XE X b Γ1 (.da (.int j)) Γ2) : XE X (.BinOp a .RShift b pos) Γ (.da (.int (i / 2 ^ j.toNat))) Γ2 := xe_bin op_shr (o2_I (C := fun _ j => 0 ≤ j) hc fun _ => .int _) ha hb
theorem xe_shl (hc : CPow i j) (ha : XE X a Γ (.da (.int i)) Γ1) (hb : XE X b Γ1 (.da (.int j)) Γ2) : XE X (.BinOp a .LShift b pos) Γ (.da (.int (i * 2 ^ j.toNat))) Γ2 := xe_bin op_shl (o2_I hc fun _ => .int _) ha hb
theorem xe_pow (hc : CPow i j) (ha : XE X a Γ (.da (.int i)) Γ1) (hb : XE X b Γ1 (.da (.int j)) Γ2) : XE X (.BinOp a .Pow b pos) Γ (.da (.int (i ^ j.toNat))) Γ2 := xe_bin op_pow (o2_I hc fun _ => .int _) ha hb
theorem xe_xor (ha : XE X a Γ (.da (.int i)) Γ1) (hb : XE X b Γ1 (.da (.int j)) Γ2) : XE X (.BinOp a .BitXor b pos) Γ (.da (.int (Builtin.bitXor i j))) Γ2 := xe_bin op_xor (o2_I0 fun _ => .int _) ha hb
theorem xe_band (ha : XE X a Γ (.da (.int i)) Γ1) (hb : XE X b Γ1 (.da (.int j)) Γ2) : XE X (.BinOp a .BitAnd b pos) Γ (.da (.int (Builtin.bitAnd i j))) Γ2 := xe_bin op_and (o2_I0 fun _ => .int _) ha hb
theorem xe_bor (ha : XE X a Γ (.da (.int i)) Γ1) (hb : XE X b Γ1 (.da (.int j)) Γ2) : XE X (.BinOp a .BitOr b pos) Γ (.da (.int (Builtin.bitOr i j))) Γ2 := xe_bin op_or (o2_I0 fun _ => .int _) ha hb
theorem we_un {op : UnaryOp} {ru : V → Hp → VK → Prop} {d d' : PyData} (ho : UnR X (unaryOp op) ru) (q : ∀ (I H : Hp) (v : V) (Q : VK), Rp X.tc I v d → (∀ u, Rp X.tc I u d' → Q u H) → ru v H Q) (ha : XE X a Γ (.da d) Γ1) : XE X (.UnaryOp op a pos) Γ (.da d') Γ1 := by
  intro Ψ hq I H σ F en Q k
  refine ⟨_, pe_un ho wpE_ok, ha (fun r Γ' => r = .da d ∧ Γ' = Γ1) ⟨rfl, rfl⟩ I H σ F en _ ?_⟩
  rintro _ _ I' H' v F' ⟨rfl, rfl⟩ st en'
  obtain ⟨B, G, rfl, o, en2, up⟩ := en'.pop
  cases o with
  | da h => exact q I' H' v Q h fun u hu => k _ _ I' H' u _ hq st (en2.da hu)
theorem xe_neg (ha : XE X a Γ (.da (.int i)) Γ1) : XE X (.UnaryOp .USub a pos) Γ (.da (.int (-i))) Γ1 := we_un un_neg (fun I H v Q h k => by
  cases h
  exact ⟨i, rfl, k _ (.int _)⟩) ha
end

/-! ### comparisons -/
theorem we_cmp {op : CmpOp} (ho : OpR X (compareOp op) wr) (hm : behindInMarks op b = false) (h : WE X a Γ fun x Γ1 => WE X b Γ1 fun y Γ2 => ∃ z, Op2 X.tc wr x y z ∧ Ψ z Γ2) : WE X (.Compare a [op] [b] pos) Γ Ψ := fun I H σ F en Q k => ⟨_, pe_cmpR ho wpE_ok wpE_ok hm, two_core h I H σ F en Q k⟩
theorem xe_cmp {op : CmpOp} (ho : OpR X (compareOp op) wr) (hm : behindInMarks op b = false) (q : Op2 X.tc wr x y z) (ha : XE X a Γ x Γ1) (hb : XE X b Γ1 y Γ2) : XE X (.Compare a [op] [b] pos) Γ z Γ2 := fun _ hq => we_cmp ho hm (ha _ (hb _ ⟨z, q, hq⟩))
/-- the end of a test by value -/
theorem test_end {I H : Hp} {σ : L2.St} {F : List Addr} {Q : Bool → Hp → Prop} (k : ∀ (b : Bool) (Γ' : Sl) (I' H' : Hp) (F' : List Addr), Φt b Γ' → Step I H F I' H' F' → EnvF X.tc I' H' σ Γ' F' → Q b H') :
    ∀ (r : OD) (Γ' : Sl) (I' H' : Hp) (v : V) (F' : List Addr), (∃ k, r = .da (.bool k) ∧ Φt k Γ') → Step I H F I' H' F' → EnvF X.tc I' H' (some v :: σ) (some r :: Γ') F' → ∃ k, v = .bl k ∧ Q k H' := by
  rintro r Γ' I' H' v F' ⟨kk, rfl, hq⟩ st en'
  obtain ⟨B, G, rfl, o, en2, up⟩ := en'.pop
  cases o with
  | da hh =>
    cases hh
    exact ⟨kk, rfl, k kk Γ' I' H' _ hq st en2⟩
theorem wt_cmp {op : CmpOp} (ho : OpR X (compareOp op) wr) (hm : behindInMarks op b = false) (h : WE X a Γ fun x Γ1 => WE X b Γ1 fun y Γ2 => ∃ k, Op2 X.tc wr x y (.da (.bool k)) ∧ Φt k Γ2) : WT X (.Compare a [op] [b] pos) Γ Φt :=
  fun I H σ F en Q k => ⟨_, pt_cmpR ho wpE_ok wpE_ok hm, two_core (h.mono fun x Γ1 h1 => h1.mono fun y Γ2 ⟨k, q1, q2⟩ => ⟨_, q1, k, rfl, q2⟩) I H σ F en _ (test_end k)⟩
theorem xt_cmp {op : CmpOp} (ho : OpR X (compareOp op) wr) (hm : behindInMarks op b = false) (q : Op2 X.tc wr x y (.da (.bool k))) (ha : XE X a Γ x Γ1) (hb : XE X b Γ1 y Γ2) : XT X (.Compare a [op] [b] pos) Γ k Γ2 := fun _ hq => wt_cmp ho hm (ha _ (hb _ ⟨k, q, hq⟩))
/-- an expression that answers a truth value, as a test -/
theorem wt_val (h : WE X e Γ fun r Γ1 => ∃ k, r = .da (.bool k) ∧ Φt k Γ1) (he : ∀ whole, isTrue e X.env whole = (do let v ← whole; standAt e.pos; holding [v] (truthy v)) := by intro _; rfl) : WT X e Γ Φt :=
  fun I H σ F en Q k => ⟨_, pt_val wpE_ok he, h I H σ F en _ (test_end k)⟩
theorem xt_val (h : XE X e Γ (.da (.bool k)) Γ1) (he : ∀ whole, isTrue e X.env whole = (do let v ← whole; standAt e.pos; holding [v] (truthy v)) := by intro _; rfl) : XT X e Γ k Γ1 := fun _ hq => wt_val (h _ ⟨k, rfl, hq⟩) he
section
variable {i j : Int}
theorem o2_bl {T : TC} {g : Int → Int → Bool} : Op2 T (rI0 fun i j => .bl (g i j)) (.da (.int i)) (.da (.int j)) (.da (.bool (g i j))) := o2_I0 fun _ => .bl _
theorem xt_lt (ha : XE X a Γ (.da (.int i)) Γ1) (hb : XE X b Γ1 (.da (.int j)) Γ2) : XT X (.Compare a [.Lt] [b] pos) Γ (decide (i < j)) Γ2 := xt_cmp op_lt (nomark _) o2_bl ha hb
theorem xt_le (ha : XE X a Γ (.da (.int i)) Γ1) (hb : XE X b Γ1 (.da (.int j)) Γ2) : XT X (.Compare a [.LtE] [b] pos) Γ (decide (i ≤ j)) Γ2 := xt_cmp op_le (nomark _) o2_bl ha hb
theorem xt_gt (ha : XE X a Γ (.da (.int i)) Γ1) (hb : XE X b Γ1 (.da (.int j)) Γ2) : XT X (.Compare a [.Gt] [b] pos) Γ (decide (j < i)) Γ2 := xt_cmp op_gt (nomark _) o2_bl ha hb
theorem xt_ge (ha : XE X a Γ (.da (.int i)) Γ1) (hb : XE X b Γ1 (.da (.int j)) Γ2) : XT X (.Compare a [.GtE] [b] pos) Γ (decide (j ≤ i)) Γ2 := xt_cmp op_ge (nomark _) o2_bl ha hb
end
end
end TL

/-! TL4: arguments, calls, displays, freezing, statements. -/
namespace TL
open PySem PySem.Spec PyProof.Rows L2

section
variable {T : TC} {I H I' H' : Hp} {σ σ' : L2.St} {Γ Γ' : Sl} {F F' G G' B : List Addr} {v : V} {r : OD}
theorem EnvF.popL : ∀ {vs : List V} {rs : List OD} {F : List Addr}, EnvF T I H (vs.map some ++ σ) (rs.map some ++ Γ) F → vs.length = rs.length → ∃ B G, F = B ++ G ∧ OwnL T I H vs rs B ∧ EnvF T I H σ Γ G
  | [], [], F, en, _ => ⟨[], F, rfl, .nil, en⟩
  | v :: vs, r :: rs, F, en, hl => by
    obtain ⟨B, G, rfl, o, en', _⟩ := EnvF.pop (v := v) (r := r) (σ := vs.map some ++ σ) (Γ := rs.map some ++ Γ) en
    obtain ⟨B2, G2, rfl, o2, en2⟩ := EnvF.popL en' (by simpa using hl)
    exact ⟨B ++ B2, G2, by rw [List.append_assoc], .cons o o2, en2⟩
  | [], _ :: _, _, _, hl => by simp at hl
  | _ :: _, [], _, _, hl => by simp at hl
theorem nd_mid {α : Type} {A B C D : List α} (h : (D ++ (A ++ (B ++ C))).Nodup) : (A ++ (D ++ C)).Nodup := by
  have p : (A ++ (D ++ C)).Perm (D ++ (A ++ C)) := by
    rw [← List.append_assoc, ← List.append_assoc]
    exact List.perm_append_comm.append_right C
  refine p.nodup_iff.mpr (h.sublist ?_)
  exact (List.Sublist.refl D).append ((List.Sublist.refl A).append (List.sublist_append_right B C))
/-- an own thing comes into a slot whose value it is -/
theorem EnvF.into {i : Nat} {x : OD} (en : EnvF T I H σ Γ G) (hi : σ[i]? = some (some v)) (o : Own T I H v x B) (nd : (B ++ G).Nodup) : ∃ F', EnvF T I H σ (Γ.set i (some x)) F' ∧ F'.Nodup ∧ ∀ b ∈ F', b ∈ B ∨ b ∈ G := by
  have hl : i < Γ.length := by
    rw [← en.env.length]
    exact (List.getElem?_eq_some_iff.mp hi).1
  obtain ⟨A, B0, C, rfl, k, _, _⟩ := en.env.put hl
  have q := k (Same.refl I) (H' := H) (v' := v) (y := x) (B' := B) (fun b hb => ⟨rfl, (en.env.cells b (by
    rcases List.mem_append.mp hb with hb | hb
    · exact List.mem_append_left _ hb
    · exact List.mem_append_right _ (List.mem_append_right _ hb))).2⟩) o
  have e : σ.set i (some v) = σ := by
    have hs := (List.getElem?_eq_some_iff.mp hi)
    obtain ⟨h1, h2⟩ := hs
    rw [← h2]
    exact List.set_getElem_self h1
  rw [e] at q
  refine ⟨_, ⟨q, nd_mid nd, en.sub⟩, nd_mid nd, fun b hb => ?_⟩
  rcases List.mem_append.mp hb with hb | hb
  · exact .inr (List.mem_append_left _ hb)
  · rcases List.mem_append.mp hb with hb | hb
    · exact .inl hb
    · exact .inr (List.mem_append_right _ (List.mem_append_right _ hb))
end

def putBack : List (Option Nat) → List OD → Sl → Sl
  | some i :: refs, a :: as, Γ => putBack refs as (Γ.set i (some a))
  | none :: refs, _ :: as, Γ => putBack refs as Γ
  | _, _, Γ => Γ
theorem RefsOk.tail {o : Option Nat} {refs : List (Option Nat)} {v : V} {vs : List V} {σ : L2.St} (h : RefsOk (o :: refs) (v :: vs) σ) : RefsOk refs vs σ := fun k i e => by
  obtain ⟨u, h1, h2⟩ := h (k + 1) i (by simpa using e)
  exact ⟨u, by simpa using h1, h2⟩
theorem RefsOk.none {refs : List (Option Nat)} {v : V} {vs : List V} {σ : L2.St} (h : RefsOk refs vs σ) : RefsOk (Option.none :: refs) (v :: vs) σ := fun k i e => by
  cases k with
  | zero => simp at e
  | succ k => exact h k i (by simpa using e)
theorem RefsOk.some {j : Nat} {refs : List (Option Nat)} {v : V} {vs : List V} {σ : L2.St} (hj : σ[j]? = some (some v)) (h : RefsOk refs vs σ) : RefsOk (Option.some j :: refs) (v :: vs) σ := fun k i e => by
  cases k with
  | zero =>
    simp at e
    subst e
    exact ⟨v, rfl, hj⟩
  | succ k => exact h k i (by simpa using e)
theorem putBack_env {T : TC} {I H : Hp} {σ : L2.St} : ∀ {refs : List (Option Nat)} {as : List OD} {vs : List V} {B : List Addr} {Γ : Sl} {G : List Addr}, OwnL T I H vs as B → RefsOk refs vs σ → EnvF T I H σ Γ G → (B ++ G).Nodup →
    ∃ F', EnvF T I H σ (putBack refs as Γ) F' ∧ ∀ b ∈ F', b ∈ B ∨ b ∈ G
  | [], as, _, B, Γ, G, _, _, en, _ => by cases as <;> exact ⟨G, en, fun b hb => .inr hb⟩
  | some i :: refs, [], _, _, Γ, G, .nil, _, en, _ => ⟨G, en, fun b hb => .inr hb⟩
  | none :: refs, [], _, _, Γ, G, .nil, _, en, _ => ⟨G, en, fun b hb => .inr hb⟩
  | none :: refs, a :: as, _, _, Γ, G, .cons (F := B1) (G := B2) o os, hr, en, nd => by
    have nd' : (B2 ++ G).Nodup := by
      rw [List.append_assoc] at nd
      exact (List.nodup_append.mp nd).2.1
    obtain ⟨F', en', k⟩ := putBack_env os hr.tail en nd'
    exact ⟨F', en', fun b hb => (k b hb).imp (List.mem_append_right _) id⟩
  | some i :: refs, a :: as, _, _, Γ, G, .cons (F := B1) (G := B2) (v := v) o os, hr, en, nd => by
    have hi : σ[i]? = some (some v) := by
      obtain ⟨u, h1, h2⟩ := hr 0 i rfl
      simp at h1
      subst h1
      exact h2
    rw [List.append_assoc] at nd
    have nd1 : (B1 ++ G).Nodup := nd.sublist ((List.Sublist.refl B1).append (List.sublist_append_right B2 G))
    obtain ⟨F1, en1, nF, k1⟩ := en.into hi o nd1
    have nd2 : (B2 ++ F1).Nodup := by
      have h := List.nodup_append.mp nd
      have h2 := List.nodup_append.mp h.2.1
      refine List.nodup_append.mpr ⟨h2.1, nF, fun x hx y hy q => ?_⟩
      subst q
      rcases k1 x hy with z | z
      · exact h.2.2 x z x (List.mem_append_left _ hx) rfl
      · exact h2.2.2 x hx x z rfl
    obtain ⟨F', en', k⟩ := putBack_env os hr.tail en1 nd2
    refine ⟨F', en', fun b hb => ?_⟩
    rcases k b hb with z | z
    · exact .inl (List.mem_append_right _ z)
    · rcases k1 b z with z | z
      · exact .inl (List.mem_append_left _ z)
      · exact .inr z

section
variable {X : Cx} {e a b c o : Expr} {es : List Expr} {Γ Γ' Γ1 Γ2 : Sl} {Ψ : OD → Sl → Prop} {Ψa : List OD → List (Option Nat) → Sl → Prop} {Φt : Bool → Sl → Prop} {pos p : Pos} {r x y z : OD} {k k' : Bool} {nm : Str}

/-! ### arguments -/
theorem wa_nil (h : Ψa [] [] Γ) : WA X [] Γ Ψa := fun I H σ F en Q k => ⟨_, pa_nil, k [] [] Γ I H [] F h rfl rfl (fun k i e => by simp at e) .refl en⟩
theorem wa_cons (h : WE X e Γ fun r Γ1 => WA X es Γ1 fun rs refs Γ2 => Ψa (r :: rs) (none :: refs) Γ2) (hs : starEach (e :: es) X.env = (false, eval e X.env) :: starEach es X.env := by rfl) : WA X (e :: es) Γ Ψa := by
  intro I H σ F en Q k
  refine ⟨_, pa_cons wpE_ok wpA_ok hs, h I H σ F en _ fun x Γ1 I1 H1 v F1 h1 st1 en1 => ?_⟩
  obtain ⟨B, G, rfl, o1, en1', up⟩ := en1.pop
  refine h1 I1 H1 σ G en1' _ fun rs refs Γ2 I2 H2 vs F2 h2 l1 l2 rk st2 en2 => ?_
  obtain ⟨en3, st3, _⟩ := up st2 en2
  exact k (x :: rs) (none :: refs) Γ2 I2 H2 (v :: vs) _ h2 (by simp [l1]) (by simp [l2]) rk.none (st1.trans st3) en3
/-- an own thing that stands in a slot, handed over -/
theorem wa_ref (i : Nat) {x : OD} (h : WA X es (Γ.set i none) fun rs refs Γ2 => Ψa (x :: rs) (some i :: refs) Γ2) (hx : Γ[i]? = some (some x) := by rfl) (hN : X.N[i]? = some nm := by rfl)
    (hv : Vis X.env.scope nm := by first | exact Or.inl rfl | exact Or.inr (Or.inl rfl) | exact Or.inr (Or.inr rfl)) (h1 : (nm == ("__debug__" : Str)) = false := by decide) (h2 : (nm == ("__classdict__" : Str)) = false := by decide)
    (hs : starEach (.Name nm p :: es) X.env = (false, eval (.Name nm p) X.env) :: starEach es X.env := by rfl) : WA X (.Name nm p :: es) Γ Ψa := by
  intro I H σ F en Q k
  obtain ⟨v, B, G, e1, o, en', nd, mem⟩ := en.take hx
  refine ⟨_, pa_cons (pe_var hN hv h1 h2) wpA_ok hs, v, e1, ?_⟩
  have en1 : EnvF X.tc I H (some v :: σ) (some x :: Γ.set i none) (B ++ G) := ⟨.cons o en'.env, nd, en.sub⟩
  have st1 : Step I H F I H (B ++ G) := Step.less fun b hb => (mem b).mpr (List.mem_append.mp hb)
  obtain ⟨B', G', e2, o1, en1', up⟩ := en1.pop
  refine h I H σ G' en1' _ fun rs refs Γ2 I2 H2 vs F2 h2 l1 l2 rk st2 en2 => ?_
  obtain ⟨en3, st3, _⟩ := up st2 en2
  exact k (x :: rs) (some i :: refs) Γ2 I2 H2 (v :: vs) _ h2 (by simp [l1]) (by simp [l2]) (rk.some e1) (st1.trans st3) en3
end
end TL

/-! TL5: calls of built-ins and of defs, displays, freezing, small statements. -/
namespace TL
open PySem PySem.Spec PyProof.Rows L2

/-- what a call by values makes of own things -/
def OpL (T : TC) (f : List V → Hp → VK → Prop) (rs : List OD) (z : OD) : Prop := ∀ (I H : Hp) (vs : List V) (B : List Addr), OwnL T I H vs rs B → B.Nodup → Same I H → ∀ Q : VK,
  (∀ (I' H' : Hp) (w : V) (B' : List Addr), Step I H B I' H' B' → Own T I' H' w z B' → B'.Nodup → Same I' H' → Q w H') → f vs H Q
theorem upd_sub {I H : Hp} {a : Addr} {o : HO} (s : Same I H) (h : H a = none) : Same I (upd H a o) := fun b u e => by rw [upd_ne (ne_of_none (s b u e) h)]; exact s b u e
theorem upd_up {H : Hp} {a : Addr} {o : HO} (h : H a = none) : Same H (upd H a o) := fun b u e => by rw [upd_ne (ne_of_none e h)]; exact e
theorem upd_both {I H : Hp} {a : Addr} {o : HO} (s : Same I H) : Same (upd I a o) (upd H a o) := fun b u e => by
  by_cases hb : b = a
  · subst hb
    rw [upd_same] at e ⊢
    exact e
  · rw [upd_ne hb] at e ⊢
    exact s b u e
/-- a new frozen thing -/
theorem step_frz {I H : Hp} {F : List Addr} {a : Addr} {o : HO} (s : Same I H) (h : H a = none) : Step I H F (upd I a o) (upd H a o) F :=
  ⟨upd_up (s.free h), fun b u e i n => by
    have hb : b ≠ a := ne_of_none e h
    exact ⟨by rw [upd_ne hb]; exact e, by rw [upd_ne hb]; exact i, n⟩⟩
/-- a new own thing -/
theorem step_new {I H : Hp} {F : List Addr} {a : Addr} {o : HO} (h : H a = none) : Step I H F I (upd H a o) (a :: F) :=
  ⟨Same.refl I, fun b u e i n => by
    have hb : b ≠ a := ne_of_none e h
    exact ⟨by rw [upd_ne hb]; exact e, i, fun q => (List.mem_cons.mp q).elim hb n⟩⟩
/-- an own thing changed -/
theorem step_upd {I H : Hp} {F : List Addr} {a : Addr} {o : HO} (h : a ∈ F) : Step I H F I (upd H a o) F :=
  ⟨Same.refl I, fun b u e i n => by
    have hb : b ≠ a := fun q => n (q ▸ h)
    exact ⟨by rw [upd_ne hb]; exact e, i, n⟩⟩
theorem ownL_da {T : TC} {I H : Hp} : ∀ {ds : List PyData} {vs : List V} {B : List Addr}, OwnL T I H vs (ds.map OD.da) B → B = [] ∧ RpL T I vs ds
  | [], _, _, .nil => ⟨rfl, .nil⟩
  | d :: ds, _, _, .cons (.da h) r => by
    obtain ⟨rfl, q⟩ := ownL_da r
    exact ⟨rfl, .cons h q⟩

section
variable {X : Cx} {e a b c o : Expr} {es : List Expr} {Γ Γ' Γ1 Γ2 : Sl} {Ψ : OD → Sl → Prop} {Ψa : List OD → List (Option Nat) → Sl → Prop} {Φt : Bool → Sl → Prop} {pos p : Pos} {r x y z : OD} {k k' : Bool} {nm : Str}
variable {wl : List V → Hp → VK → Prop} {id : String}

/-- the end of a call by values -/
theorem call_end {I H I1 H1 : Hp} {σ : L2.St} {F F1 : List Addr} {Q : VK} {rs : List OD} {vs : List V} (op : OpL X.tc wl rs z) (hq : Ψ z Γ1) (l1 : vs.length = rs.length) (st1 : Step I H F I1 H1 F1) (en1 : EnvF X.tc I1 H1 (vs.map some ++ σ) (rs.map some ++ Γ1) F1)
    (k : ∀ (r : OD) (Γ' : Sl) (I' H' : Hp) (v : V) (F' : List Addr), Ψ r Γ' → Step I H F I' H' F' → EnvF X.tc I' H' (some v :: σ) (some r :: Γ') F' → Q v H') : wl vs H1 Q := by
  obtain ⟨B, G, rfl, ol, en2⟩ := en1.popL l1
  refine op I1 H1 vs B ol (List.nodup_append.mp en1.nd).1 en1.sub Q fun I2 H2 w B2 st2 o2 nd2 sub2 => ?_
  obtain ⟨en3, st3⟩ := en2.use en1.nd st2 o2 nd2 sub2
  exact k z Γ1 I2 H2 w _ hq (st1.trans st3) en3
theorem we_callB (hc : CallR X (.builtin id) wl) (hg : Gl X nm) (hm : X.mg nm = none) (hv : bootBuiltins nm = some (.builtin id)) (h : WA X (e :: es) Γ fun rs _ Γ1 => ∃ z, OpL X.tc wl rs z ∧ Ψ z Γ1)
    (hn : nm ≠ "__name__" := by decide) (hdb : (nm == ("__debug__" : Str)) = false := by decide) (he : starEach (e :: es) X.env = (false, eval e X.env) :: starEach es X.env := by rfl) (hpl : (backTo pos (starEach es X.env)).any (·.1) = false := by rfl) :
    WE X (.Call (.Name nm p) (e :: es) [] pos) Γ Ψ := fun I H σ F en Q k => ⟨_, pe_callB hc hg hm hv wpA_ok hn hdb he hpl, h I H σ F en _ fun _ _ _ _ _ _ _ h1 l1 _ _ st en1 => let ⟨_, op, hq⟩ := h1; call_end op hq l1 st en1 k⟩
theorem we_callTy {Ty : String} (hc : CallR X (.type Ty) wl) (hg : Gl X nm) (hm : X.mg nm = none) (hv : bootBuiltins nm = some (.type Ty)) (h : WA X (e :: es) Γ fun rs _ Γ1 => ∃ z, OpL X.tc wl rs z ∧ Ψ z Γ1)
    (hn : nm ≠ "__name__" := by decide) (hdb : (nm == ("__debug__" : Str)) = false := by decide) (he : starEach (e :: es) X.env = (false, eval e X.env) :: starEach es X.env := by rfl) (hpl : (backTo pos (starEach es X.env)).any (·.1) = false := by rfl) :
    WE X (.Call (.Name nm p) (e :: es) [] pos) Γ Ψ := fun I H σ F en Q k => ⟨_, pe_callTy hc hg hm hv wpA_ok hn hdb he hpl, h I H σ F en _ fun _ _ _ _ _ _ _ h1 l1 _ _ st en1 => let ⟨_, op, hq⟩ := h1; call_end op hq l1 st en1 k⟩
/-- one argument of one answer -/
theorem xe_callB1 (hc : CallR X (.builtin id) wl) (q : OpL X.tc wl [x] z) (hg : Gl X nm) (hm : X.mg nm = none) (hv : bootBuiltins nm = some (.builtin id)) (h : XE X e Γ x Γ1)
    (hn : nm ≠ "__name__" := by decide) (hdb : (nm == ("__debug__" : Str)) = false := by decide) (he : starEach [e] X.env = (false, eval e X.env) :: starEach [] X.env := by rfl) (hpl : (backTo pos (starEach [] X.env)).any (·.1) = false := by rfl) :
    XE X (.Call (.Name nm p) [e] [] pos) Γ z Γ1 := fun _ hq => we_callB hc hg hm hv (wa_cons (h _ (wa_nil ⟨z, q, hq⟩)) he) hn hdb he hpl
theorem xe_callB2 (hc : CallR X (.builtin id) wl) (q : OpL X.tc wl [x, y] z) (hg : Gl X nm) (hm : X.mg nm = none) (hv : bootBuiltins nm = some (.builtin id)) (h : XE X a Γ x Γ1) (h2 : XE X b Γ1 y Γ2)
    (hn : nm ≠ "__name__" := by decide) (hdb : (nm == ("__debug__" : Str)) = false := by decide) (he : starEach [a, b] X.env = (false, eval a X.env) :: starEach [b] X.env := by rfl) (he2 : starEach [b] X.env = (false, eval b X.env) :: starEach [] X.env := by rfl) (hpl : (backTo pos (starEach [b] X.env)).any (·.1) = false := by rfl) :
    XE X (.Call (.Name nm p) [a, b] [] pos) Γ z Γ2 := fun _ hq => we_callB hc hg hm hv (wa_cons (h _ (wa_cons (h2 _ (wa_nil ⟨z, q, hq⟩)) he2)) he) hn hdb he hpl
theorem xe_callTy1 {Ty : String} (hc : CallR X (.type Ty) wl) (q : OpL X.tc wl [x] z) (hg : Gl X nm) (hm : X.mg nm = none) (hv : bootBuiltins nm = some (.type Ty)) (h : XE X e Γ x Γ1)
    (hn : nm ≠ "__name__" := by decide) (hdb : (nm == ("__debug__" : Str)) = false := by decide) (he : starEach [e] X.env = (false, eval e X.env) :: starEach [] X.env := by rfl) (hpl : (backTo pos (starEach [] X.env)).any (·.1) = false := by rfl) :
    XE X (.Call (.Name nm p) [e] [] pos) Γ z Γ1 := fun _ hq => we_callTy hc hg hm hv (wa_cons (h _ (wa_nil ⟨z, q, hq⟩)) he) hn hdb he hpl

/-! ### calls of defs -/
theorem call_fin {sp : SpD} {I H I1 H1 : Hp} {σ : L2.St} {F F1 : List Addr} {Q : VK} {rs : List OD} {refs : List (Option Nat)} {vs : List V} (h1 : sp rs fun r as' => Ψ r (putBack refs as' Γ1)) (l1 : vs.length = rs.length) (rk : RefsOk refs vs σ)
    (st1 : Step I H F I1 H1 F1) (en1 : EnvF X.tc I1 H1 (vs.map some ++ σ) (rs.map some ++ Γ1) F1)
    (k : ∀ (r : OD) (Γ' : Sl) (I' H' : Hp) (v : V) (F' : List Addr), Ψ r Γ' → Step I H F I' H' F' → EnvF X.tc I' H' (some v :: σ) (some r :: Γ') F' → Q v H') : mkSp X.tc sp vs H1 Q E0 := by
  obtain ⟨B, G, rfl, ol, en2⟩ := en1.popL l1
  have hd := List.nodup_append.mp en1.nd
  refine ⟨I1, rs, B, _, ol, hd.1, en1.sub, h1, fun r as' I2 H2 v B2 hΨ st2 o2 nd2 sub2 => ?_⟩
  have kp : ∀ b ∈ G, H2 b = H1 b ∧ I2 b = none ∧ b ∉ B2 := fun b hb => by
    obtain ⟨⟨ob, h3⟩, h4⟩ := en2.env.cells b hb
    obtain ⟨h5, h6, h7⟩ := st2.oth b ob h3 h4 fun q => hd.2.2 b q b hb rfl
    exact ⟨h5.trans h3.symm, h6, h7⟩
  have en3 : EnvF X.tc I2 H2 σ Γ1 G := ⟨en2.env.frame st2.inc fun b hb => ⟨(kp b hb).1, (kp b hb).2.1⟩, hd.2.1, sub2⟩
  cases o2 with
  | cons orr oas =>
    rename_i Br Ba
    have ndB := List.nodup_append.mp nd2
    have nd4 : (Ba ++ G).Nodup := List.nodup_append.mpr ⟨ndB.2.1, hd.2.1, fun x hx y hy q => by
      subst q
      exact (kp x hy).2.2 (List.mem_append_right _ hx)⟩
    obtain ⟨F', en5, mem⟩ := putBack_env oas rk en3 nd4
    refine k r _ I2 H2 v (Br ++ F') hΨ (st1.trans ⟨st2.inc, fun b ob e i n => ?_⟩) ⟨.cons orr en5.env, List.nodup_append.mpr ⟨ndB.1, en5.nd, fun x hx y hy q => ?_⟩, sub2⟩
    · rw [List.mem_append, not_or] at n
      obtain ⟨h3, h4, h5⟩ := st2.oth b ob e i n.1
      rw [List.mem_append, not_or] at h5
      exact ⟨h3, h4, fun q => (List.mem_append.mp q).elim h5.1 fun q => (mem b q).elim h5.2 n.2⟩
    · subst q
      rcases mem x hy with z | z
      · exact ndB.2.2 x hx x z rfl
      · exact (kp x z).2.2 (List.mem_append_left _ hx)
variable {kk : Nat} {f : Addr} {fd : FuncData} {ps : List Str} {sp : SpD}
theorem we_call (G : FnG X.prog X.w X.K X.mg X.base CX0 kk f fd ps (mkSp X.tc sp)) (hr : Room kk X.A) (hgd : X.A.guards = some []) (hg : Gl X nm) (hm : X.mg nm = some (.ref f)) (hk : PySem.W.keepIn X.K (.ref f) = true) (hb : Binds X.K fd ps [])
    (h : WA X (e :: es) Γ fun rs refs Γ1 => sp rs fun r as' => Ψ r (putBack refs as' Γ1)) (hdb : (nm == ("__debug__" : Str)) = false := by decide) (he : starEach (e :: es) X.env = (false, eval e X.env) :: starEach es X.env := by rfl)
    (hpl : (backTo pos (starEach es X.env)).any (·.1) = false := by rfl) : WE X (.Call (.Name nm p) (e :: es) [] pos) Γ Ψ := fun I H σ F en Q k =>
  ⟨_, pe_callG G hr hgd hg hm hk hb pass0 wpA_ok hdb he hpl, h I H σ F en _ fun rs refs Γ1 I1 H1 vs F1 h1 l1 l2 rk st en1 => by rw [List.append_nil]; exact call_fin h1 l1 rk st en1 k⟩
theorem we_call0 (G : FnG X.prog X.w X.K X.mg X.base CX0 kk f fd ps (mkSp X.tc sp)) (hr : Room kk X.A) (hgd : X.A.guards = some []) (hg : Gl X nm) (hm : X.mg nm = some (.ref f)) (hk : PySem.W.keepIn X.K (.ref f) = true) (hb : Binds X.K fd ps [])
    (h : sp [] fun r _ => Ψ r Γ) (hdb : (nm == ("__debug__" : Str)) = false := by decide) : WE X (.Call (.Name nm p) [] [] pos) Γ Ψ := fun I H σ F en Q k =>
  ⟨_, pe_callG0 G hr hgd hg hm hk hb pass0 hdb, call_fin (vs := []) (rs := []) (refs := []) (Γ1 := Γ) (by
    have e : (fun (r : OD) (as' : List OD) => Ψ r (putBack [] as' Γ)) = fun r _ => Ψ r Γ := by
      funext r as'
      cases as' <;> rfl
    rw [e]
    exact h) rfl (fun k i e => by simp at e) .refl en k⟩

/-! ### displays -/
/-- an operation that lays one frozen tuple -/
theorem opl_tup {T : TC} {ds : List PyData} (hl : ds.length ≤ sizeLine) : OpL T (fun xs H Q => xs.length ≤ sizeLine ∧ ∀ p, H p = none → Q (.ref p) (upd H p (.tup xs))) (ds.map .da) (.da (.tuple ds)) := by
  intro I H vs B o nd sub Q k
  obtain ⟨rfl, r⟩ := ownL_da o
  refine ⟨by rw [r.length]; exact hl, fun p hp => k (upd I p (.tup vs)) _ _ [] (step_frz sub hp) (.da (.tup (SqT.of upd_same) (r.mono (upd_up (sub.free hp))))) List.nodup_nil (upd_both sub)⟩
theorem opl_lst {T : TC} {ds : List PyData} (hl : ds.length ≤ sizeLine) : OpL T (fun xs H Q => xs.length ≤ sizeLine ∧ ∀ p, H p = none → Q (.ref p) (upd H p (.lst xs))) (ds.map .da) (.ll ds) := by
  intro I H vs B o nd sub Q k
  obtain ⟨rfl, r⟩ := ownL_da o
  exact ⟨by rw [r.length]; exact hl, fun p hp => k I _ _ [p] (step_new hp) (.ll upd_same (sub.free hp) r) (by simp) (upd_sub sub hp)⟩
theorem opl_ls {T : TC} {xs : List OD} (hl : xs.length ≤ sizeLine) : OpL T (fun xs H Q => xs.length ≤ sizeLine ∧ ∀ p, H p = none → Q (.ref p) (upd H p (.lst xs))) xs (.ls xs) := by
  intro I H vs B o nd sub Q k
  refine ⟨by rw [o.length]; exact hl, fun p hp => k I _ _ (p :: B) (step_new hp) (.ls upd_same (sub.free hp) (o.frame (Same.refl I) fun b hb => ?_)) (List.nodup_cons.mpr ⟨fun hb => ?_, nd⟩) (upd_sub sub hp)⟩
  · obtain ⟨⟨ob, h1⟩, h2⟩ := o.cells b hb
    exact ⟨upd_ne (ne_of_none h1 hp), h2⟩
  · obtain ⟨⟨ob, h1⟩, _⟩ := o.cells p hb
    rw [hp] at h1
    cases h1
theorem we_tup {x1} (h : WA X es Γ fun rs _ Γ1 => ∃ ds, rs = ds.map .da ∧ ds.length ≤ sizeLine ∧ Ψ (.da (.tuple ds)) Γ1) : WE X (.Tuple es x1 pos) Γ Ψ := fun I H σ F en Q k =>
  ⟨_, pe_tup wpA_ok, h I H σ F en _ fun _ _ _ _ _ _ _ h1 l1 _ _ st en1 => by
    obtain ⟨ds, rfl, hl, hq⟩ := h1
    exact call_end (opl_tup hl) hq l1 st en1 k⟩
theorem we_lst (h : WA X es Γ fun rs _ Γ1 => ∃ ds, rs = ds.map .da ∧ ds.length ≤ sizeLine ∧ Ψ (.ll ds) Γ1) : WE X (.List es pos) Γ Ψ := fun I H σ F en Q k =>
  ⟨_, pe_lst wpA_ok, h I H σ F en _ fun _ _ _ _ _ _ _ h1 l1 _ _ st en1 => by
    obtain ⟨ds, rfl, hl, hq⟩ := h1
    exact call_end (opl_lst hl) hq l1 st en1 k⟩
theorem we_ls (h : WA X es Γ fun rs _ Γ1 => rs.length ≤ sizeLine ∧ Ψ (.ls rs) Γ1) : WE X (.List es pos) Γ Ψ := fun I H σ F en Q k =>
  ⟨_, pe_lst wpA_ok, h I H σ F en _ fun _ _ _ _ _ _ _ h1 l1 _ _ st en1 => by
    obtain ⟨hl, hq⟩ := h1
    exact call_end (opl_ls hl) hq l1 st en1 k⟩
/-- data, one after another -/
inductive XD (X : Cx) : List Expr → Sl → List PyData → Sl → Prop
  | nil {Γ : Sl} : XD X [] Γ [] Γ
  | cons {e : Expr} {es : List Expr} {Γ Γ1 Γ2 : Sl} {d : PyData} {ds : List PyData} : XE X e Γ (.da d) Γ1 → XD X es Γ1 ds Γ2 → XD X (e :: es) Γ (d :: ds) Γ2
theorem XD.wa {ds : List PyData} (h : XD X es Γ ds Γ1) : ∀ {Ψa : List OD → List (Option Nat) → Sl → Prop}, (∀ refs, Ψa (ds.map .da) refs Γ1) → (hs : ∀ (e : Expr) (r : List Expr), (e :: r) <:+ es → starEach (e :: r) X.env = (false, eval e X.env) :: starEach r X.env) → WA X es Γ Ψa := by
  induction h with
  | nil => exact fun hq _ => wa_nil (hq [])
  | cons h r ih => exact fun hq hs => wa_cons (h _ (ih (fun refs => hq (none :: refs)) fun e r q => hs e r (q.trans (List.suffix_cons _ _)))) (hs _ _ (List.suffix_refl _))
theorem xe_tup1 {d : PyData} {x1} (h : XE X a Γ (.da d) Γ1) (hs : starEach [a] X.env = (false, eval a X.env) :: starEach [] X.env := by rfl) : XE X (.Tuple [a] x1 pos) Γ (.da (.tuple [d])) Γ1 :=
  fun _ hq => we_tup (wa_cons (h _ (wa_nil ⟨[d], rfl, by show 1 ≤ sizeLine; decide, hq⟩)) hs)
theorem xe_tup2 {d d' : PyData} {x1} (h : XE X a Γ (.da d) Γ1) (h2 : XE X b Γ1 (.da d') Γ2) (hs : starEach [a, b] X.env = (false, eval a X.env) :: starEach [b] X.env := by rfl) (hs2 : starEach [b] X.env = (false, eval b X.env) :: starEach [] X.env := by rfl) :
    XE X (.Tuple [a, b] x1 pos) Γ (.da (.tuple [d, d'])) Γ2 := fun _ hq => we_tup (wa_cons (h _ (wa_cons (h2 _ (wa_nil ⟨[d, d'], rfl, by show 2 ≤ sizeLine; decide, hq⟩)) hs2)) hs)
theorem xe_tup0 {x1} : XE X (.Tuple [] x1 pos) Γ (.da (.tuple [])) Γ := fun _ hq => we_tup (wa_nil ⟨[], rfl, Nat.zero_le _, hq⟩)
theorem xe_lst0 : XE X (.List [] pos) Γ (.ll []) Γ := fun _ hq => we_lst (wa_nil ⟨[], rfl, Nat.zero_le _, hq⟩)

/-! ### freezing -/
mutual
inductive Frz : OD → PyData → Prop
  | da {d : PyData} : Frz (.da d) d
  | ll {ds : List PyData} : Frz (.ll ds) (.list ds)
  | ls {xs : List OD} {ds : List PyData} : FrzL xs ds → Frz (.ls xs) (.list ds)
inductive FrzL : List OD → List PyData → Prop
  | nil : FrzL [] []
  | cons {x : OD} {xs : List OD} {d : PyData} {ds : List PyData} : Frz x d → FrzL xs ds → FrzL (x :: xs) (d :: ds)
end
mutual
theorem Frz.rp {T : TC} {I I' H : Hp} (s : Same I I') : ∀ {x : OD} {d : PyData} {v : V} {B : List Addr}, Frz x d → Own T I H v x B → (∀ b ∈ B, I' b = H b) → Rp T I' v d
  | _, _, _, _, .da, .da h, _ => h.mono s
  | _, _, _, _, .ll, .ll h _ r, k => .lst (SqL.of ((k _ (List.mem_singleton.mpr rfl)).trans h)) (r.mono s)
  | _, _, _, _, .ls f, .ls h _ r, k => .lst (SqL.of ((k _ List.mem_cons_self).trans h)) (FrzL.rp s f r fun b hb => k b (List.mem_cons_of_mem _ hb))
theorem FrzL.rp {T : TC} {I I' H : Hp} (s : Same I I') : ∀ {xs : List OD} {ds : List PyData} {vs : List V} {B : List Addr}, FrzL xs ds → OwnL T I H vs xs B → (∀ b ∈ B, I' b = H b) → RpL T I' vs ds
  | _, _, _, _, .nil, .nil, _ => .nil
  | _, _, _, _, .cons f g, .cons o r, k => .cons (f.rp s o fun b hb => k b (List.mem_append_left _ hb)) (FrzL.rp s g r fun b hb => k b (List.mem_append_right _ hb))
end
/-- the frozen heap with the cells B frozen too -/
def frzH (I H : Hp) (B : List Addr) : Hp := fun b => if b ∈ B then H b else I b
theorem frzH_inc {I H : Hp} {B : List Addr} (h : ∀ b ∈ B, I b = none) : Same I (frzH I H B) := fun b o e => by
  unfold frzH
  by_cases hb : b ∈ B
  · rw [h b hb] at e
    cases e
  · rw [if_neg hb]
    exact e
theorem frzH_sub {I H : Hp} {B : List Addr} (s : Same I H) : Same (frzH I H B) H := fun b o e => by
  unfold frzH at e
  by_cases hb : b ∈ B
  · rw [if_pos hb] at e
    exact e
  · rw [if_neg hb] at e
    exact s b o e
theorem frzH_out {I H : Hp} {B : List Addr} {b : Addr} (hb : b ∉ B) : frzH I H B b = I b := if_neg hb
theorem frzH_in {I H : Hp} {B : List Addr} {b : Addr} (hb : b ∈ B) : frzH I H B b = H b := if_pos hb
/-- the value on top frozen -/
theorem EnvF.frz {T : TC} {I H : Hp} {σ : L2.St} {v : V} {d : PyData} {F : List Addr} (en : EnvF T I H (some v :: σ) (some x :: Γ) F) (f : Frz x d) : ∃ I' F', Step I H F I' H F' ∧ EnvF T I' H (some v :: σ) (some (.da d) :: Γ) F' := by
  obtain ⟨B, G, rfl, o, en', _⟩ := en.pop
  have hd := List.nodup_append.mp en.nd
  have c0 : ∀ b ∈ B, I b = none := fun b hb => (o.cells b hb).2
  have inc := frzH_inc (H := H) c0
  have nG : ∀ b ∈ G, frzH I H B b = none := fun b hb => by
    rw [frzH_out fun q => hd.2.2 b q b hb rfl]
    exact (en'.env.cells b hb).2
  refine ⟨frzH I H B, G, ⟨inc, fun b ob h1 h2 n => ?_⟩, ?_⟩
  · rw [List.mem_append, not_or] at n
    exact ⟨h1, by rw [frzH_out n.1]; exact h2, n.2⟩
  · have e2 : EnvF T (frzH I H B) H σ Γ G := ⟨en'.env.frame inc fun b hb => ⟨rfl, nG b hb⟩, hd.2.1, frzH_sub en.sub⟩
    exact e2.da (f.rp inc o fun b hb => frzH_in hb)
theorem we_frz (h : WE X e Γ fun r Γ1 => ∃ d, Frz r d ∧ Ψ (.da d) Γ1) : WE X e Γ Ψ := fun I H σ F en Q k => h I H σ F en Q fun r Γ1 I1 H1 v F1 ⟨d, f, hq⟩ st en1 => by
  obtain ⟨I2, F2, st2, en2⟩ := en1.frz f
  exact k _ Γ1 I2 H1 v F2 hq (st.trans st2) en2
theorem xe_frz {ds : List PyData} (h : XE X e Γ (.ll ds) Γ1) : XE X e Γ (.da (.list ds)) Γ1 := fun _ hq => we_frz (h _ ⟨_, .ll, hq⟩)
/-- an own thing read out of its slot -/
theorem xe_move (i : Nat) {x : OD} (hx : Γ[i]? = some (some x) := by rfl) (hN : X.N[i]? = some nm := by rfl) (hv : Vis X.env.scope nm := by first | exact Or.inl rfl | exact Or.inr (Or.inl rfl) | exact Or.inr (Or.inr rfl))
    (h1 : (nm == ("__debug__" : Str)) = false := by decide) (h2 : (nm == ("__classdict__" : Str)) = false := by decide) : XE X (.Name nm p) Γ x (Γ.set i none) := fun Ψ hq I H σ F en Q k => by
  obtain ⟨v, B, G, e1, o, en', nd, mem⟩ := en.take hx
  exact ⟨_, pe_var hN hv h1 h2, v, e1, k x _ I H v (B ++ G) hq (Step.less fun b hb => (mem b).mpr (List.mem_append.mp hb)) ⟨.cons o en'.env, nd, en.sub⟩⟩
/-- an own list in a slot, read as frozen from now on -/
theorem EnvF.frzAt {T : TC} {I H : Hp} {σ : L2.St} {i : Nat} {d : PyData} {F : List Addr} (en : EnvF T I H σ Γ F) (hx : Γ[i]? = some (some x)) (f : Frz x d) : ∃ I' F', Step I H F I' H F' ∧ EnvF T I' H σ (Γ.set i (some (.da d))) F' := by
  obtain ⟨v, B, G, e1, o, en', nd, mem⟩ := en.take hx
  have en1 : EnvF T I H (some v :: σ) (some x :: Γ.set i none) (B ++ G) := ⟨.cons o en'.env, nd, en.sub⟩
  obtain ⟨I', F', st, en2⟩ := en1.frz f
  obtain ⟨B2, G2, rfl, o2, en3, _⟩ := en2.pop
  cases o2 with
  | da h =>
    obtain ⟨F3, en4, nd4, m4⟩ := en3.into (B := []) (x := .da d) e1 (.da h) en3.nd
    rw [List.set_set] at en4
    exact ⟨I', F3, st.of_mem (fun b hb => (mem b).mpr (List.mem_append.mp hb)) fun b hb => (m4 b hb).elim (fun q => absurd q (by simp)) id, en4⟩
end
end TL

/-! TL6: statements. -/
namespace TL
open PySem PySem.Spec PyProof.Rows L2

section
variable {X : Cx} {e a b c o : Expr} {es : List Expr} {ss rest A B : List Stmt} {st : Stmt} {Γ Γ' Γ1 Γ2 : Sl} {Ψ : OD → Sl → Prop} {Φ : Out → Prop} {Φt : Bool → Sl → Prop} {pos p : Pos} {r x y z : OD} {k k' : Bool} {nm : Str}

/-- from the block's rest -/
theorem seq_rest {I H : Hp} {F : List Addr} {D : Ends} {t : TS} {σ : L2.St} (h : PS X st t) (q : t { D with nx := wpSs X rest D } σ H) : wpSs X (st :: rest) D σ H := ⟨_, pss_cons h wpSs_ok, q⟩
theorem ws_nil (h : Φ (.nx Γ)) : WSs X [] Γ Φ := fun I H σ F en D e => ⟨_, pss_nil, e.nx h .refl en⟩
theorem ws_pass (h : WSs X rest Γ Φ) : WSs X (.Pass pos :: rest) Γ Φ := fun I H σ F en D e => ⟨_, pss_cons ps_pass wpSs_ok, h I H σ F en D e⟩
theorem ws_break (h : Φ (.bk Γ)) : WSs X (.Break pos :: rest) Γ Φ := fun I H σ F en D e => ⟨_, pss_cons ps_break wpSs_ok, e.bk h .refl en⟩
theorem ws_continue (h : Φ (.ct Γ)) : WSs X (.Continue pos :: rest) Γ Φ := fun I H σ F en D e => ⟨_, pss_cons ps_continue wpSs_ok, e.ct h .refl en⟩
theorem ws_expr (h : WE X e Γ fun _ Γ1 => WSs X rest Γ1 Φ) (hs : swapsWith e none pos.line X.env = pure false := by rfl) : WSs X (.Expr e pos :: rest) Γ Φ := fun I H σ F en D ek =>
  ⟨_, pss_cons (ps_expr wpE_ok hs) wpSs_ok, h I H σ F en _ fun r Γ1 I1 H1 v F1 h1 st1 en1 => by
    obtain ⟨B, G, rfl, o1, en2, _⟩ := en1.pop
    have st2 : Step I H F I1 H1 G := step_sub st1 fun b hb => List.mem_append_right _ hb
    exact h1 I1 H1 σ G en2 D (ek.step st2)⟩
theorem ws_ret (h : WE X e Γ fun r Γ1 => Φ (.rt r Γ1)) : WSs X (.Return (some e) pos :: rest) Γ Φ := fun I H σ F en D ek =>
  ⟨_, pss_cons (ps_ret wpE_ok) wpSs_ok, h I H σ F en _ fun r Γ1 I1 H1 v F1 h1 st1 en1 => ek.rt h1 st1 en1⟩
theorem ws_retN (h : Φ (.rt (.da .none) Γ)) : WSs X (.Return none pos :: rest) Γ Φ := fun I H σ F en D ek =>
  ⟨_, pss_cons ps_retN wpSs_ok, ek.rt h .refl (en.da .non)⟩
theorem xs_ret (h : XE X e Γ r Γ1) (q : Φ (.rt r Γ1)) : WSs X (.Return (some e) pos :: rest) Γ Φ := ws_ret (h _ q)

/-! ### names stored -/
theorem EnvF.store {T : TC} {I H : Hp} {σ : L2.St} {i : Nat} {v : V} {F : List Addr} (en : EnvF T I H (some v :: σ) (some r :: Γ) F) (hi : i < Γ.length) : ∃ F', EnvF T I H (σ.set i (some v)) (Γ.set i (some r)) F' ∧ ∀ b ∈ F', b ∈ F := by
  obtain ⟨B, G, rfl, o, en', _⟩ := en.pop
  obtain ⟨A, B0, C, rfl, kk, _, _⟩ := en'.env.put hi
  have q := kk (Same.refl I) (H' := H) (v' := v) (y := r) (B' := B) (fun b hb => ⟨rfl, (en'.env.cells b (by
    rcases List.mem_append.mp hb with hb | hb
    · exact List.mem_append_left _ hb
    · exact List.mem_append_right _ (List.mem_append_right _ hb))).2⟩) o
  refine ⟨_, ⟨q, nd_mid en.nd, en.sub⟩, fun b hb => ?_⟩
  rcases List.mem_append.mp hb with hb | hb
  · exact List.mem_append_right _ (List.mem_append_left _ hb)
  · rcases List.mem_append.mp hb with hb | hb
    · exact List.mem_append_left _ hb
    · exact List.mem_append_right _ (List.mem_append_right _ (List.mem_append_right _ hb))
theorem EnvF.len_eq {T : TC} {I H : Hp} {σ : L2.St} {F F1 : List Addr} {I1 H1 : Hp} (en : EnvF T I H σ Γ F) (en1 : EnvF T I1 H1 σ Γ1 F1) : Γ1.length = Γ.length := en1.env.length.symm.trans en.env.length
theorem EnvF.len_eq1 {T : TC} {I H : Hp} {σ : L2.St} {v : V} {F F1 : List Addr} {I1 H1 : Hp} (en : EnvF T I H σ Γ F) (en1 : EnvF T I1 H1 (some v :: σ) (some r :: Γ1) F1) : Γ1.length = Γ.length := by
  have q := en1.env.length
  have q2 := en.env.length
  simp at q
  omega
theorem ws_set (i : Nat) (hN : X.N.Nodup) (h : WE X e Γ fun r Γ1 => WSs X rest (Γ1.set i (some r)) Φ) (hi : X.N[i]? = some nm := by rfl) (hx : Loc X.env.scope nm := by first | exact Or.inl rfl | exact Or.inr rfl)
    (hl : Nat.blt i Γ.length = true := by rfl) (hs : swapsWith e (some (.Name nm p)) pos.line X.env = pure false := by rfl) (hf : X.fn nm = true ∨ X.env.scope.names.lookup nm = some .local := by first | exact .inl rfl | exact .inr rfl) : WSs X (.Assign [.Name nm p] e pos :: rest) Γ Φ :=
  fun I H σ F en D ek => ⟨_, pss_cons (ps_set hN hi hx wpE_ok hs hf) wpSs_ok, h I H σ F en _ fun r Γ1 I1 H1 v F1 h1 st1 en1 => by
    have hl1 : i < Γ1.length := by rw [en.len_eq1 en1]; exact Nat.le_of_ble_eq_true hl
    obtain ⟨F2, en2, m2⟩ := en1.store hl1
    exact h1 I1 H1 _ F2 en2 D (ek.step (step_sub st1 m2))⟩
theorem xs_set (i : Nat) (hN : X.N.Nodup) (h : XE X e Γ r Γ1) (q : WSs X rest (Γ1.set i (some r)) Φ) (hi : X.N[i]? = some nm := by rfl) (hx : Loc X.env.scope nm := by first | exact Or.inl rfl | exact Or.inr rfl)
    (hl : Nat.blt i Γ.length = true := by rfl) (hs : swapsWith e (some (.Name nm p)) pos.line X.env = pure false := by rfl) (hf : X.fn nm = true ∨ X.env.scope.names.lookup nm = some .local := by first | exact .inl rfl | exact .inr rfl) : WSs X (.Assign [.Name nm p] e pos :: rest) Γ Φ :=
  ws_set i hN (h _ q) hi hx hl hs hf

/-! ### if -/
/-- what a branch is to come to: its end goes on with the rest -/
def thn2 (X : Cx) (rest : List Stmt) (Φ : Out → Prop) : Out → Prop
  | .nx Γ => WSs X rest Γ Φ
  | o => Φ o
theorem ends_thn {I H : Hp} {F : List Addr} {D : Ends} (ek : EndsOk X.tc I H F Φ D) : EndsOk X.tc I H F (thn2 X rest Φ) { D with nx := wpSs X rest D } :=
  ⟨fun a st en => a _ _ _ _ en D (ek.step st), fun a st en => ek.rt a st en, fun a st en => ek.bk a st en, fun a st en => ek.ct a st en⟩
theorem ws_if (h : WT X c Γ fun k Γ1 => (k = true → WSs X A Γ1 (thn2 X rest Φ)) ∧ (k = false → WSs X B Γ1 (thn2 X rest Φ))) : WSs X (.If c A B pos :: rest) Γ Φ := fun I H σ F en D ek =>
  ⟨_, pss_cons (ps_if wpT_ok wpSs_ok wpSs_ok) wpSs_ok, h I H σ F en _ fun k Γ1 I1 H1 F1 h1 st1 en1 => by
    have ek1 := ends_thn (rest := rest) (ek.step st1)
    cases k with
    | true => exact h1.1 rfl I1 H1 σ F1 en1 _ ek1
    | false => exact h1.2 rfl I1 H1 σ F1 en1 _ ek1⟩
theorem xs_if (h : XT X c Γ k Γ1) (h1 : k = true → WSs X A Γ1 (thn2 X rest Φ)) (h2 : k = false → WSs X B Γ1 (thn2 X rest Φ)) : WSs X (.If c A B pos :: rest) Γ Φ := ws_if (h _ ⟨h1, h2⟩)

/-! ### ghost steps -/
theorem ws_frz (i : Nat) {d : PyData} (f : Frz x d) (h : WSs X ss (Γ.set i (some (.da d))) Φ) (hx : Γ[i]? = some (some x) := by rfl) : WSs X ss Γ Φ := fun I H σ F en D ek => by
  obtain ⟨I', F', st, en'⟩ := en.frzAt hx f
  exact h I' H σ F' en' D (ek.step st)
theorem ws_drop (i : Nat) (h : WSs X ss (Γ.set i none) Φ) : WSs X ss Γ Φ := fun I H σ F en D ek => by
  by_cases hi : i < Γ.length
  · obtain ⟨A, B, C, rfl, _, _, h6⟩ := en.env.put hi
    have sl : (A ++ C).Sublist (A ++ (B ++ C)) := (List.Sublist.refl A).append (List.sublist_append_right B C)
    exact h I H σ _ ⟨h6, en.nd.sublist sl, en.sub⟩ D (ek.step (Step.less fun b hb => sl.subset hb))
  · have e : Γ.set i none = Γ := by rw [List.set_eq_of_length_le (by omega)]
    rw [e] at h
    exact h I H σ F en D ek
/-- a slot seen otherwise -/
theorem ws_conv (i : Nat) (cv : ∀ (I H : Hp) (v : V) (B : List Addr), Own X.tc I H v x B → Own X.tc I H v y B) (h : WSs X ss (Γ.set i (some y)) Φ) (hx : Γ[i]? = some (some x) := by rfl) : WSs X ss Γ Φ := fun I H σ F en D ek => by
  obtain ⟨v, B, G, e1, o, en', nd, mem⟩ := en.take hx
  obtain ⟨F', en2, nd2, m2⟩ := en'.into e1 (cv _ _ _ _ o) nd
  rw [List.set_set] at en2
  exact h I H σ F' en2 D (ek.step (Step.less fun b hb => (mem b).mpr (m2 b hb)))

/-! ### loops over data -/
/-- J gives ds, one after another, while the frozen heap is at least I -/
structure IsIt (T : TC) (J : It) (ds : List PyData) (I : Hp) : Prop where
  go : ∀ (i : Nat) (I' H : Hp), Same I I' → Same I' H → i < ds.length → J.go i H
  stop : ∀ (I' H : Hp), Same I I' → Same I' H → J.stop ds.length H
  yld : ∀ (i : Nat) (I' H : Hp) (v : V) (H' : Hp), Same I I' → Same I' H → i < ds.length → J.yld i H v H' → ∃ I'' d, ds[i]? = some d ∧ Step I' H [] I'' H' [] ∧ Same I'' H' ∧ Rp T I'' v d
def wpI (X : Cx) (tg it : Expr) : TI := fun σ H R => ∃ t, PI X tg it t ∧ t σ H R
theorem wpI_ok {tg it : Expr} : PI X tg it (wpI X tg it) := ⟨fun pins s σ H Q I ⟨_, h, q⟩ => h.run pins s σ H Q I q⟩
def WI (X : Cx) (tg it : Expr) (Γ : Sl) (Ψ : List PyData → Sl → Prop) : Prop := ∀ (I H : Hp) (σ : L2.St) (F : List Addr), EnvF X.tc I H σ Γ F → ∀ R : It → Hp → Prop,
  (∀ (ds : List PyData) (Γ' : Sl) (I' H' : Hp) (F' : List Addr) (J : It), Ψ ds Γ' → Step I H F I' H' F' → EnvF X.tc I' H' σ Γ' F' → IsIt X.tc J ds I' → R J H') → wpI X tg it σ H R
def XI (X : Cx) (tg it : Expr) (Γ : Sl) (ds : List PyData) (Γ' : Sl) : Prop := ∀ Ψ : List PyData → Sl → Prop, Ψ ds Γ' → WI X tg it Γ Ψ
/-- targets: a name, a tuple of targets -/
def wpG (X : Cx) (tg : Expr) : TG := fun v σ H Q => ∃ t, PG X tg t ∧ t v σ H Q
theorem wpG_ok {tg : Expr} : PG X tg (wpG X tg) := ⟨fun pins s σ H v u Q I r ⟨_, h, q⟩ => h.run pins s σ H v u Q I r q⟩
def WG (X : Cx) (tg : Expr) (r : OD) (Γ : Sl) (Ψ : Sl → Prop) : Prop := ∀ (I H : Hp) (σ : L2.St) (F : List Addr) (v : V), EnvF X.tc I H (some v :: σ) (some r :: Γ) F → ∀ Q : L2.St → Hp → Prop,
  (∀ (Γ' : Sl) (I' H' : Hp) (σ' : L2.St) (F' : List Addr), Ψ Γ' → Step I H F I' H' F' → EnvF X.tc I' H' σ' Γ' F' → Q σ' H') → wpG X tg v σ H Q
theorem wg_name (i : Nat) {Ψ : Sl → Prop} (hN : X.N.Nodup) (h : Ψ (Γ.set i (some r))) (hi : X.N[i]? = some nm := by rfl) (hx : Loc X.env.scope nm := by first | exact Or.inl rfl | exact Or.inr rfl) (hl : Nat.blt i Γ.length = true := by rfl)
    (hf : X.fn nm = true ∨ X.env.scope.names.lookup nm = some .local := by first | exact .inl rfl | exact .inr rfl) : WG X (.Name nm p) r Γ Ψ := fun I H σ F v en Q k => by
  obtain ⟨F2, en2, m2⟩ := en.store (Nat.le_of_ble_eq_true hl)
  exact ⟨_, pg_name hN hi hx hf, k _ I H _ F2 h (Step.less m2) en2⟩
def loopΦ (J : Sl → Prop) (Φ : Out → Prop) : Out → Prop
  | .nx Γ => J Γ
  | .ct Γ => J Γ
  | .bk Γ => Φ (.nx Γ)
  | .rt r Γ => Φ (.rt r Γ)
theorem ws_for {tg it : Expr} {body : List Stmt} (J : List PyData → Nat → Sl → Prop) (hp : PassesOwn (model X.prog X.w) X.A X.env X.xe) (hc : X.calm = true)
    (hi : WI X tg it Γ fun ds Γ1 => J ds 0 Γ1 ∧ (∀ (n : Nat) (d : PyData) (Γ2 : Sl), ds[n]? = some d → J ds n Γ2 → WG X tg (.da d) Γ2 fun Γ3 => WSs X body Γ3 (loopΦ (J ds (n + 1)) (thn2 X rest Φ))) ∧ ∀ Γ2, J ds ds.length Γ2 → WSs X rest Γ2 Φ)
    (hs : ∀ x, foldedSetIterable it X.env x = pure x := by intro _; rfl) : WSs X (.For tg it body [] pos :: rest) Γ Φ := by
  intro I H σ F en D ek
  refine ⟨_, pss_cons (ps_for hp hc wpI_ok wpG_ok wpSs_ok hs) wpSs_ok, hi I H σ F en _ fun ds Γ1 I1 H1 F1 Jt h1 st1 en1 isit => ?_⟩
  obtain ⟨j0, turn, fin⟩ := h1
  refine ⟨fun n m σ' H' => m = ds.length - n ∧ n ≤ ds.length ∧ ∃ Γ2 I2 F2, J ds n Γ2 ∧ Step I1 H1 F1 I2 H' F2 ∧ EnvF X.tc I2 H' σ' Γ2 F2, ⟨_, rfl, Nat.zero_le _, Γ1, I1, F1, j0, .refl, en1⟩, ?_⟩
  rintro n m σ2 H2 ⟨rfl, hn, Γ2, I2, F2, jn, st2, en2⟩
  by_cases hlt : n < ds.length
  · refine .inr ⟨isit.go n I2 H2 st2.inc en2.sub hlt, fun σ' H' => ∃ Γ3 I3 F3, J ds (n + 1) Γ3 ∧ Step I1 H1 F1 I3 H' F3 ∧ EnvF X.tc I3 H' σ' Γ3 F3, fun σ' H' ⟨Γ3, I3, F3, j3, st3, en3⟩ => ⟨ds.length - (n + 1), by omega, rfl, hlt, Γ3, I3, F3, j3, st3, en3⟩, fun v H3 hy => ?_⟩
    obtain ⟨I3, d, hd, st3, sub3, hr⟩ := isit.yld n I2 H2 v H3 st2.inc en2.sub hlt hy
    obtain ⟨en3, st3'⟩ := en2.grow st3 sub3
    refine turn n d Γ2 hd jn I3 H3 σ2 F2 v (en3.da hr) _ fun Γ4 I4 H4 σ4 F4 h4 st4 en4 => ?_
    have st14 := (st2.trans st3').trans st4
    refine h4 I4 H4 σ4 F4 en4 _ ⟨fun a st en => ?_, fun a st en => ?_, fun a st en => ?_, fun a st en => ?_⟩
    · exact ⟨_, _, _, a, st14.trans st, en⟩
    · exact ek.rt a (st1.trans (st14.trans st)) en
    · exact a _ _ _ _ en D (ek.step (st1.trans (st14.trans st)))
    · exact ⟨_, _, _, a, st14.trans st, en⟩
  · have e : n = ds.length := by omega
    subst e
    exact .inl ⟨isit.stop I2 H2 st2.inc en2.sub, fin Γ2 jn I2 H2 σ2 F2 en2 D (ek.step (st1.trans st2))⟩

/-! ### while -/
theorem ws_while {body : List Stmt} (J : Sl → Prop) (μ : Sl → Nat) (hp : PassesOwn (model X.prog X.w) X.A X.env X.xe) (h0 : J Γ)
    (turn : ∀ Γ2, J Γ2 → WT X c Γ2 fun k Γ3 => (k = true → WSs X body Γ3 (loopΦ (fun Γ4 => J Γ4 ∧ μ Γ4 < μ Γ2) (thn2 X rest Φ))) ∧ (k = false → WSs X rest Γ3 Φ)) : WSs X (.While c body [] pos :: rest) Γ Φ := by
  intro I H σ F en D ek
  refine ⟨_, pss_cons (ps_while hp wpT_ok wpSs_ok) wpSs_ok, fun m σ' H' => ∃ Γ2 I2 F2, J Γ2 ∧ m = μ Γ2 ∧ Step I H F I2 H' F2 ∧ EnvF X.tc I2 H' σ' Γ2 F2, ⟨_, Γ, I, F, h0, rfl, .refl, en⟩, ?_⟩
  rintro m σ2 H2 ⟨Γ2, I2, F2, j2, rfl, st2, en2⟩
  refine turn Γ2 j2 I2 H2 σ2 F2 en2 _ fun k Γ3 I3 H3 F3 h3 st3 en3 => ?_
  cases k with
  | true =>
    refine ⟨fun σ' H' => ∃ Γ4 I4 F4, J Γ4 ∧ μ Γ4 < μ Γ2 ∧ Step I H F I4 H' F4 ∧ EnvF X.tc I4 H' σ' Γ4 F4, fun σ' H' ⟨Γ4, I4, F4, j4, lt, st4, en4⟩ => ⟨_, lt, Γ4, I4, F4, j4, rfl, st4, en4⟩, ?_⟩
    have st13 := st2.trans st3
    refine h3.1 rfl I3 H3 σ2 F3 en3 _ ⟨fun a st en => ?_, fun a st en => ?_, fun a st en => ?_, fun a st en => ?_⟩
    · exact ⟨_, _, _, a.1, a.2, st13.trans st, en⟩
    · exact ek.rt a (st13.trans st) en
    · exact a _ _ _ _ en D (ek.step (st13.trans st))
    · exact ⟨_, _, _, a.1, a.2, st13.trans st, en⟩
  | false => exact h3.2 rfl I3 H3 σ2 F3 en3 D (ek.step (st2.trans st3))
end
end TL

/-! TL7: own lists in slots: index, store, append, pop, len; built-ins by values. -/
namespace TL
open PySem PySem.Spec PyProof.Rows L2

/-- an own list of data, its value known or not -/
inductive VLL : OD → List PyData → (List PyData → OD) → Prop
  | ll {ds : List PyData} : VLL (.ll ds) ds .ll
  | pin {v : V} {ds : List PyData} : VLL (.pin v (.ll ds)) ds fun ds => .pin v (.ll ds)
theorem VLL.own {T : TC} {I H : Hp} {v : V} {B : List Addr} {x : OD} {ds : List PyData} {mk : List PyData → OD} (h : VLL x ds mk) (o : Own T I H v x B) :
    ∃ p vs, v = .ref p ∧ B = [p] ∧ H p = some (.lst vs) ∧ I p = none ∧ RpL T I vs ds ∧ ∀ (H' : Hp) (vs' : List V) (ds' : List PyData), H' p = some (.lst vs') → RpL T I vs' ds' → Own T I H' v (mk ds') [p] := by
  cases h with
  | ll => cases o with
    | ll h1 h2 h3 => exact ⟨_, _, rfl, rfl, h1, h2, h3, fun H' vs' ds' e r => .ll e h2 r⟩
  | pin => cases o with
    | pin o => cases o with
      | ll h1 h2 h3 => exact ⟨_, _, rfl, rfl, h1, h2, h3, fun H' vs' ds' e r => .pin (.ll e h2 r)⟩
section
variable {T : TC} {I H : Hp} {σ : L2.St} {Γ : Sl} {F : List Addr} {i : Nat} {x : OD} {ds : List PyData} {mk : List PyData → OD}
/-- the list in the i-th slot, and how it is changed -/
theorem EnvF.ll (en : EnvF T I H σ Γ F) (hx : Γ[i]? = some (some x)) (hv : VLL x ds mk) : ∃ p vs, σ[i]? = some (some (.ref p)) ∧ H p = some (.lst vs) ∧ RpL T I vs ds ∧
    ∀ (vs' : List V) (ds' : List PyData), RpL T I vs' ds' → ∃ F', EnvF T I (upd H p (.lst vs')) σ (Γ.set i (some (mk ds'))) F' ∧ Step I H F I (upd H p (.lst vs')) F' := by
  obtain ⟨v, B, G, e1, o, en', nd, mem⟩ := en.take hx
  obtain ⟨p, vs, rfl, rfl, h1, h2, h3, h4⟩ := hv.own o
  refine ⟨p, vs, e1, h1, h3, fun vs' ds' r => ?_⟩
  have np : p ∉ G := (List.nodup_cons.mp (show (p :: G).Nodup from nd)).1
  have en2 : EnvF T I (upd H p (.lst vs')) σ (Γ.set i none) G := ⟨en'.env.frame (Same.refl I) fun b hb => ⟨upd_ne fun q => np (q ▸ hb), (en'.env.cells b hb).2⟩, en'.nd, fun b u e => by
    rw [upd_ne fun q => by
      subst q
      rw [h2] at e
      cases e]
    exact en.sub b u e⟩
  obtain ⟨F', en3, nd3, m3⟩ := en2.into e1 (h4 _ vs' ds' upd_same r) nd
  rw [List.set_set] at en3
  exact ⟨F', en3, (step_upd (F := F) ((mem p).mpr (.inl (List.mem_singleton.mpr rfl)))).of_mem (fun b hb => hb) fun b hb => (mem b).mpr (m3 b hb)⟩
end

section
variable {X : Cx} {e a b c o : Expr} {es : List Expr} {rest : List Stmt} {Γ Γ' Γ1 Γ2 : Sl} {Ψ : OD → Sl → Prop} {Φ : Out → Prop} {Φt : Bool → Sl → Prop} {pos p apos : Pos} {r x y z : OD} {k k' : Bool} {nm : Str} {ds : List PyData} {mk : List PyData → OD} {d : PyData}

theorem atI_rp {T : TC} {I : Hp} {vs : List V} {ds : List PyData} {j : Int} {d : PyData} (r : RpL T I vs ds) (h : atI ds j = some d) : ∃ v, atI vs j = some v ∧ Rp T I v d := by
  unfold atI at h ⊢
  rw [← r.length] at h
  cases e : ixN vs.length j with
  | none =>
    rw [e] at h
    cases h
  | some n =>
    rw [e] at h
    exact r.get h
/-- xs[j], xs an own list in the i-th slot -/
theorem xe_ixll (i : Nat) {j : Int} (hb : XE X b Γ (.da (.int j)) Γ1) (hx : Γ[i]? = some (some x) := by rfl) (hx1 : Γ1[i]? = some (some x) := by rfl) (hv : VLL x ds mk := by first | exact .ll | exact .pin) (hd : atI ds j = some d := by rfl)
    (hs : PlainIx b := by exact fun _ _ => rfl) (hN : X.N[i]? = some nm := by rfl) (hvs : Vis X.env.scope nm := by first | exact Or.inl rfl | exact Or.inr (Or.inl rfl) | exact Or.inr (Or.inr rfl)) (h1 : (nm == ("__debug__" : Str)) = false := by decide) (h2 : (nm == ("__classdict__" : Str)) = false := by decide) :
    XE X (.Subscript (.Name nm p) b pos) Γ (.da d) Γ1 := fun Ψ hq I H σ F en Q kk => by
  obtain ⟨q, vs, e1, _, _, _⟩ := en.ll hx hv
  refine ⟨_, pe_ix ix_list (pe_var hN hvs h1 h2) wpE_ok hs, _, e1, hb (fun r Γ' => r = .da (.int j) ∧ Γ' = Γ1) ⟨rfl, rfl⟩ I H σ F en _ ?_⟩
  rintro _ _ I1 H1 u F1 ⟨rfl, rfl⟩ st1 en1
  obtain ⟨B, G, rfl, oo, en2, up⟩ := en1.pop
  cases oo with
  | da hh =>
    cases hh
    obtain ⟨q', vs', e1', h3, h4, _⟩ := en2.ll hx1 hv
    rw [e1] at e1'
    cases e1'
    obtain ⟨w, hw, rw'⟩ := atI_rp h4 hd
    exact ⟨q, vs', j, w, rfl, rfl, SqL.of h3, hw, kk _ _ I1 H1 w _ hq st1 (en2.da rw')⟩
/-- xs[j] = e -/
theorem ws_setll (i : Nat) {j : Int} {n : Nat} (h : WE X e Γ fun r Γ1 => ∃ d x ds mk, r = .da d ∧ Γ1[i]? = some (some x) ∧ VLL x ds mk ∧ ixN ds.length j = some n ∧ XE X b Γ1 (.da (.int j)) Γ1 ∧ WSs X rest (Γ1.set i (some (mk (ds.set n d)))) Φ)
    (hN : X.N[i]? = some nm := by rfl) (hvs : Vis X.env.scope nm := by first | exact Or.inl rfl | exact Or.inr (Or.inl rfl) | exact Or.inr (Or.inr rfl)) (h1 : (nm == ("__debug__" : Str)) = false := by decide) (h2 : (nm == ("__classdict__" : Str)) = false := by decide)
    (hs : swapsWithSole [.Subscript (.Name nm p) b pos] e apos.line X.env = pure false := by rfl) (hw : swappedStores [.Subscript (.Name nm p) b pos] e X.env = pure none := by rfl)
    (h5 : (assignEach [.Subscript (.Name nm p) b pos] X.env).map (·.2) = [assign (.Subscript (.Name nm p) b pos) X.env] := by rfl)
    (ha : ∀ v, assign (.Subscript (.Name nm p) b pos) X.env v = (do
      let ov ← holding [v] (eval (.Name nm p) X.env)
      let iv ← holding [v, ov] (eval b X.env)
      standAt pos
      holding [v, ov, iv] (setItem ov iv v)
      release [v, ov, iv] []) := by intro _; rfl) : WSs X (.Assign [.Subscript (.Name nm p) b pos] e apos :: rest) Γ Φ := fun I H σ F en D ek => by
  refine ⟨_, pss_cons (ps_asg wpE_ok (pg_sub (pe_var hN hvs h1 h2) wpE_ok set_list ha) hs hw h5) wpSs_ok, h I H σ F en _ ?_⟩
  rintro r Γ1 I1 H1 v F1 ⟨d, x, ds, mk, rfl, hx, hv, hj, hb, hq⟩ st1 en1
  obtain ⟨B, G, rfl, oo, en2, up⟩ := en1.pop
  cases oo with
  | da hd =>
    obtain ⟨q, vs, e1, _, _, _⟩ := en2.ll hx hv
    refine ⟨_, e1, hb (fun r Γ' => r = .da (.int j) ∧ Γ' = Γ1) ⟨rfl, rfl⟩ I1 H1 σ G en2 _ ?_⟩
    rintro _ _ I2 H2 u F2 ⟨rfl, rfl⟩ st2 en3
    obtain ⟨B2, G2, rfl, oo2, en4, _⟩ := en3.pop
    cases oo2 with
    | da hh =>
      cases hh
      obtain ⟨q', vs', e1', h3, h4, h6⟩ := en4.ll hx hv
      rw [e1] at e1'
      cases e1'
      obtain ⟨F5, en5, st5⟩ := h6 (vs'.set n v) (ds.set n d) (RpL.set (hd.mono st2.inc) n h4)
      exact ⟨q, vs', j, n, rfl, rfl, h3, by rw [h4.length]; exact hj, hq I2 _ σ F5 en5 D (ek.step ((st1.trans st2).trans st5))⟩
/-- xs.append(e) -/
theorem we_append (i : Nat) (h : WE X e Γ fun r Γ1 => ∃ d x ds mk, r = .da d ∧ Γ1[i]? = some (some x) ∧ VLL x ds mk ∧ ds.length < sizeLine ∧ Ψ (.da .none) (Γ1.set i (some (mk (ds ++ [d])))))
    (hx : Γ[i]? = some (some x) := by rfl) (hv : VLL x ds mk := by first | exact .ll | exact .pin) (hN : X.N[i]? = some nm := by rfl) (hvs : Vis X.env.scope nm := by first | exact Or.inl rfl | exact Or.inr (Or.inl rfl) | exact Or.inr (Or.inr rfl)) (h1 : (nm == ("__debug__" : Str)) = false := by decide) (h2 : (nm == ("__classdict__" : Str)) = false := by decide)
    (hst : starEach [e] X.env = (false, eval e X.env) :: starEach [] X.env := by rfl)
    (hb : attributeBase (.Name nm p) "append" X.env (eval (.Name nm p) X.env) = eval (.Name nm p) X.env := by rfl)
    (hfew : ((backTo pos (starEach [e] X.env)).all (fun x => !x.1) && (backToKw pos (keywordEach [] X.env)).all (fun x => x.1.isSome)
      && decide (([e] : List Expr).length + ([] : List Keyword).length + (if ([] : List Keyword).isEmpty then 0 else 1) < 30)) = true := by rfl) (hline : (apos.endLine == pos.line) = true := by rfl) (hs2 : (backTo pos (starEach [] X.env)).any (·.1) = false := by rfl) :
    WE X (.Call (.Attribute (.Name nm p) "append" apos) [e] [] pos) Γ Ψ := fun I H σ F en Q kk => by
  refine ⟨_, pe_bm PySem.F.plainAttrs_list PySem.F.slot_list_append PySem.F.type_list_append mt_append (pe_var hN hvs h1 h2) (pa_cons wpE_ok pa_nil hst) hb hfew hline hst hs2, ?_⟩
  obtain ⟨q, vs, e1, g1, _, _⟩ := en.ll hx hv
  refine ⟨_, e1, .inl ⟨rfl, _, SqL.of g1⟩, h I H σ F en _ ?_⟩
  rintro r Γ1 I1 H1 v F1 ⟨d, x, ds, mk, rfl, hx1, hv1, hlt, hq⟩ st1 en1
  obtain ⟨B, G, rfl, oo, en2, up⟩ := en1.pop
  cases oo with
  | da hd =>
    obtain ⟨q', vs', e1', h3, h4, h6⟩ := en2.ll hx1 hv1
    rw [e1] at e1'
    cases e1'
    obtain ⟨F5, en5, st5⟩ := h6 (vs' ++ [v]) (ds ++ [d]) (RpL.append h4 (.cons hd .nil))
    exact ⟨q, vs', v, rfl, rfl, h3, by rw [h4.length]; exact hlt, kk _ _ I1 _ .non F5 hq (st1.trans st5) (en5.da .non)⟩
end
end TL

/-! TL8: defs as facts, built-ins by values, the drawing's state. -/
namespace TL
open PySem PySem.Spec PyProof.Rows L2

/-- a def of the text, what it is worth -/
def Def (P : Program) (w : World) (K : PySem.W.Frag) (mg : Str → Option Value) (bs : Heap) (k : Nat) (nm : Str) (ps : List Str) (sp : SpD) : Prop :=
  ∃ f fd, FnG P w K mg bs CX0 k f fd ps (mkSp ⟨P, w, K⟩ sp) ∧ mg nm = some (.ref f) ∧ PySem.W.keepIn K (.ref f) = true ∧ Binds K fd ps []
/-- the built-ins that no def shadows -/
structure Blt (mg : Str → Option Value) : Prop where
  len : mg "len" = none
  int : mg "int" = none
  abs : mg "abs" = none
  divmod : mg "divmod" = none
  list : mg "list" = none
  tuple : mg "tuple" = none
  range : mg "range" = none
  zip : mg "zip" = none
  enumerate : mg "enumerate" = none
  reversed : mg "reversed" = none
  sorted : mg "sorted" = none
  min : mg "min" = none
  max : mg "max" = none
  sum : mg "sum" = none
  all : mg "all" = none
  any : mg "any" = none
  set : mg "set" = none
  repr : mg "repr" = none
  str : mg "str" = none
  isinstance : mg "isinstance" = none
  bool : mg "bool" = none
  dict : mg "dict" = none
section
variable {X : Cx} {e a b c o : Expr} {es : List Expr} {ss rest : List Stmt} {Γ Γ' Γ1 Γ2 : Sl} {Ψ : OD → Sl → Prop} {Φ : Out → Prop} {Φt : Bool → Sl → Prop} {pos p apos : Pos} {r x y z : OD} {k k' : Bool} {nm : Str} {ds : List PyData} {mk : List PyData → OD} {d : PyData}
variable {kk : Nat} {ps : List Str} {sp : SpD}
theorem we_fn (G : Def X.prog X.w X.K X.mg X.base kk nm ps sp) (hr : Room kk X.A) (hgd : X.A.guards = some []) (h : WA X (e :: es) Γ fun rs refs Γ1 => sp rs fun r as' => Ψ r (putBack refs as' Γ1)) (hg : Gl X nm := by rfl)
    (hdb : (nm == ("__debug__" : Str)) = false := by decide) (he : starEach (e :: es) X.env = (false, eval e X.env) :: starEach es X.env := by rfl) (hpl : (backTo pos (starEach es X.env)).any (·.1) = false := by rfl) :
    WE X (.Call (.Name nm p) (e :: es) [] pos) Γ Ψ := let ⟨_, _, F, hm, hk, hb⟩ := G; we_call F hr hgd hg hm hk hb h hdb he hpl
theorem we_fn0 (G : Def X.prog X.w X.K X.mg X.base kk nm ps sp) (hr : Room kk X.A) (hgd : X.A.guards = some []) (h : sp [] fun r _ => Ψ r Γ) (hg : Gl X nm := by rfl) (hdb : (nm == ("__debug__" : Str)) = false := by decide) :
    WE X (.Call (.Name nm p) [] [] pos) Γ Ψ := let ⟨_, _, F, hm, hk, hb⟩ := G; we_call0 F hr hgd hg hm hk hb h hdb
theorem ws_convE (i : Nat) {ι : Type} {y : ι → OD} (cv : ∀ (I H : Hp) (v : V) (B : List Addr), Own X.tc I H v x B → ∃ j, Own X.tc I H v (y j) B) (h : ∀ j, WSs X ss (Γ.set i (some (y j))) Φ) (hx : Γ[i]? = some (some x) := by rfl) : WSs X ss Γ Φ := fun I H σ F en D ek => by
  obtain ⟨v, B, G, e1, o, en', nd, mem⟩ := en.take hx
  obtain ⟨j, oj⟩ := cv _ _ _ _ o
  obtain ⟨F', en2, nd2, m2⟩ := en'.into e1 oj nd
  rw [List.set_set] at en2
  exact h j I H σ F' en2 D (ek.step (Step.less fun b hb => (mem b).mpr (m2 b hb)))

/-! ### built-ins by values, from data to data -/
theorem OpL.pure {T : TC} {f : List V → Hp → VK → Prop} {ds : List PyData} {g : PyData} (h : ∀ (I H : Hp) (vs : List V), RpL T I vs ds → Same I H → ∀ Q : VK, (∀ w, Rp T I w g → Q w H) → f vs H Q) : OpL T f (ds.map .da) (.da g) := by
  intro I H vs B o nd sub Q k
  obtain ⟨rfl, r⟩ := ownL_da o
  exact h I H vs r sub Q fun w hw => k I H w [] Step.refl (.da hw) List.nodup_nil sub
theorem rpL1 {T : TC} {I : Hp} {vs : List V} {d : PyData} (r : RpL T I vs [d]) : ∃ v, vs = [v] ∧ Rp T I v d := by
  cases r with
  | cons h r =>
    cases r
    exact ⟨_, rfl, h⟩
theorem rpL2 {T : TC} {I : Hp} {vs : List V} {d d' : PyData} (r : RpL T I vs [d, d']) : ∃ v v', vs = [v, v'] ∧ Rp T I v d ∧ Rp T I v' d' := by
  cases r with
  | cons h r =>
    obtain ⟨v, rfl, h'⟩ := rpL1 r
    exact ⟨_, v, rfl, h, h'⟩
theorem sqL_sub {K : PySem.W.Frag} {I H : Hp} {a : Addr} {xs : List V} (s : Same I H) (h : SqL K I a xs) : SqL K H a xs := s.seq h
section
variable {i j : Int}
theorem xe_int1 (B : Blt X.mg) (ha : XE X a Γ (.da (.int i)) Γ1) (hg : Gl X "int" := by rfl) (he : starEach [a] X.env = (false, eval a X.env) :: starEach [] X.env := by rfl) (hpl : (backTo pos (starEach [] X.env)).any (·.1) = false := by rfl) :
    XE X (.Call (.Name "int" p) [a] [] pos) Γ (.da (.int i)) Γ1 := xe_callTy1 call_int1 (OpL.pure (ds := [.int i]) fun I H vs r _ Q k => by
      obtain ⟨v, rfl, h⟩ := rpL1 r
      cases h
      exact .inl ⟨i, rfl, k _ (.int i)⟩) hg B.int (by decide +kernel) ha (he := he) (hpl := hpl)
theorem xe_abs (B : Blt X.mg) (ha : XE X a Γ (.da (.int i)) Γ1) (hg : Gl X "abs" := by rfl) (he : starEach [a] X.env = (false, eval a X.env) :: starEach [] X.env := by rfl) (hpl : (backTo pos (starEach [] X.env)).any (·.1) = false := by rfl) :
    XE X (.Call (.Name "abs" p) [a] [] pos) Γ (.da (.int (if i < 0 then -i else i))) Γ1 := xe_callB1 call_abs (OpL.pure (ds := [.int i]) fun I H vs r _ Q k => by
      obtain ⟨v, rfl, h⟩ := rpL1 r
      cases h
      exact ⟨i, rfl, k _ (.int _)⟩) hg B.abs (by decide +kernel) ha (he := he) (hpl := hpl)
/-- len of a list or a tuple -/
theorem xe_len (B : Blt X.mg) (ha : XE X a Γ (.da d) Γ1) (hd : d = .list ds ∨ d = .tuple ds) (hg : Gl X "len" := by rfl) (he : starEach [a] X.env = (false, eval a X.env) :: starEach [] X.env := by rfl) (hpl : (backTo pos (starEach [] X.env)).any (·.1) = false := by rfl) :
    XE X (.Call (.Name "len" p) [a] [] pos) Γ (.da (.int ds.length)) Γ1 := xe_callB1 call_len_seq (OpL.pure (ds := [d]) fun I H vs r s Q k => by
      obtain ⟨v, rfl, h⟩ := rpL1 r
      rcases hd with rfl | rfl
      · cases h with
        | lst q r => exact ⟨_, _, rfl, .inl (s.seq q), by rw [r.length]; exact k _ (.int _)⟩
      · cases h with
        | tup q r => exact ⟨_, _, rfl, .inr (sqT_mono s q), by rw [r.length]; exact k _ (.int _)⟩) hg B.len PySem.boot_len ha (he := he) (hpl := hpl)
theorem divs_small {j : Int} (h0 : 0 < j) (h : j < 2 ^ 64) : CDivP i j := by
  refine ⟨h0, ?_⟩
  unfold Builtin.divisionGoesByPylong
  have h1 : j.natAbs.log2 < 64 := (Nat.log2_lt (by omega)).mpr (by omega)
  have h2 : (j == 0) = false := by simp; omega
  simp only [h2, Bool.false_eq_true, if_false]
  have h3 : ¬ (j.natAbs.log2 / 30 + 1 > 300) := by omega
  simp [h3]
theorem xe_divmod (B : Blt X.mg) (h0 : 0 < j) (h1 : j < 2 ^ 64) (ha : XE X a Γ (.da (.int i)) Γ1) (hb : XE X b Γ1 (.da (.int j)) Γ2) (hg : Gl X "divmod" := by rfl) (he : starEach [a, b] X.env = (false, eval a X.env) :: starEach [b] X.env := by rfl)
    (he2 : starEach [b] X.env = (false, eval b X.env) :: starEach [] X.env := by rfl) (hpl : (backTo pos (starEach [b] X.env)).any (·.1) = false := by rfl) :
    XE X (.Call (.Name "divmod" p) [a, b] [] pos) Γ (.da (.tuple [.int (i / j), .int (i % j)])) Γ2 := xe_callB2 call_divmodW (fun I H vs B o nd sub Q k => by
      obtain ⟨rfl, r⟩ := ownL_da (ds := [.int i, .int j]) o
      obtain ⟨v, u, rfl, h2, h3⟩ := rpL2 r
      cases h2
      cases h3
      exact ⟨i, j, rfl, divs_small h0 h1, fun q hq => k (upd I q _) _ _ [] (step_frz sub hq) (.da (.tup (SqT.of upd_same) (.cons (.int _) (.cons (.int _) .nil)))) List.nodup_nil (upd_both sub)⟩) hg B.divmod (by decide +kernel) ha hb (he := he) (he2 := he2) (hpl := hpl)
end
/-- d[j], d a list or a tuple -/
theorem xe_ix {j : Int} {dd : PyData} (ha : XE X a Γ (.da dd) Γ1) (hb : XE X b Γ1 (.da (.int j)) Γ2) (hd : dd = .list ds ∨ dd = .tuple ds) (hj : atI ds j = some d) (hs : PlainIx b := by exact fun _ _ => rfl) : XE X (.Subscript a b pos) Γ (.da d) Γ2 := fun Ψ hq I H σ F en Q k =>
  ⟨_, pe_ix ix_seq wpE_ok wpE_ok hs, two_core (ha _ (hb _ ⟨.da d, Op2.pure fun I H v u h1 h2 s Q k => by
    cases h2
    rcases hd with rfl | rfl
    · cases h1 with
      | lst q r =>
        obtain ⟨w, hw, rw'⟩ := atI_rp r hj
        exact .inl ⟨_, _, j, w, rfl, rfl, s.seq q, hw, k _ rw'⟩
    · cases h1 with
      | tup q r =>
        obtain ⟨w, hw, rw'⟩ := atI_rp r hj
        exact .inr (.inl ⟨_, _, j, w, rfl, rfl, sqT_mono s q, hw, k _ rw'⟩), hq⟩)) I H σ F en Q k⟩

/-! ### and, or, not; the conditional expression -/
theorem we_ifExp (h : WT X c Γ fun k Γ1 => (k = true → WE X a Γ1 Ψ) ∧ (k = false → WE X b Γ1 Ψ)) : WE X (.IfExp c a b pos) Γ Ψ := fun I H σ F en Q kq =>
  ⟨_, pe_ifExp wpT_ok wpE_ok wpE_ok, h I H σ F en _ fun k Γ1 I1 H1 F1 h1 st1 en1 => by
    cases k with
    | true => exact h1.1 rfl I1 H1 σ F1 en1 Q fun r Γ' I' H' v F' q st => kq r Γ' I' H' v F' q (st1.trans st)
    | false => exact h1.2 rfl I1 H1 σ F1 en1 Q fun r Γ' I' H' v F' q st => kq r Γ' I' H' v F' q (st1.trans st)⟩
theorem xe_ifExp {d1 d2 : PyData} (h : XT X c Γ k Γ1) (ha : k = true → XE X a Γ1 (.da d1) Γ2) (hb : k = false → XE X b Γ1 (.da d2) Γ2) : XE X (.IfExp c a b pos) Γ (.da (if k = true then d1 else d2)) Γ2 := fun Ψ hq => we_ifExp (h _ ⟨fun e => ha e _ (by rw [if_pos e] at hq; exact hq), fun e => hb e _ (by rw [if_neg (by simp [e])] at hq; exact hq)⟩)
theorem WW.wt (h : WW X e Γ Φt) : WT X e Γ Φt := fun I H σ F en Q k => let ⟨t, ht, q⟩ := h I H σ F en Q k; ⟨t, ht.pt, q⟩
theorem ww_and1 (h : WT X a Γ Φt) : WW X (.BoolOp .And [a] pos) Γ Φt := fun I H σ F en Q k => ⟨_, pw_and1 wpT_ok, h I H σ F en Q k⟩
theorem ww_or1 (h : WT X a Γ Φt) : WW X (.BoolOp .Or [a] pos) Γ Φt := fun I H σ F en Q k => ⟨_, pw_or1 wpT_ok, h I H σ F en Q k⟩
theorem ww_and (h : WT X a Γ fun k Γ1 => (k = true → WW X (.BoolOp .And (b :: es) pos) Γ1 Φt) ∧ (k = false → Φt false Γ1)) : WW X (.BoolOp .And (a :: b :: es) pos) Γ Φt := fun I H σ F en Q kq =>
  ⟨_, pw_and wpT_ok wpW_ok, h I H σ F en _ fun k Γ1 I1 H1 F1 h1 st1 en1 => by
    cases k with
    | true => exact h1.1 rfl I1 H1 σ F1 en1 Q fun r Γ' I' H' F' q st => kq r Γ' I' H' F' q (st1.trans st)
    | false => exact kq false Γ1 I1 H1 F1 (h1.2 rfl) st1 en1⟩
theorem ww_or (h : WT X a Γ fun k Γ1 => (k = true → Φt true Γ1) ∧ (k = false → WW X (.BoolOp .Or (b :: es) pos) Γ1 Φt)) : WW X (.BoolOp .Or (a :: b :: es) pos) Γ Φt := fun I H σ F en Q kq =>
  ⟨_, pw_or wpT_ok wpW_ok, h I H σ F en _ fun k Γ1 I1 H1 F1 h1 st1 en1 => by
    cases k with
    | false => exact h1.2 rfl I1 H1 σ F1 en1 Q fun r Γ' I' H' F' q st => kq r Γ' I' H' F' q (st1.trans st)
    | true => exact kq true Γ1 I1 H1 F1 (h1.1 rfl) st1 en1⟩
theorem wt_not (h : WT X a Γ fun k Γ1 => Φt (!k) Γ1) : WT X (.UnaryOp .Not a pos) Γ Φt := fun I H σ F en Q kq =>
  ⟨_, pt_not wpT_ok, h I H σ F en _ fun k Γ1 I1 H1 F1 h1 st1 en1 => kq (!k) Γ1 I1 H1 F1 h1 st1 en1⟩
theorem xt_not (h : XT X a Γ k Γ1) : XT X (.UnaryOp .Not a pos) Γ (!k) Γ1 := fun _ hq => wt_not (h _ hq)
theorem xt_and2 {k2 : Bool} (h : XT X a Γ k Γ) (h2 : k = true → XT X b Γ k2 Γ) : XT X (.BoolOp .And [a, b] pos) Γ (k && k2) Γ := fun _ hq => (ww_and (h _ ⟨fun e => ww_and1 (h2 e _ (by rw [e, Bool.true_and] at hq; exact hq)), fun e => by rw [e, Bool.false_and] at hq; exact hq⟩)).wt
theorem xt_or2 {k2 : Bool} (h : XT X a Γ k Γ) (h2 : k = false → XT X b Γ k2 Γ) : XT X (.BoolOp .Or [a, b] pos) Γ (k || k2) Γ := fun _ hq => (ww_or (h _ ⟨fun e => by rw [e, Bool.true_or] at hq; exact hq, fun e => ww_or1 (h2 e _ (by rw [e, Bool.false_or] at hq; exact hq))⟩)).wt

/-! ### targets that are tuples -/
def WGs (X : Cx) (ts : List Expr) (rs : List PyData) (Γ : Sl) (Ψ : Sl → Prop) : Prop := ∀ (I H : Hp) (σ : L2.St) (F : List Addr) (vs : List V), EnvF X.tc I H σ Γ F → RpL X.tc I vs rs → ∀ Q : L2.St → Hp → Prop,
  (∀ (Γ' : Sl) (I' H' : Hp) (σ' : L2.St) (F' : List Addr), Ψ Γ' → Step I H F I' H' F' → EnvF X.tc I' H' σ' Γ' F' → Q σ' H') → ∃ t, PGs X ts t ∧ t vs σ H Q
theorem wgs_nil {Ψ : Sl → Prop} (h : Ψ Γ) : WGs X [] [] Γ Ψ := fun I H σ F vs en r Q k => ⟨_, pgs_nil, by cases r; rfl, k Γ I H σ F h .refl en⟩
def wpGs (X : Cx) (ts : List Expr) : TGs := fun vs σ H Q => ∃ t, PGs X ts t ∧ t vs σ H Q
theorem wpGs_ok {ts : List Expr} : PGs X ts (wpGs X ts) := ⟨fun pins s σ H v u Q I r ⟨_, h, q⟩ => h.run pins s σ H v u Q I r q⟩
theorem wgs_cons {Ψ : Sl → Prop} {ts : List Expr} {rs : List PyData} (h : WG X e (.da d) Γ fun Γ1 => WGs X ts rs Γ1 Ψ) (hs : (assignEach (e :: ts) X.env).map (·.2) = assign e X.env :: (assignEach ts X.env).map (·.2) := by rfl) : WGs X (e :: ts) (d :: rs) Γ Ψ := fun I H σ F vs en r Q k => by
  cases r with
  | cons h1 r => exact ⟨_, pgs_cons wpG_ok wpGs_ok hs, _, _, rfl, h I H σ F _ (en.da h1) _ fun Γ1 I1 H1 σ1 F1 h2 st1 en1 => h2 I1 H1 σ1 F1 _ en1 (r.mono st1.inc) Q fun Γ' I' H' σ' F' q st => k Γ' I' H' σ' F' q (st1.trans st)⟩
theorem wg_tup {Ψ : Sl → Prop} {ts : List Expr} {rs : List PyData} {n : Nat} (hc : X.calm = true) (h : WGs X ts rs Γ Ψ) (hn : (assignEach ts X.env).length = rs.length := by rfl) (hst : (assignEach ts X.env).findIdx? (·.1) = none := by rfl) : WG X (.Tuple ts n pos) (.da (.tuple rs)) Γ Ψ := fun I H σ F v en Q k => by
  obtain ⟨B, G, rfl, oo, en2, up⟩ := en.pop
  cases oo with
  | da hd => cases hd with
    | tup q r =>
      obtain ⟨t, ht, hq⟩ := h I H σ G _ en2 r Q k
      exact ⟨_, pg_tup hc ht hn hst, _, _, rfl, sqT_mono en2.sub q, r.length, hq⟩
/-- a, b = e -/
theorem ws_asgT {ts : List Expr} {n : Nat} (h : WE X e Γ fun r Γ1 => WG X (.Tuple ts n p) r Γ1 fun Γ2 => WSs X rest Γ2 Φ) (hs : swapsWithSole [.Tuple ts n p] e pos.line X.env = pure false := by rfl) (hw : swappedStores [.Tuple ts n p] e X.env = pure none := by rfl)
    (h1 : (assignEach [.Tuple ts n p] X.env).map (·.2) = [assign (.Tuple ts n p) X.env] := by rfl) : WSs X (.Assign [.Tuple ts n p] e pos :: rest) Γ Φ := fun I H σ F en D ek =>
  ⟨_, pss_cons (ps_asg wpE_ok wpG_ok hs hw h1) wpSs_ok, h I H σ F en _ fun r Γ1 I1 H1 v F1 h1 st1 en1 => h1 I1 H1 σ F1 v en1 _ fun Γ2 I2 H2 σ2 F2 h2 st2 en2 => h2 I2 H2 σ2 F2 en2 D (ek.step (st1.trans st2))⟩
end
end TL

/-! TL9: data compared, sorted, written. -/
namespace TL
open PySem PySem.Spec PyProof.Rows L2

/-! ### from data to what the heap reads -/
mutual
theorem Rp.dp {T : TC} {I : Hp} : ∀ {v : V} {d : PyData}, Rp T I v d → d.plain = true → Dp T.K I v d
  | _, _, .non, _ => .non
  | _, _, .bl b, _ => .bl b
  | _, _, .int i, _ => .int i
  | _, _, .str x, _ => .str x
  | _, _, .lst h r, p => .lst h (RpL.dp r (by simpa only [PyData.plain] using p))
  | _, _, .tup h r, p => .tup h (RpL.dp r (by simpa only [PyData.plain] using p))
  | _, _, .dk _ _ _, p => by simp [PyData.plain] at p
  | _, _, .dn _ _ _ _ _, p => by simp [PyData.plain] at p
  | _, _, .tn _ _ _ _, p => by simp [PyData.plain] at p
theorem RpL.dp {T : TC} {I : Hp} : ∀ {vs : List V} {ds : List PyData}, RpL T I vs ds → PyData.plainAll ds = true → DpAll T.K I vs ds
  | _, _, .nil, _ => .nil
  | _, _, .cons h r, p => by
    simp only [PyData.plainAll, Bool.and_eq_true] at p
    exact .cons (Rp.dp h p.1) (RpL.dp r p.2)
end
section
variable {X : Cx} {pins : List (Addr × Obj)} {σ : L2.St} {H : Hp} {s : Shared}
theorem Rp.reads (I : Inv X pins σ H s) {d : PyData} {v : V} {u : Value} (h : Rp X.tc H v d) (p : d.plain = true) (r : RelV v u) : ∃ as, Reads s.heap u d as := Dp.reads I d v u (h.dp p) r
theorem RpL.reads (I : Inv X pins σ H s) {ds : List PyData} {vs : List V} {us : List Value} (h : RpL X.tc H vs ds) (p : PyData.plainAll ds = true) (r : Vals vs us) : ∃ as, ReadsAll s.heap us ds as := Dp.readsAll I ds vs us (h.dp p) r
theorem room60 {n m : Nat} (hu : X.A.units + 64 < cLine) (h : n ≤ 60) : X.A.units + min n m < cLine := by
  have := Nat.min_le_left n m
  omega

/-! ### ==, !=, < -/
def rEqP (T : TC) : R2 := fun x y H Q => ∃ d e, Rp T H x d ∧ Rp T H y e ∧ d.plain = true ∧ e.plain = true ∧ d.depth ≤ 60 ∧ Q (.bl (PyData.eqv d e)) H
def rNeP (T : TC) : R2 := fun x y H Q => ∃ d e, Rp T H x d ∧ Rp T H y e ∧ d.plain = true ∧ e.plain = true ∧ d.depth ≤ 60 ∧ Q (.bl (!PyData.eqv d e)) H
def rLtP (T : TC) : R2 := fun x y H Q => ∃ d e, Rp T H x d ∧ Rp T H y e ∧ d.plain = true ∧ e.plain = true ∧ PySem.W.alike d e = true ∧ d ≠ .none ∧ d.depth ≤ 60 ∧ Q (.bl (PySem.W.dataLt d e)) H
theorem op_eqP (hu : X.A.units + 64 < cLine) : OpR X (compareOp .Eq) (rEqP X.tc) := by
  rintro pins s σ H x y v u Q I rx ry ⟨d, e, hd, he, pd, pe, hh, q⟩
  obtain ⟨as, r1⟩ := hd.reads I pd rx
  obtain ⟨bs, r2⟩ := he.reads I pe ry
  exact SeqAt.eq_plain r1 r2 pd pe (room60 hu hh) ⟨.bl _, H, I, rfl, q⟩
theorem op_neP (hu : X.A.units + 64 < cLine) : OpR X (compareOp .NotEq) (rNeP X.tc) := by
  rintro pins s σ H x y v u Q I rx ry ⟨d, e, hd, he, pd, pe, hh, q⟩
  obtain ⟨as, r1⟩ := hd.reads I pd rx
  obtain ⟨bs, r2⟩ := he.reads I pe ry
  exact SeqAt.rcNe_plain r1 r2 pd pe (room60 hu hh) _ _ _ _ ⟨.bl _, H, I, rfl, q⟩
theorem op_ltP (hu : X.A.units + 64 < cLine) : OpR X (compareOp .Lt) (rLtP X.tc) := by
  rintro pins s σ H x y v u Q I rx ry ⟨d, e, hd, he, pd, pe, al, nn, hh, q⟩
  obtain ⟨as, r1⟩ := hd.reads I pd rx
  obtain ⟨bs, r2⟩ := he.reads I pe ry
  exact PySem.W.rcLt_alike d e _ _ _ _ _ _ r1 r2 al nn (room60 hu hh) _ _ _ _ ⟨.bl _, H, I, rfl, q⟩
end

section
variable {X : Cx} {e a b c o : Expr} {es : List Expr} {ss rest : List Stmt} {Γ Γ' Γ1 Γ2 : Sl} {Ψ : OD → Sl → Prop} {Φ : Out → Prop} {Φt : Bool → Sl → Prop} {pos p apos : Pos} {r x y z : OD} {k k' : Bool} {nm : Str} {ds : List PyData} {d d' g : PyData}
theorem o2_eq {T : TC} (pd : d.plain = true) (pe : d'.plain = true) (hd : d.depth ≤ 60) : Op2 T (rEqP T) (.da d) (.da d') (.da (.bool (PyData.eqv d d'))) := Op2.pure fun I H v u h1 h2 s Q k => ⟨d, d', h1.mono s, h2.mono s, pd, pe, hd, k _ (.bl _)⟩
theorem o2_ne {T : TC} (pd : d.plain = true) (pe : d'.plain = true) (hd : d.depth ≤ 60) : Op2 T (rNeP T) (.da d) (.da d') (.da (.bool (!PyData.eqv d d'))) := Op2.pure fun I H v u h1 h2 s Q k => ⟨d, d', h1.mono s, h2.mono s, pd, pe, hd, k _ (.bl _)⟩
theorem o2_lt {T : TC} (pd : d.plain = true) (pe : d'.plain = true) (al : PySem.W.alike d d' = true) (nn : d ≠ .none) (hd : d.depth ≤ 60) : Op2 T (rLtP T) (.da d) (.da d') (.da (.bool (PySem.W.dataLt d d'))) := Op2.pure fun I H v u h1 h2 s Q k => ⟨d, d', h1.mono s, h2.mono s, pd, pe, al, nn, hd, k _ (.bl _)⟩
theorem xt_eqP (hu : X.A.units + 64 < cLine) (ha : XE X a Γ (.da d) Γ1) (hb : XE X b Γ1 (.da d') Γ2) (pd : d.plain = true := by rfl) (pe : d'.plain = true := by rfl) (hd : d.depth ≤ 60 := by simp [PyData.depth]) : XT X (.Compare a [.Eq] [b] pos) Γ (PyData.eqv d d') Γ2 := xt_cmp (op_eqP hu) (nomark _) (o2_eq pd pe hd) ha hb
theorem xe_eqP (hu : X.A.units + 64 < cLine) (ha : XE X a Γ (.da d) Γ1) (hb : XE X b Γ1 (.da d') Γ2) (pd : d.plain = true := by rfl) (pe : d'.plain = true := by rfl) (hd : d.depth ≤ 60 := by simp [PyData.depth]) : XE X (.Compare a [.Eq] [b] pos) Γ (.da (.bool (PyData.eqv d d'))) Γ2 := xe_cmp (op_eqP hu) (nomark _) (o2_eq pd pe hd) ha hb
theorem xt_neP (hu : X.A.units + 64 < cLine) (ha : XE X a Γ (.da d) Γ1) (hb : XE X b Γ1 (.da d') Γ2) (pd : d.plain = true := by rfl) (pe : d'.plain = true := by rfl) (hd : d.depth ≤ 60 := by simp [PyData.depth]) : XT X (.Compare a [.NotEq] [b] pos) Γ (!PyData.eqv d d') Γ2 := xt_cmp (op_neP hu) (nomark _) (o2_ne pd pe hd) ha hb
theorem xt_ltP (hu : X.A.units + 64 < cLine) (ha : XE X a Γ (.da d) Γ1) (hb : XE X b Γ1 (.da d') Γ2) (pd : d.plain = true) (pe : d'.plain = true) (al : PySem.W.alike d d' = true) (nn : d ≠ .none) (hd : d.depth ≤ 60) : XT X (.Compare a [.Lt] [b] pos) Γ (PySem.W.dataLt d d') Γ2 := xt_cmp (op_ltP hu) (nomark _) (o2_lt pd pe al nn hd) ha hb
theorem eqv_int (i j : Int) : PyData.eqv (.int i) (.int j) = decide (i = j) := by
  simp only [PyData.eqv]
  rw [Bool.eq_iff_iff, beq_iff_eq, decide_eq_true_eq]
theorem eqv_str (i j : Str) : PyData.eqv (.str i) (.str j) = decide (i = j) := by
  simp only [PyData.eqv]
  rw [Bool.eq_iff_iff, beq_iff_eq, decide_eq_true_eq]
theorem xt_eqI {i j : Int} (hu : X.A.units + 64 < cLine) (ha : XE X a Γ (.da (.int i)) Γ1) (hb : XE X b Γ1 (.da (.int j)) Γ2) : XT X (.Compare a [.Eq] [b] pos) Γ (decide (i = j)) Γ2 := by
  have q := xt_eqP (pos := pos) hu ha hb
  rw [eqv_int] at q
  exact q
theorem xe_eqI {i j : Int} (hu : X.A.units + 64 < cLine) (ha : XE X a Γ (.da (.int i)) Γ1) (hb : XE X b Γ1 (.da (.int j)) Γ2) : XE X (.Compare a [.Eq] [b] pos) Γ (.da (.bool (decide (i = j)))) Γ2 := by
  have q := xe_eqP (pos := pos) hu ha hb
  rw [eqv_int] at q
  exact q
theorem xt_neI {i j : Int} (hu : X.A.units + 64 < cLine) (ha : XE X a Γ (.da (.int i)) Γ1) (hb : XE X b Γ1 (.da (.int j)) Γ2) : XT X (.Compare a [.NotEq] [b] pos) Γ (!decide (i = j)) Γ2 := by
  have q := xt_neP (pos := pos) hu ha hb
  rw [eqv_int] at q
  exact q

/-! ### repr -/
def rRepr (T : TC) : List V → Hp → VK → Prop := fun xs H Q => ∃ v d, xs = [v] ∧ Rp T H v d ∧ d.plain = true ∧ d.showable = true ∧ d.hasDict = false ∧ d.depth ≤ 60 ∧ d.shown.length ≤ sizeLine ∧ Q (.str d.shown) H
theorem shown_none' : (PyData.none).shown = ("None" : Str) := PyData.shown_none
theorem call_reprP (hu : X.A.units + 64 < cLine) (hg : X.A.guards = some []) : CallR X (.builtin "repr") (rRepr X.tc) := by
  rintro pins s σ H xs us Q I r ⟨v, d, rfl, hd, pd, sh, nd, hh, hz, q⟩
  cases r with
  | cons rv r =>
    cases r
    obtain ⟨as, rr⟩ := hd.reads I pd rv
    have fin : ∀ (h' : Heap) (u : Tok) (tk : Nat), (∀ b o, s.heap.get? b = some o → h'.get? b = some o) → EP X pins σ Q (.str d.shown u) { s with heap := h', toks := tk } := fun h' u tk kp => ⟨.str d.shown, H, I.kept (t' := tk) kp, ⟨u, rfl⟩, q⟩
    cases rr with
    | none =>
      rw [PyData.shown_none] at fin
      exact P.repr_of_none (fin _ _ _ fun _ _ e => e)
    | bool b =>
      rw [PyData.shown_bool] at fin
      exact P.repr_of_bool (fin _ _ _ fun _ _ e => e)
    | int i t =>
      rw [PyData.shown_int] at fin
      exact P.repr_of_int (of_decide_eq_true sh) (fin _ _ _ fun _ _ e => e)
    | str x t =>
      rw [PyData.shown_str] at fin hz
      exact P.repr_of_str (fin _ _ _ fun _ _ e => e) hz
    | list h1 h2 h3 h4 => exact repr_of_reads' (h₀ := s.heap) (.list h1 h2 h3 h4) sh (fun e => by rw [nd] at e; cases e) hg (by omega) (fun _ _ e => e) (fun h' u tk kp => fin h' u tk kp) hz
    | tuple h1 h2 h3 h4 => exact repr_of_reads' (h₀ := s.heap) (.tuple h1 h2 h3 h4) sh (fun e => by rw [nd] at e; cases e) hg (by omega) (fun _ _ e => e) (fun h' u tk kp => fin h' u tk kp) hz
    | dict h1 h2 h3 h4 h5 => simp [PyData.plain] at pd
theorem xe_repr (B : Blt X.mg) (hu : X.A.units + 64 < cLine) (hgd : X.A.guards = some []) (ha : XE X a Γ (.da d) Γ1) (pd : d.plain = true) (sh : d.showable = true) (nd : d.hasDict = false) (hh : d.depth ≤ 60) (hz : d.shown.length ≤ sizeLine) (hg : Gl X "repr" := by rfl)
    (he : starEach [a] X.env = (false, eval a X.env) :: starEach [] X.env := by rfl) (hpl : (backTo pos (starEach [] X.env)).any (·.1) = false := by rfl) : XE X (.Call (.Name "repr" p) [a] [] pos) Γ (.da (.str d.shown)) Γ1 :=
  xe_callB1 (call_reprP hu hgd) (OpL.pure (ds := [d]) fun I H vs r s Q k => by
    obtain ⟨v, rfl, h⟩ := rpL1 r
    exact ⟨v, d, rfl, h.mono s, pd, sh, nd, hh, hz, k _ (.str _)⟩) hg B.repr (by decide +kernel) ha (he := he) (hpl := hpl)

/-! ### sorted of a list -/
theorem each_rel {T : TC} {H : Hp} : ∀ {vs : List V} {us : List Value} {ds : List PyData}, RpL T H vs ds → Vals vs us → PySem.W.EachIs (fun u d => ∃ v, RelV v u ∧ Rp T H v d) us ds
  | _, _, _, .nil, .nil => .nil
  | _, _, _, .cons h r, .cons q t => .cons ⟨_, q, h⟩ (each_rel r t)
theorem each_back {T : TC} {H : Hp} : ∀ {us : List Value} {ds : List PyData}, PySem.W.EachIs (fun u d => ∃ v, RelV v u ∧ Rp T H v d) us ds → ∃ vs, Vals vs us ∧ RpL T H vs ds
  | _, _, .nil => ⟨[], .nil, .nil⟩
  | _, _, .cons ⟨v, q, h⟩ r => by
    obtain ⟨vs, t, r'⟩ := each_back r
    exact ⟨v :: vs, .cons q t, .cons h r'⟩
theorem each_imp {α β : Type} {R R' : α → β → Prop} : ∀ {as : List α} {bs : List β}, PySem.W.EachIs R as bs → (∀ a b, b ∈ bs → R a b → R' a b) → PySem.W.EachIs R' as bs
  | _, _, .nil, _ => .nil
  | _, _, .cons h r, k => .cons (k _ _ List.mem_cons_self h) (each_imp r fun a b hb => k a b (List.mem_cons_of_mem _ hb))
def sortD (ds : List PyData) : List PyData := ds.mergeSort (PySem.W.dataLe false id)
def rSorted (T : TC) : List V → Hp → VK → Prop := fun xs H Q => ∃ I p vs ds, xs = [.ref p] ∧ Same I H ∧ SqL T.K H p vs ∧ RpL T I vs ds ∧ PyData.plainAll ds = true ∧ PySem.W.AllAlike ds ∧ PySem.W.Sortable ds ∧ ds.length ≤ sizeLine ∧ (∀ d ∈ ds, d.depth ≤ 60) ∧
  ∀ l ws, H l = none → RpL T I ws (sortD ds) → Q (.ref l) (upd H l (.lst ws))
theorem plainAll_mem : ∀ {ds : List PyData} {d : PyData}, PyData.plainAll ds = true → d ∈ ds → d.plain = true
  | [], _, _, h => by cases h
  | x :: xs, d, hp, h => by
    simp only [PyData.plainAll, Bool.and_eq_true] at hp
    rcases List.mem_cons.mp h with rfl | h
    · exact hp.1
    · exact plainAll_mem hp.2 h
theorem call_sortedP (hu : X.A.units + 70 < cLine) : CallR X (.builtin "sorted") (rSorted X.tc) := by
  rintro pins s σ H xs us Q I r ⟨I0, q, vs, ds, rfl, sub, hs, hr, hp, al, so, hl, hd, k⟩
  cases r with
  | cons rv r =>
    cases r
    cases rv
    obtain ⟨its, rv, pl, hz⟩ := I.list hs
    have er : PySem.W.EachIs (fun u d => ∃ as, Reads s.heap u d as) its ds := each_imp (each_rel hr rv) fun u d hm ⟨v, q, h⟩ => (h.mono sub).reads I (plainAll_mem hp hm) q
    have al' : PySem.W.AllAlike (ds.map id) := by rw [List.map_id]; exact al
    have so' : PySem.W.Sortable (ds.map id) := by rw [List.map_id]; exact so
    refine PySem.W.sorted_data (enc := id) (R := fun u d => ∃ v, RelV v u ∧ Rp X.tc I0 v d) pl.isList (each_rel hr rv) er al' so' hl (fun d hm => ?_) fun out ho eo => ?_
    · have h1 := hd d hm
      show X.A.units + 2 + d.depth < cLine
      omega
    · obtain ⟨ws, w1, w2⟩ := each_back eo
      obtain ⟨c, hc⟩ := sortedAll_at s.heap its out.toArray
      have hn : H (s.heap.objs.size + 1) = none := I.hok.fresh (Nat.le_succ _)
      have hlen : ws.length ≤ sizeLine := by
        rw [w1.length, ho]
        exact hl
      exact ⟨.ref (s.heap.objs.size + 1), upd H (s.heap.objs.size + 1) (.lst ws), I.laid (t' := s.toks) (fun b o e => sortedAll_old e) (Nat.le_succ _) ⟨hlen, out, c, w1, hc⟩, rfl, k _ ws hn w2⟩
theorem opl_sorted {T : TC} (hp : PyData.plainAll ds = true) (al : PySem.W.AllAlike ds) (so : PySem.W.Sortable ds) (hl : ds.length ≤ sizeLine) (hd : ∀ d ∈ ds, d.depth ≤ 60) : OpL T (rSorted T) [.da (.list ds)] (.ll (sortD ds)) := fun I H vs B o nd sub Q k => by
  obtain ⟨rfl, r⟩ := ownL_da (ds := [.list ds]) o
  obtain ⟨v, rfl, h⟩ := rpL1 r
  cases h with
  | lst q r => 
    exact ⟨I, _, _, ds, rfl, sub, sub.seq q, r, hp, al, so, hl, hd, fun l ws hn hw => k I _ _ [l] (step_new hn) (.ll upd_same (sub.free hn) hw) (by simp) (upd_sub sub hn)⟩
end
end TL

/-! TL10: what loops walk; list comprehensions. -/
namespace TL
open PySem PySem.Spec PyProof.Rows L2

/-! ### what is walked -/
theorem isit_list {T : TC} {I : Hp} {a : Addr} {vs : List V} {ds : List PyData} (h : SqL T.K I a vs) (r : RpL T I vs ds) : IsIt T (Itl T.K a) ds I where
  go := fun i I' H s s' hi => by
    have hi' : i < vs.length := by rw [r.length]; exact hi
    exact ⟨vs, vs[i], (s.trans s').seq h, by simp [hi']⟩
  stop := fun I' H s s' => ⟨vs, (s.trans s').seq h, Nat.le_of_eq r.length⟩
  yld := fun i I' H v H' s s' hi y => by
    obtain ⟨rfl, y⟩ := y
    obtain ⟨d, hd, hr⟩ := r.get' (y vs ((s.trans s').seq h))
    exact ⟨I', d, hd, .refl, s', hr.mono s⟩
theorem isit_tup {T : TC} {I : Hp} {a : Addr} {vs : List V} {ds : List PyData} (h : SqT T.K I a vs) (r : RpL T I vs ds) : IsIt T (Itt T.K a) ds I where
  go := fun i I' H s s' hi => by
    have hi' : i < vs.length := by rw [r.length]; exact hi
    exact ⟨vs, vs[i], sqT_mono (s.trans s') h, by simp [hi']⟩
  stop := fun I' H s s' => ⟨vs, sqT_mono (s.trans s') h, Nat.le_of_eq r.length⟩
  yld := fun i I' H v H' s s' hi y => by
    obtain ⟨rfl, y⟩ := y
    obtain ⟨d, hd, hr⟩ := r.get' (y vs (sqT_mono (s.trans s') h))
    exact ⟨I', d, hd, .refl, s', hr.mono s⟩
/-- lo, lo + 1, .. -/
def rangeD (lo : Int) (n : Nat) : List PyData := (List.range n).map fun i => .int (lo + (i : Nat))
theorem rangeD_len {lo : Int} {n : Nat} : (rangeD lo n).length = n := by simp [rangeD]
theorem isit_range {T : TC} {I : Hp} {lo : Int} {n : Nat} : IsIt T (Itr lo n) (rangeD lo n) I where
  go := fun i I' H s s' hi => by rw [rangeD_len] at hi; exact hi
  stop := fun I' H s s' => Nat.le_of_eq rangeD_len.symm
  yld := fun i I' H v H' s s' hi y => by
    obtain ⟨rfl, rfl⟩ := y
    rw [rangeD_len] at hi
    exact ⟨I', .int (lo + (i : Nat)), by simp [rangeD, hi], .refl, s', .int _⟩
/-- pairs, each laid anew -/
theorem isit_pairs {T : TC} {I : Hp} {J : It} {ds es : List PyData} {Y : Nat → Option V} {Z : Nat → Option V} {n : Nat} {G : Hp → Prop} (w : Walk J n G (YPair Y Z)) (hG : ∀ I' H, Same I I' → Same I' H → G H) (h1 : ds.length = n) (h2 : es.length = n)
    (hY : ∀ i v, Y i = some v → ∃ d, ds[i]? = some d ∧ Rp T I v d) (hZ : ∀ i v, Z i = some v → ∃ d, es[i]? = some d ∧ Rp T I v d) : IsIt T J (List.zipWith (fun d e => .tuple [d, e]) ds es) I := by
  have hl : (List.zipWith (fun d e => PyData.tuple [d, e]) ds es).length = n := by rw [List.length_zipWith, h1, h2, Nat.min_self]
  refine ⟨fun i I' H s s' hi => w.goes i H (by rw [hl] at hi; exact hi) (hG I' H s s'), fun I' H s s' => by rw [hl]; exact w.stops H (hG I' H s s'), fun i I' H v H' s s' hi y => ?_⟩
  rw [hl] at hi
  obtain ⟨t, x, z, rfl, ht, rfl, e1, e2⟩ := w.yields i H v H' hi (hG I' H s s') y
  obtain ⟨d, q1, r1⟩ := hY i x e1
  obtain ⟨e, q2, r2⟩ := hZ i z e2
  have up : Same I' (upd I' t (.tup [x, z])) := upd_up (s'.free ht)
  exact ⟨upd I' t (.tup [x, z]), .tuple [d, e], by rw [List.getElem?_zipWith, q1, q2], step_frz s' ht, upd_both s', .tup (SqT.of upd_same) (.cons (r1.mono (s.trans up)) (.cons (r2.mono (s.trans up)) .nil))⟩

section
variable {X : Cx} {e a b c o tg it : Expr} {es : List Expr} {ss rest : List Stmt} {Γ Γ' Γ1 Γ2 : Sl} {Ψ : OD → Sl → Prop} {Φ : Out → Prop} {Φt : Bool → Sl → Prop} {pos p apos : Pos} {r x y z : OD} {k k' : Bool} {nm : Str} {ds es' : List PyData} {d d' g : PyData}
theorem xi_lst (h : XE X it Γ (.da (.list ds)) Γ1) : XI X tg it Γ ds Γ1 := fun Ψ hq I H σ F en R k => ⟨_, pi_list wpE_ok, h (fun r Γ' => r = .da (.list ds) ∧ Γ' = Γ1) ⟨rfl, rfl⟩ I H σ F en _ (by
  rintro _ _ I1 H1 v F1 ⟨rfl, rfl⟩ st1 en1
  obtain ⟨B, G, rfl, oo, en2, up⟩ := en1.pop
  cases oo with
  | da hd => cases hd with
    | lst q r => exact ⟨_, rfl, ⟨_, en2.sub.seq q⟩, k ds _ I1 H1 _ _ hq st1 en2 (isit_list q r)⟩)⟩
theorem xi_tup (h : XE X it Γ (.da (.tuple ds)) Γ1) : XI X tg it Γ ds Γ1 := fun Ψ hq I H σ F en R k => ⟨_, pi_tup wpE_ok, h (fun r Γ' => r = .da (.tuple ds) ∧ Γ' = Γ1) ⟨rfl, rfl⟩ I H σ F en _ (by
  rintro _ _ I1 H1 v F1 ⟨rfl, rfl⟩ st1 en1
  obtain ⟨B, G, rfl, oo, en2, up⟩ := en1.pop
  cases oo with
  | da hd => cases hd with
    | tup q r => exact ⟨_, rfl, ⟨_, sqT_mono en2.sub q⟩, k ds _ I1 H1 _ _ hq st1 en2 (isit_tup q r)⟩)⟩
/-- arguments that are data -/
theorem wa_data (h : WA X es Γ fun rs _ Γ1 => rs = ds.map .da ∧ Γ1 = Γ2) {I H : Hp} {σ : L2.St} {F : List Addr} (en : EnvF X.tc I H σ Γ F) {Q : List V → Hp → Prop}
    (k : ∀ (I' H' : Hp) (vs : List V) (F' : List Addr), RpL X.tc I' vs ds → Step I H F I' H' F' → EnvF X.tc I' H' σ Γ2 F' → Q vs H') : wpA X es σ H Q := h I H σ F en Q (by
  rintro rs refs Γ1 I1 H1 vs F1 ⟨rfl, rfl⟩ l1 l2 rk st1 en1
  obtain ⟨B, G, rfl, ol, en2⟩ := en1.popL l1
  obtain ⟨rfl, r⟩ := ownL_da ol
  exact k I1 H1 vs G r st1 en2)
theorem xa1 (h : XE X a Γ (.da d) Γ1) (hs : starEach [a] X.env = (false, eval a X.env) :: starEach [] X.env := by rfl) : WA X [a] Γ fun rs _ Γ' => rs = [d].map .da ∧ Γ' = Γ1 := wa_cons (h _ (wa_nil ⟨rfl, rfl⟩)) hs
theorem xa2 (h : XE X a Γ (.da d) Γ1) (h2 : XE X b Γ1 (.da d') Γ2) (hs : starEach [a, b] X.env = (false, eval a X.env) :: starEach [b] X.env := by rfl) (hs2 : starEach [b] X.env = (false, eval b X.env) :: starEach [] X.env := by rfl) :
    WA X [a, b] Γ fun rs _ Γ' => rs = [d, d'].map .da ∧ Γ' = Γ2 := wa_cons (h _ (wa_cons (h2 _ (wa_nil ⟨rfl, rfl⟩)) hs2)) hs
theorem xi_range1 {j : Int} (B : Blt X.mg) (h : XE X a Γ (.da (.int j)) Γ1) (h0 : -(2 ^ 62) ≤ j) (h1 : j < 2 ^ 62) (hg : Gl X "range" := by rfl) (hs : starEach [a] X.env = [(false, eval a X.env)] := by rfl) : XI X tg (.Call (.Name "range" p) [a] [] pos) Γ (rangeD 0 j.toNat) Γ1 := fun Ψ hq I H σ F en R k =>
  ⟨_, pi_range1 hg B.range wpA_ok hs, wa_data (xa1 h (by rw [hs]; rfl)) en fun I1 H1 vs F1 r st1 en1 => by
    obtain ⟨v, rfl, hv⟩ := rpL1 r
    cases hv
    exact ⟨j, rfl, h0, h1, k _ _ I1 H1 F1 _ hq st1 en1 isit_range⟩⟩
theorem xi_range2 {i j : Int} (B : Blt X.mg) (h : XE X a Γ (.da (.int i)) Γ1) (h2 : XE X b Γ1 (.da (.int j)) Γ2) (hb : -(2 ^ 62) ≤ i ∧ i < 2 ^ 62 ∧ -(2 ^ 62) ≤ j ∧ j < 2 ^ 62) (hg : Gl X "range" := by rfl) (hs : starEach [a, b] X.env = [(false, eval a X.env), (false, eval b X.env)] := by rfl) (hs2 : starEach [b] X.env = [(false, eval b X.env)] := by rfl) :
    XI X tg (.Call (.Name "range" p) [a, b] [] pos) Γ (rangeD i (j - i).toNat) Γ2 := fun Ψ hq I H σ F en R k =>
  ⟨_, pi_range2 hg B.range wpA_ok hs hs2, wa_data (xa2 h h2 (by rw [hs, hs2]) (by rw [hs2]; rfl)) en fun I1 H1 vs F1 r st1 en1 => by
    obtain ⟨v, u, rfl, hv, hu⟩ := rpL2 r
    cases hv
    cases hu
    exact ⟨i, j, rfl, hb, k _ _ I1 H1 F1 _ hq st1 en1 isit_range⟩⟩
theorem zip_len {ds es : List PyData} : List.zipWith (fun d e => PyData.tuple [d, e]) ds es = List.zipWith (fun d e => PyData.tuple [d, e]) (ds.take (min ds.length es.length)) (es.take (min ds.length es.length)) := by
  refine List.ext_getElem? fun i => ?_
  rw [List.getElem?_zipWith, List.getElem?_zipWith, List.getElem?_take, List.getElem?_take]
  by_cases h : i < min ds.length es.length
  · rw [if_pos h, if_pos h]
  · rw [if_neg h, if_neg h]
    have : ds[i]? = none ∨ es[i]? = none := by
      rw [List.getElem?_eq_none_iff, List.getElem?_eq_none_iff]
      omega
    rcases this with q | q
    · rw [q]
    · rw [q]
      cases ds[i]? <;> rfl
end

/-! ### comprehensions -/
def dropΓ (vs : List Nat) (Γ : Sl) : Sl := vs.foldr (fun i Γ => Γ.set i none) Γ
section
variable {T : TC} {I H : Hp} {σ : L2.St} {Γ : Sl} {F : List Addr}
theorem env_drop : ∀ (vs : List Nat) {F : List Addr}, EnvF T I H σ Γ F → ∃ F', EnvF T I H (wipe σ vs) (dropΓ vs Γ) F' ∧ ∀ b ∈ F', b ∈ F
  | [], F, en => ⟨F, en, fun b hb => hb⟩
  | v :: vs, F, en => by
    obtain ⟨F', en', m⟩ := env_drop vs en
    show ∃ F2, EnvF T I H ((wipe σ vs).set v none) ((dropΓ vs Γ).set v none) F2 ∧ _
    by_cases hv : v < (dropΓ vs Γ).length
    · obtain ⟨A, B, C, rfl, _, h5, _⟩ := en'.env.put hv
      have sl : (A ++ C).Sublist (A ++ (B ++ C)) := (List.Sublist.refl A).append (List.sublist_append_right B C)
      exact ⟨_, ⟨h5 none, en'.nd.sublist sl, en'.sub⟩, fun b hb => m b (sl.subset hb)⟩
    · have hl := en'.env.length
      rw [List.set_eq_of_length_le (by omega), List.set_eq_of_length_le (by omega)]
      exact ⟨F', en', m⟩
theorem env_undrop : ∀ (vs : List Nat) {F : List Addr}, EnvF T I H (wipe σ vs) Γ F → ∃ F', EnvF T I H σ (dropΓ vs Γ) F' ∧ ∀ b ∈ F', b ∈ F := by
  intro vs F en
  obtain ⟨F1, en1, m1⟩ := env_drop vs en
  refine ⟨F1, ⟨?_, en1.nd, en1.sub⟩, m1⟩
  -- the wiped slots are not spoken of
  have key : ∀ (σ1 σ2 : L2.St) (Γ : Sl) (F : List Addr), EnvL T I H σ1 Γ F → σ1.length = σ2.length → (∀ (i : Nat) (x : OD), Γ[i]? = some (some x) → σ1[i]? = σ2[i]?) → EnvL T I H σ2 Γ F := by
    intro σ1 σ2 Γ F h
    induction h generalizing σ2 with
    | nil => intro hl _; cases σ2 with
      | nil => exact .nil
      | cons _ _ => simp at hl
    | skip _ ih => intro hl he; cases σ2 with
      | nil => simp at hl
      | cons o σ2 => exact .skip (ih σ2 (by simpa using hl) fun i x q => by simpa using he (i + 1) x (by simpa using q))
    | cons o _ ih => intro hl he; cases σ2 with
      | nil => simp at hl
      | cons o2 σ2 =>
        have e0 := he 0 _ rfl
        simp at e0
        subst e0
        exact .cons o (ih σ2 (by simpa using hl) fun i x q => by simpa using he (i + 1) x (by simpa using q))
  refine key _ σ _ _ en1.env (by rw [wipe_length, wipe_length]) fun i x q => ?_
  -- a slot that is spoken of is none of vs
  have hn : i ∉ vs := by
    clear key en1 m1 en
    induction vs with
    | nil => simp
    | cons v vs ih =>
      have q' : ((dropΓ vs Γ).set v none)[i]? = some (some x) := q
      by_cases hv : v = i
      · subst hv
        by_cases hl : v < (dropΓ vs Γ).length
        · rw [List.getElem?_set_self hl] at q'
          cases q'
        · rw [List.getElem?_eq_none (by simpa using hl)] at q'
          cases q'
      · rw [List.getElem?_set_ne hv] at q'
        simp only [List.mem_cons, not_or]
        exact ⟨fun e => hv e.symm, ih q'⟩
  have wipe_out : ∀ (vs : List Nat) (σ : L2.St), i ∉ vs → (wipe σ vs)[i]? = σ[i]? := by
    intro vs
    induction vs with
    | nil => exact fun _ _ => rfl
    | cons v vs ih =>
      intro σ hm
      simp only [List.mem_cons, not_or] at hm
      unfold wipe
      rw [List.getElem?_set_ne (fun e => hm.1 e.symm)]
      exact ih σ hm.2
  rw [wipe_out vs _ hn, wipe_out vs _ hn]
theorem wipe_set {i : Nat} {o : Option V} : ∀ {vs : List Nat}, i ∈ vs → wipe (σ.set i o) vs = wipe σ vs
  | [], h => by cases h
  | v :: vs, h => by
    unfold wipe
    by_cases hi : i = v
    · subst hi
      -- outer set covers it
      have q : ∀ (vs : List Nat) (σ : L2.St), (wipe (σ.set i o) vs).set i none = (wipe σ vs).set i none := by
        intro vs
        induction vs with
        | nil => exact fun σ => List.set_set ..
        | cons w vs ih =>
          intro σ
          unfold wipe
          by_cases hw : w = i
          · subst hw
            rw [ih]
          · rw [List.set_comm _ _ hw, ih, List.set_comm _ _ hw]
      exact q vs σ
    · rw [wipe_set (List.mem_of_ne_of_mem hi h)]
end
def WGc (X : Cx) (vs : List Nat) (tg : Expr) (r : PyData) (Γ : Sl) (Ψ : Sl → Prop) : Prop := ∀ (I H : Hp) (σ : L2.St) (F : List Addr) (v : V), EnvF X.tc I H σ Γ F → Rp X.tc I v r → ∀ Q : L2.St → Hp → Prop,
  (∀ (Γ' : Sl) (I' H' : Hp) (σ' : L2.St) (F' : List Addr), Ψ Γ' → Step I H F I' H' F' → EnvF X.tc I' H' σ' Γ' F' → wipe σ' vs = wipe σ vs → Q σ' H') → wpG X tg v σ H Q
def WGsc (X : Cx) (vs : List Nat) (ts : List Expr) (rs : List PyData) (Γ : Sl) (Ψ : Sl → Prop) : Prop := ∀ (I H : Hp) (σ : L2.St) (F : List Addr) (us : List V), EnvF X.tc I H σ Γ F → RpL X.tc I us rs → ∀ Q : L2.St → Hp → Prop,
  (∀ (Γ' : Sl) (I' H' : Hp) (σ' : L2.St) (F' : List Addr), Ψ Γ' → Step I H F I' H' F' → EnvF X.tc I' H' σ' Γ' F' → wipe σ' vs = wipe σ vs → Q σ' H') → wpGs X ts us σ H Q
section
variable {X : Cx} {e a b c o tg it elt : Expr} {es ts ifs : List Expr} {ss rest : List Stmt} {Γ Γ' Γ1 Γ2 : Sl} {Ψ : OD → Sl → Prop} {Ψg : Sl → Prop} {Φ : Out → Prop} {Φt : Bool → Sl → Prop} {pos p apos : Pos} {r x y z : OD} {k k' : Bool} {nm : Str} {ds rs : List PyData} {d d' g : PyData} {vs : List Nat}
theorem gc_name (i : Nat) (hN : X.N.Nodup) (h : Ψg (Γ.set i (some (.da d)))) (hm : i ∈ vs := by simp) (hi : X.N[i]? = some nm := by rfl) (hx : Loc X.env.scope nm := by first | exact Or.inl rfl | exact Or.inr rfl) (hl : Nat.blt i Γ.length = true := by rfl)
    (hf : X.fn nm = true ∨ X.env.scope.names.lookup nm = some .local := by first | exact .inl rfl | exact .inr rfl) : WGc X vs (.Name nm p) d Γ Ψg := fun I H σ F v en hr Q k => by
  obtain ⟨F2, en2, m2⟩ := (en.da hr).store (Nat.le_of_ble_eq_true hl)
  exact ⟨_, pg_name hN hi hx hf, k _ I H _ F2 h (Step.less m2) en2 (wipe_set hm)⟩
theorem gsc_nil (h : Ψg Γ) : WGsc X vs [] [] Γ Ψg := fun I H σ F us en r Q k => ⟨_, pgs_nil, by cases r; rfl, k Γ I H σ F h .refl en rfl⟩
theorem gsc_cons (h : WGc X vs e d Γ fun Γ1 => WGsc X vs ts rs Γ1 Ψg) (hs : (assignEach (e :: ts) X.env).map (·.2) = assign e X.env :: (assignEach ts X.env).map (·.2) := by rfl) : WGsc X vs (e :: ts) (d :: rs) Γ Ψg := fun I H σ F us en r Q k => by
  cases r with
  | cons h1 r => exact ⟨_, pgs_cons wpG_ok wpGs_ok hs, _, _, rfl, h I H σ F _ en h1 _ fun Γ1 I1 H1 σ1 F1 h2 st1 en1 w1 => h2 I1 H1 σ1 F1 _ en1 (r.mono st1.inc) Q fun Γ' I' H' σ' F' q st en' w2 => k Γ' I' H' σ' F' q (st1.trans st) en' (w2.trans w1)⟩
theorem gc_tup {n : Nat} (hc : X.calm = true) (h : WGsc X vs ts rs Γ Ψg) (hn : (assignEach ts X.env).length = rs.length := by rfl) (hst : (assignEach ts X.env).findIdx? (·.1) = none := by rfl) : WGc X vs (.Tuple ts n pos) (.tuple rs) Γ Ψg := fun I H σ F v en hr Q k => by
  cases hr with
  | tup q r => exact ⟨_, pg_tup hc wpGs_ok hn hst, _, _, rfl, sqT_mono en.sub q, r.length, h I H σ F _ en r Q k⟩
def wpTs (X : Cx) (ifs : List Expr) : TT := fun σ H Q => ∃ t, PTs X ifs t ∧ t σ H Q
theorem wpTs_ok {ifs : List Expr} : PTs X ifs (wpTs X ifs) := ⟨fun pins s σ H Q I ⟨_, h, q⟩ => h.run pins s σ H Q I q⟩
def WTs (X : Cx) (ifs : List Expr) (Γ : Sl) (Ψ : Bool → Sl → Prop) : Prop := ∀ (I H : Hp) (σ : L2.St) (F : List Addr), EnvF X.tc I H σ Γ F → ∀ Q : Bool → Hp → Prop,
  (∀ (b : Bool) (Γ' : Sl) (I' H' : Hp) (F' : List Addr), Ψ b Γ' → Step I H F I' H' F' → EnvF X.tc I' H' σ Γ' F' → Q b H') → wpTs X ifs σ H Q
theorem wts_nil (h : Φt true Γ) : WTs X [] Γ Φt := fun I H σ F en Q k => ⟨_, pts_nil, k true Γ I H F h .refl en⟩
theorem wts_one (h : WT X c Γ Φt) : WTs X [c] Γ Φt := fun I H σ F en Q k => ⟨_, pts_one wpT_ok, h I H σ F en Q k⟩

/-- the block of a comprehension -/
abbrev Blk (X : Cx) (scope : Scope) (s : Shared) (H : Hp) (C : Addr) (cl : List (Str × Addr)) (fp : List Addr) : Cx := X.blk s H scope (compEnvC scope cl C X.env) fp
/-- one turn of it -/
def LcTurn (X : Cx) (scope : Scope) (own : List (Str × Nat)) (tg elt : Expr) (ifs : List Expr) (d : PyData) (Γ : Sl) (J0 : Sl → Prop) (J1 : PyData → Sl → Prop) : Prop :=
  ∃ Γ3, (∀ (s : Shared) (H : Hp) (C : Addr) (cl : List (Str × Addr)) (fp : List Addr), WGc (Blk X scope s H C cl fp) (own.map (·.2)) tg d Γ fun Γ' => Γ' = Γ3) ∧
  ∃ Ψ4 : Bool → Sl → Prop, (∀ (s : Shared) (H : Hp) (C : Addr) (cl : List (Str × Addr)) (fp : List Addr), WTs (Blk X scope s H C cl fp) ifs Γ3 Ψ4) ∧ ∀ k Γ4, Ψ4 k Γ4 →
    (k = true → ∀ (s : Shared) (H : Hp) (C : Addr) (cl : List (Str × Addr)) (fp : List Addr), WE (Blk X scope s H C cl fp) elt Γ4 fun r Γ5 => ∃ x, Frz r x ∧ J1 x (dropΓ (own.map (·.2)) Γ5)) ∧ (k = false → J0 (dropΓ (own.map (·.2)) Γ4))
theorem wipe_wipe (vs : List Nat) (σ : L2.St) : wipe (wipe σ vs) vs = wipe σ vs := by
  have q2 : ∀ (w : Nat) (us : List Nat) (τ : L2.St), (wipe (τ.set w none) us).set w none = (wipe τ us).set w none := by
    intro w us
    induction us with
    | nil => exact fun τ => List.set_set ..
    | cons u us ih3 =>
      intro τ
      unfold wipe
      by_cases hu : u = w
      · subst hu
        rw [ih3]
      · rw [List.set_comm _ _ hu, ih3, List.set_comm _ _ hu]
  induction vs with
  | nil => rfl
  | cons w vs ih =>
    show (wipe ((wipe σ vs).set w none) vs).set w none = (wipe σ vs).set w none
    rw [q2, ih]
theorem lc_read {scope : Scope} {own : List (Str × Nat)} (J : List PyData → Nat → Sl → List PyData → Prop)
    (h : WI X tg it Γ fun ds Γ1 => ds.length ≤ sizeLine ∧ J ds 0 (dropΓ (own.map (·.2)) Γ1) [] ∧
      (∀ (n : Nat) (d : PyData) (Γ2 : Sl) (acc : List PyData), ds[n]? = some d → J ds n Γ2 acc → LcTurn X scope own tg elt ifs d Γ2 (fun Γ3 => J ds (n + 1) Γ3 acc) fun x Γ3 => J ds (n + 1) Γ3 (acc ++ [x])) ∧
      ∀ (Γ2 : Sl) (acc : List PyData), J ds ds.length Γ2 acc → Ψ (.ll acc) (dropΓ (own.map (·.2)) Γ2))
    (I H : Hp) (σ : L2.St) (F : List Addr) (en : EnvF X.tc I H σ Γ F) (Q : VK) (k : ∀ (r : OD) (Γ' : Sl) (I' H' : Hp) (v : V) (F' : List Addr), Ψ r Γ' → Step I H F I' H' F' → EnvF X.tc I' H' (some v :: σ) (some r :: Γ') F' → Q v H') :
    tLc (wpI X tg it) (fun v σ H Q => ∀ s H0 C cl fp, wpG (Blk X scope s H0 C cl fp) tg v σ H Q) (fun σ H Q => ∀ s H0 C cl fp, wpTs (Blk X scope s H0 C cl fp) ifs σ H Q) (fun σ H Q => ∀ s H0 C cl fp, wpE (Blk X scope s H0 C cl fp) elt σ H Q) (own.map (·.2)) σ H Q := by
  generalize hvs : own.map (·.2) = vs at h
  refine h I H σ F en _ fun ds Γ1 I1 H1 F1 Jt h1 st1 en1 isit D hD => ?_
  obtain ⟨hsz, j0, turn, fin⟩ := h1
  obtain ⟨F1', en1', m1⟩ := env_drop vs en1
  have en2 : EnvF X.tc I1 (upd H1 D (.lst [])) (wipe σ vs) (dropΓ vs Γ1) F1' := ⟨en1'.env.frame (Same.refl _) fun b hb => by
    obtain ⟨⟨ob, q1⟩, q2⟩ := en1'.env.cells b hb
    exact ⟨upd_ne (ne_of_none q1 hD), q2⟩, en1'.nd, upd_sub en1'.sub hD⟩
  have nD : D ∉ F1' := fun hb => by
    obtain ⟨⟨ob, q1⟩, _⟩ := en1'.env.cells D hb
    rw [hD] at q1
    cases q1
  have st2 : Step I1 H1 F1 I1 (upd H1 D (.lst [])) (D :: F1') := (step_new (F := F1) hD).of_mem (fun b hb => hb) fun b hb => (List.mem_cons.mp hb).elim (fun q => q ▸ List.mem_cons_self) fun q => List.mem_cons_of_mem _ (m1 b q)
  refine ⟨fun n m H' => m = ds.length - n ∧ n ≤ ds.length ∧ ∃ Γ2 I2 F2 acc ws, J ds n Γ2 acc ∧ acc.length ≤ n ∧ H' D = some (.lst ws) ∧ I2 D = none ∧ RpL X.tc I2 ws acc ∧ EnvF X.tc I2 H' (wipe σ vs) Γ2 F2 ∧ D ∉ F2 ∧ Step I1 H1 F1 I2 H' (D :: F2),
    ⟨_, rfl, Nat.zero_le _, dropΓ vs Γ1, I1, F1', [], [], j0, Nat.le_refl _, upd_same, en1.sub.free hD, .nil, en2, nD, st2⟩, ?_⟩
  rintro n m H2 ⟨rfl, hn, Γ2, I2, F2, acc, ws, jn, hacc, hD2, iD2, rws, en3, nD2, st3⟩
  by_cases hlt : n < ds.length
  · refine .inr ⟨isit.go n I2 H2 st3.inc en3.sub hlt, fun H' => ∃ Γ3 I3 F3 acc' ws', J ds (n + 1) Γ3 acc' ∧ acc'.length ≤ n + 1 ∧ H' D = some (.lst ws') ∧ I3 D = none ∧ RpL X.tc I3 ws' acc' ∧ EnvF X.tc I3 H' (wipe σ vs) Γ3 F3 ∧ D ∉ F3 ∧ Step I1 H1 F1 I3 H' (D :: F3),
      fun H' q => ⟨ds.length - (n + 1), by omega, rfl, hlt, q⟩, fun v H3 hy => ?_⟩
    obtain ⟨I3, d, hd, st4, sub3, hr⟩ := isit.yld n I2 H2 v H3 st3.inc en3.sub hlt hy
    obtain ⟨hD3, iD3, _⟩ := st4.oth D _ hD2 iD2 (by simp)
    obtain ⟨en4, st4'⟩ := en3.grow st4 sub3
    obtain ⟨Γ3, tg3, Ψ4, tt4, te5⟩ := turn n d Γ2 acc hd jn
    rw [hvs] at tg3 te5
    intro s0 H0 C0 cl0 fp0
    refine tg3 s0 H0 C0 cl0 fp0 I3 H3 (wipe σ vs) F2 v en4 hr _ ?_
    rintro _ I5 H5 σ5 F5 rfl st5 en5 w5
    rw [wipe_wipe] at w5
    refine ⟨w5, fun s1 H1' C1 cl1 fp1 => tt4 s1 H1' C1 cl1 fp1 I5 H5 σ5 F5 en5 _ fun kb Γ4 I6 H6 F6 h6 st6 en6 => ?_⟩
    have st36 : Step I3 H3 F2 I6 H6 F6 := st5.trans st6
    obtain ⟨hD6, iD6, nD6⟩ := st36.oth D _ hD3 iD3 nD2
    have st16 : Step I1 H1 F1 I6 H6 (D :: F6) := by
      refine ⟨(st3.inc.trans st4.inc).trans st36.inc, fun b ob q1 q2 q3 => ?_⟩
      obtain ⟨g1, g2, g3⟩ := st3.oth b ob q1 q2 q3
      rw [List.mem_cons, not_or] at g3
      obtain ⟨g4, g5, g6⟩ := st4'.oth b ob g1 g2 g3.2
      obtain ⟨g7, g8, g9⟩ := st36.oth b ob g4 g5 g6
      exact ⟨g7, g8, fun q => (List.mem_cons.mp q).elim g3.1 g9⟩
    have rws6 := (rws.mono st4.inc).mono st36.inc
    -- back to the wiped slots
    have back : ∀ {Γ7 : Sl} {I7 H7 : Hp} {F7 : List Addr}, EnvF X.tc I7 H7 σ5 Γ7 F7 → ∃ F8, EnvF X.tc I7 H7 (wipe σ vs) (dropΓ vs Γ7) F8 ∧ ∀ b ∈ F8, b ∈ F7 := fun en7 => by
      obtain ⟨F8, en8, m8⟩ := env_drop vs en7
      rw [w5] at en8
      exact ⟨F8, en8, m8⟩
    cases kb with
    | false =>
      rw [if_neg Bool.false_ne_true]
      obtain ⟨F8, en8, m8⟩ := back en6
      exact ⟨_, I6, F8, acc, ws, (te5 false Γ4 h6).2 rfl, by omega, hD6, iD6, rws6, en8, fun q => nD6 (m8 D q), st16.of_mem (fun b hb => hb) fun b hb => (List.mem_cons.mp hb).elim (fun q => q ▸ List.mem_cons_self) fun q => List.mem_cons_of_mem _ (m8 b q)⟩
    | true =>
      rw [if_pos rfl]
      intro s2 H2' C2 cl2 fp2
      refine (te5 true Γ4 h6).1 rfl s2 H2' C2 cl2 fp2 I6 H6 σ5 F6 en6 _ ?_
      rintro r Γ5 I7 H7 y F7 ⟨x, fz, hj⟩ st7 en7
      obtain ⟨I8, F8, st8, en8⟩ := en7.frz fz
      obtain ⟨B, G, rfl, oo, en9, _⟩ := en8.pop
      cases oo with
      | da hx =>
        have st68 := st7.trans st8
        obtain ⟨hD8, iD8, nD8⟩ := st68.oth D _ hD6 iD6 nD6
        obtain ⟨F9, en10, m9⟩ := back en9
        have nD9 : D ∉ F9 := fun q => nD8 (m9 D q)
        have en11 : EnvF X.tc I8 (upd H7 D (.lst (ws ++ [y]))) (wipe σ vs) (dropΓ vs Γ5) F9 := ⟨en10.env.frame (Same.refl _) fun b hb => ⟨upd_ne fun q => nD9 (q ▸ hb), (en10.env.cells b hb).2⟩, en10.nd, fun b u q => by
          rw [upd_ne fun e => by
            rw [e, iD8] at q
            cases q]
          exact en10.sub b u q⟩
        refine ⟨ws, hD8, by rw [rws.length]; omega, dropΓ vs Γ5, I8, F9, acc ++ [x], ws ++ [y], hj, by simp; omega, upd_same, iD8, RpL.append (rws6.mono st68.inc) (.cons hx .nil), en11, nD9, ?_⟩
        refine ⟨st16.inc.trans st68.inc, fun b ob q1 q2 q3 => ?_⟩
        obtain ⟨g1, g2, g3⟩ := st16.oth b ob q1 q2 q3
        rw [List.mem_cons, not_or] at g3
        obtain ⟨g4, g5, g6⟩ := st68.oth b ob g1 g2 g3.2
        refine ⟨by rw [upd_ne g3.1]; exact g4, g5, fun q => (List.mem_cons.mp q).elim g3.1 fun q => g6 (m9 b q)⟩
  · have e : n = ds.length := by omega
    subst e
    refine .inl ⟨isit.stop I2 H2 st3.inc en3.sub, ?_⟩
    obtain ⟨F3, en4, m4⟩ := env_undrop vs en3
    have nd : (D :: F3).Nodup := List.nodup_cons.mpr ⟨fun q => nD2 (m4 D q), en4.nd⟩
    exact k _ _ I2 H2 (.ref D) (D :: F3) (fin Γ2 acc jn) (st1.trans (st3.of_mem (fun b hb => hb) fun b hb => (List.mem_cons.mp hb).elim (fun q => q ▸ List.mem_cons_self) fun q => List.mem_cons_of_mem _ (m4 b q))) ⟨.cons (.ll hD2 iD2 rws) en4.env, nd, en4.sub⟩
end
end TL

/-! TL11: comprehensions as rules; the frame's facts. -/
namespace TL
open PySem PySem.Spec PyProof.Rows L2

/-- what every rule asks of the context -/
structure Fr (X : Cx) (k : Nat) : Prop where
  nd : X.N.Nodup
  calm : X.calm = true
  own : PassesOwn (model X.prog X.w) X.A X.env X.xe
  room : Room k X.A
  gd : X.A.guards = some []
section
variable {X : Cx} {k : Nat}
theorem Fr.u (f : Fr X k) : X.A.units + 64 < cLine := f.room.units
theorem Fr.u1 (f : Fr X k) : X.A.units + 1 < cLine := by have := f.room.units; omega
theorem Fr.u70 (f : Fr X k) : X.A.units + 70 < cLine := by have := f.room.un; omega
theorem Fr.u0 (f : Fr X k) : X.A.units < cLine := f.room.units0
end
/-- .. in a comprehension's block, whatever it is -/
structure FrB (X : Cx) (k : Nat) : Prop where
  nd : X.N.Nodup
  calm : X.calm = true
  room : Room k X.A
  gd : X.A.guards = some []

section
variable {X : Cx} {e a b c o elt tg it : Expr} {es ifs : List Expr} {ss rest : List Stmt} {Γ Γ' Γ1 Γ2 : Sl} {Ψ : OD → Sl → Prop} {Φ : Out → Prop} {Φt : Bool → Sl → Prop} {pos p apos spos py : Pos} {r x y z : OD} {nm : Str} {ds : List PyData} {d : PyData} {scope : Scope} {own : List (Str × Nat)}
abbrev LcWI (X : Cx) (scope : Scope) (own : List (Str × Nat)) (tg it elt : Expr) (ifs : List Expr) (Γ : Sl) (J : List PyData → Nat → Sl → List PyData → Prop) (Ψ : OD → Sl → Prop) : Prop :=
  WI X tg it Γ fun ds Γ1 => ds.length ≤ sizeLine ∧ J ds 0 (dropΓ (own.map (·.2)) Γ1) [] ∧
      (∀ (n : Nat) (d : PyData) (Γ2 : Sl) (acc : List PyData), ds[n]? = some d → J ds n Γ2 acc → LcTurn X scope own tg elt ifs d Γ2 (fun Γ3 => J ds (n + 1) Γ3 acc) fun x Γ3 => J ds (n + 1) Γ3 (acc ++ [x])) ∧
      ∀ (Γ2 : Sl) (acc : List PyData), J ds ds.length Γ2 acc → Ψ (.ll acc) (dropΓ (own.map (·.2)) Γ2)
theorem we_lc (own : List (Str × Nat)) (J : List PyData → Nat → Sl → List PyData → Prop) (hc : X.calm = true) (hN : X.N.Nodup) (h : LcWI X scope own tg it elt ifs Γ J Ψ)
    (ok : blkC X.N X.env.scope scope own = true := by rfl) (hs : ∀ x, foldedSetIterable it X.env x = pure x := by intro _; rfl) : WE X (.ListComp elt [⟨tg, it, ifs, 0⟩] scope pos) Γ Ψ := fun I H σ F en Q k =>
  ⟨_, pe_lc hc hN wpI_ok (blkOk_by ok) (g := fun v σ H Q => ∀ s H0 C cl fp, wpG (Blk X scope s H0 C cl fp) tg v σ H Q) (tt := fun σ H Q => ∀ s H0 C cl fp, wpTs (Blk X scope s H0 C cl fp) ifs σ H Q) (te := fun σ H Q => ∀ s H0 C cl fp, wpE (Blk X scope s H0 C cl fp) elt σ H Q)
    (fun s H0 C cl fp => ⟨fun pins s' σ H v u Q I r h => wpG_ok.run pins s' σ H v u Q I r (h s H0 C cl fp)⟩) (fun s H0 C cl fp => ⟨fun pins s' σ H Q I h => wpTs_ok.run pins s' σ H Q I (h s H0 C cl fp)⟩) (fun s H0 C cl fp => ⟨fun pins s' σ H Q I h => wpE_ok.run pins s' σ H Q I (h s H0 C cl fp)⟩) hs,
    lc_read J h I H σ F en Q k⟩
/-- y = [..], y a plain local name -/
theorem ws_setLc (i : Nat) (own : List (Str × Nat)) (J : List PyData → Nat → Sl → List PyData → Prop) (hc : X.calm = true) (hN : X.N.Nodup) (h : LcWI X scope own tg it elt ifs Γ J fun r Γ1 => WSs X rest (Γ1.set i (some r)) Φ)
    (hi : X.N[i]? = some nm := by rfl) (hyl : X.env.scope.names.lookup nm = some .local := by rfl) (hl : Nat.blt i Γ.length = true := by rfl) (hsw : swapsWith (.ListComp elt [⟨tg, it, ifs, 0⟩] scope pos) (some (.Name nm py)) spos.line X.env = pure true := by rfl)
    (ok : blkC X.N X.env.scope scope own = true := by rfl) (hs : ∀ x, foldedSetIterable it X.env x = pure x := by intro _; rfl) : WSs X (.Assign [.Name nm py] (.ListComp elt [⟨tg, it, ifs, 0⟩] scope pos) spos :: rest) Γ Φ := fun I H σ F en D ek =>
  ⟨_, pss_cons (ps_setLc hc hN hi hyl hsw wpI_ok (blkOk_by ok) (g := fun v σ H Q => ∀ s H0 C cl fp, wpG (Blk X scope s H0 C cl fp) tg v σ H Q) (tt := fun σ H Q => ∀ s H0 C cl fp, wpTs (Blk X scope s H0 C cl fp) ifs σ H Q) (te := fun σ H Q => ∀ s H0 C cl fp, wpE (Blk X scope s H0 C cl fp) elt σ H Q)
    (fun s H0 C cl fp => ⟨fun pins s' σ H v u Q I r h => wpG_ok.run pins s' σ H v u Q I r (h s H0 C cl fp)⟩) (fun s H0 C cl fp => ⟨fun pins s' σ H Q I h => wpTs_ok.run pins s' σ H Q I (h s H0 C cl fp)⟩) (fun s H0 C cl fp => ⟨fun pins s' σ H Q I h => wpE_ok.run pins s' σ H Q I (h s H0 C cl fp)⟩) hs) wpSs_ok,
    lc_read (Ψ := fun r Γ1 => WSs X rest (Γ1.set i (some r)) Φ) J h I H σ F en (fun v H1 => wpSs X rest D (σ.set i (some v)) H1) fun r Γ1 I1 H1 v F1 h1 st1 en1 => by
      have hl1 : i < Γ1.length := by rw [en.len_eq1 en1]; exact Nat.le_of_ble_eq_true hl
      obtain ⟨F2, en2, m2⟩ := en1.store hl1
      exact h1 I1 H1 _ F2 en2 D (ek.step (step_sub st1 m2))⟩

/-! the deterministic ones -/
/-- one turn that answers, or skips -/
def LcDet (X : Cx) (scope : Scope) (own : List (Str × Nat)) (tg elt : Expr) (ifs : List Expr) (d : PyData) (Γ0 : Sl) (g : Option PyData) : Prop :=
  ∃ Γ3 k, (∀ s H C cl fp, WGc (Blk X scope s H C cl fp) (own.map (·.2)) tg d Γ0 fun Γ' => Γ' = Γ3) ∧ (∀ s H C cl fp, WTs (Blk X scope s H C cl fp) ifs Γ3 fun k' Γ' => k' = k ∧ Γ' = Γ3) ∧ dropΓ (own.map (·.2)) Γ3 = Γ0 ∧
    (k = false → g = none) ∧ (k = true → ∃ x, g = some x ∧ ∀ s H C cl fp, ∃ r, Frz r x ∧ XE (Blk X scope s H C cl fp) elt Γ3 r Γ3)
theorem lc_det {α : Type} {xs : List α} {E : α → PyData} {Γ0 : Sl} {g : α → Option PyData} (hi : XI X tg it Γ (xs.map E) Γ1) (hsz : xs.length ≤ sizeLine) (h0 : dropΓ (own.map (·.2)) Γ1 = Γ0) (turn : ∀ x ∈ xs, LcDet X scope own tg elt ifs (E x) Γ0 (g x)) (hd : dropΓ (own.map (·.2)) Γ0 = Γ0) (hq : Ψ (.ll (xs.filterMap g)) Γ0) :
    LcWI X scope own tg it elt ifs Γ (fun ds' n Γ' acc => ds' = xs.map E ∧ Γ' = Γ0 ∧ acc = (xs.take n).filterMap g) Ψ := by
  refine hi _ ⟨by rw [List.length_map]; exact hsz, ⟨rfl, h0, rfl⟩, ?_, ?_⟩
  · rintro n d _ _ hn ⟨_, rfl, rfl⟩
    rw [List.getElem?_map] at hn
    obtain ⟨x, hx, rfl⟩ := Option.map_eq_some_iff.mp hn
    obtain ⟨Γ3, k, h1, h2, h3, h4, h5⟩ := turn x (List.mem_of_getElem? hx)
    refine ⟨Γ3, h1, _, h2, ?_⟩
    have e : (xs.take (n + 1)).filterMap g = (xs.take n).filterMap g ++ (g x).toList := by
      rw [List.take_succ, hx, List.filterMap_append]
      cases hgd : g x <;> simp [hgd]
    rintro k' Γ4 ⟨rfl, rfl⟩
    refine ⟨fun hk s H C cl fp => ?_, fun hk => ⟨rfl, h3, by rw [e, h4 hk]; simp⟩⟩
    obtain ⟨y, hy, q⟩ := h5 hk
    obtain ⟨r, fz, hr⟩ := q s H C cl fp
    exact hr _ ⟨y, fz, rfl, h3, by rw [e, hy]; rfl⟩
  · rintro _ _ ⟨_, rfl, rfl⟩
    rw [hd, List.length_map, List.take_length]
    exact hq
theorem filterMap_some {α β : Type} {f : α → β} : ∀ {xs : List α}, xs.filterMap (fun x => some (f x)) = xs.map f
  | [] => rfl
  | x :: xs => by
    rw [List.filterMap_cons_some (f := fun x => some (f x)) (b := f x) rfl, filterMap_some, List.map_cons]
theorem filterMap_if {α β : Type} {f : α → β} {p : α → Bool} : ∀ {xs : List α}, xs.filterMap (fun x => if p x then some (f x) else none) = (xs.filter p).map f
  | [] => rfl
  | x :: xs => by
    cases hx : p x
    · rw [List.filterMap_cons_none (by simp [hx]), filterMap_if, List.filter_cons_of_neg (by simp [hx])]
    · rw [List.filterMap_cons_some (b := f x) (by simp [hx]), filterMap_if, List.filter_cons_of_pos hx, List.map_cons]
/-- one for, no if -/
theorem lc_map {α : Type} {xs : List α} {E f : α → PyData} {Γ0 : Sl} {R : α → OD} (Γ3 : α → Sl) (hi : XI X tg it Γ (xs.map E) Γ1) (hsz : xs.length ≤ sizeLine) (h0 : dropΓ (own.map (·.2)) Γ1 = Γ0)
    (hg : ∀ x ∈ xs, ∀ s H C cl fp, WGc (Blk X scope s H C cl fp) (own.map (·.2)) tg (E x) Γ0 fun Γ' => Γ' = Γ3 x) (he : ∀ x ∈ xs, ∀ s H C cl fp, XE (Blk X scope s H C cl fp) elt (Γ3 x) (R x) (Γ3 x)) (hf : ∀ x, Frz (R x) (f x))
    (hd3 : ∀ x, dropΓ (own.map (·.2)) (Γ3 x) = Γ0) (hd : dropΓ (own.map (·.2)) Γ0 = Γ0) (hq : Ψ (.ll (xs.map f)) Γ0) :
    LcWI X scope own tg it elt [] Γ (fun ds' n Γ' acc => ds' = xs.map E ∧ Γ' = Γ0 ∧ acc = (xs.take n).filterMap fun x => some (f x)) Ψ :=
  lc_det hi hsz h0 (fun x hx => ⟨Γ3 x, true, hg x hx, fun _ _ _ _ _ => wts_nil ⟨rfl, rfl⟩, hd3 x, (fun q => Bool.noConfusion q), fun _ => ⟨_, rfl, fun s H C cl fp => ⟨_, hf x, he x hx s H C cl fp⟩⟩⟩) hd (by rw [filterMap_some]; exact hq)
/-- one for, one if -/
theorem lc_fil {α : Type} {xs : List α} {E f : α → PyData} {Γ0 : Sl} {R : α → OD} (pr : α → Bool) (Γ3 : α → Sl) (hi : XI X tg it Γ (xs.map E) Γ1) (hsz : xs.length ≤ sizeLine) (h0 : dropΓ (own.map (·.2)) Γ1 = Γ0)
    (hg : ∀ x ∈ xs, ∀ s H C cl fp, WGc (Blk X scope s H C cl fp) (own.map (·.2)) tg (E x) Γ0 fun Γ' => Γ' = Γ3 x) (ht : ∀ x ∈ xs, ∀ s H C cl fp, XT (Blk X scope s H C cl fp) c (Γ3 x) (pr x) (Γ3 x)) (he : ∀ x ∈ xs, pr x = true → ∀ s H C cl fp, XE (Blk X scope s H C cl fp) elt (Γ3 x) (R x) (Γ3 x)) (hf : ∀ x, Frz (R x) (f x))
    (hd3 : ∀ x, dropΓ (own.map (·.2)) (Γ3 x) = Γ0) (hd : dropΓ (own.map (·.2)) Γ0 = Γ0) (hq : Ψ (.ll ((xs.filter pr).map f)) Γ0) :
    LcWI X scope own tg it elt [c] Γ (fun ds' n Γ' acc => ds' = xs.map E ∧ Γ' = Γ0 ∧ acc = (xs.take n).filterMap fun x => if pr x then some (f x) else none) Ψ :=
  lc_det hi hsz h0 (fun x hx => ⟨Γ3 x, pr x, hg x hx, fun s H C cl fp => wts_one (ht x hx s H C cl fp _ ⟨rfl, rfl⟩), hd3 x, (fun q => by simp [q]), fun q => ⟨f x, by simp [q], fun s H C cl fp => ⟨_, hf x, he x hx q s H C cl fp⟩⟩⟩) hd (by
    rw [filterMap_if]
    exact hq)
end
end TL

/-! TL12: slots read in place; dicts. -/
namespace TL
open PySem PySem.Spec PyProof.Rows L2

/-! ### association lists -/
section
variable {κ β : Type} [DecidableEq κ]
def kget (m : List (κ × β)) (k : κ) : Option β := (m.find? fun q => decide (q.1 = k)).map (·.2)
def kput (m : List (κ × β)) (k : κ) (v : β) : List (κ × β) := if (m.any fun q => decide (q.1 = k)) = true then m.map (fun q => if q.1 = k then (q.1, v) else q) else m ++ [(k, v)]
theorem kget_nil {k : κ} : kget ([] : List (κ × β)) k = none := rfl
theorem kget_cons {p : κ × β} {m : List (κ × β)} {k : κ} : kget (p :: m) k = if p.1 = k then some p.2 else kget m k := by
  unfold kget
  rw [List.find?_cons]
  by_cases h : p.1 = k <;> simp [h]
theorem kget_any {m : List (κ × β)} {k : κ} : (m.any fun q => decide (q.1 = k)) = (kget m k).isSome := by
  induction m with
  | nil => rfl
  | cons p m ih =>
    rw [List.any_cons, ih, kget_cons]
    by_cases h : p.1 = k <;> simp [h]
theorem kget_map_put {m : List (κ × β)} {k k' : κ} {v : β} : kget (m.map fun q => if q.1 = k then (q.1, v) else q) k' = if k' = k then (kget m k').map (fun _ => v) else kget m k' := by
  induction m with
  | nil => simp [kget_nil]
  | cons p m ih =>
    rw [List.map_cons, kget_cons, kget_cons, ih]
    by_cases h : p.1 = k <;> by_cases h2 : p.1 = k' <;> by_cases h3 : k' = k <;> simp_all
theorem kget_append {m n : List (κ × β)} {k : κ} : kget (m ++ n) k = (kget m k).or (kget n k) := by
  induction m with
  | nil => simp [kget_nil]
  | cons p m ih =>
    rw [List.cons_append, kget_cons, kget_cons, ih]
    by_cases h : p.1 = k <;> simp [h]
theorem kget_put {m : List (κ × β)} {k k' : κ} {v : β} : kget (kput m k v) k' = if k' = k then some v else kget m k' := by
  unfold kput
  rw [kget_any]
  cases h : kget m k with
  | none =>
    rw [Option.isSome_none, if_neg (by simp), kget_append, kget_cons, kget_nil]
    by_cases h2 : k' = k
    · subst h2
      simp [h]
    · rw [if_neg (Ne.symm h2), if_neg h2]
      simp
  | some w =>
    rw [Option.isSome_some, if_pos rfl, kget_map_put]
    by_cases h2 : k' = k
    · subst h2
      simp [h]
    · rw [if_neg h2, if_neg h2]
theorem kput_keys {m : List (κ × β)} {k : κ} {v : β} : (kput m k v).map (·.1) = if (kget m k).isSome then m.map (·.1) else m.map (·.1) ++ [k] := by
  unfold kput
  rw [kget_any]
  by_cases h : (kget m k).isSome = true
  · rw [if_pos h, if_pos h, List.map_map]
    refine List.map_congr_left fun p _ => ?_
    by_cases h2 : p.1 = k <;> simp [h2]
  · rw [if_neg h, if_neg h, List.map_append]
    rfl
theorem kget_mem {m : List (κ × β)} {k : κ} : (kget m k).isSome = decide (k ∈ m.map (·.1)) := by
  induction m with
  | nil => rfl
  | cons p m ih =>
    rw [kget_cons]
    by_cases h : p.1 = k
    · rw [if_pos h, List.map_cons, h]
      simp
    · rw [if_neg h, ih, List.map_cons]
      have h' : ¬ k = p.1 := fun q => h q.symm
      simp [List.mem_cons, h']
theorem kget_some_mem {m : List (κ × β)} {k : κ} {v : β} (h : kget m k = some v) : (k, v) ∈ m := by
  unfold kget at h
  obtain ⟨p, h1, rfl⟩ := Option.map_eq_some_iff.mp h
  have h2 := List.find?_some h1
  have h3 := List.mem_of_find?_eq_some h1
  obtain ⟨a, b⟩ := p
  simp at h2
  subst h2
  exact h3
theorem mem_kget {m : List (κ × β)} {k : κ} {v : β} (nd : (m.map (·.1)).Nodup) (h : (k, v) ∈ m) : kget m k = some v := by
  induction m with
  | nil => cases h
  | cons p m ih =>
    rw [List.map_cons, List.nodup_cons] at nd
    rw [kget_cons]
    rcases List.mem_cons.mp h with rfl | h
    · simp
    · have : p.1 ≠ k := fun q => nd.1 (q ▸ List.mem_map_of_mem (f := (·.1)) h)
      rw [if_neg this]
      exact ih nd.2 h
theorem kput_nodup {m : List (κ × β)} {k : κ} {v : β} (nd : (m.map (·.1)).Nodup) : ((kput m k v).map (·.1)).Nodup := by
  rw [kput_keys]
  split
  · exact nd
  · rename_i h
    rw [kget_mem] at h
    refine List.nodup_append.mpr ⟨nd, by simp, fun x hx y hy q => ?_⟩
    simp at hy
    subst hy
    subst q
    simp at h
    obtain ⟨p, hp, hq⟩ := List.mem_map.mp hx
    exact h _ (by rw [← hq]; exact hp)
theorem kput_len {m : List (κ × β)} {k : κ} {v : β} : (kput m k v).length ≤ m.length + 1 := by
  unfold kput
  split <;> simp
end

/-! ### slots read in place -/
def Rd2 (T : TC) (f : R2) (x : OD) (d g : PyData) : Prop := ∀ (I H : Hp) (v u : V) (B : List Addr), Own T I H v x B → Rp T I u d → Same I H → ∀ Q : VK, (∀ w, Rp T I w g → Q w H) → f v u H Q
def Rd1 (T : TC) (f : List V → Hp → VK → Prop) (x z : OD) : Prop := ∀ (I H : Hp) (v : V) (B : List Addr), Own T I H v x B → Same I H → ∀ Q : VK,
  (∀ (I' H' : Hp) (w : V) (B' : List Addr), Step I H [] I' H' B' → Own T I' H' w z B' → B'.Nodup → Same I' H' → Q w H') → f [v] H Q
theorem Rd1.pure {T : TC} {f : List V → Hp → VK → Prop} {x : OD} {g : PyData} (h : ∀ (I H : Hp) (v : V) (B : List Addr), Own T I H v x B → Same I H → ∀ Q : VK, (∀ w, Rp T I w g → Q w H) → f [v] H Q) : Rd1 T f x (.da g) :=
  fun I H v B o s Q k => h I H v B o s Q fun w hw => k I H w [] .refl (.da hw) List.nodup_nil s
theorem Rd1.opl {T : TC} {f : List V → Hp → VK → Prop} {d : PyData} {z : OD} (h : Rd1 T f (.da d) z) : OpL T f [.da d] z := fun I H vs B o nd s Q k => by
  obtain ⟨rfl, r⟩ := ownL_da (ds := [d]) o
  obtain ⟨v, rfl, r'⟩ := rpL1 r
  exact h I H v [] (.da r') s Q k
theorem Rd2.op2 {T : TC} {f : R2} {x d g : PyData} (h : Rd2 T f (.da x) d g) : Op2 T f (.da x) (.da d) (.da g) := Op2.pure fun I H v u h1 h2 s Q k => h I H v u [] (.da h1) h2 s Q k
theorem Rd2.op2' {T : TC} {f : R2} {x d g : PyData} (h : Rd2 T (fun v u => f u v) (.da x) d g) : Op2 T f (.da d) (.da x) (.da g) := Op2.pure fun I H v u h1 h2 s Q k => h I H u v [] (.da h2) h1 s Q k
/-- the slot's value and what it holds -/
theorem EnvF.see {T : TC} {I H : Hp} {σ : L2.St} {Γ : Sl} {F : List Addr} {i : Nat} {x : OD} (en : EnvF T I H σ Γ F) (hx : Γ[i]? = some (some x)) : ∃ v B, σ[i]? = some (some v) ∧ Own T I H v x B := by
  obtain ⟨v, B, G, h1, h2, _⟩ := en.take hx
  exact ⟨v, B, h1, h2⟩
def OSome : Option (Option OD) → Bool
  | some (some _) => true
  | _ => false
theorem OSome.ex {o : Option (Option OD)} (h : OSome o = true) : ∃ x, o = some (some x) := by
  unfold OSome at h
  split at h
  · exact ⟨_, rfl⟩
  · cases h

section
variable {X : Cx} {e a b c o : Expr} {es : List Expr} {ss rest : List Stmt} {Γ Γ' Γ1 Γ2 : Sl} {Ψ : OD → Sl → Prop} {Φ : Out → Prop} {Φt : Bool → Sl → Prop} {pos p apos : Pos} {r x y z : OD} {k k' : Bool} {nm : Str} {ds : List PyData} {d g : PyData} {f : R2} {i : Nat} {wl : List V → Hp → VK → Prop}
theorem core_SV (h0 : OSome Γ[i]? = true) (hb : XE X b Γ (.da d) Γ1) (hx : Γ1[i]? = some (some x)) (rd : Rd2 X.tc f x d g) {I H : Hp} {σ : L2.St} {F : List Addr} (en : EnvF X.tc I H σ Γ F) (Q : VK)
    (k : ∀ (w : V) (I' H' : Hp) (F' : List Addr), Rp X.tc I' w g → Step I H F I' H' F' → EnvF X.tc I' H' σ Γ1 F' → Q w H') : ∃ v, σ[i]? = some (some v) ∧ wpE X b σ H fun u H1 => f v u H1 Q := by
  obtain ⟨x0, hx0⟩ := OSome.ex h0
  obtain ⟨v, _, e1, _⟩ := en.see hx0
  refine ⟨v, e1, hb (fun r Γ' => r = .da d ∧ Γ' = Γ1) ⟨rfl, rfl⟩ I H σ F en _ ?_⟩
  rintro _ _ I1 H1 u F1 ⟨rfl, rfl⟩ st1 en1
  obtain ⟨B, G, rfl, oo, en2, _⟩ := en1.pop
  cases oo with
  | da hd =>
    obtain ⟨v', B', e1', ow⟩ := en2.see hx
    rw [e1] at e1'
    cases e1'
    exact rd I1 H1 v u B' ow hd en2.sub Q fun w hw => k w I1 H1 G hw st1 en2
theorem core_VS (hb : XE X b Γ (.da d) Γ1) (hx : Γ1[i]? = some (some x)) (rd : Rd2 X.tc (fun v u => f u v) x d g) {I H : Hp} {σ : L2.St} {F : List Addr} (en : EnvF X.tc I H σ Γ F) (Q : VK)
    (k : ∀ (w : V) (I' H' : Hp) (F' : List Addr), Rp X.tc I' w g → Step I H F I' H' F' → EnvF X.tc I' H' σ Γ1 F' → Q w H') : wpE X b σ H fun u H1 => ∃ v, σ[i]? = some (some v) ∧ f u v H1 Q := by
  refine hb (fun r Γ' => r = .da d ∧ Γ' = Γ1) ⟨rfl, rfl⟩ I H σ F en _ ?_
  rintro _ _ I1 H1 u F1 ⟨rfl, rfl⟩ st1 en1
  obtain ⟨B, G, rfl, oo, en2, _⟩ := en1.pop
  cases oo with
  | da hd =>
    obtain ⟨v', B', e1', ow⟩ := en2.see hx
    exact ⟨v', e1', rd I1 H1 v' u B' ow hd en2.sub Q fun w hw => k w I1 H1 G hw st1 en2⟩
theorem core_S {σ : L2.St} {I H : Hp} {F : List Addr} (hx : Γ[i]? = some (some x)) (rd : Rd1 X.tc wl x z) (en : EnvF X.tc I H σ Γ F) (Q : VK)
    (k : ∀ (w : V) (I' H' : Hp) (F' : List Addr), Step I H F I' H' F' → EnvF X.tc I' H' (some w :: σ) (some z :: Γ) F' → Q w H') : ∃ v, σ[i]? = some (some v) ∧ wl [v] H Q := by
  obtain ⟨v, B, e1, ow⟩ := en.see hx
  refine ⟨v, e1, rd I H v B ow en.sub Q fun I' H' w B' st o nd sub => ?_⟩
  obtain ⟨en2, st2⟩ := en.use (B := []) (by simpa using en.nd) st o nd sub
  exact k w I' H' _ st2 en2
/-- f(name): the slot read in place -/
theorem xe_callS {id : String} (i : Nat) (hc : CallR X (.builtin id) wl) (q : Rd1 X.tc wl x z) (hg : Gl X nm) (hm : X.mg nm = none) (hv : bootBuiltins nm = some (.builtin id)) {n2 : Str} {p2 : Pos} (hx : Γ[i]? = some (some x) := by rfl)
    (hN : X.N[i]? = some n2 := by rfl) (hvs : Vis X.env.scope n2 := by first | exact Or.inl rfl | exact Or.inr (Or.inl rfl) | exact Or.inr (Or.inr rfl)) (h1 : (n2 == ("__debug__" : Str)) = false := by decide) (h2 : (n2 == ("__classdict__" : Str)) = false := by decide)
    (hn : nm ≠ "__name__" := by decide) (hdb : (nm == ("__debug__" : Str)) = false := by decide) (he : starEach [.Name n2 p2] X.env = (false, eval (.Name n2 p2) X.env) :: starEach [] X.env := by rfl) (hpl : (backTo pos (starEach [] X.env)).any (·.1) = false := by rfl) :
    XE X (.Call (.Name nm p) [.Name n2 p2] [] pos) Γ z Γ := fun Ψ hq I H σ F en Q k => ⟨_, pe_callB hc hg hm hv (pa_cons (pe_var hN hvs h1 h2) pa_nil he) hn hdb he hpl, core_S hx q en Q fun w I' H' F' st en' => k z Γ I' H' w F' hq st en'⟩
theorem xe_callTyS {Ty : String} (i : Nat) (hc : CallR X (.type Ty) wl) (q : Rd1 X.tc wl x z) (hg : Gl X nm) (hm : X.mg nm = none) (hv : bootBuiltins nm = some (.type Ty)) {n2 : Str} {p2 : Pos} (hx : Γ[i]? = some (some x) := by rfl)
    (hN : X.N[i]? = some n2 := by rfl) (hvs : Vis X.env.scope n2 := by first | exact Or.inl rfl | exact Or.inr (Or.inl rfl) | exact Or.inr (Or.inr rfl)) (h1 : (n2 == ("__debug__" : Str)) = false := by decide) (h2 : (n2 == ("__classdict__" : Str)) = false := by decide)
    (hn : nm ≠ "__name__" := by decide) (hdb : (nm == ("__debug__" : Str)) = false := by decide) (he : starEach [.Name n2 p2] X.env = (false, eval (.Name n2 p2) X.env) :: starEach [] X.env := by rfl) (hpl : (backTo pos (starEach [] X.env)).any (·.1) = false := by rfl) :
    XE X (.Call (.Name nm p) [.Name n2 p2] [] pos) Γ z Γ := fun Ψ hq I H σ F en Q k => ⟨_, pe_callTy hc hg hm hv (pa_cons (pe_var hN hvs h1 h2) pa_nil he) hn hdb he hpl, core_S hx q en Q fun w I' H' F' st en' => k z Γ I' H' w F' hq st en'⟩
end

/-! ### dicts with keys ints and texts -/
def dkD (ks : List (Key × PyData)) : PyData := .dict (ks.map fun p => (keyD p.1, p.2))
theorem keyD_inj : ∀ {a b : Key}, keyD a = keyD b → a = b
  | .inl i, .inl j, h => by cases h; rfl
  | .inr i, .inr j, h => by cases h; rfl
  | .inl i, .inr j, h => by cases h
  | .inr i, .inl j, h => by cases h
inductive DV : OD → List (Key × PyData) → Prop
  | dd {ks : List (Key × PyData)} : DV (.dd ks) ks
  | pin {v : V} {ks : List (Key × PyData)} : DV (.pin v (.dd ks)) ks
  | da {ks : List (Key × PyData)} : DV (.da (dkD ks)) ks
theorem map_inj {α β : Type} {f : α → β} (hf : ∀ a b, f a = f b → a = b) : ∀ {xs ys : List α}, xs.map f = ys.map f → xs = ys
  | [], [], _ => rfl
  | [], _ :: _, h => by simp at h
  | _ :: _, [], h => by simp at h
  | x :: xs, y :: ys, h => by
    rw [List.map_cons, List.map_cons, List.cons.injEq] at h
    rw [hf _ _ h.1, map_inj hf h.2]
theorem rp_dkD {T : TC} {I : Hp} {v : V} {ks : List (Key × PyData)} (h : Rp T I v (dkD ks)) : ∃ a ob kvs, v = .ref a ∧ I a = some (.frz ob (.dK kvs)) ∧ kvs.map Prod.fst = ks.map Prod.fst ∧ RpL T I (kvs.map Prod.snd) (ks.map Prod.snd) := by
  unfold dkD at h
  cases h with
  | @dk a ob kvs _ h k r =>
    refine ⟨a, ob, kvs, rfl, h, ?_, ?_⟩
    · rw [List.map_map] at k
      have k' : (ks.map Prod.fst).map keyD = (kvs.map Prod.fst).map keyD := by
        rw [List.map_map, List.map_map]
        exact k
      exact (map_inj (fun _ _ => keyD_inj) k').symm
    · rw [List.map_map] at r
      exact r
  | dn h k r s n =>
    obtain ⟨q, hq, n⟩ := n
    rw [List.map_map] at k
    have : q.1.data ∈ List.map (Prod.fst ∘ fun p : Key × PyData => (keyD p.1, p.2)) ks := by
      rw [k]
      exact List.mem_map.mpr ⟨q, hq, rfl⟩
    obtain ⟨p, _, hp⟩ := List.mem_map.mp this
    exact absurd hp.symm (n p.1)
  | tn _ _ _ q =>
    cases ks with
    | nil => cases q
    | cons p r =>
      have q' : keyD p.1 = PyData.list [] := congrArg Prod.fst (List.cons.inj q).1
      cases hp : p.1 <;> rw [hp] at q' <;> cases q'
theorem DV.rd {T : TC} {I H : Hp} {v : V} {x : OD} {B : List Addr} {ks : List (Key × PyData)} (h : DV x ks) (o : Own T I H v x B) (s : Same I H) : ∃ a kvs, v = .ref a ∧ Rd H a (.dK kvs) ∧ kvs.map Prod.fst = ks.map Prod.fst ∧ RpL T I (kvs.map Prod.snd) (ks.map Prod.snd) := by
  cases h with
  | dd => cases o with
    | dd h i k r => exact ⟨_, _, rfl, .inl h, k, r⟩
  | pin => cases o with
    | pin o => cases o with
      | dd h i k r => exact ⟨_, _, rfl, .inl h, k, r⟩
  | da => cases o with
    | da o =>
      obtain ⟨a, ob, kvs, rfl, h, k, r⟩ := rp_dkD o
      exact ⟨a, kvs, rfl, .inr ⟨ob, s _ _ h⟩, k, r⟩
theorem rd_get {T : TC} {I : Hp} {k : Key} : ∀ {kvs : List (Key × V)} {ks : List (Key × PyData)}, kvs.map Prod.fst = ks.map Prod.fst → RpL T I (kvs.map Prod.snd) (ks.map Prod.snd) →
    (∀ d, kget ks k = some d → ∃ v, valV kvs k = some v ∧ Rp T I v d) ∧ (kget ks k = none → valV kvs k = none)
  | [], [], _, _ => ⟨fun d h => by simp [kget_nil] at h, fun _ => rfl⟩
  | [], _ :: _, h, _ => by simp at h
  | _ :: _, [], h, _ => by simp at h
  | p :: kvs, q :: ks, h, r => by
    rw [List.map_cons, List.map_cons, List.cons.injEq] at h
    rw [List.map_cons, List.map_cons] at r
    cases r with
    | cons h1 r =>
      rw [kget_cons]
      by_cases hk : q.1 = k
      · rw [if_pos hk]
        have hk' : p.1 = k := h.1.trans hk
        refine ⟨fun d hd => ?_, fun hn => by cases hn⟩
        cases hd
        exact ⟨p.2, valV_pos hk', h1⟩
      · rw [if_neg hk]
        have hk' : ¬ p.1 = k := fun e => hk (h.1.symm.trans e)
        rw [valV_neg hk']
        exact rd_get h.2 r
theorem rd_isSome {T : TC} {I : Hp} {k : Key} {kvs : List (Key × V)} {ks : List (Key × PyData)} (h : kvs.map Prod.fst = ks.map Prod.fst) (r : RpL T I (kvs.map Prod.snd) (ks.map Prod.snd)) : (valV kvs k).isSome = (kget ks k).isSome := by
  obtain ⟨h1, h2⟩ := rd_get (k := k) h r
  cases e : kget ks k with
  | none => rw [h2 e]; rfl
  | some d =>
    obtain ⟨v, hv, _⟩ := h1 d e
    rw [hv]
    rfl
theorem rd_put {T : TC} {I : Hp} {k : Key} {v : V} {d : PyData} {kvs : List (Key × V)} {ks : List (Key × PyData)} (h : kvs.map Prod.fst = ks.map Prod.fst) (r : RpL T I (kvs.map Prod.snd) (ks.map Prod.snd)) (hv : Rp T I v d) :
    (putK kvs k v).map Prod.fst = (kput ks k d).map Prod.fst ∧ RpL T I ((putK kvs k v).map Prod.snd) ((kput ks k d).map Prod.snd) := by
  have ha : (kvs.any fun q => decide (q.1 = k)) = (ks.any fun q => decide (q.1 = k)) := by
    have e1 : (kvs.any fun q => decide (q.1 = k)) = ((kvs.map Prod.fst).any fun q => decide (q = k)) := by rw [List.any_map]; rfl
    have e2 : (ks.any fun q => decide (q.1 = k)) = ((ks.map Prod.fst).any fun q => decide (q = k)) := by rw [List.any_map]; rfl
    rw [e1, e2, h]
  unfold putK kput
  rw [ha]
  split
  · rename_i hh
    clear ha hh
    induction kvs generalizing ks with
    | nil =>
      cases ks with
      | nil => exact ⟨rfl, .nil⟩
      | cons q ks => simp at h
    | cons p kvs ih =>
      cases ks with
      | nil => simp at h
      | cons q ks =>
        rw [List.map_cons, List.map_cons, List.cons.injEq] at h
        rw [List.map_cons, List.map_cons] at r
        cases r with
        | cons h1 r =>
          obtain ⟨i1, i2⟩ := ih h.2 r
          simp only [List.map_cons]
          by_cases hk : p.1 = k
          · have hk' : q.1 = k := h.1.symm.trans hk
            rw [if_pos hk, if_pos hk', i1]
            exact ⟨by rw [h.1], .cons hv i2⟩
          · have hk' : ¬ q.1 = k := fun e => hk (h.1.trans e)
            rw [if_neg hk, if_neg hk', i1]
            exact ⟨by rw [h.1], .cons h1 i2⟩
  · rw [List.map_append, List.map_append, List.map_append, List.map_append, h]
    exact ⟨rfl, RpL.append r (.cons hv .nil)⟩

section
variable {X : Cx} {e a b c o : Expr} {es : List Expr} {ss rest : List Stmt} {Γ Γ' Γ1 Γ2 : Sl} {Ψ : OD → Sl → Prop} {Φ : Out → Prop} {Φt : Bool → Sl → Prop} {pos p apos cpos : Pos} {r x y z : OD} {k : Key} {nm : Str} {ds : List PyData} {d g kd : PyData} {ks : List (Key × PyData)} {i : Nat}
theorem rp_key {T : TC} {I : Hp} {v : V} (h : Rp T I v (keyD k)) : v = kV k := by
  cases k with
  | inl i => cases h; rfl
  | inr s => cases h; rfl
def rDG : R2 := fun x y H Q => ∃ a v, x = .ref a ∧ DGet H a y (some v) ∧ Q v H
def rDIn (neg : Bool) : R2 := fun y x H Q => ∃ a o, x = .ref a ∧ DGet H a y o ∧ Q (.bl (neg != o.isSome)) H
theorem op_din (hu : X.A.units + 1 < cLine) : OpR X (compareOp .In) (rDIn false) := fun pins s σ H y x iv u Q I ry rx ⟨a, ov, ex, g, q⟩ => by
  subst ex
  obtain rfl : u = Value.ref a := rx
  exact d_in hu I g ry fun s3 I3 => ⟨.bl ov.isSome, H, I3, rfl, by simpa using q⟩
theorem op_dnotin (hu : X.A.units + 1 < cLine) : OpR X (compareOp .NotIn) (rDIn true) := fun pins s σ H y x iv u Q I ry rx ⟨a, ov, ex, g, q⟩ => by
  subst ex
  obtain rfl : u = Value.ref a := rx
  exact d_notIn hu I g ry fun s3 I3 => ⟨.bl (!ov.isSome), H, I3, rfl, by simpa using q⟩
theorem rd_dget {T : TC} (hv : DV x ks) (hk : kget ks k = some d) : Rd2 T rDG x (keyD k) d := fun I H v u B o h s Q kk => by
  obtain ⟨a, kvs, rfl, h1, h2, h3⟩ := hv.rd o s
  obtain ⟨w, hw, hr⟩ := (rd_get (k := k) h2 h3).1 d hk
  exact ⟨a, w, rfl, .inl ⟨kvs, k, h1, rp_key h, hw.symm⟩, kk w hr⟩
theorem rd_din {T : TC} {neg : Bool} (hv : DV x ks) : Rd2 T (fun v u => rDIn neg u v) x (keyD k) (.bool (neg != (kget ks k).isSome)) := fun I H v u B o h s Q kk => by
  obtain ⟨a, kvs, rfl, h1, h2, h3⟩ := hv.rd o s
  exact ⟨a, valV kvs k, rfl, .inl ⟨kvs, k, h1, rp_key h, rfl⟩, by rw [rd_isSome h2 h3]; exact kk _ (.bl _)⟩
/-- d[k], d in the i-th slot -/
theorem xe_dgetS (i : Nat) (hu : X.A.units + 1 < cLine) (hb : XE X b Γ (.da (keyD k)) Γ1) (hk : kget ks k = some d) (h0 : OSome Γ[i]? = true := by rfl) (hx : Γ1[i]? = some (some x) := by rfl) (hv : DV x ks := by first | exact .dd | exact .pin | exact .da)
    (hs : NoSl b := by exact fun _ _ => rfl) (hN : X.N[i]? = some nm := by rfl) (hvs : Vis X.env.scope nm := by first | exact Or.inl rfl | exact Or.inr (Or.inl rfl) | exact Or.inr (Or.inr rfl)) (h1 : (nm == ("__debug__" : Str)) = false := by decide) (h2 : (nm == ("__classdict__" : Str)) = false := by decide) :
    XE X (.Subscript (.Name nm p) b pos) Γ (.da d) Γ1 := fun Ψ hq I H σ F en Q kk => ⟨_, pe_dget hu (pe_var hN hvs h1 h2) wpE_ok hs, core_SV (f := rDG) h0 hb hx (rd_dget hv hk) en Q fun w I' H' F' hw st en' => kk _ _ I' H' w F' hq st (en'.da hw)⟩
/-- d[k], d data -/
theorem xe_dgetV (hu : X.A.units + 1 < cLine) (ha : XE X a Γ (.da (dkD ks)) Γ1) (hb : XE X b Γ1 (.da (keyD k)) Γ2) (hk : kget ks k = some d) (hs : NoSl b := by exact fun _ _ => rfl) : XE X (.Subscript a b pos) Γ (.da d) Γ2 := fun Ψ hq I H σ F en Q kk =>
  ⟨_, pe_dget hu wpE_ok wpE_ok hs, two_core (wr := rDG) (ha _ (hb _ ⟨_, (rd_dget .da hk).op2, hq⟩)) I H σ F en Q kk⟩
/-- k in d, k not in d, as tests -/
theorem xt_dinS (i : Nat) (hu : X.A.units + 1 < cLine) (hb : XE X b Γ (.da (keyD k)) Γ1) (hx : Γ1[i]? = some (some x) := by rfl) (hv : DV x ks := by first | exact .dd | exact .pin | exact .da) (hm : behindInMarks .In (.Name nm p) = false := by rfl)
    (hN : X.N[i]? = some nm := by rfl) (hvs : Vis X.env.scope nm := by first | exact Or.inl rfl | exact Or.inr (Or.inl rfl) | exact Or.inr (Or.inr rfl)) (h1 : (nm == ("__debug__" : Str)) = false := by decide) (h2 : (nm == ("__classdict__" : Str)) = false := by decide) :
    XT X (.Compare b [.In] [.Name nm p] pos) Γ (kget ks k).isSome Γ1 := fun Ψ hq I H σ F en Q kk => ⟨_, pt_cmpR (op_din hu) wpE_ok (pe_var hN hvs h1 h2) hm, core_VS (f := rDIn false) hb hx (rd_din hv) en _ fun w I' H' F' hw st en' => by
      cases hw
      exact ⟨_, rfl, kk _ Γ1 I' H' F' (by simpa using hq) st en'⟩⟩
theorem xt_dninS (i : Nat) (hu : X.A.units + 1 < cLine) (hb : XE X b Γ (.da (keyD k)) Γ1) (hx : Γ1[i]? = some (some x) := by rfl) (hv : DV x ks := by first | exact .dd | exact .pin | exact .da) (hm : behindInMarks .NotIn (.Name nm p) = false := by rfl)
    (hN : X.N[i]? = some nm := by rfl) (hvs : Vis X.env.scope nm := by first | exact Or.inl rfl | exact Or.inr (Or.inl rfl) | exact Or.inr (Or.inr rfl)) (h1 : (nm == ("__debug__" : Str)) = false := by decide) (h2 : (nm == ("__classdict__" : Str)) = false := by decide) :
    XT X (.Compare b [.NotIn] [.Name nm p] pos) Γ (!(kget ks k).isSome) Γ1 := fun Ψ hq I H σ F en Q kk => ⟨_, pt_cmpR (op_dnotin hu) wpE_ok (pe_var hN hvs h1 h2) hm, core_VS (f := rDIn true) hb hx (rd_din hv) en _ fun w I' H' F' hw st en' => by
      cases hw
      exact ⟨_, rfl, kk _ Γ1 I' H' F' (by simpa using hq) st en'⟩⟩
theorem xe_dinS (i : Nat) (hu : X.A.units + 1 < cLine) (hb : XE X b Γ (.da (keyD k)) Γ1) (hx : Γ1[i]? = some (some x) := by rfl) (hv : DV x ks := by first | exact .dd | exact .pin | exact .da) (hm : behindInMarks .In (.Name nm p) = false := by rfl)
    (hN : X.N[i]? = some nm := by rfl) (hvs : Vis X.env.scope nm := by first | exact Or.inl rfl | exact Or.inr (Or.inl rfl) | exact Or.inr (Or.inr rfl)) (h1 : (nm == ("__debug__" : Str)) = false := by decide) (h2 : (nm == ("__classdict__" : Str)) = false := by decide) :
    XE X (.Compare b [.In] [.Name nm p] pos) Γ (.da (.bool (kget ks k).isSome)) Γ1 := fun Ψ hq I H σ F en Q kk => ⟨_, pe_cmpR (op_din hu) wpE_ok (pe_var hN hvs h1 h2) hm, core_VS (f := rDIn false) hb hx (rd_din hv) en _ fun w I' H' F' hw st en' =>
      kk _ Γ1 I' H' w F' hq st (en'.da (by simpa using hw))⟩
theorem xt_dinV (hu : X.A.units + 1 < cLine) (hb : XE X b Γ (.da (keyD k)) Γ1) (ha : XE X a Γ1 (.da (dkD ks)) Γ2) (hm : behindInMarks .In a = false := by rfl) : XT X (.Compare b [.In] [a] pos) Γ (kget ks k).isSome Γ2 :=
  xt_cmp (op_din hu) hm (by have q := (rd_din (T := X.tc) (neg := false) (k := k) (ks := ks) .da).op2' (f := rDIn false); simpa using q) hb ha
theorem xt_dninV (hu : X.A.units + 1 < cLine) (hb : XE X b Γ (.da (keyD k)) Γ1) (ha : XE X a Γ1 (.da (dkD ks)) Γ2) (hm : behindInMarks .NotIn a = false := by rfl) : XT X (.Compare b [.NotIn] [a] pos) Γ (!(kget ks k).isSome) Γ2 :=
  xt_cmp (op_dnotin hu) hm (by have q := (rd_din (T := X.tc) (neg := true) (k := k) (ks := ks) .da).op2' (f := rDIn true); simpa using q) hb ha
theorem xe_dinV (hu : X.A.units + 1 < cLine) (hb : XE X b Γ (.da (keyD k)) Γ1) (ha : XE X a Γ1 (.da (dkD ks)) Γ2) (hm : behindInMarks .In a = false := by rfl) : XE X (.Compare b [.In] [a] pos) Γ (.da (.bool (kget ks k).isSome)) Γ2 :=
  xe_cmp (op_din hu) hm (by have q := (rd_din (T := X.tc) (neg := false) (k := k) (ks := ks) .da).op2' (f := rDIn false); simpa using q) hb ha

/-! own dicts changed -/
inductive VDD : OD → List (Key × PyData) → (List (Key × PyData) → OD) → Prop
  | dd {ks : List (Key × PyData)} : VDD (.dd ks) ks .dd
  | pin {v : V} {ks : List (Key × PyData)} : VDD (.pin v (.dd ks)) ks fun ks => .pin v (.dd ks)
theorem VDD.own {T : TC} {I H : Hp} {v : V} {B : List Addr} {mk : List (Key × PyData) → OD} (h : VDD x ks mk) (o : Own T I H v x B) :
    ∃ p kvs, v = .ref p ∧ B = [p] ∧ H p = some (.dK kvs) ∧ I p = none ∧ kvs.map Prod.fst = ks.map Prod.fst ∧ RpL T I (kvs.map Prod.snd) (ks.map Prod.snd) ∧ ∀ (H' : Hp) (kvs' : List (Key × V)) (ks' : List (Key × PyData)), H' p = some (.dK kvs') → kvs'.map Prod.fst = ks'.map Prod.fst → RpL T I (kvs'.map Prod.snd) (ks'.map Prod.snd) → Own T I H' v (mk ks') [p] := by
  cases h with
  | dd => cases o with
    | dd h1 h2 h3 h4 => exact ⟨_, _, rfl, rfl, h1, h2, h3, h4, fun H' vs' ds' e r r' => .dd e h2 r r'⟩
  | pin => cases o with
    | pin o => cases o with
      | dd h1 h2 h3 h4 => exact ⟨_, _, rfl, rfl, h1, h2, h3, h4, fun H' vs' ds' e r r' => .pin (.dd e h2 r r')⟩
theorem EnvF.dd {T : TC} {I H : Hp} {σ : L2.St} {F : List Addr} {mk : List (Key × PyData) → OD} (en : EnvF T I H σ Γ F) (hx : Γ[i]? = some (some x)) (hv : VDD x ks mk) : ∃ p kvs, σ[i]? = some (some (.ref p)) ∧ H p = some (.dK kvs) ∧ kvs.map Prod.fst = ks.map Prod.fst ∧ RpL T I (kvs.map Prod.snd) (ks.map Prod.snd) ∧
    ∀ (kvs' : List (Key × V)) (ks' : List (Key × PyData)), kvs'.map Prod.fst = ks'.map Prod.fst → RpL T I (kvs'.map Prod.snd) (ks'.map Prod.snd) → ∃ F', EnvF T I (upd H p (.dK kvs')) σ (Γ.set i (some (mk ks'))) F' ∧ Step I H F I (upd H p (.dK kvs')) F' := by
  obtain ⟨v, B, G, e1, o, en', nd, mem⟩ := en.take hx
  obtain ⟨p, kvs, rfl, rfl, h1, h2, h3, h4, h5⟩ := hv.own o
  refine ⟨p, kvs, e1, h1, h3, h4, fun kvs' ks' r r' => ?_⟩
  have np : p ∉ G := (List.nodup_cons.mp (show (p :: G).Nodup from nd)).1
  have en2 : EnvF T I (upd H p (.dK kvs')) σ (Γ.set i none) G := ⟨en'.env.frame (Same.refl I) fun b hb => ⟨upd_ne fun q => np (q ▸ hb), (en'.env.cells b hb).2⟩, en'.nd, fun b u e => by
    rw [upd_ne fun q => by
      subst q
      rw [h2] at e
      cases e]
    exact en.sub b u e⟩
  obtain ⟨F', en3, nd3, m3⟩ := en2.into e1 (h5 _ kvs' ks' upd_same r r') nd
  rw [List.set_set] at en3
  exact ⟨F', en3, (step_upd (F := F) ((mem p).mpr (.inl (List.mem_singleton.mpr rfl)))).of_mem (fun b hb => hb) fun b hb => (mem b).mpr (m3 b hb)⟩
/-- d[k] = e -/
theorem ws_dput (i : Nat) (hu : X.A.units + 1 < cLine) (h : WE X e Γ fun r Γ1 => ∃ d k x ks mk, r = .da d ∧ Γ1[i]? = some (some x) ∧ VDD x ks mk ∧ ks.length < sizeLine ∧ XE X b Γ1 (.da (keyD k)) Γ1 ∧ WSs X rest (Γ1.set i (some (mk (kput ks k d)))) Φ)
    (hN : X.N[i]? = some nm := by rfl) (hvs : Vis X.env.scope nm := by first | exact Or.inl rfl | exact Or.inr (Or.inl rfl) | exact Or.inr (Or.inr rfl)) (h1 : (nm == ("__debug__" : Str)) = false := by decide) (h2 : (nm == ("__classdict__" : Str)) = false := by decide)
    (hs : swapsWith e (some (.Subscript (.Name nm p) b pos)) apos.line X.env = pure false := by rfl) : WSs X (.Assign [.Subscript (.Name nm p) b pos] e apos :: rest) Γ Φ := fun I H σ F en D ek => by
  refine ⟨_, pss_cons (ps_dput hu (pe_var hN hvs h1 h2) wpE_ok wpE_ok hs) wpSs_ok, h I H σ F en _ ?_⟩
  rintro r Γ1 I1 H1 v F1 ⟨d, k, x, ks, mk, rfl, hx, hv, hz, hb, hq⟩ st1 en1
  obtain ⟨B, G, rfl, oo, en2, up⟩ := en1.pop
  cases oo with
  | da hd =>
    obtain ⟨q, kvs, e1, _⟩ := en2.dd hx hv
    refine ⟨_, e1, hb (fun r Γ' => r = .da (keyD k) ∧ Γ' = Γ1) ⟨rfl, rfl⟩ I1 H1 σ G en2 _ ?_⟩
    rintro _ _ I2 H2 u F2 ⟨rfl, rfl⟩ st2 en3
    obtain ⟨B2, G2, rfl, oo2, en4, _⟩ := en3.pop
    cases oo2 with
    | da hh =>
      obtain ⟨q', kvs', e1', h3, h4, h5, h6⟩ := en4.dd hx hv
      rw [e1] at e1'
      cases e1'
      obtain ⟨g1, g2⟩ := rd_put (k := k) h4 h5 (hd.mono st2.inc)
      obtain ⟨F5, en5, st5⟩ := h6 (putK kvs' k v) (kput ks k d) g1 g2
      have hlen : kvs'.length = ks.length := by
        have := congrArg List.length h4
        rwa [List.length_map, List.length_map] at this
      exact ⟨q, _, rfl, .inl ⟨kvs', k, h3, rp_key hh, by rw [hlen]; exact hz, rfl⟩, hq I2 _ σ F5 en5 D (ek.step ((st1.trans st2).trans st5))⟩
end
end TL

/-! TL13: lists and tuples as wholes: len, tuple(), list(), +, slices, in, sorted, max, min, all; truth. -/
namespace TL
open PySem PySem.Spec PyProof.Rows L2

/-- x stands as the data d -/
inductive SV : OD → PyData → Prop
  | da {d : PyData} : SV (.da d) d
  | ll {ds : List PyData} : SV (.ll ds) (.list ds)
  | pin {v : V} {ds : List PyData} : SV (.pin v (.ll ds)) (.list ds)
theorem SV.rp {T : TC} {I H : Hp} {v : V} {x : OD} {B : List Addr} {d : PyData} (h : SV x d) (o : Own T I H v x B) (s : Same I H) : Rp T H v d := by
  cases h with
  | da => cases o with
    | da o => exact o.mono s
  | ll => cases o with
    | ll h i r => exact .lst (SqL.of h) (r.mono s)
  | pin => cases o with
    | pin o => cases o with
      | ll h i r => exact .lst (SqL.of h) (r.mono s)
/-- .. a list or a tuple: its items -/
theorem SV.seq {T : TC} {I H : Hp} {v : V} {x : OD} {B : List Addr} {d : PyData} {ds : List PyData} (h : SV x d) (hd : d = .list ds ∨ d = .tuple ds) (o : Own T I H v x B) (s : Same I H) :
    ∃ a vs, v = .ref a ∧ ((d = .list ds ∧ SqL T.K H a vs) ∨ (d = .tuple ds ∧ SqT T.K H a vs ∧ Rp T I v d)) ∧ RpL T I vs ds := by
  cases h with
  | da => cases o with
    | da o =>
      rcases hd with rfl | rfl
      · cases o with
        | lst h r => exact ⟨_, _, rfl, .inl ⟨rfl, s.seq h⟩, r⟩
      · cases o with
        | tup h r => exact ⟨_, _, rfl, .inr ⟨rfl, sqT_mono s h, .tup h r⟩, r⟩
  | ll =>
    rcases hd with hd | hd
    · cases hd
      cases o with
      | ll h i r => exact ⟨_, _, rfl, .inl ⟨rfl, SqL.of h⟩, r⟩
    · cases hd
  | pin =>
    rcases hd with hd | hd
    · cases hd
      cases o with
      | pin o => cases o with
        | ll h i r => exact ⟨_, _, rfl, .inl ⟨rfl, SqL.of h⟩, r⟩
    · cases hd

section
variable {X : Cx} {e a b c o : Expr} {es : List Expr} {ss rest : List Stmt} {Γ Γ' Γ1 Γ2 : Sl} {Ψ : OD → Sl → Prop} {Φ : Out → Prop} {Φt : Bool → Sl → Prop} {pos p apos cpos p2 : Pos} {r x y z : OD} {nm n2 : Str} {ds es' : List PyData} {d d' g : PyData} {i : Nat}

/-! ### len, tuple, list -/
def rLen (T : TC) : List V → Hp → VK → Prop := fun xs H Q => ∃ p ys, xs = [.ref p] ∧ (SqL T.K H p ys ∨ SqT T.K H p ys) ∧ Q (.int ys.length) H
theorem rd_len {T : TC} (hv : SV x d) (hd : d = .list ds ∨ d = .tuple ds) : Rd1 T (rLen T) x (.da (.int ds.length)) := Rd1.pure fun I H v B o s Q k => by
  obtain ⟨a, vs, rfl, h, r⟩ := hv.seq hd o s
  exact ⟨a, vs, rfl, h.imp And.right fun q => q.2.1, by rw [r.length]; exact k _ (.int _)⟩
theorem xe_lenS (i : Nat) (B : Blt X.mg) (hx : Γ[i]? = some (some x) := by rfl) (hv : SV x d := by first | exact .da | exact .ll | exact .pin) (hd : d = .list ds ∨ d = .tuple ds := by first | exact .inl rfl | exact .inr rfl) (hg : Gl X "len" := by rfl)
    (hN : X.N[i]? = some n2 := by rfl) (hvs : Vis X.env.scope n2 := by first | exact Or.inl rfl | exact Or.inr (Or.inl rfl) | exact Or.inr (Or.inr rfl)) (h1 : (n2 == ("__debug__" : Str)) = false := by decide) (h2 : (n2 == ("__classdict__" : Str)) = false := by decide)
    (he : starEach [.Name n2 p2] X.env = (false, eval (.Name n2 p2) X.env) :: starEach [] X.env := by rfl) (hpl : (backTo pos (starEach [] X.env)).any (·.1) = false := by rfl) :
    XE X (.Call (.Name "len" p) [.Name n2 p2] [] pos) Γ (.da (.int ds.length)) Γ := xe_callS (wl := rLen X.tc) i call_len_seq (rd_len hv hd) hg B.len PySem.boot_len (hx := hx) (hN := hN) (hvs := hvs) (h1 := h1) (h2 := h2) (he := he) (hpl := hpl)
def rTupOf (T : TC) : List V → Hp → VK → Prop := fun xs H Q => ∃ p ys, xs = [.ref p] ∧ ((SqL T.K H p ys ∧ ∀ l, H l = none → Q (.ref l) (upd H l (.tup ys))) ∨ (SqT T.K H p ys ∧ Q (.ref p) H))
theorem rd_tup {T : TC} (hv : SV x d) (hd : d = .list ds ∨ d = .tuple ds) : Rd1 T (rTupOf T) x (.da (.tuple ds)) := fun I H v B o s Q k => by
  obtain ⟨a, vs, rfl, h, r⟩ := hv.seq hd o s
  rcases h with ⟨_, h⟩ | ⟨rfl, h, hr⟩
  · exact ⟨a, vs, rfl, .inl ⟨h, fun l hl => k (upd I l (.tup vs)) _ _ [] (step_frz s hl) (.da (.tup (SqT.of upd_same) (r.mono (upd_up (s.free hl))))) List.nodup_nil (upd_both s)⟩⟩
  · exact ⟨a, vs, rfl, .inr ⟨h, k I H _ [] .refl (.da hr) List.nodup_nil s⟩⟩
def rLstOf (T : TC) : List V → Hp → VK → Prop := fun xs H Q => ∃ p ys, xs = [.ref p] ∧ (SqL T.K H p ys ∨ SqT T.K H p ys) ∧ ∀ l, H l = none → Q (.ref l) (upd H l (.lst ys))
theorem rd_lst {T : TC} (hv : SV x d) (hd : d = .list ds ∨ d = .tuple ds) : Rd1 T (rLstOf T) x (.ll ds) := fun I H v B o s Q k => by
  obtain ⟨a, vs, rfl, h, r⟩ := hv.seq hd o s
  exact ⟨a, vs, rfl, h.imp And.right fun q => q.2.1, fun l hl => k I _ _ [l] (step_new hl) (.ll upd_same (s.free hl) r) (by simp) (upd_sub s hl)⟩
theorem xe_tupOfS (i : Nat) (B : Blt X.mg) (hx : Γ[i]? = some (some x) := by rfl) (hv : SV x d := by first | exact .da | exact .ll | exact .pin) (hd : d = .list ds ∨ d = .tuple ds := by first | exact .inl rfl | exact .inr rfl) (hg : Gl X "tuple" := by rfl)
    (hN : X.N[i]? = some n2 := by rfl) (hvs : Vis X.env.scope n2 := by first | exact Or.inl rfl | exact Or.inr (Or.inl rfl) | exact Or.inr (Or.inr rfl)) (h1 : (n2 == ("__debug__" : Str)) = false := by decide) (h2 : (n2 == ("__classdict__" : Str)) = false := by decide)
    (he : starEach [.Name n2 p2] X.env = (false, eval (.Name n2 p2) X.env) :: starEach [] X.env := by rfl) (hpl : (backTo pos (starEach [] X.env)).any (·.1) = false := by rfl) :
    XE X (.Call (.Name "tuple" p) [.Name n2 p2] [] pos) Γ (.da (.tuple ds)) Γ := xe_callTyS (wl := rTupOf X.tc) i call_tuple_of (rd_tup hv hd) hg B.tuple PyProof.Rows.boot_tuple (hx := hx) (hN := hN) (hvs := hvs) (h1 := h1) (h2 := h2) (he := he) (hpl := hpl)
theorem xe_tupOf (B : Blt X.mg) (ha : XE X a Γ (.da d) Γ1) (hd : d = .list ds ∨ d = .tuple ds := by first | exact .inl rfl | exact .inr rfl) (hg : Gl X "tuple" := by rfl) (he : starEach [a] X.env = (false, eval a X.env) :: starEach [] X.env := by rfl) (hpl : (backTo pos (starEach [] X.env)).any (·.1) = false := by rfl) :
    XE X (.Call (.Name "tuple" p) [a] [] pos) Γ (.da (.tuple ds)) Γ1 := xe_callTy1 (wl := rTupOf X.tc) call_tuple_of (rd_tup .da hd).opl hg B.tuple PyProof.Rows.boot_tuple ha (he := he) (hpl := hpl)
/-- tuple([..]): of a list that is new -/
theorem we_tupOf (B : Blt X.mg) (h : WE X a Γ fun r Γ1 => ∃ ds, r = .ll ds ∧ Ψ (.da (.tuple ds)) Γ1) (hg : Gl X "tuple" := by rfl) (he : starEach [a] X.env = (false, eval a X.env) :: starEach [] X.env := by rfl) (hpl : (backTo pos (starEach [] X.env)).any (·.1) = false := by rfl) :
    WE X (.Call (.Name "tuple" p) [a] [] pos) Γ Ψ := we_callTy (wl := rTupOf X.tc) call_tuple_of hg B.tuple PyProof.Rows.boot_tuple (wa_cons (we_frz (h.mono fun r Γ1 ⟨ds, e, q⟩ => ⟨.list ds, e ▸ .ll, wa_nil ⟨_, (rd_tup .da (.inl rfl)).opl, q⟩⟩)) he) (he := he) (hpl := hpl)
theorem xe_lstOfS (i : Nat) (B : Blt X.mg) (hx : Γ[i]? = some (some x) := by rfl) (hv : SV x d := by first | exact .da | exact .ll | exact .pin) (hd : d = .list ds ∨ d = .tuple ds := by first | exact .inl rfl | exact .inr rfl) (hg : Gl X "list" := by rfl)
    (hN : X.N[i]? = some n2 := by rfl) (hvs : Vis X.env.scope n2 := by first | exact Or.inl rfl | exact Or.inr (Or.inl rfl) | exact Or.inr (Or.inr rfl)) (h1 : (n2 == ("__debug__" : Str)) = false := by decide) (h2 : (n2 == ("__classdict__" : Str)) = false := by decide)
    (he : starEach [.Name n2 p2] X.env = (false, eval (.Name n2 p2) X.env) :: starEach [] X.env := by rfl) (hpl : (backTo pos (starEach [] X.env)).any (·.1) = false := by rfl) :
    XE X (.Call (.Name "list" p) [.Name n2 p2] [] pos) Γ (.ll ds) Γ := xe_callTyS (wl := rLstOf X.tc) i call_list_of (rd_lst hv hd) hg B.list PyProof.Rows.boot_list (hx := hx) (hN := hN) (hvs := hvs) (h1 := h1) (h2 := h2) (he := he) (hpl := hpl)
theorem xe_lstOf (B : Blt X.mg) (ha : XE X a Γ (.da d) Γ1) (hd : d = .list ds ∨ d = .tuple ds := by first | exact .inl rfl | exact .inr rfl) (hg : Gl X "list" := by rfl) (he : starEach [a] X.env = (false, eval a X.env) :: starEach [] X.env := by rfl) (hpl : (backTo pos (starEach [] X.env)).any (·.1) = false := by rfl) :
    XE X (.Call (.Name "list" p) [a] [] pos) Γ (.ll ds) Γ1 := xe_callTy1 (wl := rLstOf X.tc) call_list_of (rd_lst .da hd).opl hg B.list PyProof.Rows.boot_list ha (he := he) (hpl := hpl)

/-! ### + -/
theorem op2_catT {T : TC} (hl : ds.length + es'.length ≤ sizeLine) : Op2 T (rCatA T.K) (.da (.tuple ds)) (.da (.tuple es')) (.da (.tuple (ds ++ es'))) := fun I H v u B o nd s Q k => by
  obtain ⟨rfl, r⟩ := ownL_da (ds := [.tuple ds, .tuple es']) o
  obtain ⟨v', u', e, r1, r2⟩ := rpL2 r
  cases e
  cases r1 with
  | tup h1 q1 =>
    cases r2 with
    | tup h2 q2 =>
      refine ⟨_, _, _, _, rfl, rfl, sqT_mono s h1, sqT_mono s h2, by rw [q1.length, q2.length]; exact hl, fun e => ?_, fun _ e => ?_, fun _ _ p hp => ?_⟩
      · subst e
        cases q1
        exact k I H _ [] .refl (.da (.tup h2 q2)) List.nodup_nil s
      · subst e
        cases q2
        exact k I H _ [] .refl (.da (.tup h1 (by rw [List.append_nil]; exact q1))) List.nodup_nil s
      · exact k (upd I p (.tup _)) _ _ [] (step_frz s hp) (.da (.tup (SqT.of upd_same) ((RpL.append q1 q2).mono (upd_up (s.free hp))))) List.nodup_nil (upd_both s)
theorem xe_catT (hl : ds.length + es'.length ≤ sizeLine) (ha : XE X a Γ (.da (.tuple ds)) Γ1) (hb : XE X b Γ1 (.da (.tuple es')) Γ2) : XE X (.BinOp a .Add b pos) Γ (.da (.tuple (ds ++ es'))) Γ2 := xe_bin op_catA (op2_catT hl) ha hb

/-! ### x in xs -/
def rInP (T : TC) (neg : Bool) : R2 := fun x y H Q => ∃ d ds, Rp T H x d ∧ (Rp T H y (.list ds) ∨ Rp T H y (.tuple ds)) ∧ d.plain = true ∧ PyData.plainAll ds = true ∧ d.depth ≤ 60 ∧ Q (.bl (neg != ds.any fun z => PyData.eqv z d)) H
theorem room61 {n m : Nat} (hu : X.A.units + 70 < cLine) (h : m ≤ 60) : X.A.units + 1 + min n m < cLine := by
  have := Nat.min_le_right n m
  omega
theorem op_inP (hu : X.A.units + 70 < cLine) : OpR X (compareOp .In) (rInP X.tc false) := by
  rintro pins s σ H x y v u Q I rx ry ⟨d, ds, hd, he, pd, pe, hh, q⟩
  obtain ⟨as, r1⟩ := hd.reads I pd rx
  rcases he with he | he
  · obtain ⟨bs, r2⟩ := he.reads I (by simpa [PyData.plain] using pe) ry
    exact SeqAt.in_list_data r2 r1 pe pd (room61 hu hh) ⟨.bl _, H, I, rfl, by simpa using q⟩
  · obtain ⟨bs, r2⟩ := he.reads I (by simpa [PyData.plain] using pe) ry
    exact SeqAt.in_tuple_data r2 r1 pe pd (room61 hu hh) ⟨.bl _, H, I, rfl, by simpa using q⟩
theorem op_notInP (hu : X.A.units + 70 < cLine) : OpR X (compareOp .NotIn) (rInP X.tc true) := by
  rintro pins s σ H x y v u Q I rx ry ⟨d, ds, hd, he, pd, pe, hh, q⟩
  obtain ⟨as, r1⟩ := hd.reads I pd rx
  rcases he with he | he
  · obtain ⟨bs, r2⟩ := he.reads I (by simpa [PyData.plain] using pe) ry
    exact SeqAt.notIn_list_data r2 r1 pe pd (room61 hu hh) ⟨.bl _, H, I, rfl, by simpa using q⟩
  · obtain ⟨bs, r2⟩ := he.reads I (by simpa [PyData.plain] using pe) ry
    exact SeqAt.notIn_tuple_data r2 r1 pe pd (room61 hu hh) ⟨.bl _, H, I, rfl, by simpa using q⟩
theorem rd_in {T : TC} {neg : Bool} (hv : SV x d') (hd' : d' = .list ds ∨ d' = .tuple ds) (pd : d.plain = true) (pe : PyData.plainAll ds = true) (hh : d.depth ≤ 60) : Rd2 T (fun v u => rInP T neg u v) x d (.bool (neg != ds.any fun z => PyData.eqv z d)) := fun I H v u B o h s Q kk =>
  ⟨d, ds, h.mono s, hd'.imp (fun e => by rw [← e]; exact hv.rp o s) (fun e => by rw [← e]; exact hv.rp o s), pd, pe, hh, kk _ (.bl _)⟩
theorem xt_inS (i : Nat) (hu : X.A.units + 70 < cLine) (hb : XE X b Γ (.da d) Γ1) (pd : d.plain = true) (pe : PyData.plainAll ds = true) (hh : d.depth ≤ 60) (hx : Γ1[i]? = some (some x) := by rfl) (hv : SV x d' := by first | exact .da | exact .ll | exact .pin) (hd' : d' = .list ds ∨ d' = .tuple ds := by first | exact .inl rfl | exact .inr rfl) (hm : behindInMarks .In (.Name nm p) = false := by rfl)
    (hN : X.N[i]? = some nm := by rfl) (hvs : Vis X.env.scope nm := by first | exact Or.inl rfl | exact Or.inr (Or.inl rfl) | exact Or.inr (Or.inr rfl)) (h1 : (nm == ("__debug__" : Str)) = false := by decide) (h2 : (nm == ("__classdict__" : Str)) = false := by decide) :
    XT X (.Compare b [.In] [.Name nm p] pos) Γ (ds.any fun z => PyData.eqv z d) Γ1 := fun Ψ hq I H σ F en Q kk => ⟨_, pt_cmpR (op_inP hu) wpE_ok (pe_var hN hvs h1 h2) hm, core_VS (f := rInP X.tc false) hb hx (rd_in hv hd' pd pe hh) en _ fun w I' H' F' hw st en' => by
      cases hw
      exact ⟨_, rfl, kk _ Γ1 I' H' F' (by simpa using hq) st en'⟩⟩
theorem xt_notInS (i : Nat) (hu : X.A.units + 70 < cLine) (hb : XE X b Γ (.da d) Γ1) (pd : d.plain = true) (pe : PyData.plainAll ds = true) (hh : d.depth ≤ 60) (hx : Γ1[i]? = some (some x) := by rfl) (hv : SV x d' := by first | exact .da | exact .ll | exact .pin) (hd' : d' = .list ds ∨ d' = .tuple ds := by first | exact .inl rfl | exact .inr rfl) (hm : behindInMarks .NotIn (.Name nm p) = false := by rfl)
    (hN : X.N[i]? = some nm := by rfl) (hvs : Vis X.env.scope nm := by first | exact Or.inl rfl | exact Or.inr (Or.inl rfl) | exact Or.inr (Or.inr rfl)) (h1 : (nm == ("__debug__" : Str)) = false := by decide) (h2 : (nm == ("__classdict__" : Str)) = false := by decide) :
    XT X (.Compare b [.NotIn] [.Name nm p] pos) Γ (!ds.any fun z => PyData.eqv z d) Γ1 := fun Ψ hq I H σ F en Q kk => ⟨_, pt_cmpR (op_notInP hu) wpE_ok (pe_var hN hvs h1 h2) hm, core_VS (f := rInP X.tc true) hb hx (rd_in hv hd' pd pe hh) en _ fun w I' H' F' hw st en' => by
      cases hw
      exact ⟨_, rfl, kk _ Γ1 I' H' F' (by simpa using hq) st en'⟩⟩
theorem xe_inS (i : Nat) (hu : X.A.units + 70 < cLine) (hb : XE X b Γ (.da d) Γ1) (pd : d.plain = true) (pe : PyData.plainAll ds = true) (hh : d.depth ≤ 60) (hx : Γ1[i]? = some (some x) := by rfl) (hv : SV x d' := by first | exact .da | exact .ll | exact .pin) (hd' : d' = .list ds ∨ d' = .tuple ds := by first | exact .inl rfl | exact .inr rfl) (hm : behindInMarks .In (.Name nm p) = false := by rfl)
    (hN : X.N[i]? = some nm := by rfl) (hvs : Vis X.env.scope nm := by first | exact Or.inl rfl | exact Or.inr (Or.inl rfl) | exact Or.inr (Or.inr rfl)) (h1 : (nm == ("__debug__" : Str)) = false := by decide) (h2 : (nm == ("__classdict__" : Str)) = false := by decide) :
    XE X (.Compare b [.In] [.Name nm p] pos) Γ (.da (.bool (ds.any fun z => PyData.eqv z d))) Γ1 := fun Ψ hq I H σ F en Q kk => ⟨_, pe_cmpR (op_inP hu) wpE_ok (pe_var hN hvs h1 h2) hm, core_VS (f := rInP X.tc false) hb hx (rd_in hv hd' pd pe hh) en _ fun w I' H' F' hw st en' =>
      kk _ Γ1 I' H' w F' hq st (en'.da (by simpa using hw))⟩
theorem xt_inV (hu : X.A.units + 70 < cLine) (hb : XE X b Γ (.da d) Γ1) (ha : XE X a Γ1 (.da d') Γ2) (pd : d.plain = true) (pe : PyData.plainAll ds = true) (hh : d.depth ≤ 60) (hd' : d' = .list ds ∨ d' = .tuple ds := by first | exact .inl rfl | exact .inr rfl) (hm : behindInMarks .In a = false := by rfl) :
    XT X (.Compare b [.In] [a] pos) Γ (ds.any fun z => PyData.eqv z d) Γ2 := xt_cmp (op_inP hu) hm (by have q := (rd_in (T := X.tc) (neg := false) (x := .da d') .da hd' pd pe hh).op2' (f := rInP X.tc false); simpa using q) hb ha
theorem xt_notInV (hu : X.A.units + 70 < cLine) (hb : XE X b Γ (.da d) Γ1) (ha : XE X a Γ1 (.da d') Γ2) (pd : d.plain = true) (pe : PyData.plainAll ds = true) (hh : d.depth ≤ 60) (hd' : d' = .list ds ∨ d' = .tuple ds := by first | exact .inl rfl | exact .inr rfl) (hm : behindInMarks .NotIn a = false := by rfl) :
    XT X (.Compare b [.NotIn] [a] pos) Γ (!ds.any fun z => PyData.eqv z d) Γ2 := xt_cmp (op_notInP hu) hm (by have q := (rd_in (T := X.tc) (neg := true) (x := .da d') .da hd' pd pe hh).op2' (f := rInP X.tc true); simpa using q) hb ha
theorem any_int {j : Int} : ∀ {ns : List Int}, ((ns.map PyData.int).any fun z => PyData.eqv z (.int j)) = decide (j ∈ ns)
  | [] => rfl
  | n :: ns => by
    rw [List.map_cons, List.any_cons, any_int, eqv_int, Bool.eq_iff_iff]
    simp only [Bool.or_eq_true, decide_eq_true_eq, List.mem_cons]
    exact or_congr ⟨Eq.symm, Eq.symm⟩ Iff.rfl

/-! ### max, min of a list of ints; all -/
theorem vs_ints {T : TC} {I : Hp} : ∀ {vs : List V} {ns : List Int}, RpL T I vs (ns.map .int) → vs = ns.map V.int
  | _, [], .nil => rfl
  | _, n :: ns, .cons (.int _) r => by rw [vs_ints r]; rfl
theorem vs_bools {T : TC} {I : Hp} : ∀ {vs : List V} {ns : List Bool}, RpL T I vs (ns.map .bool) → vs = ns.map V.bl
  | _, [], .nil => rfl
  | _, n :: ns, .cons (.bl _) r => by rw [vs_bools r]; rfl
theorem rd_max {T : TC} {ns : List Int} {m : Int} (hv : SV x (.list (ns.map .int))) (hm : m ∈ ns) (hx : ∀ y ∈ ns, y ≤ m) : Rd1 T (rMax T.K) x (.da (.int m)) := Rd1.pure fun I H v B o s Q k => by
  obtain ⟨a, vs, rfl, h, r⟩ := hv.seq (.inl rfl) o s
  rcases h with ⟨_, h⟩ | ⟨q, _⟩
  · rw [vs_ints r] at h
    refine ⟨a, ns, rfl, h, List.length_pos_of_mem hm, fun m' h1 h2 => ?_⟩
    have : m' = m := Int.le_antisymm (hx m' h1) (h2 m hm)
    subst this
    exact k _ (.int _)
  · cases q
theorem rd_min {T : TC} {ns : List Int} {m : Int} (hv : SV x (.list (ns.map .int))) (hm : m ∈ ns) (hx : ∀ y ∈ ns, m ≤ y) : Rd1 T (rMin T.K) x (.da (.int m)) := Rd1.pure fun I H v B o s Q k => by
  obtain ⟨a, vs, rfl, h, r⟩ := hv.seq (.inl rfl) o s
  rcases h with ⟨_, h⟩ | ⟨q, _⟩
  · rw [vs_ints r] at h
    refine ⟨a, ns, rfl, h, List.length_pos_of_mem hm, fun m' h1 h2 => ?_⟩
    have : m' = m := Int.le_antisymm (h2 m hm) (hx m' h1)
    subst this
    exact k _ (.int _)
  · cases q
theorem xe_maxS (i : Nat) (B : Blt X.mg) (hc : X.calm = true) {ns : List Int} {m : Int} (hm : m ∈ ns) (hx' : ∀ y ∈ ns, y ≤ m) (hx : Γ[i]? = some (some x) := by rfl) (hv : SV x (.list (ns.map .int)) := by first | exact .da | exact .ll | exact .pin) (hg : Gl X "max" := by rfl)
    (hN : X.N[i]? = some n2 := by rfl) (hvs : Vis X.env.scope n2 := by first | exact Or.inl rfl | exact Or.inr (Or.inl rfl) | exact Or.inr (Or.inr rfl)) (h1 : (n2 == ("__debug__" : Str)) = false := by decide) (h2 : (n2 == ("__classdict__" : Str)) = false := by decide)
    (he : starEach [.Name n2 p2] X.env = (false, eval (.Name n2 p2) X.env) :: starEach [] X.env := by rfl) (hpl : (backTo pos (starEach [] X.env)).any (·.1) = false := by rfl) :
    XE X (.Call (.Name "max" p) [.Name n2 p2] [] pos) Γ (.da (.int m)) Γ := xe_callS (wl := rMax X.K) i (cr_max hc) (rd_max (T := X.tc) hv hm hx') hg B.max (by decide +kernel) (hx := hx) (hN := hN) (hvs := hvs) (h1 := h1) (h2 := h2) (he := he) (hpl := hpl)
theorem xe_minS (i : Nat) (B : Blt X.mg) (hc : X.calm = true) {ns : List Int} {m : Int} (hm : m ∈ ns) (hx' : ∀ y ∈ ns, m ≤ y) (hx : Γ[i]? = some (some x) := by rfl) (hv : SV x (.list (ns.map .int)) := by first | exact .da | exact .ll | exact .pin) (hg : Gl X "min" := by rfl)
    (hN : X.N[i]? = some n2 := by rfl) (hvs : Vis X.env.scope n2 := by first | exact Or.inl rfl | exact Or.inr (Or.inl rfl) | exact Or.inr (Or.inr rfl)) (h1 : (n2 == ("__debug__" : Str)) = false := by decide) (h2 : (n2 == ("__classdict__" : Str)) = false := by decide)
    (he : starEach [.Name n2 p2] X.env = (false, eval (.Name n2 p2) X.env) :: starEach [] X.env := by rfl) (hpl : (backTo pos (starEach [] X.env)).any (·.1) = false := by rfl) :
    XE X (.Call (.Name "min" p) [.Name n2 p2] [] pos) Γ (.da (.int m)) Γ := xe_callS (wl := rMin X.K) i (cr_min hc) (rd_min (T := X.tc) hv hm hx') hg B.min (by decide +kernel) (hx := hx) (hN := hN) (hvs := hvs) (h1 := h1) (h2 := h2) (he := he) (hpl := hpl)
theorem rd_all {T : TC} {bs : List Bool} (hv : SV x (.list (bs.map .bool))) : Rd1 T (rAll T.K) x (.da (.bool (bs.all id))) := Rd1.pure fun I H v B o s Q k => by
  obtain ⟨a, vs, rfl, h, r⟩ := hv.seq (.inl rfl) o s
  rcases h with ⟨_, h⟩ | ⟨q, _⟩
  · rw [vs_bools r] at h
    exact ⟨a, bs, rfl, h, k _ (.bl _)⟩
  · cases q
theorem rd_any {T : TC} {bs : List Bool} (hv : SV x (.list (bs.map .bool))) : Rd1 T (rAny T.K) x (.da (.bool (bs.any id))) := Rd1.pure fun I H v B o s Q k => by
  obtain ⟨a, vs, rfl, h, r⟩ := hv.seq (.inl rfl) o s
  rcases h with ⟨_, h⟩ | ⟨q, _⟩
  · rw [vs_bools r] at h
    exact ⟨a, bs, rfl, h, k _ (.bl _)⟩
  · cases q
theorem xe_all (B : Blt X.mg) (hc : X.calm = true) {bs : List Bool} (ha : XE X a Γ (.da (.list (bs.map .bool))) Γ1) (hg : Gl X "all" := by rfl) (he : starEach [a] X.env = (false, eval a X.env) :: starEach [] X.env := by rfl) (hpl : (backTo pos (starEach [] X.env)).any (·.1) = false := by rfl) :
    XE X (.Call (.Name "all" p) [a] [] pos) Γ (.da (.bool (bs.all id))) Γ1 := xe_callB1 (wl := rAll X.K) (cr_all hc) (rd_all (T := X.tc) .da).opl hg B.all (by decide +kernel) ha (he := he) (hpl := hpl)
theorem xe_any (B : Blt X.mg) (hc : X.calm = true) {bs : List Bool} (ha : XE X a Γ (.da (.list (bs.map .bool))) Γ1) (hg : Gl X "any" := by rfl) (he : starEach [a] X.env = (false, eval a X.env) :: starEach [] X.env := by rfl) (hpl : (backTo pos (starEach [] X.env)).any (·.1) = false := by rfl) :
    XE X (.Call (.Name "any" p) [a] [] pos) Γ (.da (.bool (bs.any id))) Γ1 := xe_callB1 (wl := rAny X.K) (cr_any hc) (rd_any (T := X.tc) .da).opl hg B.any (by decide +kernel) ha (he := he) (hpl := hpl)
theorem xe_min2 (B : Blt X.mg) (hc : X.calm = true) {i j : Int} (ha : XE X a Γ (.da (.int i)) Γ1) (hb : XE X b Γ1 (.da (.int j)) Γ2) (hg : Gl X "min" := by rfl) (he : starEach [a, b] X.env = (false, eval a X.env) :: starEach [b] X.env := by rfl)
    (he2 : starEach [b] X.env = (false, eval b X.env) :: starEach [] X.env := by rfl) (hpl : (backTo pos (starEach [b] X.env)).any (·.1) = false := by rfl) : XE X (.Call (.Name "min" p) [a, b] [] pos) Γ (.da (.int (if j < i then j else i))) Γ2 :=
  xe_callB2 (call_min2 hc) (OpL.pure (ds := [.int i, .int j]) fun I H vs r _ Q k => by
      obtain ⟨v, u, rfl, h, h'⟩ := rpL2 r
      cases h
      cases h'
      exact ⟨i, j, rfl, k _ (.int _)⟩) hg B.min (by decide +kernel) ha hb (he := he) (he2 := he2) (hpl := hpl)
theorem xe_max2 (B : Blt X.mg) (hc : X.calm = true) {i j : Int} (ha : XE X a Γ (.da (.int i)) Γ1) (hb : XE X b Γ1 (.da (.int j)) Γ2) (hg : Gl X "max" := by rfl) (he : starEach [a, b] X.env = (false, eval a X.env) :: starEach [b] X.env := by rfl)
    (he2 : starEach [b] X.env = (false, eval b X.env) :: starEach [] X.env := by rfl) (hpl : (backTo pos (starEach [b] X.env)).any (·.1) = false := by rfl) : XE X (.Call (.Name "max" p) [a, b] [] pos) Γ (.da (.int (if j > i then j else i))) Γ2 :=
  xe_callB2 (call_max2 hc) (OpL.pure (ds := [.int i, .int j]) fun I H vs r _ Q k => by
      obtain ⟨v, u, rfl, h, h'⟩ := rpL2 r
      cases h
      cases h'
      exact ⟨i, j, rfl, k _ (.int _)⟩) hg B.max (by decide +kernel) ha hb (he := he) (he2 := he2) (hpl := hpl)
end
end TL

/-! TL14: dicts made, frozen, walked, sorted; list.pop; truth. -/
namespace TL
open PySem PySem.Spec PyProof.Rows L2

section
variable {X : Cx} {e a b c o it tg : Expr} {es elts : List Expr} {ss rest : List Stmt} {Γ Γ' Γ1 Γ2 : Sl} {Ψ : OD → Sl → Prop} {Φ : Out → Prop} {Φt : Bool → Sl → Prop} {pos p apos cpos p2 tpos : Pos} {r x y z : OD} {nm n2 : Str} {ds : List PyData} {d d' g : PyData} {i kk : Nat} {ks : List (Key × PyData)}

/-! ### {} and {k: v} -/
theorem xe_dict0 : XE X (.Dict [] [] pos) Γ (.dd []) Γ := fun Ψ hq I H σ F en Q k => ⟨_, pe_dnewK, fun p hp => by
  have en2 := en.use (B := []) (by simpa using en.nd) (step_new (F := []) hp) (Own.dd (kvs := []) (ds := []) upd_same (en.sub.free hp) rfl .nil) (by simp) (upd_sub en.sub hp)
  exact k _ _ I _ _ _ hq en2.2 en2.1⟩
theorem xe_dict1 {k : Key} (ha : XE X a Γ (.da (keyD k)) Γ1) (hb : XE X b Γ1 (.da d) Γ2) : XE X (.Dict [some a] [b] pos) Γ (.dd [(k, d)]) Γ2 := fun Ψ hq I H σ F en Q kq => by
  refine ⟨_, pe_disp (pps_cons wpE_ok wpE_ok pps_nil) rfl rfl (by simp) (by simp), fun p hp => ?_⟩
  -- the new dict stands while the pair is made: as an own thing on the stack
  obtain ⟨en0, st0⟩ := en.use (B := []) (by simpa using en.nd) (step_new (F := []) hp) (Own.dd (kvs := []) (ds := []) upd_same (en.sub.free hp) rfl .nil) (by simp) (upd_sub en.sub hp)
  obtain ⟨B0, G0, e0, o0, en0', up0⟩ := en0.pop
  refine ha (fun r Γ' => r = .da (keyD k) ∧ Γ' = Γ1) ⟨rfl, rfl⟩ I (upd H p (.dK [])) σ G0 en0' _ ?_
  rintro _ _ I1 H1 u F1 ⟨rfl, rfl⟩ st1 en1
  obtain ⟨B1, G1, rfl, o1, en1', up1⟩ := en1.pop
  cases o1 with
  | da hk =>
    refine hb (fun r Γ' => r = .da d ∧ Γ' = Γ2) ⟨rfl, rfl⟩ I1 H1 σ G1 en1' _ ?_
    rintro _ Γ2' I2 H2 w F2 ⟨rfl, e2⟩ st2 en2
    subst e2
    obtain ⟨B2, G2, rfl, o2, en2', _⟩ := en2.pop
    cases o2 with
    | da hd =>
      obtain ⟨en3, st3, o3⟩ := up0 (st1.trans st2) en2'
      have hB : B0 = [p] := by
        cases o0
        rfl
      subst hB
      cases o3 with
      | dd h1 h2 h3 h4 =>
        rename_i kvs
        have hk0 : kvs = [] := by simpa using h3
        subst hk0
        rw [rp_key hk]
        refine ⟨h1, [(k, w)], rfl, by simp, ?_⟩
        have nd := en3.nd
        have np : p ∉ G2 := (List.nodup_cons.mp (show (p :: G2).Nodup from nd)).1
        have en4 : EnvF X.tc I2 (upd H2 p (.dK (mergeK [] [(k, w)]))) σ Γ2' G2 := ⟨en2'.env.frame (Same.refl I2) fun b hb => ⟨upd_ne fun q => np (q ▸ hb), (en2'.env.cells b hb).2⟩, en2'.nd, fun b u e => by
          rw [upd_ne fun q => by
            subst q
            rw [h2] at e
            cases e]
          exact en2'.sub b u e⟩
        refine kq _ _ I2 _ _ ([p] ++ G2) hq ?_ ⟨.cons (.dd upd_same h2 rfl (.cons hd .nil)) en4.env, nd, en4.sub⟩
        exact (st0.trans st3).trans ((step_upd (F := [p] ++ G2) (by simp)).of_mem (fun b hb => hb) fun b hb => hb)

/-! ### a dict from now on only read -/
theorem frz_dd {T : TC} {I H : Hp} {v : V} {B : List Addr} (o : Own T I H v (.dd ks) B) : ∃ p kvs, v = .ref p ∧ B = [p] ∧ H p = some (.dK kvs) ∧ I p = none ∧ ∀ od, Rp T (upd I p (.frz od (.dK kvs))) v (dkD ks) := by
  cases o with
  | @dd p kvs _ h1 h2 h3 h4 =>
    refine ⟨p, kvs, rfl, rfl, h1, h2, fun od => .dk upd_same ?_ ?_⟩
    · have e : kvs.map (fun p => keyD p.1) = (kvs.map Prod.fst).map keyD := by rw [List.map_map]; rfl
      rw [e, h3, List.map_map, List.map_map]
      rfl
    · rw [List.map_map]
      exact h4.mono (upd_up h2)
theorem EnvF.lock {T : TC} {I H : Hp} {σ : L2.St} {G : List Addr} {v : V} {p : Addr} {kvs : List (Key × V)} (en : EnvF T I H σ Γ G) (hH : H p = some (.dK kvs)) (hI : I p = none) (np : p ∉ G) (od : Obj) :
    EnvF T (upd I p (.frz od (.dK kvs))) (upd H p (.frz od (.dK kvs))) σ Γ G ∧ Step I H (p :: G) (upd I p (.frz od (.dK kvs))) (upd H p (.frz od (.dK kvs))) G :=
  ⟨⟨en.env.frame (upd_up hI) fun b hb => ⟨upd_ne fun q => np (q ▸ hb), by rw [upd_ne (b := b) (fun q : b = p => np (q ▸ hb))]; exact (en.env.cells b hb).2⟩, en.nd, upd_both en.sub⟩,
    upd_up hI, fun b ob e1 e2 n => by
      rw [List.mem_cons, not_or] at n
      exact ⟨by rw [upd_ne n.1]; exact e1, by rw [upd_ne n.1]; exact e2, n.2⟩⟩
/-- the reading: what stands at the answer is locked -/
theorem pe_lockF {t : TE} (h : PE X e t) : PE X e (fun σ H Q => t σ H fun v H1 => ∃ d u, v = .ref d ∧ H1 d = some u ∧ Mut (some u) ∧ ∀ od, Q v (upd H1 d (.frz od u))) := ⟨fun pins s σ H Q I hw =>
  thn (h.run pins s σ H _ I hw) fun v s1 ⟨x, H1, I1, rx, d, u, ex, hd, mu, q⟩ => by
    obtain ⟨od, I2⟩ := I1.lock hd mu
    exact ⟨x, _, I2, rx, q od⟩⟩
theorem we_frzD (h : WE X e Γ fun r Γ1 => ∃ ks, r = .dd ks ∧ Ψ (.da (dkD ks)) Γ1) : WE X e Γ Ψ := fun I H σ F en Q k => ⟨_, pe_lockF wpE_ok, h I H σ F en _ fun r Γ1 I1 H1 v F1 ⟨ks, hr, hq⟩ st1 en1 => by
  subst hr
  obtain ⟨B, G, rfl, o, en2, _⟩ := en1.pop
  obtain ⟨p, kvs, rfl, rfl, h1, h2, h3⟩ := frz_dd o
  refine ⟨p, _, rfl, h1, True.intro, fun od => ?_⟩
  have np : p ∉ G := (List.nodup_cons.mp (show (p :: G).Nodup from en1.nd)).1
  obtain ⟨en3, st3⟩ := en2.lock (v := .ref p) h1 h2 np od
  exact k _ Γ1 _ _ _ G hq (st1.trans st3) (en3.da (h3 od))⟩
theorem xe_frzD (h : XE X e Γ (.dd ks) Γ1) : XE X e Γ (.da (dkD ks)) Γ1 := fun _ hq => we_frzD (h _ ⟨ks, rfl, hq⟩)
theorem ws_frzD (i : Nat) (h : WSs X ss (Γ.set i (some (.da (dkD ks)))) Φ) (hx : Γ[i]? = some (some (.dd ks)) := by rfl) : WSs X ss Γ Φ := fun I H σ F en D ek => by
  refine ⟨fun D σ H => ∃ d u, H d = some u ∧ Mut (some u) ∧ ∀ od, wpSs X ss D σ (upd H d (.frz od u)), ⟨fun pins s σ H D I ⟨d, u, hd, mu, q⟩ => by
    obtain ⟨od, I1⟩ := I.lock hd mu
    exact wpSs_ok.run pins s σ _ D I1 (q od)⟩, ?_⟩
  obtain ⟨v, B, G, e1, o, en', nd, mem⟩ := en.take hx
  obtain ⟨p, kvs, rfl, rfl, h1, h2, h3⟩ := frz_dd o
  refine ⟨p, _, h1, True.intro, fun od => ?_⟩
  have np : p ∉ G := (List.nodup_cons.mp (show (p :: G).Nodup from nd)).1
  obtain ⟨en3, st3⟩ := en'.lock (v := .ref p) h1 h2 np od
  obtain ⟨F4, en4, nd4, m4⟩ := en3.into (B := []) (x := .da (dkD ks)) e1 (.da (h3 od)) en3.nd
  rw [List.set_set] at en4
  exact h _ _ σ F4 en4 D (ek.step (st3.of_mem (fun b hb => (List.mem_cons.mp hb).elim (fun q => (mem b).mpr (.inl (q ▸ List.mem_cons_self))) fun q => (mem b).mpr (.inr q)) fun b hb => (m4 b hb).elim (fun q => absurd q (by simp)) id))

/-! ### walks -/
theorem ks_get {kvs : List (Key × V)} (h : kvs.map Prod.fst = ks.map Prod.fst) {i : Nat} {k : Key} {v : V} (hi : kvs[i]? = some (k, v)) : ∃ d, ks[i]? = some (k, d) := by
  have e : (kvs.map Prod.fst)[i]? = some k := by rw [List.getElem?_map, hi]; rfl
  rw [h, List.getElem?_map] at e
  obtain ⟨q, h1, h2⟩ := Option.map_eq_some_iff.mp e
  obtain ⟨k', d⟩ := q
  exact ⟨d, by rw [h1]; simpa using h2⟩
theorem key_rp {T : TC} {I : Hp} : ∀ k : Key, Rp T I (kV k) (keyD k)
  | .inl i => .int i
  | .inr s => .str s
theorem len_eq {α β : Type} {kvs : List (Key × α)} {ks : List (Key × β)} (h : kvs.map Prod.fst = ks.map Prod.fst) : kvs.length = ks.length := by
  have := congrArg List.length h
  rwa [List.length_map, List.length_map] at this
theorem isit_keys {T : TC} {I : Hp} {a : Addr} {ob : Obj} {kvs : List (Key × V)} (h : I a = some (.frz ob (.dK kvs))) (hk : kvs.map Prod.fst = ks.map Prod.fst) : IsIt T (Itk a ob kvs) (ks.map fun p => keyD p.1) I where
  go := fun i I' H s1 s2 hl => ⟨s2 _ _ (s1 _ _ h), by rw [len_eq hk]; simpa using hl⟩
  stop := fun I' H s1 s2 => ⟨s2 _ _ (s1 _ _ h), by rw [len_eq hk]; simp⟩
  yld := fun i I' H v H' s1 s2 hl hy => by
    obtain ⟨rfl, k, w, hi, rfl⟩ := hy
    obtain ⟨d, hd⟩ := ks_get hk hi
    exact ⟨I', _, by rw [List.getElem?_map, hd]; rfl, .refl, s2, key_rp k⟩
theorem isit_vals {T : TC} {I : Hp} {a : Addr} {ob : Obj} {kvs : List (Key × V)} (h : I a = some (.frz ob (.dK kvs))) (hk : kvs.map Prod.fst = ks.map Prod.fst) (hr : RpL T I (kvs.map Prod.snd) (ks.map Prod.snd)) : IsIt T (Itd a ob kvs) (ks.map Prod.snd) I where
  go := fun i I' H s1 s2 hl => ⟨s2 _ _ (s1 _ _ h), by rw [len_eq hk]; simpa using hl⟩
  stop := fun I' H s1 s2 => ⟨s2 _ _ (s1 _ _ h), by rw [len_eq hk]; simp⟩
  yld := fun i I' H v H' s1 s2 hl hy => by
    obtain ⟨rfl, k, hi⟩ := hy
    obtain ⟨d, hd, q⟩ := hr.get' (i := i) (v := v) (by rw [List.getElem?_map, hi]; rfl)
    exact ⟨I', d, hd, .refl, s2, q.mono s1⟩
theorem isit_items {T : TC} {I : Hp} {a : Addr} {ob : Obj} {kvs : List (Key × V)} (h : I a = some (.frz ob (.dK kvs))) (hk : kvs.map Prod.fst = ks.map Prod.fst) (hr : RpL T I (kvs.map Prod.snd) (ks.map Prod.snd)) : IsIt T (Iti a ob kvs) (ks.map fun p => .tuple [keyD p.1, p.2]) I where
  go := fun i I' H s1 s2 hl => ⟨s2 _ _ (s1 _ _ h), by rw [len_eq hk]; simpa using hl⟩
  stop := fun I' H s1 s2 => ⟨s2 _ _ (s1 _ _ h), by rw [len_eq hk]; simp⟩
  yld := fun i I' H v H' s1 s2 hl hy => by
    obtain ⟨p, k, w, hi, rfl, hp, rfl⟩ := hy
    obtain ⟨d, hd⟩ := ks_get hk hi
    obtain ⟨d', hd', q⟩ := hr.get' (i := i) (v := w) (by rw [List.getElem?_map, hi]; rfl)
    rw [List.getElem?_map, hd] at hd'
    cases hd'
    exact ⟨upd I' p (.tup [kV k, w]), _, by rw [List.getElem?_map, hd]; rfl, step_frz s2 hp, upd_both s2, .tup (SqT.of upd_same) (.cons (key_rp k) (.cons ((q.mono s1).mono (upd_up (s2.free hp))) .nil))⟩
theorem xi_keys (h : XE X it Γ (.da (dkD ks)) Γ1) : XI X tg it Γ (ks.map fun p => keyD p.1) Γ1 := fun Ψ hq I H σ F en R k => ⟨_, pi_keys wpE_ok, h (fun r Γ' => r = .da (dkD ks) ∧ Γ' = Γ1) ⟨rfl, rfl⟩ I H σ F en _ (by
  rintro _ _ I1 H1 v F1 ⟨rfl, rfl⟩ st1 en1
  obtain ⟨B, G, rfl, o, en2, _⟩ := en1.pop
  cases o with
  | da o =>
    obtain ⟨a, ob, kvs, rfl, h1, h2, h3⟩ := rp_dkD o
    exact ⟨a, ob, rfl, .inl ⟨kvs, en2.sub _ _ h1, k _ _ I1 H1 _ _ hq st1 en2 (isit_keys h1 h2)⟩⟩)⟩
theorem xi_vals (h : XE X it Γ (.da (dkD ks)) Γ1) (hbase : attributeBase it "values" X.env (eval it X.env) = eval it X.env := by rfl) (hline : (apos.endLine == cpos.line) = true := by rfl) : XI X tg (.Call (.Attribute it "values" apos) [] [] cpos) Γ (ks.map Prod.snd) Γ1 := fun Ψ hq I H σ F en R k => ⟨_, pi_values wpE_ok hbase hline, h (fun r Γ' => r = .da (dkD ks) ∧ Γ' = Γ1) ⟨rfl, rfl⟩ I H σ F en _ (by
  rintro _ _ I1 H1 v F1 ⟨rfl, rfl⟩ st1 en1
  obtain ⟨B, G, rfl, o, en2, _⟩ := en1.pop
  cases o with
  | da o =>
    obtain ⟨a, ob, kvs, rfl, h1, h2, h3⟩ := rp_dkD o
    exact ⟨a, ob, kvs, rfl, en2.sub _ _ h1, k _ _ I1 H1 _ _ hq st1 en2 (isit_vals h1 h2 h3)⟩)⟩
theorem xi_items (h : XE X it Γ (.da (dkD ks)) Γ1) (hbase : attributeBase it "items" X.env (eval it X.env) = eval it X.env := by rfl) (hline : (apos.endLine == cpos.line) = true := by rfl) : XI X (.Tuple elts kk tpos) (.Call (.Attribute it "items" apos) [] [] cpos) Γ (ks.map fun p => .tuple [keyD p.1, p.2]) Γ1 := fun Ψ hq I H σ F en R k => ⟨_, pi_items wpE_ok hbase hline, h (fun r Γ' => r = .da (dkD ks) ∧ Γ' = Γ1) ⟨rfl, rfl⟩ I H σ F en _ (by
  rintro _ _ I1 H1 v F1 ⟨rfl, rfl⟩ st1 en1
  obtain ⟨B, G, rfl, o, en2, _⟩ := en1.pop
  cases o with
  | da o =>
    obtain ⟨a, ob, kvs, rfl, h1, h2, h3⟩ := rp_dkD o
    exact ⟨a, ob, kvs, rfl, en2.sub _ _ h1, k _ _ I1 H1 _ _ hq st1 en2 (isit_items h1 h2 h3)⟩)⟩

/-! ### len of a dict, truth -/
def rLenD : List V → Hp → VK → Prop := fun xs H Q => ∃ a kvs, xs = [.ref a] ∧ Rd H a (.dK kvs) ∧ Q (.int kvs.length) H
theorem call_lenDR : CallR X (.builtin "len") rLenD := by
  rintro pins s σ H xs us Q I r ⟨a, kvs, rfl, h, q⟩
  cases r with
  | cons rv r =>
    cases r
    cases rv
    exact d_len I h fun t s' I' => ⟨.int kvs.length, H, I', ⟨t, rfl⟩, q⟩
theorem rd_lenD {T : TC} (hv : DV x ks) : Rd1 T rLenD x (.da (.int ks.length)) := Rd1.pure fun I H v B o s Q k => by
  obtain ⟨a, kvs, rfl, h1, h2, h3⟩ := hv.rd o s
  exact ⟨a, kvs, rfl, h1, by rw [len_eq h2]; exact k _ (.int _)⟩
theorem xe_lenDS (i : Nat) (B : Blt X.mg) (hx : Γ[i]? = some (some x) := by rfl) (hv : DV x ks := by first | exact .dd | exact .pin | exact .da) (hg : Gl X "len" := by rfl)
    (hN : X.N[i]? = some n2 := by rfl) (hvs : Vis X.env.scope n2 := by first | exact Or.inl rfl | exact Or.inr (Or.inl rfl) | exact Or.inr (Or.inr rfl)) (h1 : (n2 == ("__debug__" : Str)) = false := by decide) (h2 : (n2 == ("__classdict__" : Str)) = false := by decide)
    (he : starEach [.Name n2 p2] X.env = (false, eval (.Name n2 p2) X.env) :: starEach [] X.env := by rfl) (hpl : (backTo pos (starEach [] X.env)).any (·.1) = false := by rfl) :
    XE X (.Call (.Name "len" p) [.Name n2 p2] [] pos) Γ (.da (.int ks.length)) Γ := xe_callS (wl := rLenD) i call_lenDR (rd_lenD hv) hg B.len PySem.boot_len (hx := hx) (hN := hN) (hvs := hvs) (h1 := h1) (h2 := h2) (he := he) (hpl := hpl)
theorem xe_lenD (B : Blt X.mg) (ha : XE X a Γ (.da (dkD ks)) Γ1) (hg : Gl X "len" := by rfl) (he : starEach [a] X.env = (false, eval a X.env) :: starEach [] X.env := by rfl) (hpl : (backTo pos (starEach [] X.env)).any (·.1) = false := by rfl) :
    XE X (.Call (.Name "len" p) [a] [] pos) Γ (.da (.int ks.length)) Γ1 := xe_callB1 (wl := rLenD) call_lenDR (rd_lenD .da).opl hg B.len PySem.boot_len ha (he := he) (hpl := hpl)
/-- truth of what stands in a slot -/
def rTru (T : TC) (v : V) (H : Hp) (k : Bool) : Prop := TruV T.K v H k ∨ ∃ a kvs, v = .ref a ∧ Rd H a (.dK kvs) ∧ k = !kvs.isEmpty
theorem tru_all : TruR X (fun x H Q => ∃ k, rTru X.tc x H k ∧ Q k H) := by
  rintro pins s σ H x v Q I rx ⟨k, h | ⟨a, kvs, rfl, h, rfl⟩, q⟩
  · exact tru_ok pins s σ H x v Q I rx ⟨k, h, q⟩
  · cases rx
    exact d_truth I h fun s' I' => ⟨H, I', q⟩
/-- x's truth is k -/
inductive Tru : OD → Bool → Prop
  | non : Tru (.da .none) false
  | bl {b : Bool} : Tru (.da (.bool b)) b
  | int {n : Int} : Tru (.da (.int n)) (n != 0)
  | sv {x : OD} {d : PyData} {ds : List PyData} (h : SV x d) (hd : d = .list ds ∨ d = .tuple ds) : Tru x (!ds.isEmpty)
  | dv {x : OD} {ks : List (Key × PyData)} (h : DV x ks) : Tru x (!ks.isEmpty)
theorem isEmpty_len {α β : Type} {xs : List α} {ys : List β} (h : xs.length = ys.length) : xs.isEmpty = ys.isEmpty := by
  cases xs <;> cases ys <;> simp at h ⊢
theorem Tru.ok {T : TC} {I H : Hp} {v : V} {B : List Addr} {k : Bool} (h : Tru x k) (o : Own T I H v x B) (s : Same I H) : rTru T v H k := by
  cases h with
  | non => cases o with
    | da o => cases o; exact .inl rfl
  | bl => cases o with
    | da o => cases o; exact .inl rfl
  | int => cases o with
    | da o => cases o; exact .inl rfl
  | sv h hd =>
    obtain ⟨a, vs, rfl, q, r⟩ := h.seq hd o s
    rcases q with ⟨_, q⟩ | ⟨_, q, _⟩
    · exact .inl (.inl ⟨vs, q, by rw [isEmpty_len r.length]⟩)
    · exact .inl (.inr (.inl ⟨vs, q, by rw [isEmpty_len r.length]⟩))
  | dv h =>
    obtain ⟨a, kvs, rfl, h1, h2, h3⟩ := h.rd o s
    exact .inr ⟨a, kvs, rfl, h1, by rw [isEmpty_len (len_eq h2)]⟩
theorem pt_truthA {ta : TE} (ha : PE X a ta) (he : ∀ whole, isTrue a X.env whole = (do let v ← whole; standAt a.pos; holding [v] (truthy v)) := by intro _; rfl) : PT X a (fun σ H Q => ta σ H fun x H' => ∃ k, rTru X.tc x H' k ∧ Q k H') := by
  refine ⟨fun pins s σ H Q I h => ?_⟩
  show wpAny _ _ (isTrue a X.env (eval a X.env)) _ _ _
  rw [he]
  refine wpAny_bind (thn (ha.run pins s σ H _ I h) fun v s1 ⟨x, H1, I1, rx, q⟩ => ?_)
  refine wpAny_bind (wpAny_standAt ?_)
  exact wpAny_holding (tru_all pins s1 σ H1 x v Q I1 rx q)
theorem xt_truS (i : Nat) {k : Bool} (ht : Tru x k) (hx : Γ[i]? = some (some x) := by rfl) (hN : X.N[i]? = some nm := by rfl) (hvs : Vis X.env.scope nm := by first | exact Or.inl rfl | exact Or.inr (Or.inl rfl) | exact Or.inr (Or.inr rfl)) (h1 : (nm == ("__debug__" : Str)) = false := by decide) (h2 : (nm == ("__classdict__" : Str)) = false := by decide)
    (he : ∀ whole, isTrue (.Name nm p) X.env whole = (do let v ← whole; standAt (Expr.Name nm p).pos; holding [v] (truthy v)) := by intro _; rfl) : XT X (.Name nm p) Γ k Γ := fun Ψ hq I H σ F en Q kq => by
  obtain ⟨v, B, e1, o⟩ := en.see hx
  exact ⟨_, pt_truthA (pe_var hN hvs h1 h2) he, v, e1, k, ht.ok o en.sub, kq k Γ I H F hq .refl en⟩
theorem wt_tru (h : WE X a Γ fun r Γ1 => ∃ k, Tru r k ∧ Φt k Γ1) (he : ∀ whole, isTrue a X.env whole = (do let v ← whole; standAt a.pos; holding [v] (truthy v)) := by intro _; rfl) : WT X a Γ Φt := fun I H σ F en Q kq =>
  ⟨_, pt_truthA wpE_ok he, h I H σ F en _ fun r Γ1 I1 H1 v F1 ⟨k, ht, hq⟩ st1 en1 => by
    obtain ⟨B, G, rfl, o, en2, _⟩ := en1.pop
    exact ⟨k, ht.ok o en2.sub, kq k Γ1 I1 H1 G hq (step_sub st1 fun b hb => List.mem_append_right _ hb) en2⟩⟩
end
end TL

/-! TL15: sorted(d), sorted(d.items()), list(d.items()). -/
namespace TL
open PySem PySem.Spec PyProof.Rows L2

section
variable {X : Cx} {e a b c o it tg : Expr} {es elts : List Expr} {ss rest : List Stmt} {Γ Γ' Γ1 Γ2 : Sl} {Ψ : OD → Sl → Prop} {Φ : Out → Prop} {Φt : Bool → Sl → Prop} {pos p apos cpos p2 tpos : Pos} {r x y z : OD} {nm n2 : Str} {ds : List PyData} {d d' g : PyData} {i kk : Nat} {ks : List (Key × PyData)}

/-- what sorted asks of its items -/
structure SrtOk (ds : List PyData) : Prop where
  plain : PyData.plainAll ds = true
  alike : PySem.W.AllAlike ds
  srt : PySem.W.Sortable ds
  len : ds.length ≤ sizeLine
  depth : ∀ d ∈ ds, d.depth ≤ 60
/-- list.sort of a list just made -/
theorem sort_fresh {pins : List (Addr × Obj)} {σ : L2.St} {H I0 : Hp} {s : Shared} {A : Around} {acc : List Value} {Q : VK} {E : Value → Shared → Prop} (I : Inv X pins σ H s) (er : PySem.W.EachIs (fun u d => ∃ v, RelV v u ∧ Rp X.tc I0 v d) acc ds) (sub : Same I0 H) (ok : SrtOk ds) (hA : A.units + 61 < cLine)
    (k : ∀ (p : Addr) (ws : List V), H p = none → RpL X.tc I0 ws (sortD ds) → Q (.ref p) (upd H p (.lst ws))) :
    wpAny (model X.prog X.w) A (Builtin.«list.sort» ⟨[.ref s.heap.objs.size], []⟩) (fun f s' => f = .done (.ret .none) ∧ EP X pins σ Q (.ref s.heap.objs.size) s') E { s with heap := s.heap.push (seqObj "list" acc.toArray 0) } := by
  have ho : (s.heap.push (seqObj "list" acc.toArray 0)).get? s.heap.objs.size = some (seqObj "list" acc.toArray 0) := Heap.get?_push_size _ rfl
  have old : ∀ b o, s.heap.get? b = some o → (PySem.W.sortingHeap (s.heap.push (seqObj "list" acc.toArray 0)) s.heap.objs.size acc).get? b = some o := fun b o e =>
    PySem.W.sortingHeap_old (Nat.ne_of_lt (Heap.lt_size e)) (Heap.get?_push_of_some _ e)
  have er1 : PySem.W.EachIs (fun u d => ∃ as, Reads s.heap u d as) acc ds := each_imp er fun u d hm ⟨v, q, h⟩ => (h.mono sub).reads I (plainAll_mem ok.plain hm) q
  have er2 : PySem.W.EachIs (fun u d => ∃ as, Reads (PySem.W.sortingHeap (s.heap.push (seqObj "list" acc.toArray 0)) s.heap.objs.size acc) u (id d) as) acc ds := each_imp er1 fun u d _ ⟨as, q⟩ => ⟨as, PyProof.Rows.Reads.keeps (fun _ _ => old _ _) q⟩
  have al' : PySem.W.AllAlike (ds.map id) := by rw [List.map_id]; exact ok.alike
  have so' : PySem.W.Sortable (ds.map id) := by rw [List.map_id]; exact ok.srt
  have hl : acc.length = ds.length := er.length
  refine PySem.W.list_sort_vals (s := { s with heap := s.heap.push (seqObj "list" acc.toArray 0) }) (κ := PySem.W.dataKind (PySem.W.sortingHeap (s.heap.push (seqObj "list" acc.toArray 0)) s.heap.objs.size acc) (ds.map id)) ho
    (PySem.W.SortsAt.data (s := { s with heap := PySem.W.sortingHeap (s.heap.push (seqObj "list" acc.toArray 0)) s.heap.objs.size acc }) (PySem.W.each_map (R := fun v d => ∃ as, Reads (PySem.W.sortingHeap (s.heap.push (seqObj "list" acc.toArray 0)) s.heap.objs.size acc) v d as) id er2) al' so' (PySem.W.bound_map fun d hd => ?_)) (by rw [hl]; exact ok.len) ?_
  · have := ok.depth d hd
    show A.units + d.depth < cLine
    omega
  · have eo := PySem.W.sortVals_data (h' := PySem.W.sortingHeap (s.heap.push (seqObj "list" acc.toArray 0)) s.heap.objs.size acc) (enc := id) false er er2 al'
    have lo : (PySem.W.sortVals (PySem.W.dataKind (PySem.W.sortingHeap (s.heap.push (seqObj "list" acc.toArray 0)) s.heap.objs.size acc) (ds.map id)) false acc acc).length = ds.length := by rw [PySem.W.sortVals_length false rfl]; exact hl
    revert eo lo
    generalize PySem.W.sortVals (PySem.W.dataKind (PySem.W.sortingHeap (s.heap.push (seqObj "list" acc.toArray 0)) s.heap.objs.size acc) (ds.map id)) false acc acc = out
    intro eo lo
    obtain ⟨ws, w1, w2⟩ := each_back eo
    obtain ⟨c', hc⟩ := PyProof.Rows.sortedHeap_at (vs := acc) (out := out.toArray) ho
    have hn : H s.heap.objs.size = none := I.hok.fresh (Nat.le_refl _)
    have hlen : ws.length ≤ sizeLine := by
      rw [w1.length, lo]
      exact ok.len
    refine ⟨rfl, .ref s.heap.objs.size, upd H s.heap.objs.size (.lst ws), I.laid (t' := s.toks) (fun b u e => ?_) (Nat.le_refl _) ⟨hlen, out, c', w1, hc⟩, rfl, k _ ws hn w2⟩
    have hb : b < s.heap.objs.size := Heap.lt_size e
    rw [PyProof.Rows.sortedHeap_old (Nat.ne_of_lt hb) (by rw [size_push']; exact Nat.lt_succ_of_lt hb)]
    exact Heap.get?_push_of_some _ e

def _root_.L2.V.at : V → Addr
  | .ref a => a
  | _ => 0
/-! ### sorted(d) -/
theorem each_ix {α β : Type} {R : α → β → Prop} : ∀ {as : List α} {bs : List β}, as.length = bs.length → (∀ (j : Nat) (a : α) (b : β), as[j]? = some a → bs[j]? = some b → R a b) → PySem.W.EachIs R as bs
  | [], [], _, _ => .nil
  | a :: as, b :: bs, hl, h => .cons (h 0 a b rfl rfl) (each_ix (by simpa using hl) fun j x y e1 e2 => h (j + 1) x y (by simpa using e1) (by simpa using e2))
  | [], _ :: _, hl, _ => by simp at hl
  | _ :: _, [], hl, _ => by simp at hl
def rSortedD (T : TC) : List V → Hp → VK → Prop := fun xs H Q => ∃ a kvs ks, xs = [.ref a] ∧ Rd H a (.dK kvs) ∧ kvs.map Prod.fst = ks ∧ SrtOk (ks.map keyD) ∧ ∀ (p : Addr) (ws : List V), H p = none → RpL T (fun _ => none) ws (sortD (ks.map keyD)) → Q (.ref p) (upd H p (.lst ws))
theorem call_sortedDR (hcalm : X.calm = true) (hu : X.A.units + 70 < cLine) : CallR X (.builtin "sorted") (rSortedD X.tc) := by
  rintro pins s σ H xs us Q I r ⟨a, kvs, ks, rfl, hd, rfl, ok, q⟩
  obtain ⟨u, eu, rx⟩ := vals1 r
  subst eu
  cases rx
  obtain ⟨z, lo, vs, rel, dd⟩ := dk_rd I.hok hd
  obtain ⟨ep, hat⟩ := dd.dictAt
  have lk : kvs.length = vs.length := Paired.length rel
  refine Calls.call_function_entry PyProof.Rows.kind_sorted PyProof.Rows.plain_sorted PyProof.Rows.entry_sorted (PyProof.Rows.args_sorted1 _) ?_
  unfold Builtin.«sorted»
  refine wpAny_bind (m := checkCount "sorted" 1 1 _) (wpAny_pure ?_)
  refine wpAny_bind (PySem.W.kdu_collect (A := X.A.in1) (PySem.W.kdl_dict (knd := mixKind X.prog X.w) (kvs := vs) (ep := ep) lo) (I.ok.hd hcalm) hat (by omega) fun h' tk acc hk hacc => ?_)
  have hal : acc.toList.length = vs.length := by rw [Array.length_toList, hacc.1]
  have I1 : Inv X pins σ H { s with heap := h', toks := tk } := I.kept hk
  refine wpAny_bind (wpAny_newList ?_ (by rw [hal]; omega))
  have hoL : (h'.push (seqObj "list" acc.toList.toArray 0)).get? h'.objs.size = some (seqObj "list" acc.toList.toArray 0) := Heap.get?_push_size _ rfl
  show wpAny _ _ _ _ _ { s with heap := h'.push (seqObj "list" acc.toList.toArray 0), toks := tk }
  have er : PySem.W.EachIs (fun u d => ∃ v, RelV v u ∧ Rp X.tc (fun _ => none) v d) acc.toList ((kvs.map Prod.fst).map keyD) := each_ix (by rw [hal, List.length_map, List.length_map, lk]) fun j u d e1 e2 => by
    obtain ⟨k, x, e3, e4⟩ := hacc.2 j u (by rw [← Array.getElem?_toList]; exact e1)
    have e5 : (kvs.map Prod.fst)[j]? = some k := by
      rw [rel.keys, List.getElem?_map, e3]
      rfl
    rw [List.getElem?_map, e5] at e2
    cases e2
    exact ⟨kV k, relV_key (show keyIs k u = true from e4), key_rp k⟩
  refine wpAny_bind (wpAny_holding (wpAny_call_entry PyProof.Rows.slot_list_sort ⟨_, hoL, rfl⟩ PyProof.Rows.entry_list_sort ?body (PyProof.Rows.args_list_sort _)))
  case body =>
    refine wpAny_mono (sort_fresh (A := X.A.in1.in1) I1 er (fun b u e => by cases e) ok (by show X.A.units + 2 + 61 < cLine; omega) q) (fun f s' hf => ?_) fun _ _ e => e
    obtain ⟨rfl, hq⟩ := hf
    exact ⟨_, rfl, wpAny_pure ⟨_, rfl, hq⟩⟩
theorem rd_sortedD {T : TC} (hv : DV x ks) (ok : SrtOk (ks.map fun p => keyD p.1)) : Rd1 T (rSortedD T) x (.ll (sortD (ks.map fun p => keyD p.1))) := fun I H v B o s Q k => by
  obtain ⟨a, kvs, rfl, h1, h2, h3⟩ := hv.rd o s
  have e : ks.map (fun p => keyD p.1) = (ks.map Prod.fst).map keyD := by rw [List.map_map]; rfl
  rw [e] at ok k
  exact ⟨a, kvs, ks.map Prod.fst, rfl, h1, h2, ok, fun p ws hp r => k I _ _ [p] (step_new hp) (.ll upd_same (s.free hp) (r.mono fun b u e => by cases e)) (by simp) (upd_sub s hp)⟩
theorem xe_sortedDS (i : Nat) (B : Blt X.mg) (hc : X.calm = true) (hu : X.A.units + 70 < cLine) (ok : SrtOk (ks.map fun p => keyD p.1)) (hx : Γ[i]? = some (some x) := by rfl) (hv : DV x ks := by first | exact .dd | exact .pin | exact .da) (hg : Gl X "sorted" := by rfl)
    (hN : X.N[i]? = some n2 := by rfl) (hvs : Vis X.env.scope n2 := by first | exact Or.inl rfl | exact Or.inr (Or.inl rfl) | exact Or.inr (Or.inr rfl)) (h1 : (n2 == ("__debug__" : Str)) = false := by decide) (h2 : (n2 == ("__classdict__" : Str)) = false := by decide)
    (he : starEach [.Name n2 p2] X.env = (false, eval (.Name n2 p2) X.env) :: starEach [] X.env := by rfl) (hpl : (backTo pos (starEach [] X.env)).any (·.1) = false := by rfl) :
    XE X (.Call (.Name "sorted" p) [.Name n2 p2] [] pos) Γ (.ll (sortD (ks.map fun p => keyD p.1))) Γ := xe_callS (wl := rSortedD X.tc) i (call_sortedDR hc hu) (rd_sortedD hv ok) hg B.sorted (by decide +kernel) (hx := hx) (hN := hN) (hvs := hvs) (h1 := h1) (h2 := h2) (he := he) (hpl := hpl)
theorem xe_sortedD (B : Blt X.mg) (hc : X.calm = true) (hu : X.A.units + 70 < cLine) (ok : SrtOk (ks.map fun p => keyD p.1)) (ha : XE X a Γ (.da (dkD ks)) Γ1) (hg : Gl X "sorted" := by rfl) (he : starEach [a] X.env = (false, eval a X.env) :: starEach [] X.env := by rfl) (hpl : (backTo pos (starEach [] X.env)).any (·.1) = false := by rfl) :
    XE X (.Call (.Name "sorted" p) [a] [] pos) Γ (.ll (sortD (ks.map fun p => keyD p.1))) Γ1 := xe_callB1 (wl := rSortedD X.tc) (call_sortedDR hc hu) (rd_sortedD .da ok).opl hg B.sorted (by decide +kernel) ha (he := he) (hpl := hpl)
/-- sorted(xs), a list -/
theorem xe_sorted (B : Blt X.mg) (hu : X.A.units + 70 < cLine) (ok : SrtOk ds) (ha : XE X a Γ (.da (.list ds)) Γ1) (hg : Gl X "sorted" := by rfl) (he : starEach [a] X.env = (false, eval a X.env) :: starEach [] X.env := by rfl) (hpl : (backTo pos (starEach [] X.env)).any (·.1) = false := by rfl) :
    XE X (.Call (.Name "sorted" p) [a] [] pos) Γ (.ll (sortD ds)) Γ1 := xe_callB1 (wl := rSorted X.tc) (call_sortedP hu) (opl_sorted ok.plain ok.alike ok.srt ok.len ok.depth) hg B.sorted (by decide +kernel) ha (he := he) (hpl := hpl)
theorem we_sorted (B : Blt X.mg) (hu : X.A.units + 70 < cLine) (h : WE X a Γ fun r Γ1 => ∃ ds, Frz r (.list ds) ∧ SrtOk ds ∧ Ψ (.ll (sortD ds)) Γ1) (hg : Gl X "sorted" := by rfl) (he : starEach [a] X.env = (false, eval a X.env) :: starEach [] X.env := by rfl) (hpl : (backTo pos (starEach [] X.env)).any (·.1) = false := by rfl) :
    WE X (.Call (.Name "sorted" p) [a] [] pos) Γ Ψ := we_callB (wl := rSorted X.tc) (call_sortedP hu) hg B.sorted (by decide +kernel) (wa_cons (we_frz (h.mono fun r Γ1 ⟨ds, f, ok, q⟩ => ⟨.list ds, f, wa_nil ⟨_, opl_sorted ok.plain ok.alike ok.srt ok.len ok.depth, q⟩⟩)) he) (he := he) (hpl := hpl)

/-! ### sorted(d.items()), list(d.items()) -/
abbrev prD (ks : List (Key × PyData)) : List PyData := ks.map fun p => .tuple [keyD p.1, p.2]
theorem pairs_ok {T : TC} : ∀ {as : List Addr} {kvs : List (Key × V)} {ks : List (Key × PyData)} {I H : Hp}, as.length = kvs.length → as.Nodup → (∀ t ∈ as, H t = none) → Same I H → kvs.map Prod.fst = ks.map Prod.fst → RpL T I (kvs.map Prod.snd) (ks.map Prod.snd) →
    Step I H [] (LiI.putT I as kvs) (LiI.putT H as kvs) [] ∧ Same (LiI.putT I as kvs) (LiI.putT H as kvs) ∧ RpL T (LiI.putT I as kvs) (as.map V.ref) (prD ks)
  | [], [], [], I, H, _, _, _, s, _, _ => ⟨.refl, s, .nil⟩
  | [], [], _ :: _, _, _, _, _, _, _, h, _ => by simp at h
  | [], _ :: _, _, _, _, h, _, _, _, _, _ => by simp at h
  | _ :: _, [], _, _, _, h, _, _, _, _, _ => by simp at h
  | _ :: _, _ :: _, [], _, _, _, _, _, _, h, _ => by simp at h
  | t :: as, q :: kvs, k :: ks, I, H, hl, nd, hn, s, hk, hr => by
    rw [List.map_cons, List.map_cons, List.cons.injEq] at hk
    rw [List.map_cons, List.map_cons] at hr
    have nd' := List.nodup_cons.mp nd
    have h0 := hn t List.mem_cons_self
    cases hr with
    | cons h1 hr =>
      have st0 : Step I H [] (upd I t (.tup [kV q.1, q.2])) (upd H t (.tup [kV q.1, q.2])) [] := step_frz s h0
      obtain ⟨g1, g2, g3⟩ := pairs_ok (as := as) (kvs := kvs) (ks := ks) (I := upd I t (.tup [kV q.1, q.2])) (H := upd H t (.tup [kV q.1, q.2])) (by simpa using hl) nd'.2
        (fun b hb => by rw [upd_ne (b := b) (fun e : b = t => nd'.1 (e ▸ hb))]; exact hn b (List.mem_cons_of_mem _ hb)) (upd_both s) hk.2 (hr.mono st0.inc)
      have hp : Rp T (upd I t (.tup [kV q.1, q.2])) (.ref t) (.tuple [keyD k.1, k.2]) := .tup (SqT.of upd_same) (.cons (by rw [← hk.1]; exact key_rp q.1) (.cons (h1.mono st0.inc) .nil))
      exact ⟨st0.trans g1, g2, .cons (hp.mono g1.inc) g3⟩
theorem pairs_inv {pins : List (Addr × Obj)} {σ : L2.St} {H : Hp} {s : Shared} {h' : Heap} {tk : Nat} {kvs : List (Key × V)} {vs : List (Key × Value)} {as : List Addr} (I : Inv X pins σ H s) (kv : KV kvs vs) (hk : ∀ b o, s.heap.get? b = some o → h'.get? b = some o) (hl : as.length = vs.length)
    (G : PySem.W.KdxG (mixKind X.prog X.w) vs s.heap.objs.size h' as) : (∀ t ∈ as, H t = none) ∧ as.Nodup ∧ Inv X pins σ (LiI.putT H as kvs) { s with heap := h', toks := tk } := by
  have free : ∀ t ∈ as, H t = none := fun t ht => I.hok.fresh (Nat.le_of_lt (G.above t ht))
  have nd : as.Nodup := G.rise.imp fun h => Nat.ne_of_lt h
  have hz : as.length = kvs.length := hl.trans (Paired.length kv).symm
  have put := LiI.putT_at as kvs H hz nd
  have old : ∀ b u, H b = some u → LiI.putT H as kvs b = some u := fun b u e => by
    rw [LiI.putT_off as kvs H fun hb => by rw [free b hb] at e; cases e]
    exact e
  have was : ∀ b o, s.heap.get? b = some o → b ∉ as := fun b o e hb => Nat.lt_irrefl _ (Nat.lt_trans (Heap.lt_size e) (G.above b hb))
  refine ⟨free, nd, I.call' (s' := { s with heap := h', toks := tk }) (ch := []) rfl ?_ ?_ I.bare fun b hb => nomatch hb⟩
  · constructor
    · exact fun b o e _ _ _ => hk b o e
    · exact fun b o e _ _ _ => ⟨o.slots, hk b o e⟩
    · exact fun b o e n _ => by rw [LiI.putT_off as kvs H (was b o e)]; exact n
    · exact fun b o e _ => ⟨o, hk b o e⟩
    · exact fun b xs e => old b _ e
    · exact fun b o u e => old b _ e
    · exact fun b ps e => ⟨#[], by rw [old b _ e]; simp⟩
  · intro b u e
    by_cases hb : b ∈ as
    · obtain ⟨j, pk, e1, e2, e3⟩ := LiI.paired_ix put hb
      rw [e3] at e
      cases e
      obtain ⟨kx, k, x, f1, f2, f3⟩ := G.pairs j b e1
      obtain ⟨q, g1, g2, g3⟩ := LiI.paired_get kv e2
      rw [f1] at g1
      cases g1
      have rk : RelV (kV pk.1) kx := g2 ▸ relV_key (show keyIs k kx = true from f2)
      exact ⟨by show 2 ≤ sizeLine; decide, [kx, x], .cons rk (.cons g3 .nil), ⟨_, f3, rfl, _, rfl⟩⟩
    · rw [LiI.putT_off as kvs H hb] at e
      exact (I.hok b u e).stay (fun c v _ y => hk c v y) (fun c y => old c _ y) fun c xs y => old c _ y
/-- the reading of sorted(d.items()) -/
def rItS (T : TC) : V → Hp → VK → Prop := fun x H Q => ∃ a kvs ks I, x = .ref a ∧ Rd H a (.dK kvs) ∧ Same I H ∧ kvs.map Prod.fst = ks.map Prod.fst ∧ RpL T I (kvs.map Prod.snd) (ks.map Prod.snd) ∧ SrtOk (prD ks) ∧
  ∀ (I' H' : Hp) (w : V), Step I H [] I' H' [w.at] → Own T I' H' w (.ll (sortD (prD ks))) [w.at] → Same I' H' → Q w H'
theorem pe_sortedItems {te : TE} (hc : X.calm = true) (hu : X.A.units + 70 < cLine) (he : PE X e te) (hg : Gl X "sorted") (hm : X.mg "sorted" = none) (hbase : attributeBase e "items" X.env (eval e X.env) = eval e X.env := by rfl) (hline : (apos.endLine == cpos.line) = true := by rfl)
    (hs : starEach [.Call (.Attribute e "items" apos) [] [] cpos] X.env = (false, eval (.Call (.Attribute e "items" apos) [] [] cpos) X.env) :: starEach [] X.env := by rfl) :
    PE X (.Call (.Name "sorted" p) [.Call (.Attribute e "items" apos) [] [] cpos] [] pos) (fun σ H Q => te σ H fun x H1 => rItS X.tc x H1 Q) := by
  refine ⟨fun pins s σ H Q I hq => wpAny_Call_Name_kw (ld_blt I hg hm (by decide +kernel : bootBuiltins "sorted" = some (.builtin "sorted")) (PyProof.Rows.callWith_builtin1 ?_ hs rfl))⟩
  rw [hs]
  refine Calls.spliced_cons (wpAny_Call_method (T := "dict") (id := "dict.items") hbase rfl hline F.plainAttrs_dict F.slot_dict_items F.type_dict_items (thn (he.run pins s σ H _ I hq) ?_))
  rintro u s1 ⟨x, H1, I1, rx, a, kvs, ks, I0, rfl, hd, sub, hk, hr, ok, q⟩
  cases rx
  obtain ⟨z, lo, vs, rel, dd⟩ := dk_rd I1.hok hd
  obtain ⟨ep, hat⟩ := dd.dictAt
  have lk : kvs.length = vs.length := Paired.length rel
  have I2 : Inv X pins σ H1 { s1 with heap := s1.heap.push { cls := .type "dict_items", data := .fields #[.ref a] } } := I1.kept (t' := s1.toks) fun b ob q => Heap.get?_push_of_some _ q
  refine ⟨dd.typeIs, dd.mapOf.noDict, method_meetsIn F.slot_dict_items F.entry_dict_items rfl (PySem.evalArgs_none ⟨rfl, dd.typeIs, F.args_dict_items_1 _, _, meets_dict_items (mixKind X.prog X.w) a lo, ⟨vs, dd⟩, Calls.spliced_nil ?_⟩)⟩
  refine Calls.call_function_entry PyProof.Rows.kind_sorted PyProof.Rows.plain_sorted PyProof.Rows.entry_sorted (PyProof.Rows.args_sorted1 _) ?_
  unfold Builtin.«sorted»
  refine wpAny_bind (m := checkCount "sorted" 1 1 _) (wpAny_pure (wpAny_bind (PySem.W.kdx_collect (A := X.A.in1) (knd := mixKind X.prog X.w) (kvs := vs) (ep := ep) (I2.ok.hd hc) ⟨_, Heap.get?_push_size _ rfl, rfl, rfl⟩ (hat.push _) (by omega) fun h' tk as hkp hl G => ?_)))
  obtain ⟨fr, nd, I3⟩ := pairs_inv (tk := tk) I2 rel hkp hl G
  obtain ⟨g1, g2, g3⟩ := pairs_ok (hl.trans lk.symm) nd fr sub hk hr
  have hal : (as.map Value.ref).length = vs.length := by rw [List.length_map, hl]
  refine wpAny_bind (wpAny_newList ?_ (by rw [hal]; omega))
  have hoL : (h'.push (seqObj "list" (as.map Value.ref).toArray 0)).get? h'.objs.size = some (seqObj "list" (as.map Value.ref).toArray 0) := Heap.get?_push_size _ rfl
  show wpAny _ _ _ _ _ { s1 with heap := h'.push (seqObj "list" (as.map Value.ref).toArray 0), toks := tk }
  have er : PySem.W.EachIs (fun u d => ∃ v, RelV v u ∧ Rp X.tc (LiI.putT I0 as kvs) v d) (as.map Value.ref) (prD ks) := each_rel g3 (LiI.vals_refs as)
  refine wpAny_bind (wpAny_holding (wpAny_call_entry PyProof.Rows.slot_list_sort ⟨_, hoL, rfl⟩ PyProof.Rows.entry_list_sort ?body (PyProof.Rows.args_list_sort _)))
  case body =>
    refine wpAny_mono (sort_fresh (s := { s1 with heap := h', toks := tk }) (A := X.A.in1.in1) (Q := Q) I3 er g2 ok (by show X.A.units + 2 + 61 < cLine; omega) (fun p ws hp r => ?_)) (fun f s' hf => ?_) fun _ _ e => e
    · exact q (LiI.putT I0 as kvs) _ (.ref p) (g1.trans (step_new hp)) (.ll upd_same (g2.free hp) r) (upd_sub g2 hp)
    · obtain ⟨rfl, hq⟩ := hf
      exact ⟨_, rfl, wpAny_pure ⟨_, rfl, hq⟩⟩
theorem rd_itS {T : TC} {I H : Hp} {v : V} {B : List Addr} (hv : DV x ks) (ok : SrtOk (prD ks)) (o : Own T I H v x B) (s : Same I H) {Q : VK} (k : ∀ (I' H' : Hp) (w : V), Step I H [] I' H' [w.at] → Own T I' H' w (.ll (sortD (prD ks))) [w.at] → Same I' H' → Q w H') : rItS T v H Q := by
  obtain ⟨a, kvs, rfl, h1, h2, h3⟩ := hv.rd o s
  exact ⟨a, kvs, ks, I, rfl, h1, s, h2, h3, ok, k⟩
theorem xe_sortedItemsS (i : Nat) (B : Blt X.mg) (hc : X.calm = true) (hu : X.A.units + 70 < cLine) (ok : SrtOk (prD ks)) (hx : Γ[i]? = some (some x) := by rfl) (hv : DV x ks := by first | exact .dd | exact .pin | exact .da) (hg : Gl X "sorted" := by rfl)
    (hN : X.N[i]? = some n2 := by rfl) (hvs : Vis X.env.scope n2 := by first | exact Or.inl rfl | exact Or.inr (Or.inl rfl) | exact Or.inr (Or.inr rfl)) (h1 : (n2 == ("__debug__" : Str)) = false := by decide) (h2 : (n2 == ("__classdict__" : Str)) = false := by decide)
    (hbase : attributeBase (.Name n2 p2) "items" X.env (eval (.Name n2 p2) X.env) = eval (.Name n2 p2) X.env := by rfl) (hline : (apos.endLine == cpos.line) = true := by rfl)
    (hs : starEach [.Call (.Attribute (.Name n2 p2) "items" apos) [] [] cpos] X.env = (false, eval (.Call (.Attribute (.Name n2 p2) "items" apos) [] [] cpos) X.env) :: starEach [] X.env := by rfl) :
    XE X (.Call (.Name "sorted" p) [.Call (.Attribute (.Name n2 p2) "items" apos) [] [] cpos] [] pos) Γ (.ll (sortD (prD ks))) Γ := fun Ψ hq I H σ F en Q k => by
  obtain ⟨v, B', e1, o⟩ := en.see hx
  refine ⟨_, pe_sortedItems hc hu (pe_var hN hvs h1 h2) hg B.sorted hbase hline hs, v, e1, rd_itS hv ok o en.sub fun I' H' w st ow sub => ?_⟩
  obtain ⟨en2, st2⟩ := en.use (B := []) (by simpa using en.nd) st ow (by simp) sub
  exact k _ Γ I' H' w _ hq st2 en2
/-- list(d.items()) -/
def rItL (T : TC) : V → Hp → VK → Prop := fun x H Q => ∃ a kvs ks I, x = .ref a ∧ Rd H a (.dK kvs) ∧ Same I H ∧ kvs.map Prod.fst = ks.map Prod.fst ∧ RpL T I (kvs.map Prod.snd) (ks.map Prod.snd) ∧
  ∀ (I' H' : Hp) (w : V), Step I H [] I' H' [w.at] → Own T I' H' w (.ll (prD ks)) [w.at] → Same I' H' → Q w H'
theorem pe_listItemsR {te : TE} (hc : X.calm = true) (he : PE X e te) (hg : Gl X "list") (hm : X.mg "list" = none) (hbase : attributeBase e "items" X.env (eval e X.env) = eval e X.env := by rfl) (hline : (apos.endLine == cpos.line) = true := by rfl)
    (hs : starEach [.Call (.Attribute e "items" apos) [] [] cpos] X.env = (false, eval (.Call (.Attribute e "items" apos) [] [] cpos) X.env) :: starEach [] X.env := by rfl) :
    PE X (.Call (.Name "list" p) [.Call (.Attribute e "items" apos) [] [] cpos] [] pos) (fun σ H Q => te σ H fun x H1 => rItL X.tc x H1 Q) := by
  refine ⟨fun pins s σ H Q I hq => wpAny_Call_Name_kw (ld_blt I hg hm (by decide +kernel : bootBuiltins "list" = some (.type "list")) (PyProof.Rows.callWith_type1 ?_ hs rfl))⟩
  rw [hs]
  refine Calls.spliced_cons (wpAny_Call_method (T := "dict") (id := "dict.items") hbase rfl hline F.plainAttrs_dict F.slot_dict_items F.type_dict_items (thn (he.run pins s σ H _ I hq) ?_))
  rintro u s1 ⟨x, H1, I1, rx, a, kvs, ks, I0, rfl, hd, sub, hk, hr, q⟩
  cases rx
  obtain ⟨z, lo, vs, rel, dd⟩ := dk_rd I1.hok hd
  obtain ⟨ep, hat⟩ := dd.dictAt
  have lk : kvs.length = vs.length := Paired.length rel
  have I2 : Inv X pins σ H1 { s1 with heap := s1.heap.push { cls := .type "dict_items", data := .fields #[.ref a] } } := I1.kept (t' := s1.toks) fun b ob q => Heap.get?_push_of_some _ q
  refine ⟨dd.typeIs, dd.mapOf.noDict, method_meetsIn F.slot_dict_items F.entry_dict_items rfl (PySem.evalArgs_none ⟨rfl, dd.typeIs, F.args_dict_items_1 _, _, meets_dict_items (mixKind X.prog X.w) a lo, ⟨vs, dd⟩, Calls.spliced_nil ?_⟩)⟩
  refine PySem.W.kdx_call (knd := mixKind X.prog X.w) (kvs := vs) (ep := ep) (I2.ok.hd hc) ⟨_, Heap.get?_push_size _ rfl, rfl, rfl⟩ (hat.push _) (by omega) fun h' tk acc c as hkp hS hl G hacc => ?_
  obtain ⟨H', k1, k2, k3, k4, k5, k6, J⟩ := LiI.items_laid (tk := tk) I2 z rel hkp hS hl G hacc
  have nd : as.Nodup := G.rise.imp fun h => Nat.ne_of_lt h
  obtain ⟨g1, g2, g3⟩ := pairs_ok (hl.trans lk.symm) nd k3 sub hk hr
  have atI := LiI.putT_at as kvs I0 (hl.trans lk.symm) nd
  have subI : Same (LiI.putT I0 as kvs) H' := fun b o e => by
    by_cases hb : b ∈ as
    · obtain ⟨j, pk, e1, e2, e3⟩ := LiI.paired_ix atI hb
      obtain ⟨pk', e4, e5⟩ := LiI.paired_get k6 e1
      rw [e2] at e4
      cases e4
      rw [e3] at e
      cases e
      exact e5
    · rw [LiI.putT_off as kvs I0 hb] at e
      exact k1 _ _ (sub _ _ e)
  have inc : Same I0 (LiI.putT I0 as kvs) := g1.inc
  have hnI : LiI.putT I0 as kvs (s1.heap.push { cls := .type "dict_items", data := .fields #[.ref a] }).objs.size = none := by
    rw [LiI.putT_off as kvs I0 k4]
    exact sub.free k2
  refine ⟨.ref _, H', J, rfl, q (LiI.putT I0 as kvs) H' (.ref _) ⟨inc, fun b o e1 e2 _ => ⟨k1 _ _ e1, ?_, ?_⟩⟩ (.ll k5 hnI g3) subI⟩
  · rw [LiI.putT_off as kvs I0 fun hb => by rw [k3 b hb] at e1; cases e1]
    exact e2
  · intro hb
    have hb' : b = (s1.heap.push { cls := .type "dict_items", data := .fields #[.ref a] }).objs.size := by simpa [V.at] using hb
    rw [hb', k2] at e1
    cases e1
theorem xe_listItemsS (i : Nat) (B : Blt X.mg) (hc : X.calm = true) (hx : Γ[i]? = some (some x) := by rfl) (hv : DV x ks := by first | exact .dd | exact .pin | exact .da) (hg : Gl X "list" := by rfl)
    (hN : X.N[i]? = some n2 := by rfl) (hvs : Vis X.env.scope n2 := by first | exact Or.inl rfl | exact Or.inr (Or.inl rfl) | exact Or.inr (Or.inr rfl)) (h1 : (n2 == ("__debug__" : Str)) = false := by decide) (h2 : (n2 == ("__classdict__" : Str)) = false := by decide)
    (hbase : attributeBase (.Name n2 p2) "items" X.env (eval (.Name n2 p2) X.env) = eval (.Name n2 p2) X.env := by rfl) (hline : (apos.endLine == cpos.line) = true := by rfl)
    (hs : starEach [.Call (.Attribute (.Name n2 p2) "items" apos) [] [] cpos] X.env = (false, eval (.Call (.Attribute (.Name n2 p2) "items" apos) [] [] cpos) X.env) :: starEach [] X.env := by rfl) :
    XE X (.Call (.Name "list" p) [.Call (.Attribute (.Name n2 p2) "items" apos) [] [] cpos] [] pos) Γ (.ll (prD ks)) Γ := fun Ψ hq I H σ F en Q k => by
  obtain ⟨v, B', e1, o⟩ := en.see hx
  obtain ⟨a, kvs, rfl, g1, g2, g3⟩ := hv.rd o en.sub
  refine ⟨_, pe_listItemsR hc (pe_var hN hvs h1 h2) hg B.list hbase hline hs, _, e1, a, kvs, ks, I, rfl, g1, en.sub, g2, g3, fun I' H' w st ow sub => ?_⟩
  obtain ⟨en2, st2⟩ := en.use (B := []) (by simpa using en.nd) st ow (by simp) sub
  exact k _ Γ I' H' w _ hq st2 en2
theorem xe_listItems (B : Blt X.mg) (hc : X.calm = true) (ha : XE X a Γ (.da (dkD ks)) Γ1) (hg : Gl X "list" := by rfl) (hbase : attributeBase a "items" X.env (eval a X.env) = eval a X.env := by rfl) (hline : (apos.endLine == cpos.line) = true := by rfl)
    (hs : starEach [.Call (.Attribute a "items" apos) [] [] cpos] X.env = (false, eval (.Call (.Attribute a "items" apos) [] [] cpos) X.env) :: starEach [] X.env := by rfl) :
    XE X (.Call (.Name "list" p) [.Call (.Attribute a "items" apos) [] [] cpos] [] pos) Γ (.ll (prD ks)) Γ1 := fun Ψ hq I H σ F en Q k => by
  refine ⟨_, pe_listItemsR hc wpE_ok hg B.list hbase hline hs, ha (fun r Γ' => r = .da (dkD ks) ∧ Γ' = Γ1) ⟨rfl, rfl⟩ I H σ F en _ ?_⟩
  rintro _ Γ' I1 H1 v F1 ⟨rfl, e1⟩ st1 en1
  subst e1
  obtain ⟨B', G, rfl, o, en2, _⟩ := en1.pop
  cases o with
  | da o =>
    obtain ⟨a', kvs, rfl, g1, g2, g3⟩ := DV.da.rd (.da o) en2.sub
    refine ⟨a', kvs, ks, I1, rfl, g1, en2.sub, g2, g3, fun I' H' w st ow sub => ?_⟩
    obtain ⟨en3, st3⟩ := en2.use (B := []) (by simpa using en2.nd) st ow (by simp) sub
    exact k _ Γ' I' H' w _ hq (st1.trans st3) en3
end
end TL

/-! TL16: list + list, slices, list(range), zip, reversed, pop, index, get, chained comparisons. -/
namespace TL
open PySem PySem.Spec PyProof.Rows L2

section
variable {X : Cx} {e a b c o it tg : Expr} {es elts : List Expr} {ss rest : List Stmt} {Γ Γ' Γ1 Γ2 Γ3 : Sl} {Ψ : OD → Sl → Prop} {Φ : Out → Prop} {Φt : Bool → Sl → Prop} {pos p apos cpos p2 tpos : Pos} {r x y z : OD} {nm n2 : Str} {ds es' : List PyData} {d d' g : PyData} {i kk : Nat} {ks : List (Key × PyData)} {mk : List PyData → OD}

/-! ### lists: + -/
def rCatL (K : PySem.W.Frag) : R2 := fun x y H Q => ∃ l b xs zs, x = .ref l ∧ y = .ref b ∧ SqL K H l xs ∧ SqL K H b zs ∧ xs.length + zs.length ≤ sizeLine ∧ ∀ p, H p = none → Q (.ref p) (upd H p (.lst (xs ++ zs)))
theorem op_catL : OpR X (binaryOp .Add) (rCatL X.K) := by
  rintro pins s σ H x y v u Q I rx ry ⟨l, b, xs, zs, rfl, rfl, h1, h2, hz, q⟩
  cases rx
  cases ry
  obtain ⟨its, r1, pl1, _⟩ := I.list h1
  obtain ⟨its2, r2, pl2, _⟩ := I.list h2
  obtain ⟨⟨cls1, dd1, data1, sl1⟩, n1, e1, c1, z1, t1⟩ := pl1
  obtain ⟨⟨cls2, dd2, data2, sl2⟩, n2, e2, c2, z2, t2⟩ := pl2
  simp only at c1 z1 t1 c2 z2 t2
  subst c1 t1 c2 t2
  have k1 := r1.length
  have k2 := r2.length
  refine concat_meets ⟨_, e1, rfl⟩ ⟨_, e2, rfl⟩ noFill_list_add seq_list_add PySem.F.slot_list_add PySem.F.entry_list_add (PySem.F.args_list_add_2 _ _) (list_addW l b its.toArray its2.toArray n1 n2 dd1 dd2 sl1 sl2 (by rw [List.size_toArray, List.size_toArray]; omega)) ⟨e1, e2, ?_⟩
  have ea : its.toArray ++ its2.toArray = (its ++ its2).toArray := by simp
  rw [ea]
  exact ⟨.ref s.heap.objs.size, _, I.lnew (t' := s.toks) (r1.append r2) (by rw [List.length_append]; omega), rfl, q _ I.fresh⟩
theorem op2_catL {T : TC} (hl : ds.length + es'.length ≤ sizeLine) : Op2 T (rCatL T.K) (.da (.list ds)) (.da (.list es')) (.ll (ds ++ es')) := fun I H v u B o nd s Q k => by
  obtain ⟨rfl, r⟩ := ownL_da (ds := [.list ds, .list es']) o
  obtain ⟨v', u', e, r1, r2⟩ := rpL2 r
  cases e
  cases r1 with
  | lst h1 q1 =>
    cases r2 with
    | lst h2 q2 => exact ⟨_, _, _, _, rfl, rfl, s.seq h1, s.seq h2, by rw [q1.length, q2.length]; exact hl, fun p hp => k I _ _ [p] (step_new hp) (.ll upd_same (s.free hp) (RpL.append q1 q2)) (by simp) (upd_sub s hp)⟩
/-- xs + ys of lists: a new one -/
theorem xe_catL (hl : ds.length + es'.length ≤ sizeLine) (ha : XE X a Γ (.da (.list ds)) Γ1) (hb : XE X b Γ1 (.da (.list es')) Γ2) : XE X (.BinOp a .Add b pos) Γ (.ll (ds ++ es')) Γ2 := xe_bin op_catL (op2_catL hl) ha hb
theorem we_catL (h : WE X a Γ fun x Γ1 => ∃ ds, Frz x (.list ds) ∧ WE X b Γ1 fun y Γ2 => ∃ es', Frz y (.list es') ∧ ds.length + es'.length ≤ sizeLine ∧ Ψ (.ll (ds ++ es')) Γ2) : WE X (.BinOp a .Add b pos) Γ Ψ :=
  we_bin op_catL (we_frz (h.mono fun x Γ1 ⟨ds, fx, h2⟩ => ⟨.list ds, fx, we_frz (h2.mono fun y Γ2 ⟨es', fy, hl, hq⟩ => ⟨.list es', fy, _, op2_catL hl, hq⟩)⟩))

/-! ### slices -/
def cutD (ds : List PyData) (lo hi : Option Int) : List PyData := (ds.drop (HT.sIx ds.length 0 lo)).take (HT.sIx ds.length ds.length hi - HT.sIx ds.length 0 lo)
theorem rpL_cut {T : TC} {I : Hp} {vs : List V} (r : RpL T I vs ds) (lo hi : Option Int) : RpL T I (cutV vs lo hi) (cutD ds lo hi) := by
  unfold cutV cutD
  rw [r.length]
  exact (r.drop _).take _
/-- a slice's bound -/
def wpO (X : Cx) : Option Expr → TO
  | none => tNoPart
  | some e => tPart (wpE X e)
theorem wpO_ok : ∀ {o : Option Expr}, PO X o (wpO X o)
  | none => po_none
  | some e => po_some wpE_ok
inductive XO (X : Cx) : Option Expr → Sl → Option Int → Sl → Prop
  | none {Γ : Sl} : XO X none Γ none Γ
  | some {e : Expr} {Γ Γ1 : Sl} {j : Int} : XE X e Γ (.da (.int j)) Γ1 → XO X (some e) Γ (some j) Γ1
theorem XO.go {o : Option Expr} {l : Option Int} (h : XO X o Γ l Γ1) {I H : Hp} {σ : L2.St} {F : List Addr} (en : EnvF X.tc I H σ Γ F) (Q : Option Int → Hp → Prop) (k : ∀ (I' H' : Hp) (F' : List Addr), Step I H F I' H' F' → EnvF X.tc I' H' σ Γ1 F' → Q l H') : wpO X o σ H Q := by
  cases h with
  | none => exact k I H F .refl en
  | some h =>
    refine h (fun r Γ' => r = _ ∧ Γ' = Γ1) ⟨rfl, rfl⟩ I H σ F en _ ?_
    rintro _ _ I1 H1 v F1 ⟨rfl, rfl⟩ st1 en1
    obtain ⟨B, G, rfl, o, en2, _⟩ := en1.pop
    cases o with
    | da o =>
      cases o
      exact ⟨_, rfl, k I1 H1 G st1 en2⟩
/-- xs[lo:hi], a list in a slot -/
theorem xe_sliceS (i : Nat) {lo hi : Option Expr} {l u : Option Int} (h1 : XO X lo Γ l Γ1) (h2 : XO X hi Γ1 u Γ2) (hx : Γ2[i]? = some (some x) := by rfl) (hv : SV x (.list ds) := by first | exact .da | exact .ll | exact .pin) (h0 : OSome Γ[i]? = true := by rfl)
    (hN : X.N[i]? = some nm := by rfl) (hvs : Vis X.env.scope nm := by first | exact Or.inl rfl | exact Or.inr (Or.inl rfl) | exact Or.inr (Or.inr rfl)) (h3 : (nm == ("__debug__" : Str)) = false := by decide) (h4 : (nm == ("__classdict__" : Str)) = false := by decide) :
    XE X (.Subscript (.Name nm p) (.Slice lo hi none p2) pos) Γ (.ll (cutD ds l u)) Γ2 := fun Ψ hq I H σ F en Q k => by
  obtain ⟨x0, hx0⟩ := OSome.ex h0
  obtain ⟨v, _, e1, _⟩ := en.see hx0
  refine ⟨_, pe_slice sl_list (pe_var hN hvs h3 h4) wpO_ok wpO_ok, v, e1, h1.go en _ fun I1 H1 F1 st1 en1 => h2.go en1 _ fun I2 H2 F2 st2 en2 => ?_⟩
  obtain ⟨v', B, e1', o⟩ := en2.see hx
  rw [e1] at e1'
  cases e1'
  obtain ⟨a', vs, rfl, q, r⟩ := hv.seq (.inl rfl) o en2.sub
  rcases q with ⟨_, q⟩ | ⟨q, _⟩
  · refine ⟨a', vs, rfl, q, fun p hp => ?_⟩
    obtain ⟨en3, st3⟩ := en2.use (B := []) (by simpa using en2.nd) (step_new (F := []) hp) (Own.ll upd_same (en2.sub.free hp) (rpL_cut r l u)) (by simp) (upd_sub en2.sub hp)
    exact k _ _ I2 _ _ _ hq ((st1.trans st2).trans st3) en3
  · cases q
/-- t[lo:hi], a tuple or a list that is data -/
theorem xe_sliceT {lo hi : Option Expr} {l u : Option Int} (ha : XE X a Γ (.da (.tuple ds)) Γ1) (h1 : XO X lo Γ1 l Γ2) (h2 : XO X hi Γ2 u Γ3) : XE X (.Subscript a (.Slice lo hi none p2) pos) Γ (.da (.tuple (cutD ds l u))) Γ3 := fun Ψ hq I H σ F en Q k => by
  refine ⟨_, pe_slice sl_tupA wpE_ok wpO_ok wpO_ok, ha (fun r Γ' => r = .da (.tuple ds) ∧ Γ' = Γ1) ⟨rfl, rfl⟩ I H σ F en _ ?_⟩
  rintro _ Γ1' I1 H1 v F1 ⟨rfl, e1⟩ st1 en1
  subst e1
  obtain ⟨B, G, rfl, o, en1', _⟩ := en1.pop
  cases o with
  | da o =>
    refine h1.go en1' _ fun I2 H2 F2 st2 en2 => h2.go en2 _ fun I3 H3 F3 st3 en3 => ?_
    have o' := (o.mono st2.inc).mono st3.inc
    cases o' with
    | @tup a' vs _ q r =>
      have st := (st1.trans st2).trans st3
      refine ⟨a', vs, rfl, sqT_mono en3.sub q, fun hw => ?_, fun _ p hp => ?_⟩
      · have e : cutD ds l u = ds := by
          rw [r.length] at hw
          unfold cutD
          rw [hw.1, hw.2, List.drop_zero, Nat.sub_zero, List.take_length]
        exact k _ _ I3 H3 _ _ hq st (en3.da (by rw [e]; exact .tup q r))
      · obtain ⟨en4, st4⟩ := en3.grow (step_frz (o := .tup (cutV vs l u)) en3.sub hp) (upd_both en3.sub)
        exact k _ _ _ _ _ _ hq (st.trans st4) (en4.da (.tup (SqT.of upd_same) ((rpL_cut r l u).mono (upd_up (en3.sub.free hp)))))
theorem xe_sliceL {lo hi : Option Expr} {l u : Option Int} (ha : XE X a Γ (.da (.list ds)) Γ1) (h1 : XO X lo Γ1 l Γ2) (h2 : XO X hi Γ2 u Γ3) : XE X (.Subscript a (.Slice lo hi none p2) pos) Γ (.ll (cutD ds l u)) Γ3 := fun Ψ hq I H σ F en Q k => by
  refine ⟨_, pe_slice sl_list wpE_ok wpO_ok wpO_ok, ha (fun r Γ' => r = .da (.list ds) ∧ Γ' = Γ1) ⟨rfl, rfl⟩ I H σ F en _ ?_⟩
  rintro _ Γ1' I1 H1 v F1 ⟨rfl, e1⟩ st1 en1
  subst e1
  obtain ⟨B, G, rfl, o, en1', _⟩ := en1.pop
  cases o with
  | da o =>
    refine h1.go en1' _ fun I2 H2 F2 st2 en2 => h2.go en2 _ fun I3 H3 F3 st3 en3 => ?_
    have o' := (o.mono st2.inc).mono st3.inc
    cases o' with
    | @lst a' vs _ q r =>
      refine ⟨a', vs, rfl, en3.sub.seq q, fun p hp => ?_⟩
      obtain ⟨en4, st4⟩ := en3.use (B := []) (by simpa using en3.nd) (step_new (F := []) hp) (Own.ll upd_same (en3.sub.free hp) (rpL_cut r l u)) (by simp) (upd_sub en3.sub hp)
      exact k _ _ I3 _ _ _ hq (((st1.trans st2).trans st3).trans st4) en4

/-! ### list(range(..)), tuple(range(..)) -/
theorem rgV_rp {T : TC} {I : Hp} (lo hi : Int) : RpL T I (rgV lo hi) (rangeD lo (hi - lo).toNat) := by
  unfold rgV rangeD
  induction List.range (hi - lo).toNat with
  | nil => exact .nil
  | cons m ms ih => exact .cons (.int _) ih
theorem xe_listRg1 (B : Blt X.mg) (hc : X.calm = true) {j : Int} (ha : XE X a Γ (.da (.int j)) Γ1) (h0 : 0 ≤ j) (hj : j ≤ 16777216) (hg : Gl X "list" := by rfl) (hgr : Gl X "range" := by rfl) (na : starEach [a] X.env = (false, eval a X.env) :: starEach [] X.env := by rfl)
    (na2 : starEach [.Call (.Name "range" p2) [a] [] cpos] X.env = (false, eval (.Call (.Name "range" p2) [a] [] cpos) X.env) :: starEach [] X.env := by rfl) :
    XE X (.Call (.Name "list" p) [.Call (.Name "range" p2) [a] [] cpos] [] pos) Γ (.ll (rangeD 0 j.toNat)) Γ1 := fun Ψ hq I H σ F en Q k => by
  refine ⟨_, pe_listRg hc hg B.list (prg_1 hgr B.range wpE_ok na) na2, ha (fun r Γ' => r = .da (.int j) ∧ Γ' = Γ1) ⟨rfl, rfl⟩ I H σ F en _ ?_⟩
  rintro _ Γ1' I1 H1 v F1 ⟨rfl, e1⟩ st1 en1
  subst e1
  obtain ⟨B', G, rfl, o, en2, _⟩ := en1.pop
  cases o with
  | da o =>
    cases o
    refine ⟨j, rfl, RgOk.of_le (by omega) hj (by omega) h0, fun q hp => ?_⟩
    have r : RpL X.tc I1 (rgV 0 j) (rangeD 0 j.toNat) := by
      have := rgV_rp (T := X.tc) (I := I1) 0 j
      rwa [Int.sub_zero] at this
    obtain ⟨en4, st4⟩ := en2.use (B := []) (by simpa using en2.nd) (step_new (F := []) hp) (Own.ll upd_same (en2.sub.free hp) r) (by simp) (upd_sub en2.sub hp)
    exact k _ _ I1 _ _ _ hq (st1.trans st4) en4

/-! ### zip -/
theorem walk_zipT {K : PySem.W.Frag} {a b : Addr} {xs ys : List V} {n : Nat} (hn : n = min xs.length ys.length) : Walk (RZ.ItzT K a b) n (fun H => SqT K H a xs ∧ SqT K H b ys) (YPair (fun i => xs[i]?) (fun i => ys[i]?)) where
  goes := fun i H hi ⟨h1, h2⟩ => ⟨xs, ys, xs[i]'(by omega), ys[i]'(by omega), h1, h2, List.getElem?_eq_getElem (by omega), List.getElem?_eq_getElem (by omega)⟩
  stops := fun H ⟨h1, h2⟩ => ⟨xs, ys, h1, h2, by omega⟩
  yields := fun i H v H' hi ⟨h1, h2⟩ ⟨t, x, y, e, hT, eH, f1, f2⟩ => ⟨t, x, y, e, hT, eH, f1 xs h1, f2 ys h2⟩
theorem isit_zip {T : TC} {I : Hp} {J : It} {vs us : List V} {G : Hp → Prop} (w : Walk J (min ds.length es'.length) G (YPair (fun i => vs[i]?) (fun i => us[i]?))) (hG : ∀ I' H, Same I I' → Same I' H → G H) (r1 : RpL T I vs ds) (r2 : RpL T I us es') :
    IsIt T J (List.zipWith (fun d e => PyData.tuple [d, e]) ds es') I := by
  rw [zip_len]
  refine isit_pairs (n := min ds.length es'.length) (Y := fun i => (vs.take (min ds.length es'.length))[i]?) (Z := fun i => (us.take (min ds.length es'.length))[i]?) ?_ hG (by rw [List.length_take]; omega) (by rw [List.length_take]; omega) (fun i v h => (r1.take _).get' h) fun i v h => (r2.take _).get' h
  refine w.mono (fun H h => h) ?_
  rintro i H x H' hi _ ⟨t, x', y', e, hT, eH, f1, f2⟩
  refine ⟨t, x', y', e, hT, eH, ?_, ?_⟩
  · show (vs.take _)[i]? = _
    rw [List.getElem?_take, if_pos hi]
    exact f1
  · show (us.take _)[i]? = _
    rw [List.getElem?_take, if_pos hi]
    exact f2
theorem xi_zip (B : Blt X.mg) (ha : XE X a Γ (.da d) Γ1) (hb : XE X b Γ1 (.da d') Γ2) (hd : (d = .list ds ∧ d' = .list es') ∨ (d = .tuple ds ∧ d' = .tuple es') := by first | exact .inl ⟨rfl, rfl⟩ | exact .inr ⟨rfl, rfl⟩) (hg : Gl X "zip" := by rfl)
    (hs : starEach [a, b] X.env = (false, eval a X.env) :: starEach [b] X.env := by rfl) (hs2 : starEach [b] X.env = (false, eval b X.env) :: starEach [] X.env := by rfl) (hpl : (backTo pos (starEach [b] X.env)).any (·.1) = false := by rfl) :
    XI X (.Tuple elts kk tpos) (.Call (.Name "zip" p) [a, b] [] pos) Γ (List.zipWith (fun d e => PyData.tuple [d, e]) ds es') Γ2 := fun Ψ hq I H σ F en R k => by
  refine ⟨_, RZ.pi_zipA hg B.zip wpA_ok hs hpl, wa_data (xa2 ha hb hs hs2) en fun I1 H1 vs F1 r st1 en1 => ?_⟩
  obtain ⟨v, u, rfl, hv, hu⟩ := rpL2 r
  rcases hd with ⟨rfl, rfl⟩ | ⟨rfl, rfl⟩
  · cases hv with
    | lst q1 r1 =>
      cases hu with
      | lst q2 r2 =>
        refine ⟨_, _, _, _, rfl, .inl ⟨en1.sub.seq q1, en1.sub.seq q2, k _ _ I1 H1 F1 _ hq st1 en1 (isit_zip (walk_zip (by rw [r1.length, r2.length])) (fun I' H' s s' => ⟨(s.trans s').seq q1, (s.trans s').seq q2⟩) r1 r2)⟩⟩
  · cases hv with
    | tup q1 r1 =>
      cases hu with
      | tup q2 r2 =>
        refine ⟨_, _, _, _, rfl, .inr ⟨sqT_mono en1.sub q1, sqT_mono en1.sub q2, k _ _ I1 H1 F1 _ hq st1 en1 (isit_zip (walk_zipT (by rw [r1.length, r2.length])) (fun I' H' s s' => ⟨sqT_mono (s.trans s') q1, sqT_mono (s.trans s') q2⟩) r1 r2)⟩⟩
theorem zipW_map {α β : Type} {E : α → PyData} {E' : β → PyData} : ∀ {xs : List α} {ys : List β}, List.zipWith (fun d e => PyData.tuple [d, e]) (xs.map E) (ys.map E') = (xs.zip ys).map fun p => .tuple [E p.1, E' p.2]
  | [], _ => rfl
  | _ :: _, [] => rfl
  | x :: xs, y :: ys => by
    rw [List.map_cons, List.map_cons, List.zipWith_cons_cons, zipW_map]
    rfl

/-! ### methods of lists and dicts -/
/-- xs.pop(), xs an own list in a slot -/
theorem we_pop (i : Nat) (hl : ds ≠ []) (hq : Ψ (.da (ds.getLast hl)) (Γ.set i (some (mk ds.dropLast)))) (hx : Γ[i]? = some (some x) := by rfl) (hv : VLL x ds mk := by first | exact .ll | exact .pin) (hN : X.N[i]? = some nm := by rfl)
    (hvs : Vis X.env.scope nm := by first | exact Or.inl rfl | exact Or.inr (Or.inl rfl) | exact Or.inr (Or.inr rfl)) (h1 : (nm == ("__debug__" : Str)) = false := by decide) (h2 : (nm == ("__classdict__" : Str)) = false := by decide)
    (hbase : attributeBase (.Name nm p) "pop" X.env (eval (.Name nm p) X.env) = eval (.Name nm p) X.env := by rfl) (hline : (apos.endLine == cpos.line) = true := by rfl) : WE X (.Call (.Attribute (.Name nm p) "pop" apos) [] [] cpos) Γ Ψ := fun I H σ F en Q k => by
  refine ⟨_, pe_bm0 PySem.F.plainAttrs_list PySem.F.slot_list_pop PySem.F.type_list_pop mt_pop (pe_var hN hvs h1 h2) hbase hline, ?_⟩
  obtain ⟨q, vs, e1, g1, g2, g3⟩ := en.ll hx hv
  have hlen := g2.length
  have e2 : ds[ds.length - 1]? = some (ds.getLast hl) := by rw [List.getLast_eq_getElem, List.getElem?_eq_getElem]
  obtain ⟨w, hw, rw'⟩ := g2.get e2
  have hpos : 0 < ds.length := List.length_pos_iff.mpr hl
  have r' : RpL X.tc I vs.dropLast ds.dropLast := by
    rw [List.dropLast_eq_take, List.dropLast_eq_take, hlen]
    exact g2.take _
  obtain ⟨F5, en5, st5⟩ := g3 vs.dropLast ds.dropLast r'
  exact ⟨_, e1, .inl ⟨rfl, _, SqL.of g1⟩, q, vs, w, rfl, rfl, g1, by rw [hlen]; exact hw, k _ _ I _ w F5 hq st5 (en5.da rw')⟩
/-- xs.index(e): the first place -/

theorem xe_indexS (i : Nat) (hu : X.A.units + 65 < cLine) {j : Nat} {z : PyData} (ha : XE X a Γ (.da d) Γ1) (sl : SeqAt.shaped (.list ds) = true) (sd : SeqAt.shaped d = true) (pl : PyData.plainAll ds = true) (pd : d.plain = true) (hj : ds[j]? = some z) (he' : PyData.eqv z d = true)
    (hn : ∀ (m : Nat) (z' : PyData), m < j → ds[m]? = some z' → PyData.eqv z' d = false) (hx : Γ1[i]? = some (some x) := by rfl) (hv : SV x (.list ds) := by first | exact .da | exact .ll | exact .pin) (h0 : OSome Γ[i]? = true := by rfl) (hx0 : Γ[i]? = some (some x) := by rfl) (hN : X.N[i]? = some nm := by rfl)
    (hvs : Vis X.env.scope nm := by first | exact Or.inl rfl | exact Or.inr (Or.inl rfl) | exact Or.inr (Or.inr rfl)) (h1 : (nm == ("__debug__" : Str)) = false := by decide) (h2 : (nm == ("__classdict__" : Str)) = false := by decide)
    (hst : starEach [a] X.env = (false, eval a X.env) :: starEach [] X.env := by rfl) (hb : attributeBase (.Name nm p) "index" X.env (eval (.Name nm p) X.env) = eval (.Name nm p) X.env := by rfl)
    (hfew : ((backTo pos (starEach [a] X.env)).all (fun x => !x.1) && (backToKw pos (keywordEach [] X.env)).all (fun x => x.1.isSome)
      && decide (([a] : List Expr).length + ([] : List Keyword).length + (if ([] : List Keyword).isEmpty then 0 else 1) < 30)) = true := by rfl) (hline : (apos.endLine == pos.line) = true := by rfl) (hs2 : (backTo pos (starEach [] X.env)).any (·.1) = false := by rfl) :
    XE X (.Call (.Attribute (.Name nm p) "index" apos) [a] [] pos) Γ (.da (.int (j : Nat))) Γ1 := fun Ψ hq I H σ F en Q k => by
  refine ⟨_, pe_bm PySem.F.plainAttrs_list PySem.F.slot_list_index PySem.F.type_list_index (mt_indexD hu) (pe_var hN hvs h1 h2) (pa_cons wpE_ok pa_nil hst) hb hfew hline hst hs2, ?_⟩
  obtain ⟨v, B, e1, o⟩ := en.see hx0
  obtain ⟨a', vs, rfl, q, r⟩ := hv.seq (.inl rfl) o en.sub
  rcases q with ⟨_, q⟩ | ⟨q, _⟩
  · refine ⟨_, e1, .inl ⟨rfl, _, q⟩, ha (fun r Γ' => r = .da d ∧ Γ' = Γ1) ⟨rfl, rfl⟩ I H σ F en _ ?_⟩
    rintro _ Γ1' I1 H1 u F1 ⟨rfl, e2⟩ st1 en1
    subst e2
    obtain ⟨B2, G, rfl, oo, en2, _⟩ := en1.pop
    cases oo with
    | da hd =>
      obtain ⟨v', B', e1', o'⟩ := en2.see hx
      rw [e1] at e1'
      cases e1'
      have rl := hv.rp o' en2.sub
      exact ⟨a', u, d, ds, j, z, rfl, rfl, rl.dp (by simpa [PyData.plain] using pl), (hd.mono en2.sub).dp pd, sl, sd, hj, he', hn, k _ _ I1 H1 _ _ hq st1 (en2.da (.int _))⟩
  · cases q
/-- d.get(k) of a dict that is data -/
theorem xe_get1 (hu : X.A.units + 1 < cLine) {k : Key} (ha : XE X a Γ (.da (dkD ks)) Γ1) (hb : XE X b Γ1 (.da (keyD k)) Γ2) (hst : attributeBase a "get" X.env (eval a X.env) = eval a X.env := by rfl)
    (few : ((backTo cpos (starEach [b] X.env)).all (fun x => !x.1) && (backToKw cpos (keywordEach [] X.env)).all (fun x => x.1.isSome)
      && decide (([b] : List Expr).length + ([] : List Keyword).length + (if ([] : List Keyword).isEmpty then 0 else 1) < 30)) = true := by rfl) (line : (apos.endLine == cpos.line) = true := by rfl) (trees : backTo cpos (starEach [b] X.env) = [(false, eval b X.env)] := by rfl) :
    XE X (.Call (.Attribute a "get" apos) [b] [] cpos) Γ (.da ((kget ks k).getD .none)) Γ2 := fun Ψ hq I H σ F en Q kk => by
  refine ⟨_, pe_dget1 hu wpE_ok wpE_ok ⟨hst, few, line, trees⟩, ha (fun r Γ' => r = .da (dkD ks) ∧ Γ' = Γ1) ⟨rfl, rfl⟩ I H σ F en _ ?_⟩
  rintro _ Γ1' I1 H1 v F1 ⟨rfl, e1⟩ st1 en1
  subst e1
  obtain ⟨B, G, rfl, o, en1', _⟩ := en1.pop
  cases o with
  | da o =>
    obtain ⟨a', kvs, rfl, g1, g2, g3⟩ := DV.da.rd (.da o) en1'.sub
    refine ⟨a', rfl, .inl ⟨kvs, g1⟩, hb (fun r Γ' => r = .da (keyD k) ∧ Γ' = Γ2) ⟨rfl, rfl⟩ I1 H1 σ G en1' _ ?_⟩
    rintro _ Γ2' I2 H2 u F2 ⟨rfl, e2⟩ st2 en2
    subst e2
    obtain ⟨B2, G2, rfl, o2, en2', _⟩ := en2.pop
    cases o2 with
    | da o2 =>
      obtain ⟨a'', kvs', e3, g1', g2', g3'⟩ := DV.da.rd (.da (o.mono st2.inc)) en2'.sub
      cases e3
      refine ⟨valV kvs' k, .inl ⟨kvs', k, g1', rp_key o2, rfl⟩, ?_⟩
      obtain ⟨q1, q2⟩ := rd_get (k := k) g2' g3'
      refine kk _ _ I2 H2 _ _ hq (st1.trans st2) (en2'.da ?_)
      cases e : kget ks k with
      | none =>
        rw [q2 e]
        exact .non
      | some d =>
        obtain ⟨w, hw, hr⟩ := q1 d e
        rw [hw]
        exact hr

/-! ### chained comparisons -/
theorem xt_chain {op op' : CmpOp} {wr wr' : R2} {k k' : Bool} (ho : OpR X (compareOp op) wr) (ho' : OpR X (compareOp op') wr') (q : Op2 X.tc wr (.da d) (.da d') (.da (.bool k))) (q' : Op2 X.tc wr' (.da d') (.da g) (.da (.bool k'))) (ha : XE X a Γ (.da d) Γ) (hb : XE X b Γ (.da d') Γ) (hc : XE X c Γ (.da g) Γ)
    (hm : lastMarks [op, op'] [b, c] = false := by with_unfolding_all rfl) : XT X (.Compare a [op, op'] [b, c] pos) Γ (k && k') Γ := fun Ψ hq I H σ F en Q kk => by
  refine ⟨_, pt_chain ho ho' wpE_ok wpE_ok wpE_ok hm, ha (fun r Γ' => r = .da d ∧ Γ' = Γ) ⟨rfl, rfl⟩ I H σ F en _ ?_⟩
  rintro _ _ I1 H1 v F1 ⟨rfl, rfl⟩ st1 en1
  obtain ⟨B1, G1, rfl, o1, en1', _⟩ := en1.pop
  cases o1 with
  | da r1 =>
    refine hb (fun r Γ'' => r = .da d' ∧ Γ'' = _) ⟨rfl, rfl⟩ I1 H1 σ G1 en1' _ ?_
    rintro _ _ I2 H2 u F2 ⟨rfl, rfl⟩ st2 en2
    obtain ⟨B2, G2, rfl, o2, en2', _⟩ := en2.pop
    cases o2 with
    | da r2 =>
      have ol : OwnL X.tc I2 H2 [v, u] [.da d, .da d'] ([] ++ ([] ++ [])) := .cons (.da (r1.mono st2.inc)) (.cons (.da r2) .nil)
      refine q I2 H2 v u _ ol (by simp) en2'.sub _ fun I3 H3 w B3 st3 o3 nd3 sub3 => ?_
      cases o3 with
      | da r3 =>
        cases r3
        obtain ⟨en3, st3'⟩ := en2'.grow (by simpa using st3) sub3
        have st123 := (st1.trans st2).trans st3'
        cases k with
        | false => exact ⟨false, rfl, false, rfl, kk _ _ I3 H3 G2 hq st123 en3⟩
        | true =>
          refine ⟨true, rfl, hc (fun r Γ'' => r = .da g ∧ Γ'' = _) ⟨rfl, rfl⟩ I3 H3 σ G2 en3 _ ?_⟩
          rintro _ _ I4 H4 y F4 ⟨rfl, rfl⟩ st4 en4
          obtain ⟨B4, G4, rfl, o4, en4', _⟩ := en4.pop
          cases o4 with
          | da r4 =>
            have ol2 : OwnL X.tc I4 H4 [u, y] [.da d', .da g] ([] ++ ([] ++ [])) := .cons (.da ((r2.mono st3'.inc).mono st4.inc)) (.cons (.da r4) .nil)
            refine q' I4 H4 u y _ ol2 (by simp) en4'.sub _ fun I5 H5 w5 B5 st5 o5 nd5 sub5 => ?_
            cases o5 with
            | da r5 =>
              cases r5
              obtain ⟨en5, st5'⟩ := en4'.grow (by simpa using st5) sub5
              exact ⟨k', rfl, kk _ _ I5 H5 G4 (by simpa using hq) ((st123.trans st4).trans st5') en5⟩
theorem xt_le_lt {i j k : Int} (ha : XE X a Γ (.da (.int i)) Γ) (hb : XE X b Γ (.da (.int j)) Γ) (hc : XE X c Γ (.da (.int k)) Γ) (hm : lastMarks [.LtE, .Lt] [b, c] = false := by with_unfolding_all rfl) :
    XT X (.Compare a [.LtE, .Lt] [b, c] pos) Γ (decide (i ≤ j) && decide (j < k)) Γ := xt_chain op_le op_lt o2_bl o2_bl ha hb hc hm
end
end TL

/-! TL17: dicts whose keys are tuples (any depth up to 8). -/
namespace TL
open PySem PySem.Spec PyProof.Rows L2

mutual
theorem nested_is {X : Cx} {pins : List (Addr × Obj)} {σ : L2.St} {H : Hp} {s : Shared} (J : Inv X pins σ H s) : ∀ (k : NestedKey) {v : V} {u : Value}, Rp X.tc H v k.data → RelV v u → NestedIs s.heap k u
  | .none, _, _, h, r => by
    cases h
    obtain rfl := r
    exact .none
  | .num i, _, _, h, r => by
    cases h
    obtain ⟨t, rfl⟩ := r
    exact .int i t
  | .text x, _, _, h, r => by
    cases h
    obtain ⟨t, rfl⟩ := r
    exact .text x t
  | .tup ks, _, _, h, r => by
    unfold NestedKey.data at h
    cases h with
    | tup q rr =>
      cases r
      obtain ⟨its, rv, ⟨o, h1, h2, n, h3⟩, _⟩ := J.tuple q
      exact .tup h1 h2 h3 (nested_all J ks rr rv)
theorem nested_all {X : Cx} {pins : List (Addr × Obj)} {σ : L2.St} {H : Hp} {s : Shared} (J : Inv X pins σ H s) : ∀ (ks : List NestedKey) {vs : List V} {us : List Value}, RpL X.tc H vs (NestedKey.datas ks) → Vals vs us → NestedAll s.heap ks us
  | [], _, _, h, r => by
    cases h
    cases r
    exact .nil
  | k :: ks, _, _, h, r => by
    unfold NestedKey.datas at h
    cases h with
    | cons h1 h2 =>
      cases r with
      | cons r1 r2 => exact .cons (nested_is J k h1 r1) (nested_all J ks h2 r2)
end

/-- an own dict with nested keys -/
inductive VDM : OD → List (NestedKey × PyData) → (List (NestedKey × PyData) → OD) → Prop
  | dm {ks : List (NestedKey × PyData)} : VDM (.dm ks) ks .dm
  | pin {v : V} {ks : List (NestedKey × PyData)} : VDM (.pin v (.dm ks)) ks fun ks => .pin v (.dm ks)
section
variable {T : TC} {I H : Hp} {v : V} {x : OD} {B : List Addr} {ks : List (NestedKey × PyData)} {mk : List (NestedKey × PyData) → OD} {σ : L2.St} {Γ : Sl} {F : List Addr} {i : Nat}
structure DmAt (T : TC) (I H : Hp) (p : Addr) (kvs : NKV) (ks : List (NestedKey × PyData)) : Prop where
  at_ : H p = some (DN T p kvs)
  fr : I p = none
  keys : kvs.map Prod.fst = ks.map Prod.fst
  krp : RpL T I (kvs.map fun p => V.ref p.2.1) (ks.map fun q => q.1.data)
  vrp : RpL T I (kvs.map fun p => p.2.2) (ks.map Prod.snd)
theorem VDM.own (h : VDM x ks mk) (o : Own T I H v x B) : ∃ p kvs, v = .ref p ∧ B = [p] ∧ DmAt T I H p kvs ks ∧ ∀ (I' H' : Hp) (kvs' : NKV) (ks' : List (NestedKey × PyData)), DmAt T I' H' p kvs' ks' → Own T I' H' v (mk ks') [p] := by
  cases h with
  | dm => cases o with
    | dm h1 h2 h3 h4 h5 => exact ⟨_, _, rfl, rfl, ⟨h1, h2, h3, h4, h5⟩, fun I' H' kvs' ks' d => .dm d.at_ d.fr d.keys d.krp d.vrp⟩
  | pin => cases o with
    | pin o => cases o with
      | dm h1 h2 h3 h4 h5 => exact ⟨_, _, rfl, rfl, ⟨h1, h2, h3, h4, h5⟩, fun I' H' kvs' ks' d => .pin (.dm d.at_ d.fr d.keys d.krp d.vrp)⟩
theorem EnvF.dm (en : EnvF T I H σ Γ F) (hx : Γ[i]? = some (some x)) (hv : VDM x ks mk) : ∃ p kvs, σ[i]? = some (some (.ref p)) ∧ DmAt T I H p kvs ks ∧
    ∀ (kvs' : NKV) (ks' : List (NestedKey × PyData)), kvs'.map Prod.fst = ks'.map Prod.fst → RpL T I (kvs'.map fun p => V.ref p.2.1) (ks'.map fun q => q.1.data) → RpL T I (kvs'.map fun p => p.2.2) (ks'.map Prod.snd) →
      ∃ F', EnvF T I (upd H p (DN T p kvs')) σ (Γ.set i (some (mk ks'))) F' ∧ Step I H F I (upd H p (DN T p kvs')) F' := by
  obtain ⟨v, B, G, e1, o, en', nd, mem⟩ := en.take hx
  obtain ⟨p, kvs, rfl, rfl, d, h5⟩ := hv.own o
  refine ⟨p, kvs, e1, d, fun kvs' ks' r r' r'' => ?_⟩
  have np : p ∉ G := (List.nodup_cons.mp (show (p :: G).Nodup from nd)).1
  have en2 : EnvF T I (upd H p (DN T p kvs')) σ (Γ.set i none) G := ⟨en'.env.frame (Same.refl I) fun b hb => ⟨upd_ne fun q => np (q ▸ hb), (en'.env.cells b hb).2⟩, en'.nd, fun b u e => by
    rw [upd_ne fun q => by
      subst q
      rw [d.fr] at e
      cases e]
    exact en.sub b u e⟩
  obtain ⟨F', en3, nd3, m3⟩ := en2.into e1 (h5 I _ kvs' ks' ⟨upd_same, d.fr, r, r', r''⟩) nd
  rw [List.set_set] at en3
  exact ⟨F', en3, (step_upd (F := F) ((mem p).mpr (.inl (List.mem_singleton.mpr rfl)))).of_mem (fun b hb => hb) fun b hb => (mem b).mpr (m3 b hb)⟩
end
theorem dn_stay {T : TC} {p : Addr} {kvs : NKV} {h1 h2 : Heap} (d : DnOk T p kvs h1) (e : ∀ o, h1.get? p = some o → h2.get? p = some o) : DnOk T p kvs h2 := by
  obtain ⟨z, hd, xs, r, o, es, ep, g1, g2⟩ := d
  exact ⟨z, hd, xs, r, o, es, ep, e _ g1, g2⟩
/-- the dict in the heap -/
theorem dm_heap {X : Cx} {pins : List (Addr × Obj)} {σ : L2.St} {I H : Hp} {s : Shared} {p : Addr} {kvs : NKV} {ks : List (NestedKey × PyData)} (J : Inv X pins σ H s) (d : DmAt X.tc I H p kvs ks) (sub : Same I H) (h8 : ∀ q ∈ ks, q.1.depth ≤ 8) :
    kvs.length ≤ sizeLine ∧ (p == sysModules) = false ∧ ∃ xs, Paired NPair kvs xs ∧ s.heap.DictOfH (nestedKind X.prog X.w) p xs := by
  obtain ⟨⟨z, hd, xs, r, o, es, ep, g1, g2, g3, g4, g5⟩, _, _⟩ := J.hok p _ d.at_
  refine ⟨z, hd, xs, r, o, es, ep, g1, g2, g3, g4, fun x hx => ?_, g5⟩
  obtain ⟨j, hj⟩ := List.mem_iff_getElem?.mp hx
  have hlen : kvs.length = xs.length := Paired.length r
  obtain ⟨hjl, _⟩ := List.getElem?_eq_some_iff.mp hj
  have hk : kvs[j]? = some (kvs[j]'(by omega)) := List.getElem?_eq_getElem (by omega)
  obtain ⟨y, hy, np⟩ := LiI.paired_get r hk
  rw [hj] at hy
  cases hy
  have e1 : (kvs.map Prod.fst)[j]? = some (kvs[j]'(by omega)).1 := by rw [List.getElem?_map, hk]; rfl
  rw [d.keys, List.getElem?_map] at e1
  obtain ⟨q, hq, hq1⟩ := Option.map_eq_some_iff.mp e1
  obtain ⟨v, hv, rv⟩ := d.krp.get (i := j) (d := q.1.data) (by rw [List.getElem?_map, hq]; rfl)
  rw [List.getElem?_map, hk] at hv
  cases hv
  refine ⟨?_, ?_⟩
  · rw [← np.1, ← hq1, ← np.2.1]
    exact nested_is J q.1 (rv.mono sub) rfl
  · rw [← np.1, ← hq1]
    exact h8 q (List.mem_of_getElem? hq)
/-- what the dict holds at k -/
theorem dm_get {T : TC} {I : Hp} {k : NestedKey} : ∀ {kvs : NKV} {ks : List (NestedKey × PyData)} {xs : List (NestedKey × Addr × Value)}, Paired NPair kvs xs → kvs.map Prod.fst = ks.map Prod.fst → RpL T I (kvs.map fun p => p.2.2) (ks.map Prod.snd) →
    (∀ d, kget ks k = some d → ∃ v p, atKey xs k = some p ∧ RelV v p.2 ∧ Rp T I v d) ∧ (kget ks k = none → atKey xs k = none)
  | [], [], _, .nil, _, _ => ⟨fun d h => by simp [kget_nil] at h, fun _ => rfl⟩
  | [], _ :: _, _, .nil, h, _ => by simp at h
  | _ :: _, [], _, .cons _ _, h, _ => by simp at h
  | p :: kvs, q :: ks, _, .cons (b := y) (l₂ := xs) np r, h, rr => by
    rw [List.map_cons, List.map_cons, List.cons.injEq] at h
    rw [List.map_cons, List.map_cons] at rr
    cases rr with
    | cons h1 rr =>
      rw [kget_cons]
      have ha : atKey (y :: xs) k = if y.1 = k then some y.2 else atKey xs k := by
        unfold atKey
        rw [List.find?_cons]
        by_cases hk : y.1 = k <;> simp [hk]
      rw [ha]
      have e : y.1 = q.1 := np.1.symm.trans h.1
      by_cases hk : q.1 = k
      · rw [if_pos hk, if_pos (e.trans hk)]
        refine ⟨fun d hd => ?_, fun hn => by cases hn⟩
        cases hd
        exact ⟨p.2.2, y.2, rfl, np.2.2, h1⟩
      · rw [if_neg hk, if_neg fun z => hk (e.symm.trans z)]
        exact dm_get r h.2 rr

section
variable {X : Cx} {e a b c o it tg : Expr} {es elts : List Expr} {ss rest : List Stmt} {Γ Γ' Γ1 Γ2 Γ3 : Sl} {Ψ : OD → Sl → Prop} {Φ : Out → Prop} {Φt : Bool → Sl → Prop} {pos p apos cpos p2 tpos : Pos} {r x y z : OD} {nm n2 : Str} {ds es' : List PyData} {d d' g : PyData} {i kk : Nat} {ks : List (NestedKey × PyData)} {mk : List (NestedKey × PyData) → OD} {k : NestedKey}
/-- {}, keys to be nested -/
theorem pe_dnewN : PE X (.Dict [] [] pos) (fun _ H Q => ∀ p, H p = none → Q (.ref p) (upd H p (DN X.tc p []))) := ⟨fun pins s σ H Q I h => by
  have lo : (s.heap.objs.size == sysModules) = false := beq_eq_false_iff_ne.mpr (Ne.symm (Nat.ne_of_lt I.big))
  have new : DnOk X.tc s.heap.objs.size [] (s.heap.push { cls := .type "dict", data := .dict #[] }) := ⟨Nat.zero_le _, lo, [], .nil, _, #[], 0, Heap.get?_push_size _ rfl, ⟨rfl, rfl, rfl⟩, rfl, rfl, List.nodup_nil⟩
  exact wpAny_Dict_empty ⟨.ref s.heap.objs.size, _, I.laid (a := s.heap.objs.size) (o := DN X.tc s.heap.objs.size []) (t' := s.toks) (fun _ _ q => Heap.get?_push_of_some _ q) (Nat.le_refl _) ⟨new, ⟨_, Heap.get?_push_size _ rfl⟩, fun h1 h2 q e => dn_stay q e⟩, rfl, h _ (I.hok.fresh (Nat.le_refl _))⟩⟩
theorem xe_dictM0 : XE X (.Dict [] [] pos) Γ (.dm []) Γ := fun Ψ hq I H σ F en Q k => ⟨_, pe_dnewN, fun p hp => by
  have en2 := en.use (B := []) (by simpa using en.nd) (step_new (F := []) hp) (Own.dm (kvs := []) (ds := []) upd_same (en.sub.free hp) rfl .nil .nil) (by simp) (upd_sub en.sub hp)
  exact k _ _ I _ _ _ hq en2.2 en2.1⟩
/-- len(d) -/
def rLenM (T : TC) : List V → Hp → VK → Prop := fun xs H Q => ∃ I p kvs ks, xs = [.ref p] ∧ Same I H ∧ DmAt T I H p kvs ks ∧ (∀ q ∈ ks, q.1.depth ≤ 8) ∧ Q (.int ks.length) H
theorem call_lenM : CallR X (.builtin "len") (rLenM X.tc) := by
  rintro pins s σ H xs us Q I r ⟨I0, p, kvs, ks, rfl, sub, d, h8, q⟩
  cases r with
  | cons rv r =>
    cases r
    cases rv
    obtain ⟨z, hd, xs, rp, dd⟩ := dm_heap I d sub h8
    have hl : kvs.length = xs.length := Paired.length rp
    have hl2 : kvs.length = ks.length := by
      have := congrArg List.length d.keys
      rwa [List.length_map, List.length_map] at this
    refine call_len_dictH hd dd (by rw [← hl]; rw [sizeLine_eq] at z; omega) ⟨.int ks.length, H, I.tok _, ?_, q⟩
    rw [← hl, hl2]
    exact ⟨_, rfl⟩
theorem xe_lenM (i : Nat) (B : Blt X.mg) (h8 : ∀ q ∈ ks, q.1.depth ≤ 8) (hx : Γ[i]? = some (some x) := by rfl) (hv : VDM x ks mk := by first | exact .dm | exact .pin) (hg : Gl X "len" := by rfl)
    (hN : X.N[i]? = some n2 := by rfl) (hvs : Vis X.env.scope n2 := by first | exact Or.inl rfl | exact Or.inr (Or.inl rfl) | exact Or.inr (Or.inr rfl)) (h1 : (n2 == ("__debug__" : Str)) = false := by decide) (h2 : (n2 == ("__classdict__" : Str)) = false := by decide)
    (he : starEach [.Name n2 p2] X.env = (false, eval (.Name n2 p2) X.env) :: starEach [] X.env := by rfl) (hpl : (backTo pos (starEach [] X.env)).any (·.1) = false := by rfl) :
    XE X (.Call (.Name "len" p) [.Name n2 p2] [] pos) Γ (.da (.int ks.length)) Γ := xe_callS (wl := rLenM X.tc) i call_lenM (Rd1.pure fun I H v B' o s Q k => by
      obtain ⟨p, kvs, rfl, rfl, d, _⟩ := hv.own o
      exact ⟨I, p, kvs, ks, rfl, s, d, h8, k _ (.int _)⟩) hg B.len PySem.boot_len (hx := hx) (hN := hN) (hvs := hvs) (h1 := h1) (h2 := h2) (he := he) (hpl := hpl)
/-- d.setdefault(k, v): the reading -/
def rSetD (T : TC) (x y z : V) (H : Hp) (Q : VK) : Prop := ∃ I p kvs ks k a, x = .ref p ∧ y = .ref a ∧ Same I H ∧ DmAt T I H p kvs ks ∧ (∀ q ∈ ks, q.1.depth ≤ 8) ∧ Rp T I y (NestedKey.data k) ∧ k.depth ≤ 8 ∧ kvs.length < sizeLine ∧
  (∀ v d, kget ks k = some d → Rp T I v d → Q v H) ∧ (kget ks k = none → Q z (upd H p (DN T p (kvs ++ [(k, a, z)]))))
def tSetD (T : TC) (td ty tz : TE) : TE := fun σ H Q => td σ H fun x H1 => (∃ I p kvs ks, x = .ref p ∧ Same I H1 ∧ DmAt T I H1 p kvs ks ∧ ∀ q ∈ ks, q.1.depth ≤ 8) ∧ ty σ H1 fun y H2 => tz σ H2 fun z H3 => rSetD T x y z H3 Q
theorem pe_setdef {td ty tz : TE} (hu : X.A.units + 16 < cLine) (ho : PE X o td) (ha : PE X a ty) (hb : PE X b tz) (m : M2 X o "setdefault" apos a b cpos) : PE X (.Call (.Attribute o "setdefault" apos) [a, b] [] cpos) (tSetD X.tc td ty tz) := by
  refine ⟨fun pins s σ H Q I h => wpAny_Call_method m.base m.few m.line PySem.F.plainAttrs_dict PySem.F.slot_dict_setdefault PySem.F.type_dict_setdefault (thn (ho.run pins s σ H _ I h) ?_)⟩
  rintro u s1 ⟨x, H1, I1, rx, ⟨I0, p, kvs, ks, rfl, sub, d, h8⟩, q1⟩
  cases rx
  obtain ⟨z, hd, xs, rp, dd⟩ := dm_heap I1 d sub h8
  obtain ⟨ob, es, ep, g1, g2, _⟩ := id dd
  refine ⟨dd.typeIs, fun b' e' => by cases e'; exact ⟨ob, g1, g2.2.1⟩, ?_⟩
  rw [m.trees]
  refine Calls.callWith_builtin rfl (Calls.evalArgs_plain (Calls.spliced_cons (thn (ha.run pins s1 σ H1 _ I1 q1) fun iv s2 ⟨y, H2, I2, ry, q2⟩ => Calls.spliced_cons (thn (hb.run pins s2 σ H2 _ I2 q2) fun fv s3 ⟨z', H3, I3, rz, q3⟩ => Calls.spliced_nil ?_))))
  obtain ⟨I0', p', kvs', ks', k, a', e1, rfl, sub', d', h8', hk, hk8, hl, qs, qn⟩ := q3
  cases e1
  cases ry
  obtain ⟨z2, hd2, xs2, rp2, dd2⟩ := dm_heap I3 d' sub' h8'
  have hxl : kvs'.length = xs2.length := Paired.length rp2
  obtain ⟨w1, w2⟩ := dm_get (k := k) rp2 d'.keys d'.vrp
  refine call_setdefault_heap (knd := nestedKind X.prog X.w) (k := k) (hsz := by omega) (show X.A.units + 1 + 8 < cLine by omega) ⟨nested_is I3 k (hk.mono sub') rfl, hk8⟩ hd2 dd2 (fun pr hpr => ?_) fun hn h' hm' hs => ?_
  · cases e : kget ks' k with
    | none =>
      rw [w2 e] at hpr
      cases hpr
    | some d0 =>
      obtain ⟨v, pr', e2, rv, hv⟩ := w1 d0 e
      rw [e2] at hpr
      cases hpr
      exact ⟨v, H3, I3.tok _, rv, qs v d0 e hv⟩
  · have e : kget ks' k = none := by
      cases e : kget ks' k with
      | none => rfl
      | some d0 =>
        obtain ⟨v, pr', e2, _⟩ := w1 d0 e
        rw [e2] at hn
        cases hn
    obtain ⟨o', es', ep', f1, f2, f3, f4, _, f6⟩ := hm'
    rw [storedH_new hn] at f4 f6
    have new : DnOk X.tc p (kvs' ++ [(k, a', z')]) h' := by
      refine ⟨by rw [List.length_append]; show _ + 1 ≤ _; omega, hd2, xs2 ++ [(k, a', fv)], ?_, o', es', ep', f1, f2, f3, f4, f6⟩
      have app : ∀ {l1 : NKV} {l2 : List (NestedKey × Addr × Value)}, Paired NPair l1 l2 → Paired NPair (l1 ++ [(k, a', z')]) (l2 ++ [(k, a', fv)]) := by
        intro l1 l2 r
        induction r with
        | nil => exact .cons ⟨rfl, rfl, rz⟩ .nil
        | cons h _ ih => exact .cons h ih
      exact app rp2
    refine ⟨z', _, d_write (t' := s3.toks + (nestedKind X.prog X.w).draws k) I3 (by rw [d'.at_]; exact True.intro) hs ⟨o', f1⟩ (ob := DN X.tc p (kvs' ++ [(k, a', z')])) ⟨new, ⟨o', f1⟩, fun h1 h2 q e => dn_stay q e⟩, rz, qn e⟩
/-- d.setdefault(k, v) -/
theorem we_setdefM (i : Nat) (hu : X.A.units + 16 < cLine)
    (h : XE X a Γ (.da k.data) Γ) (h' : XE X b Γ (.da d) Γ) (h8 : ∀ q ∈ ks, q.1.depth ≤ 8) (hk8 : k.depth ≤ 8) (hkt : ∃ l, k = .tup l) (hz : ks.length < sizeLine) (hq : Ψ (.da ((kget ks k).getD d)) (Γ.set i (some (mk (if (kget ks k).isSome then ks else ks ++ [(k, d)])))))
    (hx : Γ[i]? = some (some x) := by rfl) (hv : VDM x ks mk := by first | exact .dm | exact .pin) (hN : X.N[i]? = some nm := by rfl)
    (hvs : Vis X.env.scope nm := by first | exact Or.inl rfl | exact Or.inr (Or.inl rfl) | exact Or.inr (Or.inr rfl)) (h1 : (nm == ("__debug__" : Str)) = false := by decide) (h2 : (nm == ("__classdict__" : Str)) = false := by decide)
    (hbase : attributeBase (.Name nm p) "setdefault" X.env (eval (.Name nm p) X.env) = eval (.Name nm p) X.env := by rfl)
    (few : ((backTo cpos (starEach [a, b] X.env)).all (fun x => !x.1) && (backToKw cpos (keywordEach [] X.env)).all (fun x => x.1.isSome)
      && decide (([a, b] : List Expr).length + ([] : List Keyword).length + (if ([] : List Keyword).isEmpty then 0 else 1) < 30)) = true := by rfl) (line : (apos.endLine == cpos.line) = true := by rfl)
    (trees : backTo cpos (starEach [a, b] X.env) = [(false, eval a X.env), (false, eval b X.env)] := by rfl) : WE X (.Call (.Attribute (.Name nm p) "setdefault" apos) [a, b] [] cpos) Γ Ψ := fun I H σ F en Q kq => by
  refine ⟨_, pe_setdef hu (pe_var hN hvs h1 h2) wpE_ok wpE_ok ⟨hbase, few, line, trees⟩, ?_⟩
  obtain ⟨q, kvs, e1, d1, _⟩ := en.dm hx hv
  refine ⟨_, e1, ⟨I, q, kvs, ks, rfl, en.sub, d1, h8⟩, h (fun r Γ' => r = .da k.data ∧ Γ' = Γ) ⟨rfl, rfl⟩ I H σ F en _ ?_⟩
  rintro _ Γ1 I1 H1 u F1 ⟨rfl, e2⟩ st1 en1
  subst e2
  obtain ⟨B, G, rfl, oo, en1', _⟩ := en1.pop
  cases oo with
  | da hk =>
    refine h' (fun r Γ' => r = .da d ∧ Γ' = Γ1) ⟨rfl, rfl⟩ I1 H1 σ G en1' _ ?_
    rintro _ Γ2 I2 H2 w F2 ⟨rfl, e3⟩ st2 en2
    subst e3
    obtain ⟨B2, G2, rfl, o2, en2', _⟩ := en2.pop
    cases o2 with
    | da hd =>
      obtain ⟨q', kvs', e1', d2, h6⟩ := en2'.dm hx hv
      rw [e1] at e1'
      cases e1'
      have hl : kvs'.length = ks.length := by
        have := congrArg List.length d2.keys
        rwa [List.length_map, List.length_map] at this
      have hk2 := hk.mono st2.inc
      obtain ⟨l, rfl⟩ := hkt
      have hka : ∃ a', u = .ref a' := by
        unfold NestedKey.data at hk2
        cases hk2 with
        | tup _ _ => exact ⟨_, rfl⟩
      obtain ⟨a', rfl⟩ := hka
      have st12 := st1.trans st2
      refine ⟨I2, q, kvs', ks, .tup l, a', rfl, rfl, en2'.sub, d2, h8, hk2, hk8, by rw [hl]; exact hz, fun v d0 e hv0 => ?_, fun e => ?_⟩
      · have hq' := hq
        rw [e, Option.isSome_some, if_pos rfl, Option.getD_some] at hq'
        have q0 := h6 kvs' ks d2.keys d2.krp d2.vrp
        have eu : upd H2 q (DN X.tc q kvs') = H2 := by
          funext b'
          by_cases hb : b' = q
          · rw [hb, upd_same, d2.at_]
          · rw [upd_ne hb]
        rw [eu] at q0
        obtain ⟨F5, en5, st5⟩ := q0
        exact kq _ _ I2 H2 v F5 hq' (st12.trans st5) (en5.da hv0)
      · have hq' := hq
        rw [e, Option.isSome_none, if_neg (by simp), Option.getD_none] at hq'
        obtain ⟨F5, en5, st5⟩ := h6 (kvs' ++ [(.tup l, a', w)]) (ks ++ [(.tup l, d)]) (by rw [List.map_append, List.map_append, d2.keys]; rfl) (by rw [List.map_append, List.map_append]; exact RpL.append d2.krp (.cons hk2 .nil)) (by rw [List.map_append, List.map_append]; exact RpL.append d2.vrp (.cons hd .nil))
        exact kq _ _ I2 _ w F5 hq' (st12.trans st5) (en5.da hd)
end
end TL

/-! TL18: the law's call, where the promise knows that no repr runs around. -/
namespace TL
open PySem PySem.Spec PyProof.Rows L2

theorem callerA_gd : callerA.guards = some [] := by first | rfl | decide
/-- what stands untracked stands in the part that is hidden from the walk -/
theorem hid_ns {h : Heap} {H : Hp} {a : Addr} {its : Array Value} (one : ∀ c, H c ≠ none → c = a) (lst : h.get? a = some { cls := .type "list", data := .seq its }) {c : Addr} {m : Str → Option Value} (n : h.Ns c m) : (hidT h H).Ns c m := by
  obtain ⟨ob, es, ep, e, isd, rest⟩ := n
  refine ⟨ob, es, ep, hidT_get e ?_, isd, rest⟩
  refine Decidable.byContradiction fun q => ?_
  have z := one c q
  subst z
  rw [lst] at e
  cases e
  cases (show Data.seq its _ = Data.dict es ep from isd)
theorem hid_in {h : Heap} {H : Hp} {a : Addr} {K : PySem.W.Frag} (one : ∀ c, H c ≠ none → c = a) (notK : H a ≠ none → K.lookup a = none) (ki : K.In h) : K.In (hidT h H) := fun c ob e => by
  refine hidT_get (ki c ob e) (Decidable.byContradiction fun q => ?_)
  have z := one c q
  subst z
  rw [notK q] at e
  cases e
section
variable {P : Program} {w : World} {K : PySem.W.Frag} {mg mb : Str → Option Value} {k : Nat} {fa a : Addr} {fd : FuncData} {x : Str} {sp : Sp} {s : Shared} {us : List Value} {ns : List Int}
/-- what is wanted of the call -/
abbrev LawEnd (s : Shared) : Result → Shared → Prop := fun r s' => r = .ok (.ret (.bool true)) ∧ OldK s.heap s'.heap ∧ s'.os = s.os ∧ AllBare s'.gens
theorem law_from {H : Hp} (ki : K.In s.heap) (gn : s.heap.Ns mainGlobals mg) (bn : s.heap.Ns builtinsNs mb) (bb : ∀ y : Str, y ≠ "__name__" → mb y = bootBuiltins y) (nl : s.heap.NoLimit) (g0 : s.gens = #[]) (lst : s.heap.get? a = some { cls := .type "list", data := .seq us.toArray })
    (hr : Room k callerA) (F : ∀ base : Heap, K.In base → base.Ns mainGlobals mg → FnG P w K mg base CX0 k fa fd [x] sp) (bd : ∀ (s : Shared) (u : Value), BindsTo s fd ⟨[u], []⟩ [(x, u)])
    (on : Only H) (hok : HOk P w H s.heap) (one : ∀ c, H c ≠ none → c = a) (notK : H a ≠ none → K.lookup a = none) (q : sp [.ref a] H (fun v _ => v = .bl true) fun _ _ _ => False) : codeAny (model P w) callerA (.call (.ref fa) ⟨[.ref a], []⟩) (LawEnd s) s := by
  have kb : K.In (hidT s.heap H) := hid_in one notK ki
  have gb := hid_ns one lst gn
  have md : Mod K mg (hidT s.heap H) := by
    refine ⟨kb, gb, ⟨mb, hid_ns one lst bn, bb⟩, ?_⟩
    obtain ⟨mc, n1, n2⟩ := nl
    exact ⟨mc, hid_ns one lst n1, n2⟩
  have env : Env0 P w K mg (hidT s.heap H) callerA [] s H := by
    refine ⟨rfl, md, ?_, ?_, trivial, ?_, hok, .of_eq g0⟩
    · exact fun c ob e => of_hidT e
    · exact Nat.le_of_eq (hidT_size _ _)
    · intro c hc
      cases hc
  have run := (F _ kb gb).go callerA [] s H ⟨[.ref a], []⟩ [.ref a] [.ref a] _ _ hr callerA_gd env (bd s (.ref a)) (.cons rfl .nil) q
  refine codeAny_mono run ?_
  rintro (e | fl) s' res
  · exact False.elim res
  · cases fl with
    | next => cases res
    | brk => cases res
    | cont => cases res
    | ret u =>
      obtain ⟨v, H', os, bare, un, hok', rv, hv⟩ := res
      have hv' : v = .bl true := hv
      subst hv'
      have hu : u = Value.bool true := rv
      subst hu
      refine ⟨rfl, OldK.of_keep ?_, os, bare⟩
      intro c ob e
      rcases on c with n | ⟨o2, ys, n⟩
      · refine un.keep c ob e n ?_ (by simp)
        intro z
        cases z
      · have w1 := (hok c _ n).1
        have w2 := (hok' c _ (un.frzs c o2 _ n)).1
        rw [w1] at e
        cases e
        exact w2
theorem law_callG (ki : K.In s.heap) (gn : s.heap.Ns mainGlobals mg) (bn : s.heap.Ns builtinsNs mb) (bb : ∀ y : Str, y ≠ "__name__" → mb y = bootBuiltins y) (nl : s.heap.NoLimit) (g0 : s.gens = #[]) (lst : s.heap.get? a = some { cls := .type "list", data := .seq us.toArray }) (hin : IntsAre us ns) (hz : ns.length ≤ sizeLine)
    (hr : Room k callerA) (F : ∀ base : Heap, K.In base → base.Ns mainGlobals mg → FnG P w K mg base CX0 k fa fd [x] sp) (bd : ∀ (s : Shared) (u : Value), BindsTo s fd ⟨[u], []⟩ [(x, u)])
    (q : ∀ H : Hp, Only H → SqL K H a (ns.map V.int) → sp [.ref a] H (fun v _ => v = .bl true) fun _ _ _ => False) : codeAny (model P w) callerA (.call (.ref fa) ⟨[.ref a], []⟩) (LawEnd s) s := by
  have rv := vals_ints hin
  have ln := hin.length
  by_cases hk : K.lookup a = none
  · let ob : Obj := { cls := .type "list", data := .seq us.toArray }
    let H : Hp := fun c => if c = a then some (.frz ob (.lst (ns.map V.int))) else none
    have at_ : H a = some (.frz ob (.lst (ns.map V.int))) := if_pos rfl
    have off : ∀ c, c ≠ a → H c = none := fun c hc => if_neg hc
    have on : Only H := fun c => by
      by_cases hc : c = a
      · subst hc
        exact .inr ⟨_, _, at_⟩
      · exact .inl (off c hc)
    refine law_from (H := H) ki gn bn bb nl g0 lst hr F bd on ?_ ?_ (fun _ => hk) (q H on (.inl (.inr ⟨ob, at_⟩)))
    · intro c u e
      by_cases hc : c = a
      · subst hc
        rw [at_] at e
        cases e
        exact ⟨lst, by rw [List.length_map]; exact hz, us, _, rv, lst⟩
      · rw [off c hc] at e
        cases e
    · exact fun c hc => Decidable.byContradiction fun z => hc (off c z)
  · obtain ⟨o, ho⟩ := Option.ne_none_iff_exists'.mp hk
    have same := ki a o ho
    rw [lst] at same
    cases same
    refine law_from (H := fun _ => none) ki gn bn bb nl g0 lst hr F bd (fun _ => .inl rfl) ?_ ?_ ?_ (q _ (fun _ => .inl rfl) ?_)
    · intro c u e
      cases e
    · exact fun c hc => absurd rfl hc
    · exact fun hc => absurd rfl hc
    · exact .inr ⟨_, us.toArray, _, ho, rfl, rfl, rfl, by rw [List.size_toArray, ln]; exact hz, by simpa using rv⟩
end
/-- the law's own contract -/
def spLaw : SpD := fun as Ψ => ∃ ns : List Int, as = [.da (.list (ns.map .int))] ∧ ns.length ≤ 63 ∧ ∀ as', Ψ (.da (.bool true)) as'
theorem rpL_ints {T : TC} {I : Hp} : ∀ ns : List Int, RpL T I (ns.map V.int) (ns.map PyData.int)
  | [] => .nil
  | n :: ns => .cons (.int n) (rpL_ints ns)
/-- the goal that k_head leaves -/
theorem walkG {l : PySem.W.OpenLaw} {n k : Nat} {q : Program} {loose : List Str} {XP : (Str → Option Value) → Heap → Prop} {YP : World → Heap → Prop} {d : DefRec} {K : Params → PySem.W.Frag} (hn : l.most = some n) (h63 : n ≤ 63) (hdf : d.params.defaults = []) (hr : Room k callerA)
    (hY : ∀ (w : World) (h : Heap), YP w h → (K w.params).In h)
    (F : ∀ (w : World) (mg : Str → Option Value) (fa : Addr) (h : Heap), (K w.params).In h → h.Ns mainGlobals mg → mg d.name = some (.ref fa) →
      ∃ fd : FuncData, (∀ (s : Shared) (u : Value), BindsTo s fd ⟨[u], []⟩ [("script", u)]) ∧ ∀ base : Heap, (K w.params).In base → base.Ns mainGlobals mg → FnG l.prog w (K w.params) mg base CX0 k fa fd ["script"] (mkSp ⟨l.prog, w, K w.params⟩ spLaw)) :
    PySem.W.WalkO q loose XP YP l.row.toRowW d [] (fun f vs => PySem.call f vs) := by
  refine Att.attach_call hn hdf ?_
  intro w s0 s1 mg mb fa o pm cd doc a us ns G Y _ _ _ hmg lst hin hlen g0
  obtain ⟨fd, bd, hF⟩ := F w mg fa _ (hY w _ Y) G.T.g hmg
  refine law_callG (hY w _ Y) G.T.g G.T.b G.T.builtins G.T.nolimit g0 lst hin (Nat.le_trans hlen (Nat.le_trans h63 (by decide))) hr hF bd ?_
  intro H on hS
  refine ⟨H, [.da (.list (ns.map .int))], [] ++ [], fun r _ => r = .da (.bool true), .cons (.da (.lst hS (rpL_ints ns))) .nil, by simp, Same.refl H, ⟨ns, rfl, Nat.le_trans hlen h63, fun _ => rfl⟩, ?_⟩
  rintro _ as' I' H' v F' rfl _ ol _ _
  cases ol with
  | cons o _ => cases o with
    | da o =>
      cases o
      rfl
end TL
namespace TL
open PySem PySem.Spec PyProof.Rows L2
/-! ### the facts of the text -/
def DK (K : PySem.W.Frag) (nm : Str) (st : Stmt) : Prop := ∃ f fd, Fun K nm nm st f fd ∧ PySem.W.nsIn K mainGlobals nm = some (some (.ref f))
theorem dk_mk {K : PySem.W.Frag} {nm : Str} {st : Stmt} {f : Addr} {od an : Option Addr} {sl : Array (Option Value)} {oc kV dc pm cd ct : Value} (a : PySem.W.nsIn K mainGlobals nm = some (some (.ref f)))
    (l : K.lookup f = some ⟨oc, od, .func (PySem.W.fnOf nm nm (defArgs st) (defBody st) (defScope st) .none kV dc pm an cd ct), sl⟩) (c : PySem.W.codeIn K cd nm = true) (k : PySem.W.keepIn K (.ref f) = true) : DK K nm st := ⟨_, _, fun_mk (st := st) l c k, a⟩
def NoG (K : PySem.W.Frag) (nm : Str) : Prop := PySem.W.nsIn K mainGlobals nm = some none
theorem blt_mk {K : PySem.W.Frag} {h : Heap} {mg : Str → Option Value} (X : K.In h) (G : h.Ns mainGlobals mg) (z : ∀ nm ∈ (["len", "int", "abs", "divmod", "list", "tuple", "range", "zip", "enumerate", "reversed", "sorted", "min", "max", "sum", "all", "any", "set", "repr", "str", "isinstance", "bool", "dict"] : List Str), NoG K nm) : Blt mg := by
  have g : ∀ nm ∈ (["len", "int", "abs", "divmod", "list", "tuple", "range", "zip", "enumerate", "reversed", "sorted", "min", "max", "sum", "all", "any", "set", "repr", "str", "isinstance", "bool", "dict"] : List Str), mg nm = none := fun nm hn => PySem.W.mg_none_of X G (z nm hn)
  exact ⟨g _ (by simp), g _ (by simp), g _ (by simp), g _ (by simp), g _ (by simp), g _ (by simp), g _ (by simp), g _ (by simp), g _ (by simp), g _ (by simp), g _ (by simp), g _ (by simp), g _ (by simp), g _ (by simp), g _ (by simp), g _ (by simp), g _ (by simp), g _ (by simp), g _ (by simp), g _ (by simp), g _ (by simp), g _ (by simp)⟩
/-- a def of the text with its contract: from the fact, the walk of its body -/
theorem DK.def {P : Program} {w : World} {K : PySem.W.Frag} {mg : Str → Option Value} {bs : Heap} {h : Heap} {k : Nat} {nm : Str} {st : Stmt} {ps : List Str} {sp : SpD} (X : K.In h) (G : h.Ns mainGlobals mg) (D : DK K nm st)
    (ok : ∀ f fd, Fun K nm nm st f fd → FnG P w K mg bs CX0 k f fd ps (mkSp ⟨P, w, K⟩ sp)) (b : ∀ f fd, Fun K nm nm st f fd → Binds K fd ps []) : Def P w K mg bs k nm ps sp :=
  let ⟨f, fd, F, a⟩ := D
  ⟨f, fd, ok f fd F, PySem.W.mg_of X G a, F.kp, b f fd F⟩
end TL

/-! TL19: defs by their bodies, loops over typed lists, what repr asks, association lists through keys. -/
namespace TL
open PySem PySem.Spec PyProof.Rows L2

/-- the context of a def's body -/
abbrev dcx (P : Program) (w : World) (K : PySem.W.Frag) (mg : Str → Option Value) (bs : Heap) (N : List Str) (nm : Str) (st : Stmt) (f : Addr) (cdv : Value) (A : Around) (fr : List PySem.Env) (s : Shared) (H : Hp) (E : XK) : Cx :=
  (cxOf CX0 P w K mg bs N nm (defScope st) f cdv A fr s H E).nox
theorem def_ok {P : Program} {w : World} {K : PySem.W.Frag} {mg : Str → Option Value} {bs : Heap} {h : Heap} {k : Nat} {nm : Str} {st : Stmt} {N ps : List Str} {sp : SpD} (X : K.In h) (G : h.Ns mainGlobals mg) (D : DK K nm st) (S : FnScope N ps (defScope st))
    (b : ∀ f fd, Fun K nm nm st f fd → Binds K fd ps []) (ln : ∀ as Ψ, sp as Ψ → as.length = ps.length)
    (hb : ∀ (f : Addr) (cdv : Value) (A : Around) (fr : List PySem.Env) (s : Shared) (H : Hp) (E : XK), Fr (dcx P w K mg bs N nm st f cdv A fr s H E) k → ∀ (as : List OD) (Ψ : OD → List OD → Prop) (vs : List V), sp as Ψ → vs.length = ps.length →
      WSs (dcx P w K mg bs N nm st f cdv A fr s H E) (defBody st) (start0 N as vs) (fnΦ as vs Ψ)) : Def P w K mg bs (k + 1) nm ps sp :=
  DK.def X G D (fun f fd F => fn_ok F S ln fun X' cdv A fr s H E hX hr hg as Ψ vs hsp hl => by
    subst hX
    exact hb f cdv A fr s H E ⟨S.nd, rfl, PassesOwn.never, hr, hg⟩ as Ψ vs hsp (by rw [hl, ln as Ψ hsp])) b
theorem ar0 {α : Type} {vs : List α} (h : vs.length = 0) : vs = [] := List.eq_nil_of_length_eq_zero h
theorem ar1 {α : Type} {vs : List α} (h : vs.length = 1) : ∃ a, vs = [a] := match vs, h with | [a], _ => ⟨a, rfl⟩
theorem ar2 {α : Type} {vs : List α} (h : vs.length = 2) : ∃ a b, vs = [a, b] := match vs, h with | [a, b], _ => ⟨a, b, rfl⟩
theorem ar3 {α : Type} {vs : List α} (h : vs.length = 3) : ∃ a b c, vs = [a, b, c] := match vs, h with | [a, b, c], _ => ⟨a, b, c, rfl⟩
theorem ar4 {α : Type} {vs : List α} (h : vs.length = 4) : ∃ a b c d, vs = [a, b, c, d] := match vs, h with | [a, b, c, d], _ => ⟨a, b, c, d, rfl⟩
theorem ar5 {α : Type} {vs : List α} (h : vs.length = 5) : ∃ a b c d e, vs = [a, b, c, d, e] := match vs, h with | [a, b, c, d, e], _ => ⟨a, b, c, d, e, rfl⟩

section
variable {X : Cx} {e a b c o it tg : Expr} {es elts : List Expr} {body ss rest : List Stmt} {Γ Γ' Γ1 Γ2 Γ3 : Sl} {Ψ : OD → Sl → Prop} {Φ : Out → Prop} {Φt : Bool → Sl → Prop} {pos p apos cpos p2 tpos : Pos} {r x y z : OD} {nm n2 : Str} {ds es' : List PyData} {d d' g : PyData} {i : Nat}
/-- for over a typed list: the slots are st b, b changes by turns -/
theorem ws_forT {kk : Nat} {α β : Type} (f : Fr X kk) (xs : List α) (E : α → PyData) (st : β → Sl) (Inv : Nat → β → Prop) (b0 : β) (hi : XI X tg it Γ (xs.map E) Γ1) (h0 : Inv 0 b0) (e0 : Γ1 = st b0)
    (turn : ∀ (n : Nat) (x : α) (b : β), xs[n]? = some x → Inv n b → WG X tg (.da (E x)) (st b) fun Γ3 => WSs X body Γ3 (loopΦ (fun Γ4 => ∃ b', Inv (n + 1) b' ∧ Γ4 = st b') (thn2 X rest Φ)))
    (fin : ∀ b, Inv xs.length b → WSs X rest (st b) Φ) (hs : ∀ x, foldedSetIterable it X.env x = pure x := by intro _; rfl) : WSs X (.For tg it body [] pos :: rest) Γ Φ := by
  refine ws_for (fun ds n Γ' => ds = xs.map E ∧ ∃ b', Inv n b' ∧ Γ' = st b') f.own f.calm (hi _ ⟨⟨rfl, b0, h0, e0⟩, ?_, ?_⟩) hs
  · rintro n d Γ2 hn ⟨_, b', hb, rfl⟩
    rw [List.getElem?_map] at hn
    obtain ⟨x, hx, rfl⟩ := Option.map_eq_some_iff.mp hn
    intro I H σ F v en Q k
    refine turn n x b' hx hb I H σ F v en Q fun Γ3 I' H' σ' F' h3 => k Γ3 I' H' σ' F' (h3.mono fun o ho => ?_)
    cases o with
    | nx Γ4 => exact ⟨rfl, ho⟩
    | ct Γ4 => exact ⟨rfl, ho⟩
    | bk Γ4 => exact ho
    | rt r Γ4 => exact ho
  · rintro Γ2 ⟨_, b', hb, rfl⟩
    rw [List.length_map] at hb
    exact fin b' hb
/-- the same, deterministic: a fold -/
theorem ws_fold {kk : Nat} {α β : Type} (f : Fr X kk) (xs : List α) (E : α → PyData) (st : β → Sl) (g : β → α → β) (b0 : β) (hi : XI X tg it Γ (xs.map E) Γ1) (e0 : Γ1 = st b0)
    (turn : ∀ (n : Nat) (x : α), xs[n]? = some x → WG X tg (.da (E x)) (st ((xs.take n).foldl g b0)) fun Γ3 => WSs X body Γ3 (loopΦ (fun Γ4 => Γ4 = st (g ((xs.take n).foldl g b0) x)) (thn2 X rest Φ)))
    (fin : WSs X rest (st (xs.foldl g b0)) Φ) (hs : ∀ x, foldedSetIterable it X.env x = pure x := by intro _; rfl) : WSs X (.For tg it body [] pos :: rest) Γ Φ := by
  refine ws_forT f xs E st (fun n b => b = (xs.take n).foldl g b0) b0 hi rfl e0 ?_ ?_ hs
  · rintro n x b hx rfl
    intro I H σ F v en Q k
    refine turn n x hx I H σ F v en Q fun Γ3 I' H' σ' F' h3 => k Γ3 I' H' σ' F' (h3.mono fun o ho => ?_)
    have e : (xs.take (n + 1)).foldl g b0 = g ((xs.take n).foldl g b0) x := by
      rw [List.take_succ, hx, List.foldl_append]
      rfl
    cases o with
    | nx Γ4 => exact ⟨_, e.symm, ho⟩
    | ct Γ4 => exact ⟨_, e.symm, ho⟩
    | bk Γ4 => exact ho
    | rt r Γ4 => exact ho
  · rintro b rfl
    rw [List.take_length]
    exact fin
/-! expressions from expressions, where a draw stands among them -/
theorem we_add (h : WE X a Γ fun x Γ1 => ∃ i, x = .da (.int i) ∧ WE X b Γ1 fun y Γ2 => ∃ j, y = .da (.int j) ∧ Ψ (.da (.int (i + j))) Γ2) : WE X (.BinOp a .Add b pos) Γ Ψ :=
  we_bin op_add (h.mono fun x Γ1 ⟨i, e, h2⟩ => h2.mono fun y Γ2 ⟨j, e', q⟩ => ⟨.da (.int (i + j)), by rw [e, e']; exact o2_I0 fun _ => .int _, q⟩)
theorem we_pure (h : XE X a Γ r Γ1) (q : Ψ r Γ1) : WE X a Γ Ψ := h _ q
end

/-! ### association lists through a map of keys and values -/
section
variable {κ κ' β β' : Type} [DecidableEq κ] [DecidableEq κ'] {f : κ → κ'} {g : β → β'}
theorem kget_map (hf : ∀ a b, f a = f b → a = b) {m : List (κ × β)} {k : κ} : kget (m.map fun p => (f p.1, g p.2)) (f k) = (kget m k).map g := by
  induction m with
  | nil => rfl
  | cons p m ih =>
    rw [List.map_cons, kget_cons, kget_cons, ih]
    by_cases h : p.1 = k
    · rw [if_pos h, if_pos (by rw [h])]
      rfl
    · rw [if_neg h, if_neg fun e => h (hf _ _ e)]
theorem kput_map (hf : ∀ a b, f a = f b → a = b) {m : List (κ × β)} {k : κ} {v : β} : kput (m.map fun p => (f p.1, g p.2)) (f k) (g v) = (kput m k v).map fun p => (f p.1, g p.2) := by
  unfold kput
  have ha : ((m.map fun p => (f p.1, g p.2)).any fun q => decide (q.1 = f k)) = m.any fun q => decide (q.1 = k) := by
    rw [kget_any, kget_any, kget_map (g := g) hf]
    cases kget m k <;> rfl
  rw [ha]
  split
  · rw [List.map_map, List.map_map]
    refine List.map_congr_left fun p _ => ?_
    by_cases h : p.1 = k
    · simp [h]
    · have h' : ¬ f p.1 = f k := fun e => h (hf _ _ e)
      simp [h, h']
  · rw [List.map_append]
    rfl
end

/-! ### what repr asks of data -/
structure Fn (n w : Nat) (d : PyData) : Prop where
  plain : d.plain = true
  shows : d.showable = true
  nodict : d.hasDict = false
  depth : d.depth ≤ n
  short : d.leavesShort 13 = true
  weight : d.weight ≤ w
theorem Fn.mono {n n' w w' : Nat} {d : PyData} (h : Fn n w d) (hn : n ≤ n') (hw : w ≤ w') : Fn n' w' d := ⟨h.plain, h.shows, h.nodict, Nat.le_trans h.depth hn, h.short, Nat.le_trans h.weight hw⟩
theorem Fn.none {n w : Nat} : Fn n w .none := ⟨rfl, rfl, rfl, Nat.zero_le _, rfl, Nat.zero_le _⟩
theorem Fn.bool {n w : Nat} {b : Bool} : Fn n w (.bool b) := ⟨rfl, rfl, rfl, Nat.zero_le _, rfl, Nat.zero_le _⟩
theorem natAbs_log {i : Int} {k : Nat} (h : i.natAbs < 2 ^ k) (hk : 0 < k) : i.natAbs.log2 < k := by
  by_cases h0 : i.natAbs = 0
  · rw [h0]
    simpa using hk
  · exact (Nat.log2_lt h0).mpr h
theorem intText_len {i : Int} (h : i.natAbs < 10 ^ 11) : (PyData.int i).shown.length ≤ 13 := by
  rw [PyData.shown_int]
  have q := int_text_length_le10 (k := 11) (by decide) h
  show (Str.ofString (toString i)).length ≤ 13
  rw [PySem.ofString_length]
  omega
theorem Fn.int {n w : Nat} {i : Int} (h : i.natAbs < 10 ^ 11) (hw : 37 ≤ w) : Fn n w (.int i) := by
  have h37 : i.natAbs < 2 ^ 37 := Nat.lt_trans h (by decide)
  have hl := natAbs_log h37 (by decide)
  refine ⟨rfl, ?_, rfl, Nat.zero_le _, ?_, ?_⟩
  · show decide (i.natAbs.log2 < 1920) = true
    exact decide_eq_true (by omega)
  · show decide ((PyData.int i).shown.length ≤ 13) = true
    exact decide_eq_true (intText_len h)
  · unfold PyData.weight
    split
    · exact Nat.zero_le _
    · omega
structure FnAll (n w : Nat) (ds : List PyData) : Prop where
  plain : PyData.plainAll ds = true
  shows : PyData.showableAll ds = true
  nodict : PyData.hasDictAll ds = false
  depth : PyData.depthAll ds ≤ n
  short : PyData.leavesShortAll 13 ds = true
  weight : PyData.weightAll ds ≤ ds.length * (w + 1)
theorem fn_all {n w : Nat} : ∀ {ds : List PyData}, (∀ d ∈ ds, Fn n w d) → FnAll n w ds
  | [], _ => ⟨rfl, rfl, rfl, Nat.zero_le _, rfl, Nat.zero_le _⟩
  | d :: ds, h => by
    have h1 := h d List.mem_cons_self
    have h2 := fn_all fun x hx => h x (List.mem_cons_of_mem _ hx)
    refine ⟨?_, ?_, ?_, ?_, ?_, ?_⟩
    · simp [PyData.plainAll, h1.plain, h2.plain]
    · simp [PyData.showableAll, h1.shows, h2.shows]
    · simp [PyData.hasDictAll, h1.nodict, h2.nodict]
    · have a1 := h1.depth
      have a2 := h2.depth
      simp only [PyData.depthAll]
      omega
    · simp [PyData.leavesShortAll, h1.short, h2.short]
    · have a1 := h1.weight
      have a2 := h2.weight
      simp only [PyData.weightAll, List.length_cons, Nat.succ_mul]
      omega
theorem Fn.tup {n w W : Nat} {ds : List PyData} (h : ∀ d ∈ ds, Fn n w d) (hW : ds.length * (w + 1) ≤ W) : Fn (n + 1) W (.tuple ds) := by
  have q := fn_all h
  exact ⟨by simp [PyData.plain, q.plain], by simp [PyData.showable, q.shows], by simp [PyData.hasDict, q.nodict], by simp only [PyData.depth]; have := q.depth; omega, by simp [PyData.leavesShort, q.short], by simp only [PyData.weight]; exact Nat.le_trans q.weight hW⟩
theorem Fn.lst {n w W : Nat} {ds : List PyData} (h : ∀ d ∈ ds, Fn n w d) (hW : ds.length * (w + 1) ≤ W) : Fn (n + 1) W (.list ds) := by
  have q := fn_all h
  exact ⟨by simp [PyData.plain, q.plain], by simp [PyData.showable, q.shows], by simp [PyData.hasDict, q.nodict], by simp only [PyData.depth]; have := q.depth; omega, by simp [PyData.leavesShort, q.short], by simp only [PyData.weight]; exact Nat.le_trans q.weight hW⟩
theorem Fn.shown {n w : Nat} {d : PyData} (h : Fn n w d) (hw : w ≤ 2 ^ 20) : d.shown.length ≤ sizeLine := PyData.shown_fits (B := 13) (by decide) (by decide) h.short (Nat.le_trans h.weight hw)
/-- _law_same: equal data -/
def spSame : SpD := fun as Ψ => ∃ d, as = [.da d, .da d] ∧ Fn 60 (2 ^ 20) d ∧ Ψ (.da (.bool true)) [.da d, .da d]
end TL

/-! TL20: the drawing's state and contracts. -/
namespace TL
open PySem PySem.Spec PyProof.Rows L2
section
variable {X : Cx} {e : Expr} {Γ : Sl} {Ψ : OD → Sl → Prop} {x y : OD} {ss : List Stmt} {Φ : Out → Prop}
/-- an answer seen otherwise -/
theorem we_conv (cv : ∀ (I H : Hp) (v : V) (B : List Addr), Own X.tc I H v x B → Own X.tc I H v y B) (h : WE X e Γ fun r Γ1 => r = x ∧ Ψ y Γ1) : WE X e Γ Ψ := fun I H σ F en Q k => h I H σ F en Q fun r Γ1 I1 H1 v F1 ⟨hr, hq⟩ st en1 => by
  subst hr
  obtain ⟨B, G, rfl, o, en2, up⟩ := en1.pop
  exact k y Γ1 I1 H1 v _ hq st ⟨.cons (cv _ _ _ _ o) en2.env, en1.nd, en1.sub⟩
end
section
variable {X : Cx} {e : Expr} {Γ : Sl} {Ψ : OD → Sl → Prop} {x y : OD}
/-- a slot seen otherwise behind an expression -/
theorem we_convAt (i : Nat) (h : WE X e Γ fun r Γ1 => ∃ x y, Γ1[i]? = some (some x) ∧ (∀ (I H : Hp) (v : V) (B : List Addr), Own X.tc I H v x B → Own X.tc I H v y B) ∧ Ψ r (Γ1.set i (some y))) : WE X e Γ Ψ := fun I H σ F en Q k => h I H σ F en Q fun r Γ1 I1 H1 v F1 ⟨x, y, hx, cv, hq⟩ st en1 => by
  obtain ⟨B, G, rfl, o, en2, up⟩ := en1.pop
  obtain ⟨v1, B1, G1, e2, o1, en4, nd4, mem4⟩ := en2.take hx
  obtain ⟨F5, en5, nd5, m5⟩ := en4.into e2 (cv _ _ _ _ o1) nd4
  rw [List.set_set] at en5
  have st5 : Step I1 H1 G I1 H1 F5 := Step.less fun b hb => (mem4 b).mpr (m5 b hb)
  obtain ⟨en6, st6, _⟩ := up st5 en5
  exact k r _ I1 H1 v _ hq (st.trans st6) en6
end
def dS (sc : List Int) (p c w n : Int) : List PyData := [.list (sc.map .int), .int p, .int c, .int w, .int n]
def dw (T : TC) : OP where
  own := fun I H v B => ∃ p vs sc pl c w n, v = .ref p ∧ B = [p] ∧ H p = some (.lst vs) ∧ I p = none ∧ RpL T I vs (dS sc pl c w n) ∧ 0 ≤ pl
  frame := fun e ⟨p, vs, sc, pl, c, w, n, e1, e2, h, i, r, h0⟩ k => by
    subst e1 e2
    have q := k p (List.mem_singleton.mpr rfl)
    exact ⟨p, vs, sc, pl, c, w, n, rfl, rfl, q.1.trans h, q.2, r.mono e, h0⟩
  cells := fun ⟨p, vs, sc, pl, c, w, n, e1, e2, h, i, r, h0⟩ b hb => by
    subst e1 e2
    rw [List.mem_singleton] at hb
    subst hb
    exact ⟨⟨_, h⟩, i⟩
theorem dw_open {T : TC} (I H : Hp) (v u : V) (B : List Addr) (o : Own T I H v (.pin u (.op (dw T))) B) : ∃ j : {q : List Int × Int × Int × Int × Int // 0 ≤ q.2.1}, Own T I H v (.pin u (.ll (dS j.1.1 j.1.2.1 j.1.2.2.1 j.1.2.2.2.1 j.1.2.2.2.2))) B := by
  cases o with
  | pin o => cases o with
    | op q =>
      obtain ⟨p, vs, sc, pl, c, w, n, rfl, rfl, h, i, r, h0⟩ := q
      exact ⟨⟨(sc, pl, c, w, n), h0⟩, .pin (.ll h i r)⟩
theorem dw_shut {T : TC} {sc : List Int} {p c w n : Int} (h0 : 0 ≤ p) (I H : Hp) (v u : V) (B : List Addr) (o : Own T I H v (.pin u (.ll (dS sc p c w n))) B) : Own T I H v (.pin u (.op (dw T))) B := by
  cases o with
  | pin o => cases o with
    | ll h i r => exact .pin (.op ⟨_, _, sc, p, c, w, n, rfl, rfl, h, i, r, h0⟩)
theorem dw_new {T : TC} {sc : List Int} {p c w n : Int} (h0 : 0 ≤ p) (I H : Hp) (v : V) (B : List Addr) (o : Own T I H v (.ll (dS sc p c w n)) B) : Own T I H v (.op (dw T)) B := by
  cases o with
  | ll h i r => exact .op ⟨_, _, sc, p, c, w, n, rfl, rfl, h, i, r, h0⟩
def spMix : SpD := fun as Ψ => ∃ sc p c w n m, as = [.ll (dS sc p c w n), .da (.int m)] ∧ ∀ w', Ψ (.da .none) [.ll (dS sc p c w' (n + 1)), .da (.int m)]
def spBegin (T : TC) : SpD := fun as Ψ => ∃ ns : List Int, as = [.da (.list (ns.map .int))] ∧ Ψ (.op (dw T)) as
def spDraw (T : TC) : SpD := fun as Ψ => ∃ m : Int, as = [.op (dw T), .da (.int m)] ∧ 0 < m ∧ m < 2 ^ 64 ∧ ∀ r : Int, 0 ≤ r → r < m → Ψ (.da (.int r)) [.op (dw T), .da (.int m)]
def spRare (T : TC) : SpD := fun as Ψ => ∃ m : Int, as = [.op (dw T), .da (.int m)] ∧ 0 < m ∧ m < 2 ^ 64 ∧ ∀ r : Bool, Ψ (.da (.bool r)) [.op (dw T), .da (.int m)]
theorem atI_int {sc : List Int} {p : Int} (h0 : 0 ≤ p) (h1 : p < sc.length) : ∃ v, atI (sc.map PyData.int) p = some (.int v) := by
  have hl : p.toNat < sc.length := by omega
  refine ⟨sc[p.toNat], ?_⟩
  have e : ixN (sc.map PyData.int).length p = some p.toNat := by
    unfold ixN
    rw [List.length_map, if_pos h0, if_pos h1]
  unfold atI
  rw [e]
  show (sc.map PyData.int)[p.toNat]? = _
  rw [List.getElem?_map, List.getElem?_eq_getElem hl]
  rfl
section
variable {X : Cx} {e : Expr} {Γ : Sl} {Ψ : OD → Sl → Prop} {v : V} {x : OD}
/-- a pinned slot, used as if it were not -/
theorem we_unpin (i : Nat) (hx : Γ[i]? = some (some (.pin v x))) (h : WE X e (Γ.set i (some x)) fun r Γ1 => ∃ y, Γ1[i]? = some (some y) ∧ Ψ r (Γ1.set i (some (.pin v y)))) : WE X e Γ Ψ := fun I H σ F en Q k => by
  obtain ⟨v0, B, G, e1, o, en', nd, mem⟩ := en.take hx
  cases o with
  | pin o =>
    obtain ⟨F2, en2, nd2, m2⟩ := en'.into e1 o nd
    rw [List.set_set] at en2
    have st0 : Step I H F I H F2 := Step.less fun b hb => (mem b).mpr (m2 b hb)
    refine h I H σ F2 en2 Q fun r Γ1 I1 H1 w F1 ⟨y, hy, hq⟩ st1 en1 => ?_
    obtain ⟨Br, Gr, rfl, or, en3, up⟩ := en1.pop
    obtain ⟨v1, B1, G1, e2, o1, en4, nd4, mem4⟩ := en3.take hy
    rw [e1] at e2
    cases e2
    obtain ⟨F5, en5, nd5, m5⟩ := en4.into e1 (.pin o1) nd4
    rw [List.set_set] at en5
    have st5 : Step I1 H1 Gr I1 H1 F5 := Step.less fun b hb => (mem4 b).mpr (m5 b hb)
    obtain ⟨en6, st6, _⟩ := up st5 en5
    exact k r _ I1 H1 w _ hq ((st0.trans st1).trans st6) en6
end
/-- the drawing's state in a slot, pinned or not -/
inductive VOp (R : OP) : OD → Prop
  | op : VOp R (.op R)
  | pin {v : V} : VOp R (.pin v (.op R))
theorem set_self {Γ : Sl} {i : Nat} {o : Option OD} (h : Γ[i]? = some o) : Γ.set i o = Γ := by
  obtain ⟨h1, h2⟩ := List.getElem?_eq_some_iff.mp h
  rw [← h2]
  exact List.set_getElem_self h1
theorem get_set {Γ : Sl} {i : Nat} {o o' : Option OD} (h : Γ[i]? = some o) : (Γ.set i o')[i]? = some o' := List.getElem?_set_self (List.getElem?_eq_some_iff.mp h).1
section
variable {X : Cx} {Γ : Sl} {Ψ : OD → Sl → Prop} {a : Expr} {pos p p2 : Pos} {kk : Nat} {nm fnm : Str} {m : Int} {k : Nat} {ps : List Str} {x : OD}
theorem we_drawG (i : Nat) {sp : SpD} (G : Def X.prog X.w X.K X.mg X.base k fnm ps sp) (hr : Room k X.A) (hgd : X.A.guards = some []) {R : OP} (hv0 : VOp R x) (h : XE X a (Γ.set i none) (.da (.int m)) (Γ.set i none))
    (hq : sp [.op R, .da (.int m)] fun r as => as = [.op R, .da (.int m)] ∧ Ψ r Γ) (hsm : ∀ as Ψ1 Ψ2, (∀ r as', Ψ1 r as' → Ψ2 r as') → sp as Ψ1 → sp as Ψ2)
    (hx : Γ[i]? = some (some x) := by rfl) (hN : X.N[i]? = some nm := by rfl) (hv : Vis X.env.scope nm := by first | exact Or.inl rfl | exact Or.inr (Or.inl rfl) | exact Or.inr (Or.inr rfl)) (h2 : (nm == ("__debug__" : Str)) = false := by decide) (h3 : (nm == ("__classdict__" : Str)) = false := by decide)
    (hg : Gl X fnm := by rfl) (hdb : (fnm == ("__debug__" : Str)) = false := by decide) (he : starEach [.Name nm p2, a] X.env = (false, eval (.Name nm p2) X.env) :: starEach [a] X.env := by rfl) (he2 : starEach [a] X.env = (false, eval a X.env) :: starEach [] X.env := by rfl) (hpl : (backTo pos (starEach [a] X.env)).any (·.1) = false := by rfl) :
    WE X (.Call (.Name fnm p) [.Name nm p2, a] [] pos) Γ Ψ := by
  cases hv0 with
  | op => exact we_fn G hr hgd (wa_ref i (wa_cons (h _ (wa_nil (hsm _ _ _ (fun r as' ⟨ea, q⟩ => by
      subst ea
      show Ψ r ((Γ.set i none).set i (some (.op R)))
      rw [List.set_set, set_self hx]
      exact q) hq))) he2) hx hN hv h2 h3 he) hg hdb he hpl
  | pin =>
    rename_i v
    refine we_unpin i hx (we_fn G hr hgd (wa_ref i (wa_cons (by
      rw [List.set_set]
      exact h _ (wa_nil (hsm _ _ _ (fun r as' ⟨ea, q⟩ => by
        subst ea
        refine ⟨.op R, ?_, ?_⟩
        · show ((Γ.set i none).set i (some (.op R)))[i]? = _
          rw [List.set_set]
          exact get_set hx
        · show Ψ r (((Γ.set i none).set i (some (.op R))).set i (some (.pin v (.op R))))
          rw [List.set_set, List.set_set, set_self hx]
          exact q) hq))) he2) (get_set hx) hN hv h2 h3 he) hg hdb he hpl)
/-- _law_draw(d, e), d in the i-th slot -/
theorem we_draw (i : Nat) (G : Def X.prog X.w X.K X.mg X.base k "_law_draw" ps (spDraw X.tc)) (hr : Room k X.A) (hgd : X.A.guards = some []) (h : XE X a (Γ.set i none) (.da (.int m)) (Γ.set i none)) (h0 : 0 < m) (h1 : m < 2 ^ 64) (hq : ∀ r : Int, 0 ≤ r → r < m → Ψ (.da (.int r)) Γ)
    (hx : Γ[i]? = some (some x) := by rfl) (hv0 : VOp (dw X.tc) x := by first | exact .op | exact .pin) (hN : X.N[i]? = some nm := by rfl) (hv : Vis X.env.scope nm := by first | exact Or.inl rfl | exact Or.inr (Or.inl rfl) | exact Or.inr (Or.inr rfl)) (h2 : (nm == ("__debug__" : Str)) = false := by decide) (h3 : (nm == ("__classdict__" : Str)) = false := by decide)
    (hg : Gl X "_law_draw" := by rfl) (he : starEach [.Name nm p2, a] X.env = (false, eval (.Name nm p2) X.env) :: starEach [a] X.env := by rfl) (he2 : starEach [a] X.env = (false, eval a X.env) :: starEach [] X.env := by rfl) (hpl : (backTo pos (starEach [a] X.env)).any (·.1) = false := by rfl) :
    WE X (.Call (.Name "_law_draw" p) [.Name nm p2, a] [] pos) Γ Ψ :=
  we_drawG i G hr hgd hv0 h ⟨m, rfl, h0, h1, fun r g1 g2 => ⟨rfl, hq r g1 g2⟩⟩ (fun as Ψ1 Ψ2 hm ⟨m, e, g0, g1, q⟩ => ⟨m, e, g0, g1, fun r a b => hm _ _ (q r a b)⟩) hx hN hv h2 h3 hg (by decide) he he2 hpl
theorem we_rare (i : Nat) (G : Def X.prog X.w X.K X.mg X.base k "_law_rare" ps (spRare X.tc)) (hr : Room k X.A) (hgd : X.A.guards = some []) (h : XE X a (Γ.set i none) (.da (.int m)) (Γ.set i none)) (h0 : 0 < m) (h1 : m < 2 ^ 64) (hq : ∀ r : Bool, Ψ (.da (.bool r)) Γ)
    (hx : Γ[i]? = some (some x) := by rfl) (hv0 : VOp (dw X.tc) x := by first | exact .op | exact .pin) (hN : X.N[i]? = some nm := by rfl) (hv : Vis X.env.scope nm := by first | exact Or.inl rfl | exact Or.inr (Or.inl rfl) | exact Or.inr (Or.inr rfl)) (h2 : (nm == ("__debug__" : Str)) = false := by decide) (h3 : (nm == ("__classdict__" : Str)) = false := by decide)
    (hg : Gl X "_law_rare" := by rfl) (he : starEach [.Name nm p2, a] X.env = (false, eval (.Name nm p2) X.env) :: starEach [a] X.env := by rfl) (he2 : starEach [a] X.env = (false, eval a X.env) :: starEach [] X.env := by rfl) (hpl : (backTo pos (starEach [a] X.env)).any (·.1) = false := by rfl) :
    WE X (.Call (.Name "_law_rare" p) [.Name nm p2, a] [] pos) Γ Ψ :=
  we_drawG i G hr hgd hv0 h ⟨m, rfl, h0, h1, fun r => ⟨rfl, hq r⟩⟩ (fun as Ψ1 Ψ2 hm ⟨m, e, g0, g1, q⟩ => ⟨m, e, g0, g1, fun r => hm _ _ (q r)⟩) hx hN hv h2 h3 hg (by decide) he he2 hpl
end
end TL

/-! TL21: calls of defs, own things handed over by name: what they hold is looked up when all arguments stand. -/
namespace TL
open PySem PySem.Spec PyProof.Rows L2

def unp : OD → OD
  | .pin _ x => x
  | x => x
def getR : List (Option OD) → List (Option Nat) → Sl → Option (List OD × Sl)
  | some r :: rs, _ :: refs, Γ => (getR rs refs Γ).map fun q => (r :: q.1, q.2)
  | none :: rs, some i :: refs, Γ => match Γ[i]? with
    | some (some x) => (getR rs refs (Γ.set i none)).map fun q => (unp x :: q.1, q.2)
    | _ => none
  | [], [], Γ => some ([], Γ)
  | _, _, _ => none
def repin (Γ2 : Sl) : List (Option Nat) → Sl → Sl
  | some i :: refs, Γ => match Γ2[i]?, Γ[i]? with
    | some (some (.pin v _)), some (some y) => repin Γ2 refs (Γ.set i (some (.pin v y)))
    | _, _ => repin Γ2 refs Γ
  | none :: refs, Γ => repin Γ2 refs Γ
  | [], Γ => Γ
theorem own_unp {T : TC} {I H : Hp} {v : V} {x : OD} {B : List Addr} (o : Own T I H v x B) : Own T I H v (unp x) B := by
  cases o with
  | pin o => exact o
  | da h => exact .da h
  | ll a b c => exact .ll a b c
  | dd a b c d => exact .dd a b c d
  | dm a b c d e => exact .dm a b c d e
  | ls a b c => exact .ls a b c
  | ob a b c d => exact .ob a b c d
  | op a => exact .op a
theorem set_app {α : Type} {xs ys : List α} {i : Nat} {a : α} : (xs ++ ys).set (xs.length + i) a = xs ++ ys.set i a := by
  rw [List.set_append_right _ _ (by omega)]
  congr 1
  congr 1
  omega
theorem get_app {α : Type} {xs ys : List α} {i : Nat} : (xs ++ ys)[xs.length + i]? = ys[i]? := by
  rw [List.getElem?_append_right (by omega)]
  congr 1
  omega
section
variable {T : TC} {I H : Hp} {σ : L2.St}
theorem getR_env : ∀ {rs : List (Option OD)} {refs : List (Option Nat)} {vs : List V} {as : List OD} {Γ2 Γ3 : Sl} {F : List Addr}, getR rs refs Γ2 = some (as, Γ3) → EnvF T I H (vs.map some ++ σ) (rs ++ Γ2) F → vs.length = rs.length → RefsOk refs vs σ →
    ∃ F', EnvF T I H (vs.map some ++ σ) (as.map some ++ Γ3) F' ∧ (∀ b ∈ F', b ∈ F) ∧ as.length = rs.length
  | [], [], [], as, Γ2, Γ3, F, h, en, _, _ => by
    cases h
    exact ⟨F, en, fun b hb => hb, rfl⟩
  | [], [], _ :: _, _, _, _, _, _, _, hl, _ => by simp at hl
  | [], _ :: _, _, _, _, _, _, h, _, _, _ => by simp [getR] at h
  | some r :: rs, [], _, _, _, _, _, h, _, _, _ => by simp [getR] at h
  | none :: rs, [], _, _, _, _, _, h, _, _, _ => by simp [getR] at h
  | none :: rs, none :: refs, _, _, _, _, _, h, _, _, _ => by simp [getR] at h
  | _ :: _, _ :: _, [], _, _, _, _, _, _, hl, _ => by simp at hl
  | some r :: rs, ref :: refs, v :: vs, as, Γ2, Γ3, F, h, en, hl, rk => by
    unfold getR at h
    obtain ⟨⟨as', Γ3'⟩, h1, h2⟩ := Option.map_eq_some_iff.mp h
    cases h2
    obtain ⟨B, G, rfl, o, en', _⟩ := EnvF.pop (v := v) (r := r) (σ := vs.map some ++ σ) (Γ := rs ++ Γ2) en
    obtain ⟨F', en2, m, l⟩ := getR_env h1 en' (by simpa using hl) rk.tail
    have nd := List.nodup_append.mp en.nd
    refine ⟨B ++ F', ⟨.cons o en2.env, List.nodup_append.mpr ⟨nd.1, en2.nd, fun x hx y hy => nd.2.2 x hx y (m y hy)⟩, en.sub⟩, fun b hb => ?_, by simp [l]⟩
    exact (List.mem_append.mp hb).elim (List.mem_append_left _) fun q => List.mem_append_right _ (m b q)
  | none :: rs, some i :: refs, v :: vs, as, Γ2, Γ3, F, h, en, hl, rk => by
    unfold getR at h
    cases hx : Γ2[i]? with
    | none =>
      rw [hx] at h
      cases h
    | some ox => cases ox with
      | none =>
        rw [hx] at h
        cases h
      | some x =>
        rw [hx] at h
        obtain ⟨⟨as', Γ3'⟩, h1, h2⟩ := Option.map_eq_some_iff.mp h
        cases h2
        have hl' : vs.length = rs.length := by simpa using hl
        have en0 : EnvF T I H (vs.map some ++ σ) (rs ++ Γ2) F := by
          refine ⟨?_, en.nd, en.sub⟩
          have e := en.env
          cases e with
          | skip e => exact e
        obtain ⟨v', B, G, e1, o, en', nd, mem⟩ := en0.take (i := rs.length + i) (x := x) (by rw [get_app]; exact hx)
        have hv : v' = v := by
          rw [show rs.length = (vs.map some).length by rw [List.length_map, hl'], get_app] at e1
          obtain ⟨u, q1, q2⟩ := rk 0 i rfl
          simp at q1
          subst q1
          rw [q2] at e1
          cases e1
          rfl
        subst hv
        rw [set_app] at en'
        obtain ⟨F', en2, m, l⟩ := getR_env h1 en' hl' rk.tail
        have nd' := List.nodup_append.mp nd
        refine ⟨B ++ F', ⟨.cons (own_unp o) en2.env, List.nodup_append.mpr ⟨nd'.1, en2.nd, fun x hx y hy => nd'.2.2 x hx y (m y hy)⟩, en.sub⟩, fun b hb => ?_, by simp [l]⟩
        exact (mem b).mpr ((List.mem_append.mp hb).imp id (m b))
theorem pins_ok {rs : List (Option OD)} {vs : List V} {Γ2 : Sl} {F : List Addr} {i : Nat} {v : V} {x : OD} (en : EnvF T I H (vs.map some ++ σ) (rs ++ Γ2) F) (hl : vs.length = rs.length) (hx : Γ2[i]? = some (some (.pin v x))) : σ[i]? = some (some v) := by
  obtain ⟨v', B, G, e1, o, _⟩ := en.take (i := rs.length + i) (x := .pin v x) (by rw [get_app]; exact hx)
  rw [show rs.length = (vs.map some).length by rw [List.length_map, hl], get_app] at e1
  cases o with
  | pin o => exact e1
theorem repin_env {Γ2 : Sl} (hp : ∀ (i : Nat) (v : V) (x : OD), Γ2[i]? = some (some (.pin v x)) → σ[i]? = some (some v)) : ∀ {refs : List (Option Nat)} {Γ : Sl} {F : List Addr} {I H : Hp}, EnvF T I H σ Γ F → ∃ F', EnvF T I H σ (repin Γ2 refs Γ) F' ∧ ∀ b ∈ F', b ∈ F
  | [], Γ, F, _, _, en => ⟨F, en, fun b hb => hb⟩
  | none :: refs, Γ, F, _, _, en => repin_env hp (refs := refs) en
  | some i :: refs, Γ, F, I, H, en => by
    unfold repin
    split
    · rename_i v x y h1 h2
      obtain ⟨v0, B, G, e1, o, en', nd, mem⟩ := en.take h2
      have hv := hp i v x h1
      rw [hv] at e1
      cases e1
      obtain ⟨F2, en2, nd2, m2⟩ := en'.into hv (.pin o) nd
      rw [List.set_set] at en2
      obtain ⟨F3, en3, m3⟩ := repin_env hp (refs := refs) en2
      exact ⟨F3, en3, fun b hb => (mem b).mpr (m2 b (m3 b hb))⟩
    · exact repin_env hp (refs := refs) en
end
section
variable {X : Cx} {e a b c o : Expr} {es : List Expr} {Γ Γ' Γ1 Γ2 : Sl} {Ψ : OD → Sl → Prop} {Ψa : List (Option OD) → List (Option Nat) → Sl → Prop} {pos p : Pos} {r x y z : OD} {nm fnm : Str} {d : PyData} {k : Nat} {ps : List Str} {sp : SpD}
def WR (X : Cx) (es : List Expr) (Γ : Sl) (Ψ : List (Option OD) → List (Option Nat) → Sl → Prop) : Prop := ∀ (I H : Hp) (σ : L2.St) (F : List Addr), EnvF X.tc I H σ Γ F → ∀ Q : List V → Hp → Prop,
  (∀ (rs : List (Option OD)) (refs : List (Option Nat)) (Γ' : Sl) (I' H' : Hp) (vs : List V) (F' : List Addr), Ψ rs refs Γ' → vs.length = rs.length → refs.length = rs.length → RefsOk refs vs σ → Step I H F I' H' F' →
    EnvF X.tc I' H' (vs.map some ++ σ) (rs ++ Γ') F' → Q vs H') → wpA X es σ H Q
theorem wr_nil (h : Ψa [] [] Γ) : WR X [] Γ Ψa := fun I H σ F en Q k => ⟨_, pa_nil, k [] [] Γ I H [] F h rfl rfl (fun k i e => by simp at e) .refl en⟩
theorem wr_cons (h : WE X e Γ fun r Γ1 => WR X es Γ1 fun rs refs Γ2 => Ψa (some r :: rs) (none :: refs) Γ2) (hs : starEach (e :: es) X.env = (false, eval e X.env) :: starEach es X.env := by rfl) : WR X (e :: es) Γ Ψa := by
  intro I H σ F en Q k
  refine ⟨_, pa_cons wpE_ok wpA_ok hs, h I H σ F en _ fun x Γ1 I1 H1 v F1 h1 st1 en1 => ?_⟩
  obtain ⟨B, G, rfl, o1, en1', up⟩ := en1.pop
  refine h1 I1 H1 σ G en1' _ fun rs refs Γ2 I2 H2 vs F2 h2 l1 l2 rk st2 en2 => ?_
  obtain ⟨en3, st3, _⟩ := up st2 en2
  exact k (some x :: rs) (none :: refs) Γ2 I2 H2 (v :: vs) _ h2 (by simp [l1]) (by simp [l2]) rk.none (st1.trans st3) en3
/-- data -/
theorem wr_da (h : XE X e Γ (.da d) Γ1) (q : WR X es Γ1 fun rs refs Γ2 => Ψa (some (.da d) :: rs) (none :: refs) Γ2) (hs : starEach (e :: es) X.env = (false, eval e X.env) :: starEach es X.env := by rfl) : WR X (e :: es) Γ Ψa := wr_cons (h _ q) hs
/-- what stands in the i-th slot, handed over -/
theorem wr_ref (i : Nat) (h : WR X es Γ fun rs refs Γ2 => Ψa (none :: rs) (some i :: refs) Γ2) (hx : OSome Γ[i]? = true := by rfl) (hN : X.N[i]? = some nm := by rfl)
    (hv : Vis X.env.scope nm := by first | exact Or.inl rfl | exact Or.inr (Or.inl rfl) | exact Or.inr (Or.inr rfl)) (h1 : (nm == ("__debug__" : Str)) = false := by decide) (h2 : (nm == ("__classdict__" : Str)) = false := by decide)
    (hs : starEach (.Name nm p :: es) X.env = (false, eval (.Name nm p) X.env) :: starEach es X.env := by rfl) : WR X (.Name nm p :: es) Γ Ψa := by
  intro I H σ F en Q k
  obtain ⟨x, hx⟩ := OSome.ex hx
  obtain ⟨v, B, e1, o⟩ := en.see hx
  refine ⟨_, pa_cons (pe_var hN hv h1 h2) wpA_ok hs, v, e1, ?_⟩
  refine h I H σ F en _ fun rs refs Γ2 I2 H2 vs F2 h2 l1 l2 rk st2 en2 => ?_
  exact k (none :: rs) (some i :: refs) Γ2 I2 H2 (v :: vs) F2 h2 (by simp [l1]) (by simp [l2]) (rk.some e1) st2 ⟨.skip en2.env, en2.nd, en2.sub⟩
/-- f(e, ..), f a def -/
theorem we_fnR (G : Def X.prog X.w X.K X.mg X.base k fnm ps sp) (hr : Room k X.A) (hgd : X.A.guards = some []) (h : WR X (e :: es) Γ fun rs refs Γ2 => ∃ as Γ3, getR rs refs Γ2 = some (as, Γ3) ∧ sp as fun r as' => Ψ r (repin Γ2 refs (putBack refs as' Γ3)))
    (hg : Gl X fnm := by rfl) (hdb : (fnm == ("__debug__" : Str)) = false := by decide) (he : starEach (e :: es) X.env = (false, eval e X.env) :: starEach es X.env := by rfl) (hpl : (backTo pos (starEach es X.env)).any (·.1) = false := by rfl) : WE X (.Call (.Name fnm p) (e :: es) [] pos) Γ Ψ := fun I H σ F en Q k => by
  obtain ⟨_, _, FG, hm, hk, hb⟩ := G
  refine ⟨_, pe_callG FG hr hgd hg hm hk hb pass0 wpA_ok hdb he hpl, h I H σ F en _ fun rs refs Γ1 I1 H1 vs F1 h1 l1 l2 rk st en1 => ?_⟩
  obtain ⟨as, Γ3, hget, hsp⟩ := h1
  obtain ⟨F2, en2, m2, l3⟩ := getR_env hget en1 l1 rk
  have hp := fun i v x (hx : Γ1[i]? = some (some (OD.pin v x))) => pins_ok en1 l1 hx
  rw [List.append_nil]
  refine call_fin (Ψ := fun r Γ => Ψ r (repin Γ1 refs Γ)) hsp (by rw [l1, l3]) rk (st.trans (Step.less m2)) en2 fun r Γ' I' H' v F' hq st' en' => ?_
  obtain ⟨B, G, rfl, o, en3, up⟩ := en'.pop
  obtain ⟨F5, en5, m5⟩ := repin_env (refs := refs) hp en3
  obtain ⟨en6, st6, _⟩ := up (Step.less m5) en5
  exact k r _ I' H' v _ hq (st'.trans st6) en6
end
section
variable {X : Cx} {a b c : Expr} {Γ Γ1 Γ2 : Sl} {pos : Pos} {k : Bool} {i j : Int}
/-- i if c else j, of ints -/
theorem xe_ifI (h : XT X c Γ k Γ1) (ha : k = true → XE X a Γ1 (.da (.int i)) Γ2) (hb : k = false → XE X b Γ1 (.da (.int j)) Γ2) : XE X (.IfExp c a b pos) Γ (.da (.int (if k = true then i else j))) Γ2 := fun Ψ hq => we_ifExp (h _ ⟨fun e => ha e _ (by rw [if_pos e] at hq; exact hq), fun e => hb e _ (by rw [if_neg (by simp [e])] at hq; exact hq)⟩)
end
end TL

/-! TL22: comprehensions of one answer. -/
namespace TL
open PySem PySem.Spec PyProof.Rows L2
theorem plainAll_map {α : Type} {f : α → PyData} : ∀ {xs : List α}, (∀ x ∈ xs, (f x).plain = true) → PyData.plainAll (xs.map f) = true
  | [], _ => rfl
  | x :: xs, h => by
    rw [List.map_cons]
    simp [PyData.plainAll, h x List.mem_cons_self, plainAll_map fun y hy => h y (List.mem_cons_of_mem _ hy)]
theorem depthAll_map {α : Type} {f : α → PyData} {n : Nat} : ∀ {xs : List α}, (∀ x ∈ xs, (f x).depth ≤ n) → PyData.depthAll (xs.map f) ≤ n
  | [], _ => Nat.zero_le _
  | x :: xs, h => by
    have h1 := h x List.mem_cons_self
    have h2 := depthAll_map fun y hy => h y (List.mem_cons_of_mem _ hy)
    rw [List.map_cons]
    simp only [PyData.depthAll]
    omega
abbrev ilist (xs : List Nat) : List PyData := xs.map fun (n : Nat) => PyData.int n
theorem plain_ilist {xs : List Nat} : PyData.plainAll (ilist xs) = true := plainAll_map fun x _ => rfl
theorem plain_il {xs : List Nat} : (PyData.list (ilist xs)).plain = true := by
  rw [PyData.plain]
  exact plain_ilist
theorem plain_it {xs : List Nat} : (PyData.tuple (ilist xs)).plain = true := by
  rw [PyData.plain]
  exact plain_ilist
theorem depth_il {xs : List Nat} : (PyData.list (ilist xs)).depth ≤ 1 := by
  have : PyData.depthAll (ilist xs) ≤ 0 := depthAll_map fun x _ => Nat.le_refl _
  simp only [PyData.depth]
  omega
theorem depth_it {xs : List Nat} : (PyData.tuple (ilist xs)).depth ≤ 1 := by
  have : PyData.depthAll (ilist xs) ≤ 0 := depthAll_map fun x _ => Nat.le_refl _
  simp only [PyData.depth]
  omega
section
variable {X : Cx} {e a b c o elt tg it : Expr} {es ifs : List Expr} {ss rest : List Stmt} {Γ Γ' Γ1 Γ2 : Sl} {Ψ : OD → Sl → Prop} {Φ : Out → Prop} {pos p apos spos py : Pos} {nm : Str} {ds : List PyData} {d : PyData} {scope : Scope} {own : List (Str × Nat)} {k : Nat} {α : Type}
/-- the block's expressions, whatever the block's frame is -/
def XB (X : Cx) (scope : Scope) (e : Expr) (Γ : Sl) (r : OD) (Γ' : Sl) : Prop := ∀ s H C cl fp, XE (Blk X scope s H C cl fp) e Γ r Γ'
def TB (X : Cx) (scope : Scope) (e : Expr) (Γ : Sl) (r : Bool) (Γ' : Sl) : Prop := ∀ s H C cl fp, XT (Blk X scope s H C cl fp) e Γ r Γ'
def GB (X : Cx) (scope : Scope) (own : List (Str × Nat)) (tg : Expr) (d : PyData) (Γ Γ3 : Sl) : Prop := ∀ s H C cl fp, WGc (Blk X scope s H C cl fp) (own.map (·.2)) tg d Γ fun Γ' => Γ' = Γ3
section
variable (own : List (Str × Nat)) (u : α → Sl → Sl) (xs : List α) (E f : α → PyData)
theorem xe_lcM (fx : Fr X k) {R : α → OD} (hi : XI X tg it Γ (xs.map E) Γ) (hsz : xs.length ≤ sizeLine) (hg : ∀ x ∈ xs, GB X scope own tg (E x) Γ (u x Γ)) (he : ∀ x ∈ xs, XB X scope elt (u x Γ) (R x) (u x Γ)) (hf : ∀ x, Frz (R x) (f x) := by intro x; first | exact .da | exact .ll)
    (hd3 : ∀ x, dropΓ (own.map (·.2)) (u x Γ) = Γ := by intro x; rfl) (hd : dropΓ (own.map (·.2)) Γ = Γ := by rfl) (ok : blkC X.N X.env.scope scope own = true := by rfl) (hs : ∀ x, foldedSetIterable it X.env x = pure x := by intro _; rfl) : XE X (.ListComp elt [⟨tg, it, [], 0⟩] scope pos) Γ (.ll (xs.map f)) Γ :=
  fun Ψ hq => we_lc own _ fx.calm fx.nd (lc_map (xs := xs) (E := E) (f := f) (R := R) (fun x => u x Γ) hi hsz hd hg he hf hd3 hd hq) ok hs
theorem xe_lcF (pr : α → Bool) (fx : Fr X k) {R : α → OD} (hi : XI X tg it Γ (xs.map E) Γ) (hsz : xs.length ≤ sizeLine) (hg : ∀ x ∈ xs, GB X scope own tg (E x) Γ (u x Γ)) (ht : ∀ x ∈ xs, TB X scope c (u x Γ) (pr x) (u x Γ)) (he : ∀ x ∈ xs, pr x = true → XB X scope elt (u x Γ) (R x) (u x Γ)) (hf : ∀ x, Frz (R x) (f x) := by intro x; first | exact .da | exact .ll)
    (hd3 : ∀ x, dropΓ (own.map (·.2)) (u x Γ) = Γ := by intro x; rfl) (hd : dropΓ (own.map (·.2)) Γ = Γ := by rfl) (ok : blkC X.N X.env.scope scope own = true := by rfl) (hs : ∀ x, foldedSetIterable it X.env x = pure x := by intro _; rfl) : XE X (.ListComp elt [⟨tg, it, [c], 0⟩] scope pos) Γ (.ll ((xs.filter pr).map f)) Γ :=
  fun Ψ hq => we_lc own _ fx.calm fx.nd (lc_fil (xs := xs) (E := E) (f := f) (R := R) pr (fun x => u x Γ) hi hsz hd hg ht he hf hd3 hd hq) ok hs
/-- y = [..], y a plain local name -/
theorem xs_setLcM (i : Nat) (fx : Fr X k) {R : α → OD} (hi : XI X tg it Γ (xs.map E) Γ) (hsz : xs.length ≤ sizeLine) (hg : ∀ x ∈ xs, GB X scope own tg (E x) Γ (u x Γ)) (he : ∀ x ∈ xs, XB X scope elt (u x Γ) (R x) (u x Γ)) (q : WSs X rest (Γ.set i (some (.ll (xs.map f)))) Φ) (hf : ∀ x, Frz (R x) (f x) := by intro x; first | exact .da | exact .ll)
    (hd3 : ∀ x, dropΓ (own.map (·.2)) (u x Γ) = Γ := by intro x; rfl) (hd : dropΓ (own.map (·.2)) Γ = Γ := by rfl) (hN : X.N[i]? = some nm := by rfl) (hyl : X.env.scope.names.lookup nm = some .local := by rfl) (hl : Nat.blt i Γ.length = true := by rfl) (hsw : swapsWith (.ListComp elt [⟨tg, it, [], 0⟩] scope pos) (some (.Name nm py)) spos.line X.env = pure true := by rfl)
    (ok : blkC X.N X.env.scope scope own = true := by rfl) (hs : ∀ x, foldedSetIterable it X.env x = pure x := by intro _; rfl) : WSs X (.Assign [.Name nm py] (.ListComp elt [⟨tg, it, [], 0⟩] scope pos) spos :: rest) Γ Φ :=
  ws_setLc i own _ fx.calm fx.nd (lc_map (Ψ := fun r Γ1 => WSs X rest (Γ1.set i (some r)) Φ) (xs := xs) (E := E) (f := f) (R := R) (fun x => u x Γ) hi hsz hd hg he hf hd3 hd q) hN hyl hl hsw ok hs
theorem xs_setLcF (i : Nat) (pr : α → Bool) (fx : Fr X k) {R : α → OD} (hi : XI X tg it Γ (xs.map E) Γ) (hsz : xs.length ≤ sizeLine) (hg : ∀ x ∈ xs, GB X scope own tg (E x) Γ (u x Γ)) (ht : ∀ x ∈ xs, TB X scope c (u x Γ) (pr x) (u x Γ)) (he : ∀ x ∈ xs, pr x = true → XB X scope elt (u x Γ) (R x) (u x Γ)) (q : WSs X rest (Γ.set i (some (.ll ((xs.filter pr).map f)))) Φ) (hf : ∀ x, Frz (R x) (f x) := by intro x; first | exact .da | exact .ll)
    (hd3 : ∀ x, dropΓ (own.map (·.2)) (u x Γ) = Γ := by intro x; rfl) (hd : dropΓ (own.map (·.2)) Γ = Γ := by rfl) (hN : X.N[i]? = some nm := by rfl) (hyl : X.env.scope.names.lookup nm = some .local := by rfl) (hl : Nat.blt i Γ.length = true := by rfl) (hsw : swapsWith (.ListComp elt [⟨tg, it, [c], 0⟩] scope pos) (some (.Name nm py)) spos.line X.env = pure true := by rfl)
    (ok : blkC X.N X.env.scope scope own = true := by rfl) (hs : ∀ x, foldedSetIterable it X.env x = pure x := by intro _; rfl) : WSs X (.Assign [.Name nm py] (.ListComp elt [⟨tg, it, [c], 0⟩] scope pos) spos :: rest) Γ Φ :=
  ws_setLc i own _ fx.calm fx.nd (lc_fil (Ψ := fun r Γ1 => WSs X rest (Γ1.set i (some r)) Φ) (xs := xs) (E := E) (f := f) (R := R) pr (fun x => u x Γ) hi hsz hd hg ht he hf hd3 hd q) hN hyl hl hsw ok hs
end
/-- tuple([..]), all([..]) .. of a new list -/
theorem xe_tupL (B : Blt X.mg) (ha : XE X a Γ (.ll ds) Γ1) (hg : Gl X "tuple" := by rfl) (he : starEach [a] X.env = (false, eval a X.env) :: starEach [] X.env := by rfl) (hpl : (backTo pos (starEach [] X.env)).any (·.1) = false := by rfl) :
    XE X (.Call (.Name "tuple" p) [a] [] pos) Γ (.da (.tuple ds)) Γ1 := fun _ hq => we_tupOf B (ha _ ⟨ds, rfl, hq⟩) hg he hpl
/-- zip of typed lists, of typed tuples -/
theorem xi_zipL {β : Type} {xs : List α} {ys : List β} {E : α → PyData} {E' : β → PyData} {elts : List Expr} {kk : Nat} {tpos : Pos} (B : Blt X.mg) (ha : XE X a Γ (.da (.list (xs.map E))) Γ1) (hb : XE X b Γ1 (.da (.list (ys.map E'))) Γ2) (hg : Gl X "zip" := by rfl)
    (hs : starEach [a, b] X.env = (false, eval a X.env) :: starEach [b] X.env := by rfl) (hs2 : starEach [b] X.env = (false, eval b X.env) :: starEach [] X.env := by rfl) (hpl : (backTo pos (starEach [b] X.env)).any (·.1) = false := by rfl) :
    XI X (.Tuple elts kk tpos) (.Call (.Name "zip" p) [a, b] [] pos) Γ ((xs.zip ys).map fun q => .tuple [E q.1, E' q.2]) Γ2 := by
  rw [← zipW_map]
  exact xi_zip B ha hb (.inl ⟨rfl, rfl⟩) hg hs hs2 hpl
theorem xi_zipU {β : Type} {xs : List α} {ys : List β} {E : α → PyData} {E' : β → PyData} {elts : List Expr} {kk : Nat} {tpos : Pos} (B : Blt X.mg) (ha : XE X a Γ (.da (.tuple (xs.map E))) Γ1) (hb : XE X b Γ1 (.da (.tuple (ys.map E'))) Γ2) (hg : Gl X "zip" := by rfl)
    (hs : starEach [a, b] X.env = (false, eval a X.env) :: starEach [b] X.env := by rfl) (hs2 : starEach [b] X.env = (false, eval b X.env) :: starEach [] X.env := by rfl) (hpl : (backTo pos (starEach [b] X.env)).any (·.1) = false := by rfl) :
    XI X (.Tuple elts kk tpos) (.Call (.Name "zip" p) [a, b] [] pos) Γ ((xs.zip ys).map fun q => .tuple [E q.1, E' q.2]) Γ2 := by
  rw [← zipW_map]
  exact xi_zip B ha hb (.inr ⟨rfl, rfl⟩) hg hs hs2 hpl
/-- range(n) -/
theorem xi_rangeN {n : Nat} (B : Blt X.mg) (h : XE X a Γ (.da (.int (n : Int))) Γ1) (hn : n ≤ 16777216) (hg : Gl X "range" := by rfl) (hs : starEach [a] X.env = [(false, eval a X.env)] := by rfl) : XI X tg (.Call (.Name "range" p) [a] [] pos) Γ ((List.range n).map fun (i : Nat) => .int i) Γ1 := by
  have q := xi_range1 (tg := tg) (p := p) (pos := pos) B h (by omega) (by omega) hg hs
  have e : rangeD 0 (n : Int).toNat = (List.range n).map fun (i : Nat) => PyData.int i := by
    unfold rangeD
    rw [Int.toNat_natCast]
    exact List.map_congr_left fun i _ => by rw [Int.zero_add]
  rwa [e] at q
/-- range(m, n) -/
theorem xi_rangeMN {m n : Nat} (B : Blt X.mg) (h : XE X a Γ (.da (.int (m : Int))) Γ1) (h2 : XE X b Γ1 (.da (.int (n : Int))) Γ2) (hm : m ≤ 16777216) (hn : n ≤ 16777216) (hg : Gl X "range" := by rfl) (hs : starEach [a, b] X.env = [(false, eval a X.env), (false, eval b X.env)] := by rfl) (hs2 : starEach [b] X.env = [(false, eval b X.env)] := by rfl) :
    XI X tg (.Call (.Name "range" p) [a, b] [] pos) Γ ((List.range (n - m)).map fun (i : Nat) => .int ((m + i : Nat) : Int)) Γ2 := by
  have q := xi_range2 (tg := tg) (p := p) (pos := pos) B h h2 (by omega) hg hs hs2
  have e : rangeD (m : Int) ((n : Int) - (m : Int)).toNat = (List.range (n - m)).map fun (i : Nat) => PyData.int ((m + i : Nat) : Int) := by
    unfold rangeD
    rw [show ((n : Int) - (m : Int)).toNat = n - m by omega]
    exact List.map_congr_left fun i _ => by rw [Int.natCast_add]
  rwa [e] at q
section
variable {β : Type} (own : List (Str × Nat)) (u : α → Sl → Sl) (xs : List α) (E : α → PyData) (F : β → PyData) (Pv : Nat → α → β → Prop)
abbrev LcJ (Γ : Sl) : List PyData → Nat → Sl → List PyData → Prop := fun ds n Γ' acc => ds = xs.map E ∧ Γ' = Γ ∧ ∃ bs : List β, acc = bs.map F ∧ bs.length = n ∧ ∀ (i : Nat) (x : α) (b : β), xs[i]? = some x → bs[i]? = some b → Pv i x b
/-- any answers, each as Pv says -/
theorem lc_any (hi : XI X tg it Γ (xs.map E) Γ) (hsz : xs.length ≤ sizeLine) (hg : ∀ x ∈ xs, GB X scope own tg (E x) Γ (u x Γ)) (he : ∀ (n : Nat) (x : α), xs[n]? = some x → ∀ s H C cl fp, WE (Blk X scope s H C cl fp) elt (u x Γ) fun r Γ' => ∃ b, Frz r (F b) ∧ Pv n x b ∧ Γ' = u x Γ)
    (hd3 : ∀ x, dropΓ (own.map (·.2)) (u x Γ) = Γ) (hd : dropΓ (own.map (·.2)) Γ = Γ) (hq : ∀ bs : List β, bs.length = xs.length → (∀ (i : Nat) (x : α) (b : β), xs[i]? = some x → bs[i]? = some b → Pv i x b) → Ψ (.ll (bs.map F)) Γ) : LcWI X scope own tg it elt [] Γ (LcJ xs E F Pv Γ) Ψ := by
  refine hi _ ⟨by rw [List.length_map]; exact hsz, ⟨rfl, hd, [], rfl, rfl, fun i x b h1 h2 => by simp at h2⟩, ?_, ?_⟩
  · rintro n d _ _ hn ⟨_, rfl, bs, rfl, hl, hp⟩
    rw [List.getElem?_map] at hn
    obtain ⟨x, hx, rfl⟩ := Option.map_eq_some_iff.mp hn
    refine ⟨u x _, hg x (List.mem_of_getElem? hx), fun k Γ4 => k = true ∧ Γ4 = u x _, fun s H C cl fp => wts_nil ⟨rfl, rfl⟩, ?_⟩
    rintro k Γ4 ⟨rfl, rfl⟩
    refine ⟨fun _ s H C cl fp => (he n x hx s H C cl fp).mono fun r Γ5 ⟨b, fz, hb, e5⟩ => ⟨F b, fz, rfl, by rw [e5]; exact hd3 x, bs ++ [b], by simp, by simp [hl], fun i x' b' h1 h2 => ?_⟩, fun q => Bool.noConfusion q⟩
    by_cases hin : i < bs.length
    · rw [List.getElem?_append_left hin] at h2
      exact hp i x' b' h1 h2
    · rw [List.getElem?_append_right (by omega)] at h2
      have hi0 : i - bs.length = 0 := by
        have := (List.getElem?_eq_some_iff.mp h2).1
        simp at this
        omega
      rw [hi0] at h2
      simp at h2
      subst h2
      have : i = n := by omega
      subst this
      rw [hx] at h1
      cases h1
      exact hb
  · rintro _ _ ⟨_, rfl, bs, rfl, hl, hp⟩
    rw [hd]
    rw [List.length_map] at hl
    exact hq bs hl hp
theorem we_lcA (fx : Fr X k) (hi : XI X tg it Γ (xs.map E) Γ) (hsz : xs.length ≤ sizeLine) (hg : ∀ x ∈ xs, GB X scope own tg (E x) Γ (u x Γ)) (he : ∀ (n : Nat) (x : α), xs[n]? = some x → ∀ s H C cl fp, WE (Blk X scope s H C cl fp) elt (u x Γ) fun r Γ' => ∃ b, Frz r (F b) ∧ Pv n x b ∧ Γ' = u x Γ)
    (hq : ∀ bs : List β, bs.length = xs.length → (∀ (i : Nat) (x : α) (b : β), xs[i]? = some x → bs[i]? = some b → Pv i x b) → Ψ (.ll (bs.map F)) Γ) (hd3 : ∀ x, dropΓ (own.map (·.2)) (u x Γ) = Γ := by intro x; rfl) (hd : dropΓ (own.map (·.2)) Γ = Γ := by rfl)
    (ok : blkC X.N X.env.scope scope own = true := by rfl) (hs : ∀ x, foldedSetIterable it X.env x = pure x := by intro _; rfl) : WE X (.ListComp elt [⟨tg, it, [], 0⟩] scope pos) Γ Ψ :=
  we_lc own _ fx.calm fx.nd (lc_any own u xs E F Pv hi hsz hg he hd3 hd hq) ok hs
theorem ws_setLcA (i : Nat) (fx : Fr X k) (hi : XI X tg it Γ (xs.map E) Γ) (hsz : xs.length ≤ sizeLine) (hg : ∀ x ∈ xs, GB X scope own tg (E x) Γ (u x Γ)) (he : ∀ (n : Nat) (x : α), xs[n]? = some x → ∀ s H C cl fp, WE (Blk X scope s H C cl fp) elt (u x Γ) fun r Γ' => ∃ b, Frz r (F b) ∧ Pv n x b ∧ Γ' = u x Γ)
    (hq : ∀ bs : List β, bs.length = xs.length → (∀ (i : Nat) (x : α) (b : β), xs[i]? = some x → bs[i]? = some b → Pv i x b) → WSs X rest (Γ.set i (some (.ll (bs.map F)))) Φ) (hd3 : ∀ x, dropΓ (own.map (·.2)) (u x Γ) = Γ := by intro x; rfl) (hd : dropΓ (own.map (·.2)) Γ = Γ := by rfl)
    (hN : X.N[i]? = some nm := by rfl) (hyl : X.env.scope.names.lookup nm = some .local := by rfl) (hl : Nat.blt i Γ.length = true := by rfl) (hsw : swapsWith (.ListComp elt [⟨tg, it, [], 0⟩] scope pos) (some (.Name nm py)) spos.line X.env = pure true := by rfl)
    (ok : blkC X.N X.env.scope scope own = true := by rfl) (hs : ∀ x, foldedSetIterable it X.env x = pure x := by intro _; rfl) : WSs X (.Assign [.Name nm py] (.ListComp elt [⟨tg, it, [], 0⟩] scope pos) spos :: rest) Γ Φ :=
  ws_setLc i own _ fx.calm fx.nd (lc_any (Ψ := fun r Γ1 => WSs X rest (Γ1.set i (some r)) Φ) own u xs E F Pv hi hsz hg he hd3 hd hq) hN hyl hl hsw ok hs
end
theorem wi_rangeN (B : Blt X.mg) {Ψi : List PyData → Sl → Prop} (h : WE X a Γ fun r Γ1 => ∃ n : Nat, r = .da (.int (n : Int)) ∧ n ≤ 16777216 ∧ Ψi ((List.range n).map fun (i : Nat) => .int i) Γ1) (hg : Gl X "range" := by rfl) (hs : starEach [a] X.env = [(false, eval a X.env)] := by rfl) : WI X tg (.Call (.Name "range" p) [a] [] pos) Γ Ψi := fun I H σ F en R k => by
  refine ⟨_, pi_range1 hg B.range wpA_ok hs, wa_cons (Ψa := fun rs _ Γ1 => ∃ n : Nat, rs = [.da (.int (n : Int))] ∧ n ≤ 16777216 ∧ Ψi ((List.range n).map fun (i : Nat) => .int i) Γ1) (h.mono fun r Γ1 ⟨n, e, hn, q⟩ => wa_nil ⟨n, by rw [e], hn, q⟩) (by rw [hs]; rfl) I H σ F en _ ?_⟩
  rintro rs refs Γ1 I1 H1 vs F1 ⟨n, rfl, hn, q⟩ l1 l2 rk st1 en1
  obtain ⟨B', G, rfl, ol, en2⟩ := en1.popL l1
  obtain ⟨rfl, r⟩ := ownL_da (ds := [.int (n : Int)]) ol
  obtain ⟨v, rfl, hv⟩ := rpL1 r
  cases hv
  have e : rangeD 0 (n : Int).toNat = (List.range n).map fun (i : Nat) => PyData.int i := by
    unfold rangeD
    rw [Int.toNat_natCast]
    exact List.map_congr_left fun i _ => by rw [Int.zero_add]
  refine ⟨n, rfl, by omega, by omega, k _ Γ1 I1 H1 G _ q st1 en2 ?_⟩
  rw [← e]
  exact isit_range
/-- [elt for .. in it], what it walks drawn: xs as P says -/
theorem we_lcW (own : List (Str × Nat)) (u : α → Sl → Sl) (E f : α → PyData) (P : List α → Prop) (fx : Fr X k) {R : α → OD} (h : WI X tg it Γ fun ds Γ1 => Γ1 = Γ ∧ ∃ xs : List α, P xs ∧ ds = xs.map E ∧ xs.length ≤ sizeLine)
    (hg : ∀ xs x, P xs → x ∈ xs → GB X scope own tg (E x) Γ (u x Γ)) (he : ∀ xs x, P xs → x ∈ xs → XB X scope elt (u x Γ) (R x) (u x Γ)) (hq : ∀ xs, P xs → Ψ (.ll (xs.map f)) Γ) (hf : ∀ x, Frz (R x) (f x) := by intro x; first | exact .da | exact .ll)
    (hd3 : ∀ x, dropΓ (own.map (·.2)) (u x Γ) = Γ := by intro x; rfl) (hd : dropΓ (own.map (·.2)) Γ = Γ := by rfl) (ok : blkC X.N X.env.scope scope own = true := by rfl) (hs : ∀ x, foldedSetIterable it X.env x = pure x := by intro _; rfl) : WE X (.ListComp elt [⟨tg, it, [], 0⟩] scope pos) Γ Ψ := by
  refine we_lc own (fun ds n Γ' acc => ∃ xs : List α, P xs ∧ ds = xs.map E ∧ Γ' = Γ ∧ acc = (xs.take n).map f) fx.calm fx.nd ?_ ok hs
  intro I H σ F en R' k'
  refine h I H σ F en R' fun ds Γ1 I1 H1 F1 J ⟨e1, xs, hp, hds, hsz⟩ st1 en1 => k' ds Γ1 I1 H1 F1 J ⟨by rw [hds, List.length_map]; exact hsz, ⟨xs, hp, hds, by rw [e1]; exact hd, by simp⟩, ?_, ?_⟩ st1 en1
  · rintro n d Γ2 acc hn ⟨ys, hp', hds', rfl, rfl⟩
    rw [hds', List.getElem?_map] at hn
    obtain ⟨x, hx, rfl⟩ := Option.map_eq_some_iff.mp hn
    have hm := List.mem_of_getElem? hx
    refine ⟨u x _, hg ys x hp' hm, fun k Γ4 => k = true ∧ Γ4 = u x _, fun s H C cl fp => wts_nil ⟨rfl, rfl⟩, ?_⟩
    rintro k Γ4 ⟨rfl, rfl⟩
    refine ⟨fun _ s H C cl fp => he ys x hp' hm s H C cl fp _ ⟨f x, hf x, ys, hp', hds', hd3 x, by rw [List.take_succ, hx]; simp⟩, fun q => Bool.noConfusion q⟩
  · rintro Γ2 acc ⟨ys, hp', hds', rfl, rfl⟩
    rw [hd, hds', List.length_map, List.take_length]
    exact hq ys hp'
theorem xe_cast {i j : Int} (h : XE X a Γ (.da (.int i)) Γ1) (e : i = j) : XE X a Γ (.da (.int j)) Γ1 := e ▸ h
theorem xe_tup3 {d1 d2 d3 : PyData} {x1} {Γ3 : Sl} (h1 : XE X a Γ (.da d1) Γ1) (h2 : XE X b Γ1 (.da d2) Γ2) (h3 : XE X c Γ2 (.da d3) Γ3) (hs : starEach [a, b, c] X.env = (false, eval a X.env) :: starEach [b, c] X.env := by rfl) (hs2 : starEach [b, c] X.env = (false, eval b X.env) :: starEach [c] X.env := by rfl) (hs3 : starEach [c] X.env = (false, eval c X.env) :: starEach [] X.env := by rfl) :
    XE X (.Tuple [a, b, c] x1 pos) Γ (.da (.tuple [d1, d2, d3])) Γ3 := fun _ hq => we_tup (wa_cons (h1 _ (wa_cons (h2 _ (wa_cons (h3 _ (wa_nil ⟨[d1, d2, d3], rfl, by show 3 ≤ sizeLine; decide, hq⟩)) hs3)) hs2)) hs)
theorem xe_tup4 {d1 d2 d3 d4 : PyData} {x1} {Γ3 Γ4 : Sl} (h1 : XE X a Γ (.da d1) Γ1) (h2 : XE X b Γ1 (.da d2) Γ2) (h3 : XE X c Γ2 (.da d3) Γ3) (h4 : XE X e Γ3 (.da d4) Γ4) (hs : starEach [a, b, c, e] X.env = (false, eval a X.env) :: starEach [b, c, e] X.env := by rfl) (hs2 : starEach [b, c, e] X.env = (false, eval b X.env) :: starEach [c, e] X.env := by rfl) (hs3 : starEach [c, e] X.env = (false, eval c X.env) :: starEach [e] X.env := by rfl) (hs4 : starEach [e] X.env = (false, eval e X.env) :: starEach [] X.env := by rfl) :
    XE X (.Tuple [a, b, c, e] x1 pos) Γ (.da (.tuple [d1, d2, d3, d4])) Γ4 := fun _ hq => we_tup (wa_cons (h1 _ (wa_cons (h2 _ (wa_cons (h3 _ (wa_cons (h4 _ (wa_nil ⟨[d1, d2, d3, d4], rfl, by show 4 ≤ sizeLine; decide, hq⟩)) hs4)) hs3)) hs2)) hs)
theorem xe_tup5 {d1 d2 d3 d4 d5 : PyData} {x1} {Γ3 Γ4 Γ5 : Sl} (h1 : XE X a Γ (.da d1) Γ1) (h2 : XE X b Γ1 (.da d2) Γ2) (h3 : XE X c Γ2 (.da d3) Γ3) (h4 : XE X e Γ3 (.da d4) Γ4) (h5 : XE X o Γ4 (.da d5) Γ5) (hs : starEach [a, b, c, e, o] X.env = (false, eval a X.env) :: starEach [b, c, e, o] X.env := by rfl) (hs2 : starEach [b, c, e, o] X.env = (false, eval b X.env) :: starEach [c, e, o] X.env := by rfl) (hs3 : starEach [c, e, o] X.env = (false, eval c X.env) :: starEach [e, o] X.env := by rfl) (hs4 : starEach [e, o] X.env = (false, eval e X.env) :: starEach [o] X.env := by rfl) (hs5 : starEach [o] X.env = (false, eval o X.env) :: starEach [] X.env := by rfl) :
    XE X (.Tuple [a, b, c, e, o] x1 pos) Γ (.da (.tuple [d1, d2, d3, d4, d5])) Γ5 := fun _ hq => we_tup (wa_cons (h1 _ (wa_cons (h2 _ (wa_cons (h3 _ (wa_cons (h4 _ (wa_cons (h5 _ (wa_nil ⟨[d1, d2, d3, d4, d5], rfl, by show 5 ≤ sizeLine; decide, hq⟩)) hs5)) hs4)) hs3)) hs2)) hs)
theorem ilist_int {xs : List Nat} : ilist xs = (xs.map fun (n : Nat) => (n : Int)).map PyData.int := by
  show List.map _ _ = _
  rw [List.map_map]
  rfl
theorem xe_maxN {n2 : Str} {p2 : Pos} {x : OD} (i : Nat) (B : Blt X.mg) (hc : X.calm = true) {ns : List Nat} {m : Nat} (hm : m ∈ ns) (hx' : ∀ y ∈ ns, y ≤ m) (hx : Γ[i]? = some (some x) := by rfl) (hv : SV x (.list (ilist ns)) := by first | exact .da | exact .ll | exact .pin) (hg : Gl X "max" := by rfl)
    (hN : X.N[i]? = some n2 := by rfl) (hvs : Vis X.env.scope n2 := by first | exact Or.inl rfl | exact Or.inr (Or.inl rfl) | exact Or.inr (Or.inr rfl)) (h1 : (n2 == ("__debug__" : Str)) = false := by decide) (h2 : (n2 == ("__classdict__" : Str)) = false := by decide)
    (he : starEach [.Name n2 p2] X.env = (false, eval (.Name n2 p2) X.env) :: starEach [] X.env := by rfl) (hpl : (backTo pos (starEach [] X.env)).any (·.1) = false := by rfl) :
    XE X (.Call (.Name "max" p) [.Name n2 p2] [] pos) Γ (.da (.int (m : Nat))) Γ := xe_maxS i B hc (ns := ns.map fun (n : Nat) => (n : Int)) (List.mem_map.mpr ⟨m, hm, rfl⟩) (fun y hy => by
      obtain ⟨z, hz, rfl⟩ := List.mem_map.mp hy
      have := hx' z hz
      omega) hx (ilist_int ▸ hv) hg hN hvs h1 h2 he hpl
theorem xe_minN {n2 : Str} {p2 : Pos} {x : OD} (i : Nat) (B : Blt X.mg) (hc : X.calm = true) {ns : List Nat} {m : Nat} (hm : m ∈ ns) (hx' : ∀ y ∈ ns, m ≤ y) (hx : Γ[i]? = some (some x) := by rfl) (hv : SV x (.list (ilist ns)) := by first | exact .da | exact .ll | exact .pin) (hg : Gl X "min" := by rfl)
    (hN : X.N[i]? = some n2 := by rfl) (hvs : Vis X.env.scope n2 := by first | exact Or.inl rfl | exact Or.inr (Or.inl rfl) | exact Or.inr (Or.inr rfl)) (h1 : (n2 == ("__debug__" : Str)) = false := by decide) (h2 : (n2 == ("__classdict__" : Str)) = false := by decide)
    (he : starEach [.Name n2 p2] X.env = (false, eval (.Name n2 p2) X.env) :: starEach [] X.env := by rfl) (hpl : (backTo pos (starEach [] X.env)).any (·.1) = false := by rfl) :
    XE X (.Call (.Name "min" p) [.Name n2 p2] [] pos) Γ (.da (.int (m : Nat))) Γ := xe_minS i B hc (ns := ns.map fun (n : Nat) => (n : Int)) (List.mem_map.mpr ⟨m, hm, rfl⟩) (fun y hy => by
      obtain ⟨z, hz, rfl⟩ := List.mem_map.mp hy
      have := hx' z hz
      omega) hx (ilist_int ▸ hv) hg hN hvs h1 h2 he hpl
/-- a[b], the index drawn -/
theorem we_ix (h : WE X a Γ fun x Γ1 => ∃ dd ds, x = .da dd ∧ (dd = .list ds ∨ dd = .tuple ds) ∧ WE X b Γ1 fun y Γ2 => ∃ j d, y = .da (.int j) ∧ atI ds j = some d ∧ Ψ (.da d) Γ2) (hs : PlainIx b := by exact fun _ _ => rfl) : WE X (.Subscript a b pos) Γ Ψ := fun I H σ F en Q k =>
  ⟨_, pe_ix ix_seq wpE_ok wpE_ok hs, two_core (h.mono fun x Γ1 ⟨dd, ds, e, hd, h2⟩ => h2.mono fun y Γ2 ⟨j, d, e', hj, hq⟩ => ⟨.da d, by
    subst e e'
    exact Op2.pure fun I H v u h1 h2 s Q k => by
      cases h2
      rcases hd with rfl | rfl
      · cases h1 with
        | lst q r =>
          obtain ⟨w, hw, rw'⟩ := atI_rp r hj
          exact .inl ⟨_, _, j, w, rfl, rfl, s.seq q, hw, k _ rw'⟩
      · cases h1 with
        | tup q r =>
          obtain ⟨w, hw, rw'⟩ := atI_rp r hj
          exact .inr (.inl ⟨_, _, j, w, rfl, rfl, sqT_mono s q, hw, k _ rw'⟩), hq⟩) I H σ F en Q k⟩
/-- facts of the frame in a comprehension's block -/
theorem Fr.blk (fx : Fr X k) {s : Shared} {H : Hp} {C : Addr} {cl : List (Str × Addr)} {fp : List Addr} : Fr (Blk X scope s H C cl fp) k := ⟨fx.nd, fx.calm, PassesOwn.never, fx.room, fx.gd⟩
theorem Fr.u65 (fx : Fr X k) : X.A.units + 65 < cLine := by have := fx.room.un; omega
theorem Fr.u16 (fx : Fr X k) : X.A.units + 16 < cLine := by have := fx.room.un; omega
end
end TL

/-! TL23: dicts from numbers to typed values. -/
namespace TL
open PySem PySem.Spec PyProof.Rows L2
def nkey (c : Nat) : Key := Sum.inl (c : Int)
theorem nkey_inj : ∀ a b : Nat, nkey a = nkey b → a = b := fun a b h => by
  unfold nkey at h
  injection h with h
  omega
abbrev nk {β : Type} (E : β → PyData) (m : List (Nat × β)) : List (Key × PyData) := m.map fun p => (nkey p.1, E p.2)
section
variable {β : Type} {E : β → PyData} {m : List (Nat × β)} {c : Nat} {v : β}
theorem kget_nk : kget (nk E m) (nkey c) = (kget m c).map E := kget_map (f := nkey) (g := E) nkey_inj
theorem kput_nk : kput (nk E m) (nkey c) (E v) = nk E (kput m c v) := kput_map (f := nkey) (g := E) nkey_inj
theorem isSome_nk : (kget (nk E m) (nkey c)).isSome = (kget m c).isSome := by rw [kget_nk, Option.isSome_map]
end
section
variable {X : Cx} {e a b o it tg : Expr} {es elts : List Expr} {ss rest : List Stmt} {Γ Γ' Γ1 Γ2 Γ3 : Sl} {Ψ : OD → Sl → Prop} {Φ : Out → Prop} {pos p apos cpos p2 tpos : Pos} {r x y z : OD} {nm n2 : Str} {d : PyData} {i kk k : Nat} {β : Type} {E : β → PyData} {m : List (Nat × β)} {c : Nat} {v : β}
theorem xi_itemsN (h : XE X it Γ (.da (dkD (nk E m))) Γ1) (hbase : attributeBase it "items" X.env (eval it X.env) = eval it X.env := by rfl) (hline : (apos.endLine == cpos.line) = true := by rfl) : XI X (.Tuple elts kk tpos) (.Call (.Attribute it "items" apos) [] [] cpos) Γ (m.map fun p => .tuple [.int p.1, E p.2]) Γ1 := by
  have q := xi_items (elts := elts) (kk := kk) (tpos := tpos) h hbase hline
  rw [List.map_map] at q
  exact q
theorem xi_keysN (h : XE X it Γ (.da (dkD (nk E m))) Γ1) : XI X tg it Γ (m.map fun p => .int p.1) Γ1 := by
  have q := xi_keys (tg := tg) h
  rw [List.map_map] at q
  exact q
section
variable (i : Nat) (fx : Fr X k)
include fx
theorem xe_dgetN (hb : XE X b Γ (.da (.int (c : Nat))) Γ1) (hk : kget m c = some v) (h0 : OSome Γ[i]? = true := by rfl) (hx : Γ1[i]? = some (some x) := by rfl) (hv : DV x (nk E m) := by first | exact .dd | exact .pin | exact .da)
    (hs : NoSl b := by exact fun _ _ => rfl) (hN : X.N[i]? = some nm := by rfl) (hvs : Vis X.env.scope nm := by first | exact Or.inl rfl | exact Or.inr (Or.inl rfl) | exact Or.inr (Or.inr rfl)) (h1 : (nm == ("__debug__" : Str)) = false := by decide) (h2 : (nm == ("__classdict__" : Str)) = false := by decide) :
    XE X (.Subscript (.Name nm p) b pos) Γ (.da (E v)) Γ1 := xe_dgetS i fx.u1 (k := nkey c) hb (by rw [kget_nk, hk]; rfl) h0 hx hv hs hN hvs h1 h2
theorem xt_dinN (hb : XE X b Γ (.da (.int (c : Nat))) Γ1) (hx : Γ1[i]? = some (some x) := by rfl) (hv : DV x (nk E m) := by first | exact .dd | exact .pin | exact .da) (hm : behindInMarks .In (.Name nm p) = false := by rfl)
    (hN : X.N[i]? = some nm := by rfl) (hvs : Vis X.env.scope nm := by first | exact Or.inl rfl | exact Or.inr (Or.inl rfl) | exact Or.inr (Or.inr rfl)) (h1 : (nm == ("__debug__" : Str)) = false := by decide) (h2 : (nm == ("__classdict__" : Str)) = false := by decide) :
    XT X (.Compare b [.In] [.Name nm p] pos) Γ (kget m c).isSome Γ1 := by
  have q := xt_dinS (p := p) (pos := pos) i fx.u1 (k := nkey c) hb hx hv hm hN hvs h1 h2
  rwa [isSome_nk] at q
theorem xe_dinN (hb : XE X b Γ (.da (.int (c : Nat))) Γ1) (hx : Γ1[i]? = some (some x) := by rfl) (hv : DV x (nk E m) := by first | exact .dd | exact .pin | exact .da) (hm : behindInMarks .In (.Name nm p) = false := by rfl)
    (hN : X.N[i]? = some nm := by rfl) (hvs : Vis X.env.scope nm := by first | exact Or.inl rfl | exact Or.inr (Or.inl rfl) | exact Or.inr (Or.inr rfl)) (h1 : (nm == ("__debug__" : Str)) = false := by decide) (h2 : (nm == ("__classdict__" : Str)) = false := by decide) :
    XE X (.Compare b [.In] [.Name nm p] pos) Γ (.da (.bool (kget m c).isSome)) Γ1 := by
  have q := xe_dinS (p := p) (pos := pos) i fx.u1 (k := nkey c) hb hx hv hm hN hvs h1 h2
  rwa [isSome_nk] at q
theorem xt_dninN (hb : XE X b Γ (.da (.int (c : Nat))) Γ1) (hx : Γ1[i]? = some (some x) := by rfl) (hv : DV x (nk E m) := by first | exact .dd | exact .pin | exact .da) (hm : behindInMarks .NotIn (.Name nm p) = false := by rfl)
    (hN : X.N[i]? = some nm := by rfl) (hvs : Vis X.env.scope nm := by first | exact Or.inl rfl | exact Or.inr (Or.inl rfl) | exact Or.inr (Or.inr rfl)) (h1 : (nm == ("__debug__" : Str)) = false := by decide) (h2 : (nm == ("__classdict__" : Str)) = false := by decide) :
    XT X (.Compare b [.NotIn] [.Name nm p] pos) Γ (!(kget m c).isSome) Γ1 := by
  have q := xt_dninS (p := p) (pos := pos) i fx.u1 (k := nkey c) hb hx hv hm hN hvs h1 h2
  rwa [isSome_nk] at q
/-- d[k] = e -/
theorem ws_dputN (h : WE X e Γ fun r Γ1 => ∃ (v : β) (c : Nat) (x : OD) (m : List (Nat × β)) (mk : List (Key × PyData) → OD), r = .da (E v) ∧ Γ1[i]? = some (some x) ∧ VDD x (nk E m) mk ∧ m.length < sizeLine ∧ XE X b Γ1 (.da (.int (c : Nat))) Γ1 ∧ WSs X rest (Γ1.set i (some (mk (nk E (kput m c v))))) Φ)
    (hN : X.N[i]? = some nm := by rfl) (hvs : Vis X.env.scope nm := by first | exact Or.inl rfl | exact Or.inr (Or.inl rfl) | exact Or.inr (Or.inr rfl)) (h1 : (nm == ("__debug__" : Str)) = false := by decide) (h2 : (nm == ("__classdict__" : Str)) = false := by decide)
    (hs : swapsWith e (some (.Subscript (.Name nm p) b pos)) apos.line X.env = pure false := by rfl) : WSs X (.Assign [.Subscript (.Name nm p) b pos] e apos :: rest) Γ Φ :=
  ws_dput i fx.u1 (h.mono fun r Γ1 ⟨v, c, x, m, mk, e1, e2, e3, e4, e5, e6⟩ => ⟨E v, nkey c, x, nk E m, mk, e1, e2, e3, by rw [List.length_map]; exact e4, e5, by rw [kput_nk]; exact e6⟩) hN hvs h1 h2 hs
end
section
variable (fx : Fr X k)
include fx
theorem xe_dgetNV (ha : XE X a Γ (.da (dkD (nk E m))) Γ1) (hb : XE X b Γ1 (.da (.int (c : Nat))) Γ2) (hk : kget m c = some v) (hs : NoSl b := by exact fun _ _ => rfl) : XE X (.Subscript a b pos) Γ (.da (E v)) Γ2 := xe_dgetV fx.u1 (k := nkey c) ha hb (by rw [kget_nk, hk]; rfl) hs
theorem xt_dinNV (hb : XE X b Γ (.da (.int (c : Nat))) Γ1) (ha : XE X a Γ1 (.da (dkD (nk E m))) Γ2) (hm : behindInMarks .In a = false := by rfl) : XT X (.Compare b [.In] [a] pos) Γ (kget m c).isSome Γ2 := by
  have q := xt_dinV (pos := pos) fx.u1 (k := nkey c) hb ha hm
  rwa [isSome_nk] at q
theorem xt_dninNV (hb : XE X b Γ (.da (.int (c : Nat))) Γ1) (ha : XE X a Γ1 (.da (dkD (nk E m))) Γ2) (hm : behindInMarks .NotIn a = false := by rfl) : XT X (.Compare b [.NotIn] [a] pos) Γ (!(kget m c).isSome) Γ2 := by
  have q := xt_dninV (pos := pos) fx.u1 (k := nkey c) hb ha hm
  rwa [isSome_nk] at q
theorem xe_getN (ha : XE X a Γ (.da (dkD (nk E m))) Γ1) (hb : XE X b Γ1 (.da (.int (c : Nat))) Γ2) (hst : attributeBase a "get" X.env (eval a X.env) = eval a X.env := by rfl)
    (few : ((backTo cpos (starEach [b] X.env)).all (fun x => !x.1) && (backToKw cpos (keywordEach [] X.env)).all (fun x => x.1.isSome)
      && decide (([b] : List Expr).length + ([] : List Keyword).length + (if ([] : List Keyword).isEmpty then 0 else 1) < 30)) = true := by rfl) (line : (apos.endLine == cpos.line) = true := by rfl) (trees : backTo cpos (starEach [b] X.env) = [(false, eval b X.env)] := by rfl) :
    XE X (.Call (.Attribute a "get" apos) [b] [] cpos) Γ (.da (((kget m c).map E).getD .none)) Γ2 := by
  have q := xe_get1 (apos := apos) fx.u1 (k := nkey c) ha hb hst few line trees
  rwa [kget_nk] at q
end
theorem wt_pure {Φt : Bool → Sl → Prop} {j : Bool} (h : XT X a Γ j Γ1) (q : Φt j Γ1) : WT X a Γ Φt := h _ q
theorem xt_cast {j j' : Bool} (h : XT X a Γ j Γ1) (e : j = j') : XT X a Γ j' Γ1 := e ▸ h
theorem xe_castD {d d' : PyData} (h : XE X a Γ (.da d) Γ1) (e : d = d') : XE X a Γ (.da d') Γ1 := e ▸ h
theorem xe_dict1N (ha : XE X a Γ (.da (.int (c : Nat))) Γ1) (hb : XE X b Γ1 (.da (E v)) Γ2) : XE X (.Dict [some a] [b] pos) Γ (.dd (nk E [(c, v)])) Γ2 := xe_dict1 (k := nkey c) ha hb
/-- while over typed states -/
theorem ws_whileT {c : Expr} {body : List Stmt} {β : Type} (fx : Fr X k) (st : β → Sl) (Inv : β → Prop) (μ : β → Nat) (b0 : β) (h0 : Inv b0) (e0 : Γ = st b0)
    (turn : ∀ b, Inv b → WT X c (st b) fun k Γ3 => (k = true → WSs X body Γ3 (loopΦ (fun Γ4 => ∃ b', Inv b' ∧ μ b' < μ b ∧ Γ4 = st b') (thn2 X rest Φ))) ∧ (k = false → WSs X rest Γ3 Φ)) : WSs X (.While c body [] pos :: rest) Γ Φ := by
  subst e0
  intro I H σ F en D ek
  refine ⟨_, pss_cons (ps_while fx.own wpT_ok wpSs_ok) wpSs_ok, fun m σ' H' => ∃ b I2 F2, Inv b ∧ m = μ b ∧ Step I H F I2 H' F2 ∧ EnvF X.tc I2 H' σ' (st b) F2, ⟨_, b0, I, F, h0, rfl, .refl, en⟩, ?_⟩
  rintro m σ2 H2 ⟨b, I2, F2, hb, rfl, st2, en2⟩
  refine turn b hb I2 H2 σ2 F2 en2 _ fun kk Γ3 I3 H3 F3 h3 st3 en3 => ?_
  have st13 := st2.trans st3
  cases kk with
  | false => exact h3.2 rfl I3 H3 σ2 F3 en3 D (ek.step st13)
  | true =>
    refine ⟨fun σ' H' => ∃ b' I4 F4, Inv b' ∧ μ b' < μ b ∧ Step I H F I4 H' F4 ∧ EnvF X.tc I4 H' σ' (st b') F4, fun σ' H' ⟨b', I4, F4, j4, lt, st4, en4⟩ => ⟨_, lt, b', I4, F4, j4, rfl, st4, en4⟩, ?_⟩
    refine h3.1 rfl I3 H3 σ2 F3 en3 _ ⟨?_, ?_, ?_, ?_⟩
    · rintro Γ4 I4 H4 σ4 F4 ⟨b', h1, h2, rfl⟩ st4 en4
      exact ⟨b', I4, F4, h1, h2, st13.trans st4, en4⟩
    · exact fun a st en => ek.rt a (st13.trans st) en
    · exact fun a st en => a _ _ _ _ en D (ek.step (st13.trans st))
    · rintro Γ4 I4 H4 σ4 F4 ⟨b', h1, h2, rfl⟩ st4 en4
      exact ⟨b', I4, F4, h1, h2, st13.trans st4, en4⟩
end
theorem Fn.pair {n w1 w2 : Nat} {d1 d2 : PyData} (h1 : Fn n w1 d1) (h2 : Fn n w2 d2) : Fn (n + 1) (w1 + w2 + 2) (.tuple [d1, d2]) := by
  have a1 := h1.depth
  have a2 := h2.depth
  have b1 := h1.weight
  have b2 := h2.weight
  refine ⟨?_, ?_, ?_, ?_, ?_, ?_⟩
  · simp [PyData.plain, PyData.plainAll, h1.plain, h2.plain]
  · simp [PyData.showable, PyData.showableAll, h1.shows, h2.shows]
  · simp [PyData.hasDict, PyData.hasDictAll, h1.nodict, h2.nodict]
  · simp only [PyData.depth, PyData.depthAll]
    omega
  · simp [PyData.leavesShort, PyData.leavesShortAll, h1.short, h2.short]
  · simp only [PyData.weight, PyData.weightAll]
    omega
end TL

/-! TL24: sorted lists of numbers, typed sorting, more rules by answers. -/
namespace TL
open PySem PySem.Spec PyProof.Rows L2
/-- the numbers in order -/
def sortN (xs : List Nat) : List Nat := xs.mergeSort fun a b => decide (a ≤ b)
theorem sortD_map {α : Type} {E : α → PyData} {xs : List α} : sortD (xs.map E) = (xs.mergeSort fun a b => PySem.W.dataLe false id (E a) (E b)).map E := (List.map_mergeSort (f := E) (s := PySem.W.dataLe false id) fun _ _ _ _ => rfl).symm
theorem sortD_ilist {xs : List Nat} : sortD (ilist xs) = ilist (sortN xs) := by
  show sortD (List.map _ _) = _
  rw [sortD_map]
  unfold sortN
  congr 2
  funext a b
  have := congrFun (congrFun (PySem.W.dataLe_int (β := Nat) fun n => (n : Int)) a) b
  show (PySem.W.dataLe false id (PyData.int (a : Int)) (PyData.int (b : Int))) = _
  rw [show PySem.W.dataLe false id (PyData.int (a : Int)) (PyData.int (b : Int)) = PySem.W.dataLe false (fun n : Nat => PyData.int (n : Int)) a b from rfl, this]
  simp
theorem sortN_perm (xs : List Nat) : (sortN xs).Perm xs := List.mergeSort_perm xs _
theorem sortN_pw (xs : List Nat) : (sortN xs).Pairwise (· ≤ ·) := by
  have := List.pairwise_mergeSort (le := fun a b : Nat => decide (a ≤ b)) (fun a b c h1 h2 => by simp at *; omega) (fun a b => by simp; omega) xs
  exact this.imp fun h => by simpa using h
theorem sortN_eq {xs ys : List Nat} (h : xs.Perm ys) : sortN xs = sortN ys :=
  List.Perm.eq_of_pairwise (le := (· ≤ ·)) (fun a b _ _ h1 h2 => Nat.le_antisymm h1 h2) (sortN_pw xs) (sortN_pw ys) ((sortN_perm xs).trans (h.trans (sortN_perm ys).symm))
theorem sortN_of {xs ys : List Nat} (hx : xs.Pairwise (· ≤ ·)) (h : xs.Perm ys) : sortN ys = xs :=
  List.Perm.eq_of_pairwise (le := (· ≤ ·)) (fun a b _ _ h1 h2 => Nat.le_antisymm h1 h2) (sortN_pw ys) hx ((sortN_perm ys).trans h.symm)
theorem sortN_ext {xs ys : List Nat} (n1 : xs.Nodup) (n2 : ys.Nodup) (h : ∀ x, x ∈ xs ↔ x ∈ ys) : sortN xs = sortN ys := sortN_eq ((List.perm_ext_iff_of_nodup n1 n2).mpr h)
theorem srt_ilist {xs : List Nat} (hz : xs.length ≤ sizeLine) : SrtOk (ilist xs) := by
  refine ⟨plain_ilist, ?_, .inr ?_, by rw [List.length_map]; exact hz, ?_⟩
  · rintro d hd d' hd'
    obtain ⟨a, _, rfl⟩ := List.mem_map.mp hd
    obtain ⟨b, _, rfl⟩ := List.mem_map.mp hd'
    rfl
  · rintro d hd
    obtain ⟨a, _, rfl⟩ := List.mem_map.mp hd
    exact ⟨by simp, by simp⟩
  · rintro d hd
    obtain ⟨a, _, rfl⟩ := List.mem_map.mp hd
    exact Nat.zero_le _
theorem keys_nk {β : Type} {E : β → PyData} {m : List (Nat × β)} : (nk E m).map (fun p => keyD p.1) = ilist (m.map (·.1)) := by
  show List.map _ (List.map _ _) = List.map _ (List.map _ _)
  rw [List.map_map, List.map_map]
  rfl
section
variable {X : Cx} {e a b o it tg : Expr} {es elts : List Expr} {ss rest : List Stmt} {Γ Γ' Γ1 Γ2 Γ3 : Sl} {Ψ : OD → Sl → Prop} {Φ : Out → Prop} {pos p apos cpos p2 tpos : Pos} {r x y z : OD} {nm n2 : Str} {d : PyData} {i kk k : Nat} {β : Type} {E : β → PyData} {m : List (Nat × β)} {c : Nat} {v : β} {ks : List (Key × PyData)} {ds : List PyData}
/-- sorted(d) of an answer -/
theorem we_sortedD (B : Blt X.mg) (hc : X.calm = true) (hu : X.A.units + 70 < cLine) (h : WE X a Γ fun r Γ1 => ∃ ks, r = .da (dkD ks) ∧ SrtOk (ks.map fun p => keyD p.1) ∧ Ψ (.ll (sortD (ks.map fun p => keyD p.1))) Γ1) (hg : Gl X "sorted" := by rfl) (he : starEach [a] X.env = (false, eval a X.env) :: starEach [] X.env := by rfl) (hpl : (backTo pos (starEach [] X.env)).any (·.1) = false := by rfl) :
    WE X (.Call (.Name "sorted" p) [a] [] pos) Γ Ψ := we_callB (wl := rSortedD X.tc) (call_sortedDR hc hu) hg B.sorted (by decide +kernel) (wa_cons (h.mono fun r Γ1 ⟨ks, e, ok, hq⟩ => wa_nil ⟨_, by rw [e]; exact (rd_sortedD .da ok).opl, hq⟩) he) (he := he) (hpl := hpl)
/-- len(..) of an answer: a list or a tuple, a dict -/
theorem we_len (B : Blt X.mg) (h : WE X a Γ fun r Γ1 => ∃ d ds, r = .da d ∧ (d = .list ds ∨ d = .tuple ds) ∧ Ψ (.da (.int ds.length)) Γ1) (hg : Gl X "len" := by rfl) (he : starEach [a] X.env = (false, eval a X.env) :: starEach [] X.env := by rfl) (hpl : (backTo pos (starEach [] X.env)).any (·.1) = false := by rfl) :
    WE X (.Call (.Name "len" p) [a] [] pos) Γ Ψ := we_callB (wl := rLen X.tc) call_len_seq hg B.len PySem.boot_len (wa_cons (h.mono fun r Γ1 ⟨d, ds, e, hd, hq⟩ => wa_nil ⟨_, by rw [e]; exact (rd_len .da hd).opl, hq⟩) he) (he := he) (hpl := hpl)
theorem we_lenD (B : Blt X.mg) (h : WE X a Γ fun r Γ1 => ∃ ks, r = .da (dkD ks) ∧ Ψ (.da (.int ks.length)) Γ1) (hg : Gl X "len" := by rfl) (he : starEach [a] X.env = (false, eval a X.env) :: starEach [] X.env := by rfl) (hpl : (backTo pos (starEach [] X.env)).any (·.1) = false := by rfl) :
    WE X (.Call (.Name "len" p) [a] [] pos) Γ Ψ := we_callB (wl := rLenD) call_lenDR hg B.len PySem.boot_len (wa_cons (h.mono fun r Γ1 ⟨ks, e, hq⟩ => wa_nil ⟨_, by rw [e]; exact (rd_lenD .da).opl, hq⟩) he) (he := he) (hpl := hpl)
/-- xs.pop() of numbers -/
theorem xe_popN (i : Nat) {l : List Nat} {c : Nat} (hx : Γ[i]? = some (some (.ll (ilist (l ++ [c])))) := by rfl) (hN : X.N[i]? = some nm := by rfl)
    (hvs : Vis X.env.scope nm := by first | exact Or.inl rfl | exact Or.inr (Or.inl rfl) | exact Or.inr (Or.inr rfl)) (h1 : (nm == ("__debug__" : Str)) = false := by decide) (h2 : (nm == ("__classdict__" : Str)) = false := by decide)
    (hbase : attributeBase (.Name nm p) "pop" X.env (eval (.Name nm p) X.env) = eval (.Name nm p) X.env := by rfl) (hline : (apos.endLine == cpos.line) = true := by rfl) : XE X (.Call (.Attribute (.Name nm p) "pop" apos) [] [] cpos) Γ (.da (.int (c : Nat))) (Γ.set i (some (.ll (ilist l)))) := fun Ψ hq => by
  have e : ilist (l ++ [c]) = ilist l ++ [.int (c : Nat)] := by
    show List.map _ _ = _
    rw [List.map_append]
    rfl
  rw [e] at hx
  refine we_pop i (mk := .ll) (by simp) ?_ hx .ll hN hvs h1 h2 hbase hline
  rw [List.getLast_concat, List.dropLast_concat]
  exact hq
/-- all([..]), any([..]) -/
theorem xe_allM {α : Type} (f : α → Bool) (xs : List α) (B : Blt X.mg) (hc : X.calm = true) (ha : XE X a Γ (.ll (xs.map fun x => .bool (f x))) Γ1) (hg : Gl X "all" := by rfl) (he : starEach [a] X.env = (false, eval a X.env) :: starEach [] X.env := by rfl) (hpl : (backTo pos (starEach [] X.env)).any (·.1) = false := by rfl) :
    XE X (.Call (.Name "all" p) [a] [] pos) Γ (.da (.bool (xs.all f))) Γ1 := by
  have e : (xs.map fun x => PyData.bool (f x)) = (xs.map f).map PyData.bool := by rw [List.map_map]; rfl
  rw [e] at ha
  have q := xe_all (p := p) (pos := pos) B hc (xe_frz ha) hg he hpl
  rw [List.all_map] at q
  exact q
theorem xe_anyM {α : Type} (f : α → Bool) (xs : List α) (B : Blt X.mg) (hc : X.calm = true) (ha : XE X a Γ (.ll (xs.map fun x => .bool (f x))) Γ1) (hg : Gl X "any" := by rfl) (he : starEach [a] X.env = (false, eval a X.env) :: starEach [] X.env := by rfl) (hpl : (backTo pos (starEach [] X.env)).any (·.1) = false := by rfl) :
    XE X (.Call (.Name "any" p) [a] [] pos) Γ (.da (.bool (xs.any f))) Γ1 := by
  have e : (xs.map fun x => PyData.bool (f x)) = (xs.map f).map PyData.bool := by rw [List.map_map]; rfl
  rw [e] at ha
  have q := xe_any (p := p) (pos := pos) B hc (xe_frz ha) hg he hpl
  rw [List.any_map] at q
  exact q
/-- i in xs of numbers -/
theorem plain_ints {xs : List Int} : PyData.plainAll (xs.map PyData.int) = true := plainAll_map fun x _ => rfl
theorem xt_inI (i : Nat) {xs : List Int} {j : Int} {d' : PyData} (fx : Fr X k) (hb : XE X b Γ (.da (.int j)) Γ1) (hx : Γ1[i]? = some (some x) := by rfl) (hv : SV x d' := by first | exact .da | exact .ll | exact .pin) (hd' : d' = .list (xs.map .int) ∨ d' = .tuple (xs.map .int) := by first | exact .inl rfl | exact .inr rfl) (hm : behindInMarks .In (.Name nm p) = false := by rfl)
    (hN : X.N[i]? = some nm := by rfl) (hvs : Vis X.env.scope nm := by first | exact Or.inl rfl | exact Or.inr (Or.inl rfl) | exact Or.inr (Or.inr rfl)) (h1 : (nm == ("__debug__" : Str)) = false := by decide) (h2 : (nm == ("__classdict__" : Str)) = false := by decide) :
    XT X (.Compare b [.In] [.Name nm p] pos) Γ (decide (j ∈ xs)) Γ1 := xt_cast (xt_inS i fx.u70 hb rfl plain_ints (Nat.zero_le _) hx hv hd' hm hN hvs h1 h2) any_int
theorem xt_notInI (i : Nat) {xs : List Int} {j : Int} {d' : PyData} (fx : Fr X k) (hb : XE X b Γ (.da (.int j)) Γ1) (hx : Γ1[i]? = some (some x) := by rfl) (hv : SV x d' := by first | exact .da | exact .ll | exact .pin) (hd' : d' = .list (xs.map .int) ∨ d' = .tuple (xs.map .int) := by first | exact .inl rfl | exact .inr rfl) (hm : behindInMarks .NotIn (.Name nm p) = false := by rfl)
    (hN : X.N[i]? = some nm := by rfl) (hvs : Vis X.env.scope nm := by first | exact Or.inl rfl | exact Or.inr (Or.inl rfl) | exact Or.inr (Or.inr rfl)) (h1 : (nm == ("__debug__" : Str)) = false := by decide) (h2 : (nm == ("__classdict__" : Str)) = false := by decide) :
    XT X (.Compare b [.NotIn] [.Name nm p] pos) Γ (!decide (j ∈ xs)) Γ1 := xt_cast (xt_notInS i fx.u70 hb rfl plain_ints (Nat.zero_le _) hx hv hd' hm hN hvs h1 h2) (by rw [any_int])
theorem xe_inI (i : Nat) {xs : List Int} {j : Int} {d' : PyData} (fx : Fr X k) (hb : XE X b Γ (.da (.int j)) Γ1) (hx : Γ1[i]? = some (some x) := by rfl) (hv : SV x d' := by first | exact .da | exact .ll | exact .pin) (hd' : d' = .list (xs.map .int) ∨ d' = .tuple (xs.map .int) := by first | exact .inl rfl | exact .inr rfl) (hm : behindInMarks .In (.Name nm p) = false := by rfl)
    (hN : X.N[i]? = some nm := by rfl) (hvs : Vis X.env.scope nm := by first | exact Or.inl rfl | exact Or.inr (Or.inl rfl) | exact Or.inr (Or.inr rfl)) (h1 : (nm == ("__debug__" : Str)) = false := by decide) (h2 : (nm == ("__classdict__" : Str)) = false := by decide) :
    XE X (.Compare b [.In] [.Name nm p] pos) Γ (.da (.bool (decide (j ∈ xs)))) Γ1 := xe_castD (xe_inS i fx.u70 hb rfl plain_ints (Nat.zero_le _) hx hv hd' hm hN hvs h1 h2) (by rw [any_int])
end
end TL

/-! TL25: list(reversed(xs)). -/
namespace TL
open PySem PySem.Spec PyProof.Rows L2 PySem.Calls
section
variable {prog : Program} {w : World} {A : Around} {E : Value → Shared → Prop} {s : Shared}
/-- the list at c takes all that the reversed iterator at it gives -/
theorem rev_extend {R : Result → Shared → Prop} {it l c : Addr} {xs : Array Value} {n0 : Nat} (hh : A.handled = none) (ri : s.heap.IsRevIter it l ((xs.size : Int) - 1)) (li : s.heap.IsList l xs) (ne : l ≠ it) (hz : xs.size ≤ sizeLine)
    (hc : s.heap.get? c = some { cls := .type "list", data := .seq #[] n0 }) (ci : c ≠ it) (cl : c ≠ l) (res : Value)
    (k : ∀ (h' : Heap) (tk : Nat) (acc : Array Value) (n1 : Nat), (∀ b o, b ≠ it → b ≠ c → s.heap.get? b = some o → h'.get? b = some o) → h'.get? c = some { cls := .type "list", dict := none, data := .seq acc n1, slots := #[] } → ItemsOf (fun i v => xs[xs.size - 1 - i]? = some v) acc xs.size → R (.ok (.ret res)) { s with heap := h', toks := tk }) :
    wpAny (model prog w) A.in1 (Builtin.List.listExtendWith (.ref c) (.ref it) res) (fun fin s' => match fin with | .done f => R (.ok f) s' | .again c' => c'.quiet = true ∧ codeAny (model prog w) A c' R s') (fun e s' => R (.error e) s') s := by
  have walk := (Walks.listRev (prog := prog) (w := w) (A := A.in1) hh it l ne xs).toS
  have cin : c ∉ [it, l] := by
    intro q
    simp only [List.mem_cons, List.not_mem_nil, or_false] at q
    exact q.elim ci cl
  have ty : s.TypeIs (.ref it) "list_reverseiterator" := ri.typeIs
  have other : Builtin.List.listSameRef (.ref c) (.ref it) = false := by
    simp [Builtin.List.listSameRef, ci]
  unfold Builtin.List.listExtendWith
  refine wpAny_bind (wpAny_typeOf ty ?_)
  rw [if_neg (by rw [other]; decide)]
  refine wpAny_bind (wpAny_pyIter_revIter ri (wpAny_bind (wpAny_holding ?_)))
  unfold Builtin.List.listLengthHint
  refine wpAny_bind (wpAny_specialOf ty RT.nolen_lri ?_)
  show wpAny _ A.in1 (specialOf (Value.ref it) (Str.ofString "__length_hint__") >>= fun _ => _) _ _ _
  refine wpAny_bind (wpAny_specialOf ty RT.hint_lri ?_)
  generalize nm : ("list_reverseiterator.__length_hint__" : String) = idn
  wp_delta
  have sp : splitId idn = some ("list_reverseiterator", "__length_hint__") := by
    rw [← nm]
    decide +kernel
  rw [sp]
  clear sp
  subst nm
  refine wpAny_bind (wpAny_isInstance (b := true) ty (by rw [isSubtype_type]; kernel_rfl) (wpAny_pure ?_))
  rw [if_neg (by decide)]
  have z0 : ((xs.size : Nat) : Int) - 1 - ((0 : Nat) : Int) = (xs.size : Int) - 1 := by omega
  have run := codeAny_extend_loopS (R := R) walk hz c cin res xs.size 0 s #[] n0 rfl (Nat.zero_le _) ⟨Nat.zero_le _, by rw [z0]; exact ri, li⟩ hc (ItemsOf.nil _) fun s' acc n1 mv hs ia => ?_
  · exact wpAny_pure ⟨plainId_quiet PySem.F.plain_extend_loop _, run⟩
  · rw [Moved.eq_with mv]
    refine k s'.heap s'.toks acc n1 (fun b o h1 h2 e => mv.heap b o (fun q => ?_) e) hs ia
    rcases List.mem_cons.mp q with q | q
    · exact h2 q
    · exact h1 (List.mem_singleton.mp q)
/-- list(it) -/
theorem rev_list {it l : Addr} {xs : Array Value} {Q : Value → Shared → Prop} (hh : A.handled = none) (ri : s.heap.IsRevIter it l ((xs.size : Int) - 1)) (li : s.heap.IsList l xs) (ne : l ≠ it) (hz : xs.size ≤ sizeLine)
    (k : ∀ (h' : Heap) (tk : Nat) (acc : Array Value) (n1 : Nat), (∀ b o, b ≠ it → s.heap.get? b = some o → h'.get? b = some o) → h'.get? s.heap.objs.size = some { cls := .type "list", dict := none, data := .seq acc n1, slots := #[] } → ItemsOf (fun i v => xs[xs.size - 1 - i]? = some v) acc xs.size →
      Q (.ref s.heap.objs.size) { s with heap := h', toks := tk }) : wpAny (model prog w) A (call (.type "list") [.ref it]) Q E s := by
  obtain ⟨oi, hoi, _⟩ := id ri
  obtain ⟨ol, hol, _⟩ := id li
  have c1 : s.heap.objs.size ≠ it := Nat.ne_of_gt (Heap.lt_size hoi)
  have c2 : s.heap.objs.size ≠ l := Nat.ne_of_gt (Heap.lt_size hol)
  let nw : Obj := { cls := .type "list", data := .seq #[] }
  refine callType_codes (Q₁ := fun v t => v = .ref s.heap.objs.size ∧ t = { s with heap := s.heap.push nw }) PySem.F.called_list (PySem.F.typeCall_list_1 _) PySem.F.entry_list_init (code_list_new _ ⟨rfl, rfl⟩) ?_
  rintro v t ⟨rfl, rfl⟩
  have at0 : (s.heap.push nw).get? s.heap.objs.size = some nw := Heap.get?_push_size _ rfl
  refine ⟨⟨_, at0, rfl⟩, PySem.F.args_list_init_2 _ _, ?_⟩
  show wpAny _ _ (do let old ← Builtin.List.listItems (.ref s.heap.objs.size); Builtin.List.listUpdate (.ref s.heap.objs.size) (fun _ => #[]); letGo old.toList.reverse; Builtin.List.listExtendWith (.ref s.heap.objs.size) (.ref it) .none) _ _ _
  let em : Obj → Obj := Obj.mapSeq fun _ => (#[] : Array Value)
  have u : ∀ b o, b ≠ s.heap.objs.size → (s.heap.push nw).get? b = some o → ((s.heap.push nw).update s.heap.objs.size em).get? b = some o := fun b o hb e => (Heap.get?_update_other _ _ (Ne.symm hb)).trans e
  have up : ∀ b o, s.heap.get? b = some o → ((s.heap.push nw).update s.heap.objs.size em).get? b = some o := fun b o e => u b o (Nat.ne_of_lt (Heap.lt_size e)) (Heap.get?_push_of_some _ e)
  unfold Builtin.List.listItems
  refine wpAny_bind (wpAny_bind (wpAny_seqItems at0 rfl (wpAny_pure ?_)))
  show wpAny _ _ (updateSeq s.heap.objs.size (fun _ => #[]) >>= fun _ => letGo (#[] : Array Value).toList.reverse >>= fun _ => Builtin.List.listExtendWith _ _ .none) _ _ _
  refine wpAny_bind (wpAny_updateSeq at0 rfl (wpAny_bind (wpAny_letGo ?_)))
  have at1 := Heap.get?_update_self em at0 rfl
  refine rev_extend (A := A.in1) (s := { s with heap := (s.heap.push nw).update s.heap.objs.size em }) hh (ri.at fun o e => up _ _ e) ?_ ne hz at1 c1 c2 .none fun h' tk acc n1 kp hs ia => ⟨rfl, k h' tk acc n1 (fun b o hb e => ?_) hs ia⟩
  · obtain ⟨o, e, r⟩ := li
    exact ⟨o, up _ _ e, r⟩
  · exact kp b o hb (Nat.ne_of_lt (Heap.lt_size e)) (up b o e)
end
section
variable {X : Cx} {e : Expr} {Γ Γ1 : Sl} {p p2 pos cpos : Pos} {n2 : Str} {ds : List PyData} {x : OD}
theorem pe_listRev {te : TE} (hc : X.calm = true) (hg : Gl X "list") (hm : X.mg "list" = none) (hg2 : Gl X "reversed") (hm2 : X.mg "reversed" = none) (he : PE X e te) (hs : starEach [e] X.env = (false, eval e X.env) :: starEach [] X.env := by rfl)
    (hs2 : starEach [.Call (.Name "reversed" p2) [e] [] cpos] X.env = (false, eval (.Call (.Name "reversed" p2) [e] [] cpos) X.env) :: starEach [] X.env := by rfl) :
    PE X (.Call (.Name "list" p) [.Call (.Name "reversed" p2) [e] [] cpos] [] pos) (fun σ H Q => te σ H fun v H1 => ∃ (a : Addr) (xs : List V), v = .ref a ∧ SqL X.K H1 a xs ∧ ∀ q, H1 q = none → Q (.ref q) (upd H1 q (.lst xs.reverse))) := by
  refine ⟨fun pins s σ H Q I h => Call_ (ld_blt I hg hm boot_list (PyProof.Rows.callWith_type1 (args_cons (Call_ (ld_blt I hg2 hm2 PyProof.Rows.boot_reversed (PyProof.Rows.callWith_type1 (args_cons (thn (he.run pins s σ H _ I h) ?_) hs) hs rfl))) hs2) hs2 rfl))⟩
  rintro u s1 ⟨v, H1, I1, rv, a, xs, rfl, hq, q⟩
  cases rv
  refine args_nil ?_
  obtain ⟨its, rvs, pl, hz⟩ := I1.list hq
  refine call_reversed_list pl.isList (args_nil ?_)
  let ro : Obj := revObj a ((its.toArray.size : Int) - 1)
  have I2 : Inv X pins σ H1 { s1 with heap := s1.heap.push ro } := I1.kept (t' := s1.toks) fun b o e => Heap.get?_push_of_some _ e
  have free := I1.fpOk (H' := H1) (b := s1.heap.objs.size) (Nat.le_refl _) (I1.hok.fresh (Nat.le_refl _))
  obtain ⟨f0, f1, f2, f3, f4, f5⟩ := free
  have li := pl.isList
  obtain ⟨ol, hol, _⟩ := id li
  have hsz : its.toArray.size ≤ sizeLine := by rw [List.size_toArray, ← rvs.length]; exact hz
  refine rev_list (s := { s1 with heap := s1.heap.push ro }) (I1.ok.hd hc) ⟨_, Heap.get?_push_size _ rfl, rfl, rfl⟩ (li.push _) (Nat.ne_of_lt (Heap.lt_size hol)) hsz fun h' tk acc n1 kp hs' ia => ?_
  have hfr : H1 (s1.heap.push ro).objs.size = none := I2.hok.fresh (Nat.le_refl _)
  have nit : ∀ b u, H1 b = some u → b ≠ s1.heap.objs.size := fun b u e => ne_of_none e f0
  have old : ∀ b u, H1 b = some u → upd H1 (s1.heap.push ro).objs.size (.lst xs.reverse) b = some u := fun b u e => by
    rw [upd_ne (ne_of_none e hfr)]
    exact e
  have notit : ∀ b, b ∉ [s1.heap.objs.size] → b ≠ s1.heap.objs.size := fun b q z => q (by simp [z])
  refine ⟨.ref (s1.heap.push ro).objs.size, upd H1 (s1.heap.push ro).objs.size (.lst xs.reverse), I2.call' (s' := { s1 with heap := h', toks := tk }) (ch := [s1.heap.objs.size]) rfl ?_ ?_ I2.bare ?_, rfl, q _ hfr⟩
  · constructor
    · exact fun b o e _ _ hc => kp b o (notit b hc) e
    · exact fun b o e _ _ hc => ⟨o.slots, kp b o (notit b hc) e⟩
    · exact fun b o e n _ => by rw [upd_ne (Nat.ne_of_lt (Heap.lt_size e))]; exact n
    · exact fun b o e hc => ⟨o, kp b o (notit b hc) e⟩
    · exact fun b ys e => old b _ e
    · exact fun b o u e => old b _ e
    · exact fun b ps e => ⟨#[], by rw [old b _ e]; simp⟩
  · intro b u e
    by_cases hb : b = (s1.heap.push ro).objs.size
    · subst hb
      rw [upd_same] at e
      cases e
      exact ⟨by rw [List.length_reverse]; exact hz, acc.toList, n1, RT.vals_rev rvs ia, by rw [Array.toArray_toList]; exact hs'⟩
    · rw [upd_ne hb] at e
      refine (I2.hok b u e).stay (fun c v hc y => kp c v ?_ y) (fun c y => old c _ y) fun c ys y => old c _ y
      rcases hc with rfl | hc
      · exact nit _ _ e
      · exact nit _ _ hc
  · intro b hb
    have : b = s1.heap.objs.size := by simpa using hb
    subst this
    exact ⟨f3, f1, f4, f5⟩
/-- list(reversed(xs)), xs a list in a slot -/
theorem xe_listRevS (i : Nat) (B : Blt X.mg) (hc : X.calm = true) (hx : Γ[i]? = some (some x) := by rfl) (hv : SV x (.list ds) := by first | exact .da | exact .ll | exact .pin) (hg : Gl X "list" := by rfl) (hg2 : Gl X "reversed" := by rfl)
    (hN : X.N[i]? = some n2 := by rfl) (hvs : Vis X.env.scope n2 := by first | exact Or.inl rfl | exact Or.inr (Or.inl rfl) | exact Or.inr (Or.inr rfl)) (h1 : (n2 == ("__debug__" : Str)) = false := by decide) (h2 : (n2 == ("__classdict__" : Str)) = false := by decide) {p3 : Pos}
    (hs : starEach [.Name n2 p3] X.env = (false, eval (.Name n2 p3) X.env) :: starEach [] X.env := by rfl)
    (hs2 : starEach [.Call (.Name "reversed" p2) [.Name n2 p3] [] cpos] X.env = (false, eval (.Call (.Name "reversed" p2) [.Name n2 p3] [] cpos) X.env) :: starEach [] X.env := by rfl) :
    XE X (.Call (.Name "list" p) [.Call (.Name "reversed" p2) [.Name n2 p3] [] cpos] [] pos) Γ (.ll ds.reverse) Γ := fun Ψ hq I H σ F en Q k => by
  obtain ⟨v, B', e1, o⟩ := en.see hx
  obtain ⟨a, vs, rfl, q, r⟩ := hv.seq (.inl rfl) o en.sub
  rcases q with ⟨_, q⟩ | ⟨q, _⟩
  · refine ⟨_, pe_listRev hc hg B.list hg2 B.reversed (pe_var hN hvs h1 h2) hs hs2, _, e1, a, vs, rfl, q, fun p hp => ?_⟩
    obtain ⟨en3, st3⟩ := en.use (B := []) (by simpa using en.nd) (step_new (F := []) hp) (Own.ll upd_same (en.sub.free hp) r.rev) (by simp) (upd_sub en.sub hp)
    exact k _ _ I _ _ _ hq st3 en3
  · cases q
end
end TL

/-! TL26: a comprehension whose test may answer either way. -/
namespace TL
open PySem PySem.Spec PyProof.Rows L2
section
variable {α : Type} {X : Cx} {c elt tg it : Expr} {Γ : Sl} {Ψ : OD → Sl → Prop} {pos : Pos} {scope : Scope} {k : Nat} (own : List (Str × Nat)) (u : α → Sl → Sl) (xs : List α) (E f : α → PyData)
theorem lc_anyF {R : α → OD} (hi : XI X tg it Γ (xs.map E) Γ) (hsz : xs.length ≤ sizeLine) (hg : ∀ x ∈ xs, GB X scope own tg (E x) Γ (u x Γ)) (ht : ∀ x ∈ xs, ∀ s H C cl fp, WT (Blk X scope s H C cl fp) c (u x Γ) fun _ Γ' => Γ' = u x Γ) (he : ∀ x ∈ xs, XB X scope elt (u x Γ) (R x) (u x Γ)) (hf : ∀ x, Frz (R x) (f x))
    (hd3 : ∀ x, dropΓ (own.map (·.2)) (u x Γ) = Γ) (hd : dropΓ (own.map (·.2)) Γ = Γ) (hq : ∀ bs : List α, bs.Sublist xs → Ψ (.ll (bs.map f)) Γ) :
    LcWI X scope own tg it elt [c] Γ (fun ds n Γ' acc => ds = xs.map E ∧ Γ' = Γ ∧ ∃ bs : List α, acc = bs.map f ∧ bs.Sublist (xs.take n)) Ψ := by
  refine hi _ ⟨by rw [List.length_map]; exact hsz, ⟨rfl, hd, [], rfl, List.nil_sublist _⟩, ?_, ?_⟩
  · rintro n d _ _ hn ⟨_, rfl, bs, rfl, hs⟩
    rw [List.getElem?_map] at hn
    obtain ⟨x, hx, rfl⟩ := Option.map_eq_some_iff.mp hn
    have hm := List.mem_of_getElem? hx
    have e : xs.take (n + 1) = xs.take n ++ [x] := by rw [List.take_add_one, hx]; rfl
    refine ⟨u x _, hg x hm, fun _ Γ4 => Γ4 = u x _, fun s H C cl fp => wts_one (ht x hm s H C cl fp), ?_⟩
    rintro k Γ4 rfl
    refine ⟨fun _ s H C cl fp => he x hm s H C cl fp _ ⟨f x, hf x, rfl, hd3 x, bs ++ [x], by simp, ?_⟩, fun _ => ⟨rfl, hd3 x, bs, rfl, ?_⟩⟩
    · rw [e]
      exact hs.append (List.Sublist.refl _)
    · rw [e]
      exact hs.trans (List.sublist_append_left _ _)
  · rintro _ _ ⟨_, rfl, bs, rfl, hs⟩
    rw [hd]
    rw [List.length_map, List.take_length] at hs
    exact hq bs hs
theorem we_lcAF (fx : Fr X k) {R : α → OD} (hi : XI X tg it Γ (xs.map E) Γ) (hsz : xs.length ≤ sizeLine) (hg : ∀ x ∈ xs, GB X scope own tg (E x) Γ (u x Γ)) (ht : ∀ x ∈ xs, ∀ s H C cl fp, WT (Blk X scope s H C cl fp) c (u x Γ) fun _ Γ' => Γ' = u x Γ) (he : ∀ x ∈ xs, XB X scope elt (u x Γ) (R x) (u x Γ))
    (hq : ∀ bs : List α, bs.Sublist xs → Ψ (.ll (bs.map f)) Γ) (hf : ∀ x, Frz (R x) (f x) := by intro x; first | exact .da | exact .ll)
    (hd3 : ∀ x, dropΓ (own.map (·.2)) (u x Γ) = Γ := by intro x; rfl) (hd : dropΓ (own.map (·.2)) Γ = Γ := by rfl) (ok : blkC X.N X.env.scope scope own = true := by rfl) (hs : ∀ x, foldedSetIterable it X.env x = pure x := by intro _; rfl) : WE X (.ListComp elt [⟨tg, it, [c], 0⟩] scope pos) Γ Ψ :=
  we_lc own _ fx.calm fx.nd (lc_anyF own u xs E f hi hsz hg ht he hf hd3 hd hq) ok hs
end
end TL

/-! TL27: dicts whose keys are tuples: read, written, locked, walked. -/
namespace TL
open PySem PySem.Spec PyProof.Rows L2

abbrev NL := List (NestedKey × PyData)
structure KOk (k : NestedKey) : Prop where
  tup : ∃ l, k = .tup l
  d8 : k.depth ≤ 8
def KsOk (ks : NL) : Prop := ∀ q ∈ ks, KOk q.1
def dnD (ks : NL) : PyData := .dict (ks.map fun p => (p.1.data, p.2))
mutual
theorem nkd_inj : ∀ {a b : NestedKey}, a.data = b.data → a = b
  | .none, .none, _ => rfl
  | .num i, .num j, h => by
    unfold NestedKey.data at h
    injection h with h
    rw [h]
  | .text i, .text j, h => by
    unfold NestedKey.data at h
    injection h with h
    rw [h]
  | .tup l, .tup m, h => by
    unfold NestedKey.data at h
    injection h with h
    rw [nkds_inj h]
  | .none, .num _, h => by unfold NestedKey.data at h; cases h
  | .none, .text _, h => by unfold NestedKey.data at h; cases h
  | .none, .tup _, h => by unfold NestedKey.data at h; cases h
  | .num _, .none, h => by unfold NestedKey.data at h; cases h
  | .num _, .text _, h => by unfold NestedKey.data at h; cases h
  | .num _, .tup _, h => by unfold NestedKey.data at h; cases h
  | .text _, .none, h => by unfold NestedKey.data at h; cases h
  | .text _, .num _, h => by unfold NestedKey.data at h; cases h
  | .text _, .tup _, h => by unfold NestedKey.data at h; cases h
  | .tup _, .none, h => by unfold NestedKey.data at h; cases h
  | .tup _, .num _, h => by unfold NestedKey.data at h; cases h
  | .tup _, .text _, h => by unfold NestedKey.data at h; cases h
theorem nkds_inj : ∀ {a b : List NestedKey}, NestedKey.datas a = NestedKey.datas b → a = b
  | [], [], _ => rfl
  | x :: xs, y :: ys, h => by
    unfold NestedKey.datas at h
    injection h with h1 h2
    rw [nkd_inj h1, nkds_inj h2]
  | [], _ :: _, h => by unfold NestedKey.datas at h; cases h
  | _ :: _, [], h => by unfold NestedKey.datas at h; cases h
end
theorem nkd_tup {l : List NestedKey} : (NestedKey.tup l).data = .tuple (NestedKey.datas l) := by
  conv => lhs; unfold NestedKey.data
theorem KOk.simple {k : NestedKey} (h : KOk k) (j : Key) : k.data ≠ keyD j := by
  obtain ⟨l, rfl⟩ := h.tup
  rw [nkd_tup]
  cases j <;> simp [keyD]
theorem KOk.ref {T : TC} {I : Hp} {v : V} {k : NestedKey} (h : KOk k) (r : Rp T I v k.data) : ∃ a, v = .ref a := by
  obtain ⟨l, rfl⟩ := h.tup
  rw [nkd_tup] at r
  cases r with
  | tup _ _ => exact ⟨_, rfl⟩

/-! ### the cell -/
def NRd (T : TC) (H : Hp) (p : Addr) (kvs : NKV) : Prop := H p = some (DN T p kvs) ∨ (∃ ob, H p = some (.frz ob (DN T p kvs))) ∨ (kvs = [] ∧ ∃ ob, H p = some (.frz ob (.dK [])))
structure NAt (T : TC) (I H : Hp) (p : Addr) (kvs : NKV) (ks : NL) : Prop where
  at_ : NRd T H p kvs
  keys : kvs.map Prod.fst = ks.map Prod.fst
  krp : RpL T I (kvs.map fun p => V.ref p.2.1) (ks.map fun q => q.1.data)
  vrp : RpL T I (kvs.map fun p => p.2.2) (ks.map Prod.snd)
theorem DmAt.nat {T : TC} {I H : Hp} {p : Addr} {kvs : NKV} {ks : NL} (d : DmAt T I H p kvs ks) : NAt T I H p kvs ks := ⟨.inl d.at_, d.keys, d.krp, d.vrp⟩
theorem NAt.len {T : TC} {I H : Hp} {p : Addr} {kvs : NKV} {ks : NL} (d : NAt T I H p kvs ks) : kvs.length = ks.length := by
  have := congrArg List.length d.keys
  rwa [List.length_map, List.length_map] at this
section
variable {X : Cx} {pins : List (Addr × Obj)} {σ : L2.St} {I H : Hp} {s : Shared} {p : Addr} {kvs : NKV} {ks : NL}
theorem dn_ok (J : Inv X pins σ H s) (d : NRd X.tc H p kvs) : DnOk X.tc p kvs s.heap := by
  rcases d with h | ⟨ob, h⟩ | ⟨rfl, ob, h⟩
  · exact (J.hok p _ h).1
  · exact (J.hok p _ h).2.1
  · obtain ⟨hg, z, hd, vs, kv, o', es, ep, ho, hx, hdt, r⟩ := J.hok p _ h
    have hv : vs = [] := by
      have l2 : ([] : List (Key × V)).length = vs.length := Paired.length kv
      exact List.eq_nil_of_length_eq_zero l2.symm
    subst hv
    have l1 := r.2.1.length
    exact ⟨z, hd, [], .nil, o', es, ep, ho, hx, hdt, List.eq_nil_of_length_eq_zero l1, List.nodup_nil⟩
theorem dn_heap (J : Inv X pins σ H s) (d : NAt X.tc I H p kvs ks) (sub : Same I H) (h8 : KsOk ks) :
    kvs.length ≤ sizeLine ∧ (p == sysModules) = false ∧ ∃ xs, Paired NPair kvs xs ∧ s.heap.DictOfH (nestedKind X.prog X.w) p xs := by
  obtain ⟨z, hd, xs, r, o, es, ep, g1, g2, g3, g4, g5⟩ := dn_ok J d.at_
  refine ⟨z, hd, xs, r, o, es, ep, g1, g2, g3, g4, fun x hx => ?_, g5⟩
  obtain ⟨j, hj⟩ := List.mem_iff_getElem?.mp hx
  have hlen : kvs.length = xs.length := Paired.length r
  obtain ⟨hjl, _⟩ := List.getElem?_eq_some_iff.mp hj
  have hk : kvs[j]? = some (kvs[j]'(by omega)) := List.getElem?_eq_getElem (by omega)
  obtain ⟨y, hy, np⟩ := LiI.paired_get r hk
  rw [hj] at hy
  cases hy
  have e1 : (kvs.map Prod.fst)[j]? = some (kvs[j]'(by omega)).1 := by rw [List.getElem?_map, hk]; rfl
  rw [d.keys, List.getElem?_map] at e1
  obtain ⟨q, hq, hq1⟩ := Option.map_eq_some_iff.mp e1
  obtain ⟨v, hv, rv⟩ := d.krp.get (i := j) (d := q.1.data) (by rw [List.getElem?_map, hq]; rfl)
  rw [List.getElem?_map, hk] at hv
  cases hv
  refine ⟨?_, ?_⟩
  · rw [← np.1, ← hq1, ← np.2.1]
    exact nested_is J q.1 (rv.mono sub) rfl
  · rw [← np.1, ← hq1]
    exact (h8 q (List.mem_of_getElem? hq)).d8
end

/-! ### views -/
inductive VN : OD → NL → Prop
  | dm {ks : NL} : VN (.dm ks) ks
  | pin {v : V} {ks : NL} : VN (.pin v (.dm ks)) ks
  | da {ks : NL} : VN (.da (dnD ks)) ks
section
variable {T : TC} {I H : Hp} {v : V} {x : OD} {B : List Addr} {ks : NL} {k : NestedKey}
theorem rp_dnD (hk : KsOk ks) (h : Rp T I v (dnD ks)) : ∃ p kvs, v = .ref p ∧ NRd T I p kvs ∧ (∀ H, Same I H → NAt T I H p kvs ks) := by
  unfold dnD at h
  cases h with
  | @dk a ob kvs _ h k r =>
    have hn : ks = [] := by
      cases ks with
      | nil => rfl
      | cons q ks =>
        cases kvs with
        | nil => simp at k
        | cons p kvs =>
          simp only [List.map_cons, List.cons.injEq] at k
          exact absurd k.1 ((hk q List.mem_cons_self).simple p.1)
    subst hn
    have hv : kvs = [] := by
      have := congrArg List.length k
      simpa using this.symm
    subst hv
    exact ⟨a, [], rfl, .inr (.inr ⟨rfl, ob, h⟩), fun H s => ⟨.inr (.inr ⟨rfl, ob, s _ _ h⟩), rfl, .nil, .nil⟩⟩
  | tn _ _ _ q =>
    cases ks with
    | nil => cases q
    | cons p r =>
      have q' : NestedKey.data p.1 = PyData.list [] := congrArg Prod.fst (List.cons.inj q).1
      cases hp : p.1 <;> rw [hp] at q' <;> simp [NestedKey.data] at q'
  | @dn a ob kvs _ h k r s n =>
    refine ⟨a, kvs, rfl, .inr (.inl ⟨ob, h⟩), fun H sub => ⟨.inr (.inl ⟨ob, sub _ _ h⟩), ?_, ?_, ?_⟩⟩
    · refine map_inj (f := NestedKey.data) (fun _ _ => nkd_inj) ?_
      rw [List.map_map, List.map_map]
      rw [List.map_map] at k
      exact k.symm
    · rw [List.map_map] at r
      exact r
    · rw [List.map_map] at s
      exact s
theorem VN.rd (h : VN x ks) (hk : KsOk ks) (o : Own T I H v x B) (s : Same I H) : ∃ p kvs, v = .ref p ∧ NAt T I H p kvs ks := by
  cases h with
  | dm => cases o with
    | dm h1 h2 h3 h4 h5 => exact ⟨_, _, rfl, .inl h1, h3, h4, h5⟩
  | pin => cases o with
    | pin o => cases o with
      | dm h1 h2 h3 h4 h5 => exact ⟨_, _, rfl, .inl h1, h3, h4, h5⟩
  | da => cases o with
    | da o =>
      obtain ⟨p, kvs, e, _, q⟩ := rp_dnD hk o
      exact ⟨p, kvs, e, q H s⟩
theorem at_some {kvs : NKV} {xs : List (NestedKey × Addr × Value)} (r : Paired NPair kvs xs) (d : False ∨ (kvs.map Prod.fst = ks.map Prod.fst ∧ RpL T I (kvs.map fun p => p.2.2) (ks.map Prod.snd))) : (atKey xs k).isSome = (kget ks k).isSome := by
  have q : kvs.map Prod.fst = ks.map Prod.fst ∧ RpL T I (kvs.map fun p => p.2.2) (ks.map Prod.snd) := d.elim False.elim id
  obtain ⟨w1, w2⟩ := dm_get (k := k) r q.1 q.2
  cases e : kget ks k with
  | none => rw [w2 e]; rfl
  | some d =>
    obtain ⟨_, _, e2, _⟩ := w1 d e
    rw [e2]
    rfl
end

/-! ### reading -/
def rNG (T : TC) : R2 := fun x y H Q => ∃ I p kvs ks k d, x = .ref p ∧ Same I H ∧ NAt T I H p kvs ks ∧ KsOk ks ∧ Rp T I y (NestedKey.data k) ∧ KOk k ∧ kget ks k = some d ∧ ∀ v, Rp T I v d → Q v H
def rNIn (T : TC) (neg : Bool) : R2 := fun y x H Q => ∃ I p kvs ks k, x = .ref p ∧ Same I H ∧ NAt T I H p kvs ks ∧ KsOk ks ∧ Rp T I y (NestedKey.data k) ∧ KOk k ∧ Q (.bl (neg != (kget ks k).isSome)) H
section
variable {X : Cx} {e a b c o it tg i : Expr} {es elts : List Expr} {ss rest : List Stmt} {Γ Γ' Γ1 Γ2 Γ3 : Sl} {Ψ : OD → Sl → Prop} {Φ : Out → Prop} {pos p apos cpos p2 tpos : Pos} {r x y z : OD} {nm n2 : Str} {ds es' : List PyData} {d d' g : PyData} {kk : Nat} {ks : NL} {mk : NL → OD} {k : NestedKey}
theorem pe_nget {td ty : TE} (hu : X.A.units + 16 < cLine) (ho : PE X o td) (hi : PE X i ty) (hs : NoSl i) : PE X (.Subscript o i pos) (tOp (rNG X.tc) td ty) := ⟨fun pins s σ H Q I h => subD_of PySem.F.slot_dict_getitem.lookup hs (thn (ho.run pins s σ H _ I h) fun u s1 ⟨x, H1, I1, rx, q1⟩ => thn (hi.run pins s1 σ H1 _ I1 q1) fun iv s2 ⟨y, H2, I2, ry, q2⟩ => by
  obtain ⟨I0, p, kvs, ks, k, d, rfl, sub, at_, ko, hk, kk, hd, q⟩ := q2
  obtain ⟨a, rfl⟩ := kk.ref hk
  cases rx
  cases ry
  obtain ⟨z, hd', xs, rp, dd⟩ := dn_heap I2 at_ sub ko
  obtain ⟨v, pr, e2, rv, hv⟩ := (dm_get (k := k) rp at_.keys at_.vrp).1 d hd
  exact ⟨dd.typeIs, wpAny_getItem_heap (knd := nestedKind X.prog X.w) (show X.A.units + 1 + 8 < cLine by omega) ⟨nested_is I2 k (hk.mono sub) rfl, kk.d8⟩ dd e2 ⟨v, H2, I2.tok _, rv, q v hv⟩⟩)⟩
theorem op_nin (hu : X.A.units + 16 < cLine) : OpR X (compareOp .In) (rNIn X.tc false) := by
  rintro pins s σ H y x iv u Q I ry rx ⟨I0, p, kvs, ks, k, rfl, sub, at_, ko, hk, kk, q⟩
  obtain ⟨a, rfl⟩ := kk.ref hk
  cases rx
  cases ry
  obtain ⟨z, hd', xs, rp, dd⟩ := dn_heap I at_ sub ko
  have e := at_some (k := k) rp (.inr ⟨at_.keys, at_.vrp⟩)
  exact wpAny_in_heap (knd := nestedKind X.prog X.w) (show X.A.units + 1 + 8 < cLine by omega) ⟨nested_is I k (hk.mono sub) rfl, kk.d8⟩ hd' dd ⟨.bl (kget ks k).isSome, H, I.tok _, by rw [e]; rfl, by simpa using q⟩
theorem op_nnotin (hu : X.A.units + 16 < cLine) : OpR X (compareOp .NotIn) (rNIn X.tc true) := by
  rintro pins s σ H y x iv u Q I ry rx ⟨I0, p, kvs, ks, k, rfl, sub, at_, ko, hk, kk, q⟩
  obtain ⟨a, rfl⟩ := kk.ref hk
  cases rx
  cases ry
  obtain ⟨z, hd', xs, rp, dd⟩ := dn_heap I at_ sub ko
  have e := at_some (k := k) rp (.inr ⟨at_.keys, at_.vrp⟩)
  have e2 : (valueAt (pairsH xs) k).isSome = (kget ks k).isSome := by rw [valueAt_pairsH, Option.isSome_map, e]
  exact notIn_keyed (knd := nestedKind X.prog X.w) (show X.A.units + 1 + 8 < cLine by omega) ⟨nested_is I k (hk.mono sub) rfl, kk.d8⟩ hd' ⟨xs, dd, rfl⟩ ⟨.bl (!(kget ks k).isSome), H, I.tok _, by rw [e2]; rfl, by simpa using q⟩
theorem rd_nget {T : TC} (hv : VN x ks) (ko : KsOk ks) (kk : KOk k) (hk : kget ks k = some d) : Rd2 T (rNG T) x k.data d := fun I H v u B o h s Q kq => by
  obtain ⟨p, kvs, rfl, at_⟩ := hv.rd ko o s
  exact ⟨I, p, kvs, ks, k, d, rfl, s, at_, ko, h, kk, hk, fun v hv => kq v hv⟩
theorem rd_nin {T : TC} {neg : Bool} (hv : VN x ks) (ko : KsOk ks) (kk : KOk k) : Rd2 T (fun v u => rNIn T neg u v) x k.data (.bool (neg != (kget ks k).isSome)) := fun I H v u B o h s Q kq => by
  obtain ⟨p, kvs, rfl, at_⟩ := hv.rd ko o s
  exact ⟨I, p, kvs, ks, k, rfl, s, at_, ko, h, kk, kq _ (.bl _)⟩
/-- d[k], d in the i-th slot -/
theorem xe_ngetS (j : Nat) (hu : X.A.units + 16 < cLine) (ko : KsOk ks) (kk : KOk k) (hb : XE X b Γ (.da k.data) Γ1) (hk : kget ks k = some d) (h0 : OSome Γ[j]? = true := by rfl) (hx : Γ1[j]? = some (some x) := by rfl) (hv : VN x ks := by first | exact .dm | exact .pin | exact .da)
    (hs : NoSl b := by exact fun _ _ => rfl) (hN : X.N[j]? = some nm := by rfl) (hvs : Vis X.env.scope nm := by first | exact Or.inl rfl | exact Or.inr (Or.inl rfl) | exact Or.inr (Or.inr rfl)) (h1 : (nm == ("__debug__" : Str)) = false := by decide) (h2 : (nm == ("__classdict__" : Str)) = false := by decide) :
    XE X (.Subscript (.Name nm p) b pos) Γ (.da d) Γ1 := fun Ψ hq I H σ F en Q kq => ⟨_, pe_nget hu (pe_var hN hvs h1 h2) wpE_ok hs, core_SV (f := rNG X.tc) h0 hb hx (rd_nget hv ko kk hk) en Q fun w I' H' F' hw st en' => kq _ _ I' H' w F' hq st (en'.da hw)⟩
/-- k in d, k not in d, d in the i-th slot -/
theorem xt_ninS (j : Nat) (hu : X.A.units + 16 < cLine) (ko : KsOk ks) (kk : KOk k) (hb : XE X b Γ (.da k.data) Γ1) (hx : Γ1[j]? = some (some x) := by rfl) (hv : VN x ks := by first | exact .dm | exact .pin | exact .da) (hm : behindInMarks .In (.Name nm p) = false := by rfl)
    (hN : X.N[j]? = some nm := by rfl) (hvs : Vis X.env.scope nm := by first | exact Or.inl rfl | exact Or.inr (Or.inl rfl) | exact Or.inr (Or.inr rfl)) (h1 : (nm == ("__debug__" : Str)) = false := by decide) (h2 : (nm == ("__classdict__" : Str)) = false := by decide) :
    XT X (.Compare b [.In] [.Name nm p] pos) Γ (kget ks k).isSome Γ1 := fun Ψ hq I H σ F en Q kq => ⟨_, pt_cmpR (op_nin hu) wpE_ok (pe_var hN hvs h1 h2) hm, core_VS (f := rNIn X.tc false) hb hx (rd_nin hv ko kk) en _ fun w I' H' F' hw st en' => by
      cases hw
      exact ⟨_, rfl, kq _ Γ1 I' H' F' (by simpa using hq) st en'⟩⟩
theorem xe_ninS (j : Nat) (hu : X.A.units + 16 < cLine) (ko : KsOk ks) (kk : KOk k) (hb : XE X b Γ (.da k.data) Γ1) (hx : Γ1[j]? = some (some x) := by rfl) (hv : VN x ks := by first | exact .dm | exact .pin | exact .da) (hm : behindInMarks .In (.Name nm p) = false := by rfl)
    (hN : X.N[j]? = some nm := by rfl) (hvs : Vis X.env.scope nm := by first | exact Or.inl rfl | exact Or.inr (Or.inl rfl) | exact Or.inr (Or.inr rfl)) (h1 : (nm == ("__debug__" : Str)) = false := by decide) (h2 : (nm == ("__classdict__" : Str)) = false := by decide) :
    XE X (.Compare b [.In] [.Name nm p] pos) Γ (.da (.bool (kget ks k).isSome)) Γ1 := fun Ψ hq I H σ F en Q kq => ⟨_, pe_cmpR (op_nin hu) wpE_ok (pe_var hN hvs h1 h2) hm, core_VS (f := rNIn X.tc false) hb hx (rd_nin hv ko kk) en _ fun w I' H' F' hw st en' =>
      kq _ Γ1 I' H' w F' hq st (en'.da (by simpa using hw))⟩
theorem xt_nninS (j : Nat) (hu : X.A.units + 16 < cLine) (ko : KsOk ks) (kk : KOk k) (hb : XE X b Γ (.da k.data) Γ1) (hx : Γ1[j]? = some (some x) := by rfl) (hv : VN x ks := by first | exact .dm | exact .pin | exact .da) (hm : behindInMarks .NotIn (.Name nm p) = false := by rfl)
    (hN : X.N[j]? = some nm := by rfl) (hvs : Vis X.env.scope nm := by first | exact Or.inl rfl | exact Or.inr (Or.inl rfl) | exact Or.inr (Or.inr rfl)) (h1 : (nm == ("__debug__" : Str)) = false := by decide) (h2 : (nm == ("__classdict__" : Str)) = false := by decide) :
    XT X (.Compare b [.NotIn] [.Name nm p] pos) Γ (!(kget ks k).isSome) Γ1 := fun Ψ hq I H σ F en Q kq => ⟨_, pt_cmpR (op_nnotin hu) wpE_ok (pe_var hN hvs h1 h2) hm, core_VS (f := rNIn X.tc true) hb hx (rd_nin hv ko kk) en _ fun w I' H' F' hw st en' => by
      cases hw
      exact ⟨_, rfl, kq _ Γ1 I' H' F' (by simpa using hq) st en'⟩⟩
end
end TL

/-! TL28: dicts whose keys are tuples: stored into, displayed, locked, walked. -/
namespace TL
open PySem PySem.Spec PyProof.Rows L2

def nput (kvs : NKV) (k : NestedKey) (a : Addr) (v : V) : NKV := if (kvs.any fun q => decide (q.1 = k)) = true then kvs.map (fun q => if q.1 = k then (q.1, q.2.1, v) else q) else kvs ++ [(k, a, v)]
theorem nput_any {kvs : NKV} {ks : NL} {k : NestedKey} (h : kvs.map Prod.fst = ks.map Prod.fst) : (kvs.any fun q => decide (q.1 = k)) = (ks.any fun q => decide (q.1 = k)) := by
  have e1 : (kvs.any fun q => decide (q.1 = k)) = ((kvs.map Prod.fst).any fun q => decide (q = k)) := by rw [List.any_map]; rfl
  have e2 : (ks.any fun q => decide (q.1 = k)) = ((ks.map Prod.fst).any fun q => decide (q = k)) := by rw [List.any_map]; rfl
  rw [e1, e2, h]
theorem nput_len {kvs : NKV} {k : NestedKey} {a : Addr} {v : V} : (nput kvs k a v).length ≤ kvs.length + 1 := by
  unfold nput
  split <;> simp
theorem nput_rp {T : TC} {I : Hp} {k : NestedKey} {a : Addr} {v : V} {d : PyData} : ∀ {kvs : NKV} {ks : NL}, kvs.map Prod.fst = ks.map Prod.fst → RpL T I (kvs.map fun p => V.ref p.2.1) (ks.map fun q => q.1.data) → RpL T I (kvs.map fun p => p.2.2) (ks.map Prod.snd) → Rp T I (.ref a) k.data → Rp T I v d →
    (nput kvs k a v).map Prod.fst = (kput ks k d).map Prod.fst ∧ RpL T I ((nput kvs k a v).map fun p => V.ref p.2.1) ((kput ks k d).map fun q => q.1.data) ∧ RpL T I ((nput kvs k a v).map fun p => p.2.2) ((kput ks k d).map Prod.snd) := by
  intro kvs ks h r1 r2 hk hv
  have ha := nput_any (k := k) h
  unfold nput kput
  rw [ha]
  split
  · rename_i hh
    clear ha hh
    induction kvs generalizing ks with
    | nil =>
      cases ks with
      | nil => exact ⟨rfl, .nil, .nil⟩
      | cons q ks => simp at h
    | cons p kvs ih =>
      cases ks with
      | nil => simp at h
      | cons q ks =>
        rw [List.map_cons, List.map_cons, List.cons.injEq] at h
        rw [List.map_cons, List.map_cons] at r1 r2
        cases r1 with
        | cons g1 r1 =>
          cases r2 with
          | cons g2 r2 =>
            obtain ⟨i1, i2, i3⟩ := ih h.2 r1 r2
            simp only [List.map_cons]
            by_cases hp : p.1 = k
            · have hq : q.1 = k := h.1.symm.trans hp
              rw [if_pos hp, if_pos hq, i1]
              exact ⟨by rw [h.1], .cons g1 i2, .cons hv i3⟩
            · have hq : ¬ q.1 = k := fun e => hp (h.1.trans e)
              rw [if_neg hp, if_neg hq, i1]
              exact ⟨by rw [h.1], .cons g1 i2, .cons g2 i3⟩
  · simp only [List.map_append, List.map_cons, List.map_nil]
    rw [h]
    exact ⟨rfl, RpL.append r1 (.cons hk .nil), RpL.append r2 (.cons hv .nil)⟩
theorem nput_pair {k : NestedKey} {a : Addr} {v : V} {u : Value} (rv : RelV v u) {kvs : NKV} {xs : List (NestedKey × Addr × Value)} (r : Paired NPair kvs xs) : Paired NPair (nput kvs k a v) (storedH xs k a u) := by
  have e : (kvs.any fun q => decide (q.1 = k)) = (atKey xs k).isSome := by
    induction r with
    | nil => rfl
    | @cons p q l m h t ih =>
      rw [List.any_cons, ih]
      have : atKey (q :: m) k = if q.1 = k then some q.2 else atKey m k := by
        unfold atKey
        rw [List.find?_cons]
        by_cases hk : q.1 = k <;> simp [hk]
      rw [this, h.1]
      by_cases hk : q.1 = k <;> simp [hk]
  unfold nput storedH
  rw [e]
  split
  · clear e
    rename_i hh
    clear hh
    induction r with
    | nil => exact .nil
    | @cons p q l m h t ih =>
      rw [List.map_cons, List.map_cons]
      refine .cons ?_ ih
      unfold putAt
      by_cases hk : p.1 = k
      · rw [if_pos hk, if_pos (h.1.symm.trans hk)]
        exact ⟨h.1, h.2.1, rv⟩
      · rw [if_neg hk, if_neg fun z => hk (h.1.trans z)]
        exact h
  · clear e
    rename_i hh
    clear hh
    induction r with
    | nil => exact .cons ⟨rfl, rfl, rv⟩ .nil
    | cons h _ ih => exact .cons h ih
theorem ksOk_put {ks : NL} {k : NestedKey} {d : PyData} (h : KsOk ks) (hk : KOk k) : KsOk (kput ks k d) := by
  intro q hq
  have e : q.1 ∈ (kput ks k d).map (·.1) := List.mem_map_of_mem (f := (·.1)) hq
  rw [kput_keys] at e
  split at e
  · obtain ⟨r, hr, e⟩ := List.mem_map.mp e
    rw [← e]
    exact h r hr
  · rcases List.mem_append.mp e with e | e
    · obtain ⟨r, hr, e⟩ := List.mem_map.mp e
      rw [← e]
      exact h r hr
    · simp at e
      rw [e]
      exact hk
def rNPut (T : TC) : TSet := fun o i v H Q => ∃ I p kvs ks k a, o = .ref p ∧ i = .ref a ∧ Same I H ∧ DmAt T I H p kvs ks ∧ KsOk ks ∧ Rp T I i (NestedKey.data k) ∧ KOk k ∧ kvs.length < sizeLine ∧ Q (upd H p (DN T p (nput kvs k a v)))
section
variable {X : Cx} {e a b c o it tg i : Expr} {es elts : List Expr} {ss rest : List Stmt} {Γ Γ' Γ1 Γ2 Γ3 : Sl} {Ψ : OD → Sl → Prop} {Φ : Out → Prop} {pos p apos cpos p2 tpos : Pos} {r x y z : OD} {nm n2 : Str} {ds es' : List PyData} {d d' g : PyData} {kk : Nat} {ks : NL} {mk : NL → OD} {k : NestedKey}
theorem dn_new {T : TC} {q : Addr} {kvs : NKV} {xs : List (NestedKey × Addr × Value)} {h' : Heap} (hz : kvs.length ≤ sizeLine) (hd : (q == sysModules) = false) (r : Paired NPair kvs xs) (dd : h'.DictOfH (nestedKind T.P T.w) q xs) : DnOk T q kvs h' := by
  obtain ⟨o, es, ep, f1, f2, f3, f4, _, f6⟩ := dd
  exact ⟨hz, hd, xs, r, o, es, ep, f1, f2, f3, f4, f6⟩
theorem dn_at {T : TC} {q : Addr} {kvs : NKV} {h' : Heap} (d : DnOk T q kvs h') : ∃ o, h'.get? q = some o := by
  obtain ⟨_, _, _, _, o, _, _, h, _⟩ := d
  exact ⟨o, h⟩
theorem set_n (hu : X.A.units + 16 < cLine) : PSet X (rNPut X.tc) := by
  rintro pins s σ H o i v ov iv u Q I ro ri rv ⟨I0, p, kvs, ks, k, a, rfl, rfl, sub, at_, ko, hk, kk, hz, q⟩
  cases ro
  cases ri
  obtain ⟨z, hd, xs, rp, dd⟩ := dn_heap I at_.nat sub ko
  have hl : kvs.length = xs.length := Paired.length rp
  refine wpAny_setItem_heap (knd := nestedKind X.prog X.w) (hsz := by omega) (show X.A.units + 1 + 8 < cLine by omega) ⟨nested_is I k (hk.mono sub) rfl, kk.d8⟩ dd fun h' dd' hs => ?_
  have new : DnOk X.tc p (nput kvs k a v) h' := dn_new (T := X.tc) (Nat.le_trans nput_len hz) hd (nput_pair rv rp) dd'
  exact ⟨_, d_write (t' := s.toks + (nestedKind X.prog X.w).draws k) I (by rw [at_.at_]; exact True.intro) hs (dn_at new) (ob := DN X.tc p (nput kvs k a v)) ⟨new, dn_at new, fun h1 h2 q e => dn_stay q e⟩, q⟩
/-- d[k] = e -/
theorem ws_nput (j : Nat) (hu : X.A.units + 16 < cLine) (h : WE X e Γ fun r Γ1 => ∃ d k x ks mk, r = .da d ∧ Γ1[j]? = some (some x) ∧ VDM x ks mk ∧ KsOk ks ∧ KOk k ∧ ks.length < sizeLine ∧ XE X b Γ1 (.da (NestedKey.data k)) Γ1 ∧ WSs X rest (Γ1.set j (some (mk (kput ks k d)))) Φ)
    (hN : X.N[j]? = some nm := by rfl) (hvs : Vis X.env.scope nm := by first | exact Or.inl rfl | exact Or.inr (Or.inl rfl) | exact Or.inr (Or.inr rfl)) (h1 : (nm == ("__debug__" : Str)) = false := by decide) (h2 : (nm == ("__classdict__" : Str)) = false := by decide)
    (hs : swapsWithSole [.Subscript (.Name nm p) b pos] e apos.line X.env = pure false := by rfl) (hw : swappedStores [.Subscript (.Name nm p) b pos] e X.env = pure none := by rfl)
    (h5 : (assignEach [.Subscript (.Name nm p) b pos] X.env).map (·.2) = [assign (.Subscript (.Name nm p) b pos) X.env] := by rfl)
    (ha : ∀ v, assign (.Subscript (.Name nm p) b pos) X.env v = (do
      let ov ← holding [v] (eval (.Name nm p) X.env)
      let iv ← holding [v, ov] (eval b X.env)
      standAt pos
      holding [v, ov, iv] (setItem ov iv v)
      release [v, ov, iv] []) := by intro _; rfl) : WSs X (.Assign [.Subscript (.Name nm p) b pos] e apos :: rest) Γ Φ := fun I H σ F en D ek => by
  refine ⟨_, pss_cons (ps_asg wpE_ok (pg_sub (pe_var hN hvs h1 h2) wpE_ok (set_n hu) ha) hs hw h5) wpSs_ok, h I H σ F en _ ?_⟩
  rintro r Γ1 I1 H1 v F1 ⟨d, k, x, ks, mk, rfl, hx, hv, ko, kk, hz, hb, hq⟩ st1 en1
  obtain ⟨B, G, rfl, oo, en2, up⟩ := en1.pop
  cases oo with
  | da hd =>
    obtain ⟨q, kvs, e1, _, _⟩ := en2.dm hx hv
    refine ⟨_, e1, hb (fun r Γ' => r = .da k.data ∧ Γ' = Γ1) ⟨rfl, rfl⟩ I1 H1 σ G en2 _ ?_⟩
    rintro _ _ I2 H2 u F2 ⟨rfl, rfl⟩ st2 en3
    obtain ⟨B2, G2, rfl, oo2, en4, _⟩ := en3.pop
    cases oo2 with
    | da hh =>
      obtain ⟨q', kvs', e1', h3, h6⟩ := en4.dm hx hv
      rw [e1] at e1'
      cases e1'
      obtain ⟨a', rfl⟩ := kk.ref hh
      obtain ⟨g1, g2, g3⟩ := nput_rp (k := k) (a := a') h3.keys h3.krp h3.vrp hh (hd.mono st2.inc)
      obtain ⟨F5, en5, st5⟩ := h6 _ _ g1 g2 g3
      exact ⟨I2, q, kvs', ks, k, a', rfl, rfl, en4.sub, h3, ko, hh, kk, by rw [h3.nat.len]; exact hz, hq I2 _ σ F5 en5 D (ek.step ((st1.trans st2).trans st5))⟩
/-- {k: v} -/
theorem pe_ndisp1 {ta tb : TE} (hu : X.A.units + 16 < cLine) (ha : PE X a ta) (hb : PE X b tb) : PE X (.Dict [some a] [b] pos) (fun σ H Q => ∀ p, H p = none → ta σ (upd H p (DN X.tc p [])) fun y H1 => tb σ H1 fun z H2 => ∃ I k a', y = .ref a' ∧ Same I H2 ∧ Rp X.tc I y (NestedKey.data k) ∧ KOk k ∧ H2 p = some (DN X.tc p []) ∧ Q (.ref p) (upd H2 p (DN X.tc p [(k, a', z)]))) := by
  refine ⟨fun pins s σ H Q I h => ?_⟩
  have hn := I.hok.fresh (Nat.le_refl s.heap.objs.size)
  have lo : (s.heap.objs.size == sysModules) = false := beq_eq_false_iff_ne.mpr (Ne.symm (Nat.ne_of_lt I.big))
  have new : DnOk X.tc s.heap.objs.size [] (s.heap.push { cls := .type "dict", data := .dict #[] }) := ⟨Nat.zero_le _, lo, [], .nil, _, #[], 0, Heap.get?_push_size _ rfl, ⟨rfl, rfl, rfl⟩, rfl, rfl, List.nodup_nil⟩
  have I1 := I.laid (a := s.heap.objs.size) (o := DN X.tc s.heap.objs.size []) (t' := s.toks) (fun _ _ q => Heap.get?_push_of_some _ q) (Nat.le_refl _) ⟨new, ⟨_, Heap.get?_push_size _ rfl⟩, fun h1 h2 q e => dn_stay q e⟩
  rw [arm_eval_Dict]
  show wpAny _ _ (do standAt pos; dictDisplay ([((eval a X.env : Sem Value), (do let x ← eval b X.env; standAt pos; pure x : Sem Value))].map fun p => (some p.1, p.2))) _ _ _
  rw [dictDisplay_pairs _ (by simp) (by simp)]
  refine wpAny_bind (wpAny_standAt (wpAny_bind (wpAny_subDictH (knd := nestedKind X.prog X.w) (show X.A.units + 8 < cLine by omega) (by simp) ?_)))
  refine evalPairs_cons (thn (ha.run pins _ σ _ _ I1 (h _ hn)) fun u s1 ⟨y, H1, J1, ry, q1⟩ => ?_)
  refine wpAny_bind (thn (hb.run pins s1 σ H1 _ J1 q1) fun w s2 ⟨z, H2, J2, rz, q2⟩ => ?_)
  refine wpAny_bind (wpAny_standAt (wpAny_pure ?_))
  refine evalPairs_nil ?_
  obtain ⟨I0, k, a', rfl, sub, hk, kk, hp, q⟩ := q2
  cases ry
  have dn := (J2.hok _ _ hp).1
  obtain ⟨_, _, xs, rp, o, es, ep, g1, g2, g3, g4, g5⟩ := dn
  have hx : xs = [] := by
    have l2 : ([] : NKV).length = xs.length := Paired.length rp
    exact List.eq_nil_of_length_eq_zero l2.symm
  subst hx
  have hkey : (nestedKind X.prog X.w).is s2.heap k a' := ⟨nested_is J2 k (hk.mono sub) rfl, kk.d8⟩
  refine ⟨[(k, a', w)], ⟨rfl, rfl, hkey, trivial⟩, ⟨o, es, ep, g1, g2, g3, g4, by simp, by simp⟩, fun h' tk dd hs => wpAny_pure ?_⟩
  have new2 : DnOk X.tc s.heap.objs.size [(k, a', z)] h' := dn_new (T := X.tc) (xs := [(k, a', w)]) (by show 1 ≤ sizeLine; decide) lo (.cons ⟨rfl, rfl, rz⟩ .nil) dd
  exact ⟨.ref s.heap.objs.size, _, d_write (t' := tk) J2 (by rw [hp]; exact True.intro) hs (dn_at new2) (ob := DN X.tc s.heap.objs.size [(k, a', z)]) ⟨new2, dn_at new2, fun h1 h2 q e => dn_stay q e⟩, rfl, q⟩
theorem xe_ndict1 (hu : X.A.units + 16 < cLine) (kk : KOk k) (ha : XE X a Γ (.da k.data) Γ1) (hb : XE X b Γ1 (.da d) Γ2) : XE X (.Dict [some a] [b] pos) Γ (.dm [(k, d)]) Γ2 := fun Ψ hq I H σ F en Q kq => by
  refine ⟨_, pe_ndisp1 hu wpE_ok wpE_ok, fun p hp => ?_⟩
  obtain ⟨en0, st0⟩ := en.use (B := []) (by simpa using en.nd) (step_new (F := []) hp) (Own.dm (kvs := []) (ds := []) upd_same (en.sub.free hp) rfl .nil .nil) (by simp) (upd_sub en.sub hp)
  obtain ⟨B0, G0, e0, o0, en0', up0⟩ := en0.pop
  refine ha (fun r Γ' => r = .da k.data ∧ Γ' = Γ1) ⟨rfl, rfl⟩ I (upd H p (DN X.tc p [])) σ G0 en0' _ ?_
  rintro _ _ I1 H1 u F1 ⟨rfl, rfl⟩ st1 en1
  obtain ⟨B1, G1, rfl, o1, en1', up1⟩ := en1.pop
  cases o1 with
  | da hk =>
    refine hb (fun r Γ' => r = .da d ∧ Γ' = Γ2) ⟨rfl, rfl⟩ I1 H1 σ G1 en1' _ ?_
    rintro _ Γ2' I2 H2 w F2 ⟨rfl, e2⟩ st2 en2
    subst e2
    obtain ⟨B2, G2, rfl, o2, en2', _⟩ := en2.pop
    cases o2 with
    | da hd =>
      obtain ⟨en3, st3, o3⟩ := up0 (st1.trans st2) en2'
      have hB : B0 = [p] := by
        cases o0
        rfl
      subst hB
      cases o3 with
      | dm h1 h2 h3 h4 h5 =>
        rename_i kvs
        have hk0 : kvs = [] := by simpa using h3
        subst hk0
        obtain ⟨a', rfl⟩ := kk.ref hk
        have hk2 := hk.mono st2.inc
        refine ⟨I2, k, a', rfl, en2'.sub, hk2, kk, h1, ?_⟩
        have nd := en3.nd
        have np : p ∉ G2 := (List.nodup_cons.mp (show (p :: G2).Nodup from nd)).1
        have en4 : EnvF X.tc I2 (upd H2 p (DN X.tc p [(k, a', w)])) σ Γ2' G2 := ⟨en2'.env.frame (Same.refl I2) fun b hb => ⟨upd_ne fun q => np (q ▸ hb), (en2'.env.cells b hb).2⟩, en2'.nd, fun b u e => by
          rw [upd_ne fun q => by
            subst q
            rw [h2] at e
            cases e]
          exact en2'.sub b u e⟩
        refine kq _ _ I2 _ _ ([p] ++ G2) hq ?_ ⟨.cons (.dm upd_same h2 rfl (.cons hk2 .nil) (.cons hd .nil)) en4.env, nd, en4.sub⟩
        exact (st0.trans st3).trans ((step_upd (F := [p] ++ G2) (by simp)).of_mem (fun b hb => hb) fun b hb => hb)

/-! ### truth -/
theorem len_bool {α : Type} (xs : List α) : ((xs.length : Int) != 0) = !xs.isEmpty := by
  cases xs with
  | nil => rfl
  | cons x xs =>
    exact bne_iff_ne.mpr (by rw [List.length_cons]; omega)
theorem heap_truth {prog : Program} {w : World} {κ : Type} [DecidableEq κ] {knd : HeapKind prog w κ} {A : Around} {E : Value → Shared → Prop} {s : Shared} {d : Addr} {xs : List (κ × Addr × Value)} {Q : Bool → Shared → Prop} (hd : (d == sysModules) = false) (hm : s.heap.DictOfH knd d xs) (hz : (xs.length : Int) < 2 ^ 63) (h : Q (!xs.isEmpty) { s with toks := s.toks + 1 + 1 }) : wpAny (model prog w) A (truthy (.ref d)) Q E s := by
  have lenCall : wpAny (model prog w) A (runValue (.builtin "len" ⟨[.ref d], []⟩)) (fun r s' => r = .int xs.length (s.toks + 1) ∧ Q (!xs.isEmpty) s') E s := by
    refine wpAny_runValue (codeAny_builtin entry_len ?_)
    rw [Around.under_plainId plain_len _]
    refine wpAny_mono (wpAny_len_body_dictH (Q := fun r s' => r = .int xs.length (s.toks + 1) ∧ Q (!xs.isEmpty) s') hd hm hz ⟨rfl, h⟩) ?_ fun _ _ e => e
    rintro fin s' ⟨r, rfl, hq⟩
    exact hq
  unfold truthy
  first
    | refine wpAny_bind (wpAny_callSpecial?_none (name := Str.ofString "__bool__") hm.typeIs noBool_dict (wpAny_bind (wpAny_specialOf (name := Str.ofString "__len__") hm.typeIs PySem.F.slot_dict_len.lookup ?_)))
    | refine wpAny_bind (wpAny_callSpecial?_none (name := Str.ofString "__bool__") hm.typeIs noBool_dict ?_)
  all_goals (refine wpAny_bind (wpAny_mono lenCall ?_ fun _ _ e => e); rintro r s' ⟨rfl, hq⟩; exact wpAny_pure (by rw [show ((Nat.cast xs.length : Int) != 0) = !xs.isEmpty from len_bool xs]; exact hq))
def rTruN (T : TC) (v : V) (H : Hp) (k : Bool) : Prop := ∃ I p kvs ks, v = .ref p ∧ Same I H ∧ NAt T I H p kvs ks ∧ KsOk ks ∧ k = !ks.isEmpty
theorem tru_n : TruR X (fun x H Q => ∃ k, rTruN X.tc x H k ∧ Q k H) := by
  rintro pins s σ H x v Q I rx ⟨k, ⟨I0, p, kvs, ks, rfl, sub, at_, ko, rfl⟩, q⟩
  cases rx
  obtain ⟨z, hd, xs, rp, dd⟩ := dn_heap I at_ sub ko
  have hl : kvs.length = xs.length := Paired.length rp
  refine heap_truth hd dd (by rw [← hl]; rw [sizeLine_eq] at z; omega) ?_
  rw [isEmpty_len (hl.symm.trans at_.len)]
  exact ⟨H, I.tok _, q⟩
theorem pt_truthN {ta : TE} (ha : PE X a ta) (he : ∀ whole, isTrue a X.env whole = (do let v ← whole; standAt a.pos; holding [v] (truthy v)) := by intro _; rfl) : PT X a (fun σ H Q => ta σ H fun x H' => ∃ k, rTruN X.tc x H' k ∧ Q k H') := by
  refine ⟨fun pins s σ H Q I h => ?_⟩
  show wpAny _ _ (isTrue a X.env (eval a X.env)) _ _ _
  rw [he]
  refine wpAny_bind (thn (ha.run pins s σ H _ I h) fun v s1 ⟨x, H1, I1, rx, q⟩ => ?_)
  exact wpAny_bind (wpAny_standAt (wpAny_holding (tru_n pins s1 σ H1 x v Q I1 rx q)))
theorem xt_truN (j : Nat) (ko : KsOk ks) (hx : Γ[j]? = some (some x) := by rfl) (hv : VN x ks := by first | exact .dm | exact .pin | exact .da) (hN : X.N[j]? = some nm := by rfl) (hvs : Vis X.env.scope nm := by first | exact Or.inl rfl | exact Or.inr (Or.inl rfl) | exact Or.inr (Or.inr rfl)) (h1 : (nm == ("__debug__" : Str)) = false := by decide) (h2 : (nm == ("__classdict__" : Str)) = false := by decide)
    (he : ∀ whole, isTrue (.Name nm p) X.env whole = (do let v ← whole; standAt (Expr.Name nm p).pos; holding [v] (truthy v)) := by intro _; rfl) : XT X (.Name nm p) Γ (!ks.isEmpty) Γ := fun Ψ hq I H σ F en Q kq => by
  obtain ⟨v, B, e1, o⟩ := en.see hx
  obtain ⟨p, kvs, rfl, at_⟩ := hv.rd ko o en.sub
  exact ⟨_, pt_truthN (pe_var hN hvs h1 h2) he, _, e1, _, ⟨I, p, kvs, ks, rfl, en.sub, at_, ko, rfl⟩, kq _ Γ I H F hq .refl en⟩
end
end TL

/-! TL29: dicts whose keys are tuples: locked, walked. -/
namespace TL
open PySem PySem.Spec PyProof.Rows L2

/-! ### locked -/
theorem EnvF.lockA {T : TC} {I H : Hp} {σ : L2.St} {Γ : Sl} {G : List Addr} {p : Addr} {u : HO} (en : EnvF T I H σ Γ G) (hI : I p = none) (np : p ∉ G) :
    EnvF T (upd I p u) (upd H p u) σ Γ G ∧ Step I H (p :: G) (upd I p u) (upd H p u) G :=
  ⟨⟨en.env.frame (upd_up hI) fun b hb => ⟨upd_ne fun q => np (q ▸ hb), by rw [upd_ne (b := b) (fun q : b = p => np (q ▸ hb))]; exact (en.env.cells b hb).2⟩, en.nd, upd_both en.sub⟩,
    upd_up hI, fun b ob e1 e2 n => by
      rw [List.mem_cons, not_or] at n
      exact ⟨by rw [upd_ne n.1]; exact e1, by rw [upd_ne n.1]; exact e2, n.2⟩⟩
/-- what a dict with tuple keys is locked as -/
def lockN (T : TC) (p : Addr) (kvs : NKV) (od : Obj) : HO := if kvs = [] then .frz od (.dK []) else .frz od (DN T p kvs)
theorem Inv_lockN {X : Cx} {pins : List (Addr × Obj)} {σ : L2.St} {H : Hp} {s : Shared} {p : Addr} {kvs : NKV} (I : Inv X pins σ H s) (h : H p = some (DN X.tc p kvs)) : ∃ od, Inv X pins σ (upd H p (lockN X.tc p kvs od)) s := by
  unfold lockN
  by_cases hk : kvs = []
  · subst hk
    obtain ⟨z, hd, xs, rp, o, es, ep, g1, g2, g3, g4, g5⟩ := (I.hok p _ h).1
    have hx : xs = [] := by
      have l2 : ([] : NKV).length = xs.length := Paired.length rp
      exact List.eq_nil_of_length_eq_zero l2.symm
    subst hx
    have g4' : es.toList = [] := g4
    have hes : es = #[] := by
      cases es
      simpa using g4'
    subst hes
    have new : ObjOk X.prog X.w (upd H p (.dK [])) s.heap p (.dK []) := ⟨Nat.zero_le _, hd, [], .nil, o, #[], ep, g1, g2, g3, by intro x hx; simp at hx, by constructor, List.nodup_nil⟩
    have I1 := d_write (t' := s.toks) I (a := p) (by rw [h]; exact True.intro) (Heap.SameBut.refl _ _) ⟨o, g1⟩ (ob := .dK []) new
    obtain ⟨od, I2⟩ := I1.lock (d := p) (u := .dK []) upd_same True.intro
    rw [upd_upd] at I2
    exact ⟨od, by rw [if_pos rfl]; exact I2⟩
  · obtain ⟨od, I2⟩ := I.lock h True.intro
    exact ⟨od, by rw [if_neg hk]; exact I2⟩
theorem pe_lockN {X : Cx} {e : Expr} {t : TE} (h : PE X e t) : PE X e (fun σ H Q => t σ H fun v H1 => ∃ p kvs, v = .ref p ∧ H1 p = some (DN X.tc p kvs) ∧ ∀ od, Q v (upd H1 p (lockN X.tc p kvs od))) := ⟨fun pins s σ H Q I hw =>
  thn (h.run pins s σ H _ I hw) fun v s1 ⟨x, H1, I1, rx, p, kvs, ex, hd, q⟩ => by
    obtain ⟨od, I2⟩ := Inv_lockN I1 hd
    exact ⟨x, _, I2, rx, q od⟩⟩
theorem frz_dm {T : TC} {I H : Hp} {v : V} {B : List Addr} {ks : NL} (ko : KsOk ks) (o : Own T I H v (.dm ks) B) : ∃ p kvs, v = .ref p ∧ B = [p] ∧ H p = some (DN T p kvs) ∧ I p = none ∧ ∀ od, Rp T (upd I p (lockN T p kvs od)) v (dnD ks) := by
  cases o with
  | @dm p kvs _ h1 h2 h3 h4 h5 =>
    refine ⟨p, kvs, rfl, rfl, h1, h2, fun od => ?_⟩
    unfold lockN
    by_cases hk : kvs = []
    · subst hk
      have hn : ks = [] := by
        have := congrArg List.length h3
        exact List.eq_nil_of_length_eq_zero (by simpa using this.symm)
      subst hn
      rw [if_pos rfl]
      exact .dk upd_same rfl .nil
    · rw [if_neg hk]
      have up : Same I (upd I p (.frz od (DN T p kvs))) := upd_up h2
      refine .dn (kvs := kvs) upd_same ?_ ?_ ?_ ?_
      · rw [List.map_map]
        have e : (kvs.map Prod.fst).map NestedKey.data = (ks.map Prod.fst).map NestedKey.data := by rw [h3]
        rw [List.map_map, List.map_map] at e
        exact e.symm
      · rw [List.map_map]
        exact h4.mono up
      · rw [List.map_map]
        exact h5.mono up
      · cases kvs with
        | nil => exact absurd rfl hk
        | cons q kvs =>
          cases ks with
          | nil => simp at h3
          | cons r ks =>
            rw [List.map_cons, List.map_cons, List.cons.injEq] at h3
            exact ⟨q, List.mem_cons_self, fun j => by rw [h3.1]; exact (ko r List.mem_cons_self).simple j⟩
section
variable {X : Cx} {e a b c o it tg : Expr} {es elts : List Expr} {ss rest : List Stmt} {Γ Γ' Γ1 Γ2 Γ3 : Sl} {Ψ : OD → Sl → Prop} {Φ : Out → Prop} {pos p apos cpos p2 tpos : Pos} {r x y z : OD} {nm n2 : Str} {ds es' : List PyData} {d d' g : PyData} {kk i : Nat} {ks : NL} {mk : NL → OD} {k : NestedKey}
theorem we_frzN (h : WE X e Γ fun r Γ1 => ∃ ks, r = .dm ks ∧ KsOk ks ∧ Ψ (.da (dnD ks)) Γ1) : WE X e Γ Ψ := fun I H σ F en Q k => ⟨_, pe_lockN wpE_ok, h I H σ F en _ fun r Γ1 I1 H1 v F1 ⟨ks, hr, ko, hq⟩ st1 en1 => by
  subst hr
  obtain ⟨B, G, rfl, o, en2, _⟩ := en1.pop
  obtain ⟨p, kvs, rfl, rfl, h1, h2, h3⟩ := frz_dm ko o
  refine ⟨p, kvs, rfl, h1, fun od => ?_⟩
  have np : p ∉ G := (List.nodup_cons.mp (show (p :: G).Nodup from en1.nd)).1
  obtain ⟨en3, st3⟩ := en2.lockA (u := lockN X.tc p kvs od) h2 np
  exact k _ Γ1 _ _ _ G hq (st1.trans st3) (en3.da (h3 od))⟩
theorem xe_frzN (ko : KsOk ks) (h : XE X e Γ (.dm ks) Γ1) : XE X e Γ (.da (dnD ks)) Γ1 := fun _ hq => we_frzN (h _ ⟨ks, rfl, ko, hq⟩)
theorem ws_frzN (i : Nat) (ko : KsOk ks) (h : WSs X ss (Γ.set i (some (.da (dnD ks)))) Φ) (hx : Γ[i]? = some (some (.dm ks)) := by rfl) : WSs X ss Γ Φ := fun I H σ F en D ek => by
  refine ⟨fun D σ H => ∃ d kvs, H d = some (DN X.tc d kvs) ∧ ∀ od, wpSs X ss D σ (upd H d (lockN X.tc d kvs od)), ⟨fun pins s σ H D I ⟨d, kvs, hd, q⟩ => by
    obtain ⟨od, I1⟩ := Inv_lockN I hd
    exact wpSs_ok.run pins s σ _ D I1 (q od)⟩, ?_⟩
  obtain ⟨v, B, G, e1, o, en', nd, mem⟩ := en.take hx
  obtain ⟨p, kvs, rfl, rfl, h1, h2, h3⟩ := frz_dm ko o
  refine ⟨p, kvs, h1, fun od => ?_⟩
  have np : p ∉ G := (List.nodup_cons.mp (show (p :: G).Nodup from nd)).1
  obtain ⟨en3, st3⟩ := en'.lockA (u := lockN X.tc p kvs od) h2 np
  obtain ⟨F4, en4, nd4, m4⟩ := en3.into (B := []) (x := .da (dnD ks)) e1 (.da (h3 od)) en3.nd
  rw [List.set_set] at en4
  exact h _ _ σ F4 en4 D (ek.step (st3.of_mem (fun b hb => (List.mem_cons.mp hb).elim (fun q => (mem b).mpr (.inl (q ▸ List.mem_cons_self))) fun q => (mem b).mpr (.inr q)) fun b hb => (m4 b hb).elim (fun q => absurd q (by simp)) id))
end

/-! ### walks -/
section
variable {X : Cx} {pins : List (Addr × Obj)} {σ : L2.St} {H : Hp} {s : Shared} {d : Addr} {o : Obj} {kvs : NKV}
theorem frzN (I : Inv X pins σ H s) (h : H d = some (.frz o (DN X.tc d kvs))) : (d == sysModules) = false ∧ s.heap.get? d = some o ∧ o.ExactDict ∧ ∃ (es : Array DictEntry) (ep : Nat), o.data = .dict es ep ∧ es.size = kvs.length ∧
    ∀ (i : Nat) (k : NestedKey) (q : Addr) (v : V), kvs[i]? = some (k, q, v) → ∃ en : DictEntry, es[i]? = some en ∧ en.key = .ref q ∧ RelV v en.val := by
  obtain ⟨hg, ⟨z, hd, xs, rp, o', es, ep, g1, g2, g3, g4, g5⟩, _⟩ := I.hok d _ h
  rw [hg] at g1
  cases g1
  have hl : kvs.length = xs.length := Paired.length rp
  refine ⟨hd, hg, g2, es, ep, g3, by rw [size_of_entries g4, hl], fun i k q v hi => ?_⟩
  obtain ⟨y, hy, np⟩ := LiI.paired_get rp hi
  have h1 := entry_at g4 i
  rw [hy] at h1
  exact ⟨_, h1, by rw [show q = y.2.1 from np.2.1]; rfl, np.2.2⟩
end
def ItNk (T : TC) (d : Addr) (o : Obj) (kvs : NKV) : It :=
  ⟨fun i H => H d = some (.frz o (DN T d kvs)) ∧ i < kvs.length, fun i H x H' => H' = H ∧ ∃ k q v, kvs[i]? = some (k, q, v) ∧ x = .ref q, fun i H => H d = some (.frz o (DN T d kvs)) ∧ kvs.length ≤ i⟩
def ItNi (T : TC) (d : Addr) (o : Obj) (kvs : NKV) : It :=
  ⟨fun i H => H d = some (.frz o (DN T d kvs)) ∧ i < kvs.length, fun i H x H' => ∃ t k q v, kvs[i]? = some (k, q, v) ∧ x = .ref t ∧ H t = none ∧ H' = upd H t (.tup [.ref q, v]), fun i H => H d = some (.frz o (DN T d kvs)) ∧ kvs.length ≤ i⟩
theorem data_eq {o : Obj} {es es' : Array DictEntry} {ep ep' : Nat} (h : o.data = .dict es ep) (h' : o.data = .dict es' ep') : es' = es ∧ ep' = ep := by
  have := h.symm.trans h'
  injection this with a b
  exact ⟨a.symm, b.symm⟩
section
variable {P : Program} {w : World} {K : PySem.W.Frag} {tg : Expr} {d : Addr} {o : Obj} {es : Array DictEntry} {ep : Nat} {kvs : NKV}
theorem turnNk (it : Addr) (hod : o.data = .dict es ep) : Turn P w K tg (ItNk ⟨P, w, K⟩ d o kvs) [it] it (fun i h => h.IsKeyIter it d i kvs.length ep) where
  mem := List.mem_singleton.mpr rfl
  obj := fun i h st b hb => by
    rw [List.mem_singleton] at hb
    subst hb
    obtain ⟨oi, e, c, dd⟩ := st
    exact ⟨oi, e, fun v z => nomatch dd.symm.trans z⟩
  keep := fun i h h' st k => by
    obtain ⟨oi, e, r⟩ := st
    exact ⟨oi, k it (List.mem_singleton.mpr rfl) oi e, r⟩
  item := by
    rintro X rfl rfl rfl hc i pins s σ H E I hf st ⟨hd, hi⟩
    obtain ⟨f0, f1, f2, f3, f4, f5⟩ := hf it (List.mem_singleton.mpr rfl)
    obtain ⟨hs, hgd, hx, es', ep', hdt, hsz, ent⟩ := frzN I hd
    obtain ⟨rfl, rfl⟩ := data_eq hod hdt
    obtain ⟨⟨k, q, v⟩, hkv⟩ : ∃ p, kvs[i]? = some p := ⟨kvs[i], List.getElem?_eq_getElem hi⟩
    obtain ⟨en, hen, hkey, hv⟩ := ent i k q v hkv
    refine next_key_item st hgd hdt hsz hen fun h' st' sb => ?_
    have J := I.turned (t' := s.toks) (fun b ob hb e => (sb.2 b hb).trans e) f0 f1 f3 f4 f5
    obtain ⟨oi, e, c, dd⟩ := id st'
    exact ⟨en.key, rfl, go_of (s := { s with heap := h' }) e c dd (by decide) ⟨.ref q, H, J, hkey, ⟨rfl, k, q, v, hkv, rfl⟩, st', fun b hb => (hf b hb).1⟩⟩
  done := by
    rintro X rfl rfl rfl hc i pins s σ H E I hf st ⟨hd, hi⟩
    obtain ⟨f0, f1, f2, f3, f4, f5⟩ := hf it (List.mem_singleton.mpr rfl)
    obtain ⟨hs, hgd, hx, es', ep', hdt, hsz, ent⟩ := frzN I hd
    obtain ⟨rfl, rfl⟩ := data_eq hod hdt
    exact next_key_end (I.ok.hd hc) st hgd hdt hsz hi fun h' eb => ⟨rfl, I.turned (t' := s.toks) (fun b ob hb e => eb b ob hb e) f0 f1 f3 f4 f5⟩
  self := fun A i s Q E st h => wpAny_pyIter_keyiter st h
theorem turnNi {elts : List Expr} {kk : Nat} {tpos : Pos} (it : Addr) (hod : o.data = .dict es ep) : Turn P w K (.Tuple elts kk tpos) (ItNi ⟨P, w, K⟩ d o kvs) [it] it (fun i h => ∃ ok ov, IsItemIter h it d i kvs.length ep ok ov) where
  mem := List.mem_singleton.mpr rfl
  obj := fun i h st b hb => by
    rw [List.mem_singleton] at hb
    subst hb
    obtain ⟨ok, ov, e⟩ := st
    exact ⟨_, e, nofun⟩
  keep := fun i h h' ⟨ok, ov, e⟩ k => ⟨ok, ov, k it (List.mem_singleton.mpr rfl) _ e⟩
  item := by
    rintro X rfl rfl rfl hc i pins s σ H E I hf ⟨ok, ov, he⟩ ⟨hd, hi⟩
    obtain ⟨hs, hgd, hx, es', ep', hdt, hsz, ent⟩ := frzN I hd
    obtain ⟨rfl, rfl⟩ := data_eq hod hdt
    obtain ⟨⟨k, q, v⟩, hkv⟩ : ∃ p, kvs[i]? = some p := ⟨kvs[i], List.getElem?_eq_getElem hi⟩
    obtain ⟨en, hen, hkey, hv⟩ := ent i k q v hkv
    rw [← hsz] at he hi
    have hen2 : es'[i] = en := by
      have := Array.getElem?_eq_getElem hi
      rw [hen] at this
      exact (Option.some.inj this).symm
    have hlt : it < s.heap.objs.size := Heap.lt_size he
    refine DT.nextI he ⟨o, hgd, hx, hod⟩ hi fun h' ho hT hz hk => ?_
    refine ⟨_, rfl, wpAny_letOwnedTupleGo_items (s := { s with heap := h' }) ho fun h'' he' sb => ?_⟩
    rw [hen2] at hT he'
    have hT2 : h''.get? s.heap.objs.size = some { cls := .type "tuple", data := .seq #[en.key, en.val] } := (sb.2 _ (Nat.ne_of_gt hlt)).trans hT
    have new : ObjOk X.prog X.w (upd H s.heap.objs.size (.tup [.ref q, v])) h'' s.heap.objs.size (.tup [.ref q, v]) :=
      ⟨by show 2 ≤ sizeLine; decide, [en.key, en.val], .cons (show RelV (V.ref q) en.key from hkey) (.cons hv .nil), _, hT2, rfl, _, rfl⟩
    have J := I.turnedNew (t' := s.toks) (ch := [it]) (fun b ob hb e => (sb.2 b fun z => hb (List.mem_singleton.mpr z)).trans (hk b ob (fun z => hb (List.mem_singleton.mpr z)) e)) hf (Nat.le_refl _) new
    refine ⟨.ref s.heap.objs.size, _, J, rfl, ⟨_, k, q, v, hkv, rfl, I.hok.fresh (Nat.le_refl _), rfl⟩, ⟨en.key, en.val, ?_⟩, fun b hb => ?_⟩
    · rw [← hsz]; exact he'
    · rw [List.mem_singleton] at hb
      rw [hb, upd_ne (Nat.ne_of_lt hlt)]
      exact (hf it (List.mem_singleton.mpr rfl)).1
  done := by
    rintro X rfl rfl rfl hc i pins s σ H E I hf ⟨ok, ov, he⟩ ⟨hd, hi⟩
    obtain ⟨f0, f1, f2, f3, f4, f5⟩ := hf it (List.mem_singleton.mpr rfl)
    obtain ⟨hs, hgd, hx, es', ep', hdt, hsz, ent⟩ := frzN I hd
    obtain ⟨rfl, rfl⟩ := data_eq hod hdt
    rw [← hsz] at he hi
    exact DT.endI (I.ok.hd hc) he ⟨o, hgd, hx, hod⟩ hi fun h' eb => ⟨rfl, I.turned (t' := s.toks) (fun b ob hb e => eb b ob hb e) f0 f1 f3 f4 f5⟩
  self := fun A i s Q E ⟨ok, ov, e⟩ h => by
    have ii : s.TypeIs (.ref it) "dict_itemiterator" := ⟨_, e, rfl⟩
    exact (turn_items (P := P) (w := w) (K := K) (elts := elts) (kk := kk) (tpos := tpos) (d := d) (o := o) (kvs := kvs.map fun p => ((.inl 0 : Key), p.2.2)) it hod).self A i s Q E ⟨ok, ov, by rw [List.length_map]; exact e⟩ h
end
section
variable {X : Cx} {it tg : Expr} {td : TE} {apos cpos tpos : Pos} {elts : List Expr} {kk : Nat}
theorem pi_keysN (he : PE X it td) : PI X tg it (fun σ H R => td σ H fun x H1 => ∃ d o kvs, x = .ref d ∧ H1 d = some (.frz o (DN X.tc d kvs)) ∧ R (ItNk X.tc d o kvs) H1) := ⟨fun pins s σ H R I h =>
  thn (he.run pins s σ H _ I h) fun u s1 ⟨x, H1, I1, rx, d, o, kvs, ex, hd, q⟩ => by
    subst ex
    cases rx
    obtain ⟨hs, hgd, hx, es, ep, hdt, hsz, ent⟩ := frzN I1 hd
    refine iter_keys hs hgd hx hdt (pi_one (tk := s1.toks) I1 _ (turnNk _ hdt) ⟨_, Heap.get?_push_size _ rfl, rfl, ?_⟩ q)
    rw [hsz] <;> rfl⟩
theorem pi_itemsN (he : PE X it td) (hbase : attributeBase it "items" X.env (eval it X.env) = eval it X.env := by rfl) (hline : (apos.endLine == cpos.line) = true := by rfl) : PI X (.Tuple elts kk tpos) (.Call (.Attribute it "items" apos) [] [] cpos)
    (fun σ H R => td σ H fun x H1 => ∃ d o kvs, x = .ref d ∧ H1 d = some (.frz o (DN X.tc d kvs)) ∧ R (ItNi X.tc d o kvs) H1) := by
  refine ⟨fun pins s σ H R I h => wpAny_Call_method (T := "dict") (id := "dict.items") hbase rfl hline PySem.F.plainAttrs_dict PySem.F.slot_dict_items PySem.F.type_dict_items (thn (he.run pins s σ H _ I h) ?_)⟩
  rintro u s1 ⟨x, H1, J, rx, d, o, kvs, rfl, hd, q⟩
  cases rx
  obtain ⟨hs, hgd, hx, es, ep, hdt, hsz, ent⟩ := frzN J hd
  have raw : DT.Raw s1.heap d es ep := ⟨o, hgd, hx, hdt⟩
  have K1 : Inv X pins σ H1 { s1 with heap := s1.heap.push { cls := .type "dict_items", data := .fields #[.ref d] } } := J.kept (t' := s1.toks) fun b ob z => Heap.get?_push_of_some _ z
  have fin : wpAny (model X.prog X.w) X.A (pyIter (.ref s1.heap.objs.size)) (PIE X pins σ (.Tuple elts kk tpos) R) X.xe { s1 with heap := s1.heap.push { cls := .type "dict_items", data := .fields #[.ref d] } } :=
    DT.iterI (d := d) ⟨_, Heap.get?_push_size _ rfl, rfl, rfl⟩ (raw.push _) (pi_one (tk := s1.toks) K1 _ (turnNi _ hdt) ⟨.none, .none, by rw [← hsz]; exact Heap.get?_push_size _ rfl⟩ q)
  refine ⟨raw.typeIs, fun b' e' => by cases e'; exact ⟨o, hgd, hx.2.1⟩, ?_⟩
  show wpAny _ _ (callWith cpos (.builtin "dict.items") [.ref d] [] []) _ X.xe s1
  exact method_meetsIn PySem.F.slot_dict_items PySem.F.entry_dict_items rfl (PySem.evalArgs_none ⟨rfl, raw.typeIs, PySem.F.args_dict_items_1 _, _, DT.meetsItems (es := es) (ep := ep) hs, raw, fin⟩)
end
section
variable {X : Cx} {e a b c o it tg : Expr} {es elts : List Expr} {ss rest : List Stmt} {Γ Γ' Γ1 Γ2 Γ3 : Sl} {Ψ : OD → Sl → Prop} {Φ : Out → Prop} {pos p apos cpos p2 tpos : Pos} {kk : Nat} {ks : NL}
theorem nk_len {kvs : NKV} (h : kvs.map Prod.fst = ks.map Prod.fst) : kvs.length = ks.length := by
  have := congrArg List.length h
  rwa [List.length_map, List.length_map] at this
theorem nk_get {kvs : NKV} (h : kvs.map Prod.fst = ks.map Prod.fst) {i : Nat} {k : NestedKey} {q : Addr} {v : V} (hi : kvs[i]? = some (k, q, v)) : ∃ d, ks[i]? = some (k, d) := by
  have e : (kvs.map Prod.fst)[i]? = some k := by rw [List.getElem?_map, hi]; rfl
  rw [h, List.getElem?_map] at e
  obtain ⟨⟨k', d⟩, h1, h2⟩ := Option.map_eq_some_iff.mp e
  exact ⟨d, by rw [h1]; simpa using h2⟩
theorem isit_keysN {T : TC} {I : Hp} {a : Addr} {ob : Obj} {kvs : NKV} (h : I a = some (.frz ob (DN T a kvs))) (hk : kvs.map Prod.fst = ks.map Prod.fst) (hr : RpL T I (kvs.map fun p => V.ref p.2.1) (ks.map fun q => q.1.data)) : IsIt T (ItNk T a ob kvs) (ks.map fun p => p.1.data) I where
  go := fun i I' H s1 s2 hl => ⟨s2 _ _ (s1 _ _ h), by rw [nk_len hk]; simpa using hl⟩
  stop := fun I' H s1 s2 => ⟨s2 _ _ (s1 _ _ h), by rw [nk_len hk]; simp⟩
  yld := fun i I' H v H' s1 s2 hl hy => by
    obtain ⟨rfl, k, q, w, hi, rfl⟩ := hy
    obtain ⟨d, hd, hh⟩ := hr.get' (i := i) (v := .ref q) (by rw [List.getElem?_map, hi]; rfl)
    exact ⟨I', d, hd, .refl, s2, hh.mono s1⟩
theorem isit_itemsN {T : TC} {I : Hp} {a : Addr} {ob : Obj} {kvs : NKV} (h : I a = some (.frz ob (DN T a kvs))) (hk : kvs.map Prod.fst = ks.map Prod.fst) (hr : RpL T I (kvs.map fun p => V.ref p.2.1) (ks.map fun q => q.1.data)) (hv : RpL T I (kvs.map fun p => p.2.2) (ks.map Prod.snd)) : IsIt T (ItNi T a ob kvs) (ks.map fun p => .tuple [p.1.data, p.2]) I where
  go := fun i I' H s1 s2 hl => ⟨s2 _ _ (s1 _ _ h), by rw [nk_len hk]; simpa using hl⟩
  stop := fun I' H s1 s2 => ⟨s2 _ _ (s1 _ _ h), by rw [nk_len hk]; simp⟩
  yld := fun i I' H v H' s1 s2 hl hy => by
    obtain ⟨t, k, q, w, hi, rfl, hp, rfl⟩ := hy
    obtain ⟨d, hd⟩ := nk_get hk hi
    obtain ⟨d1, hd1, q1⟩ := hr.get' (i := i) (v := .ref q) (by rw [List.getElem?_map, hi]; rfl)
    obtain ⟨d2, hd2, q2⟩ := hv.get' (i := i) (v := w) (by rw [List.getElem?_map, hi]; rfl)
    rw [List.getElem?_map, hd] at hd1 hd2
    cases hd1
    cases hd2
    exact ⟨upd I' t (.tup [.ref q, w]), _, by rw [List.getElem?_map, hd]; rfl, step_frz s2 hp, upd_both s2, .tup (SqT.of upd_same) (.cons ((q1.mono s1).mono (upd_up (s2.free hp))) (.cons ((q2.mono s1).mono (upd_up (s2.free hp))) .nil))⟩
theorem rp_dnD' {T : TC} {I : Hp} {v : V} (hk : KsOk ks) (hne : ks ≠ []) (h : Rp T I v (dnD ks)) : ∃ a ob kvs, v = .ref a ∧ I a = some (.frz ob (DN T a kvs)) ∧ kvs.map Prod.fst = ks.map Prod.fst ∧ RpL T I (kvs.map fun p => V.ref p.2.1) (ks.map fun q => q.1.data) ∧ RpL T I (kvs.map fun p => p.2.2) (ks.map Prod.snd) := by
  unfold dnD at h
  cases h with
  | @dk a ob kvs _ h k r =>
    cases ks with
    | nil => exact absurd rfl hne
    | cons q ks =>
      cases kvs with
      | nil => simp at k
      | cons p kvs =>
        simp only [List.map_cons, List.cons.injEq] at k
        exact absurd k.1 ((hk q List.mem_cons_self).simple p.1)
  | tn _ _ _ q =>
    cases ks with
    | nil => cases q
    | cons p r =>
      have q' : NestedKey.data p.1 = PyData.list [] := congrArg Prod.fst (List.cons.inj q).1
      cases hp : p.1 <;> rw [hp] at q' <;> simp [NestedKey.data] at q'
  | @dn a ob kvs _ h k r s n =>
    refine ⟨a, ob, kvs, rfl, h, ?_, ?_, ?_⟩
    · refine map_inj (f := NestedKey.data) (fun _ _ => nkd_inj) ?_
      rw [List.map_map, List.map_map]
      rw [List.map_map] at k
      exact k.symm
    · rw [List.map_map] at r
      exact r
    · rw [List.map_map] at s
      exact s
/-- for k in d, d locked -/
theorem xi_keysP (ko : KsOk ks) (h : XE X it Γ (.da (dnD ks)) Γ1) : XI X tg it Γ (ks.map fun p => p.1.data) Γ1 := by
  by_cases hne : ks = []
  · subst hne
    exact xi_keys (ks := []) h
  · intro Ψ hq I H σ F en R k
    refine ⟨_, pi_keysN wpE_ok, h (fun r Γ' => r = .da (dnD ks) ∧ Γ' = Γ1) ⟨rfl, rfl⟩ I H σ F en _ ?_⟩
    rintro _ _ I1 H1 v F1 ⟨rfl, rfl⟩ st1 en1
    obtain ⟨B, G, rfl, o, en2, _⟩ := en1.pop
    cases o with
    | da o =>
      obtain ⟨a, ob, kvs, rfl, h1, h2, h3, h4⟩ := rp_dnD' ko hne o
      exact ⟨a, ob, kvs, rfl, en2.sub _ _ h1, k _ _ I1 H1 _ _ hq st1 en2 (isit_keysN h1 h2 h3)⟩
/-- for k, v in d.items(), d locked -/
theorem xi_itemsP (ko : KsOk ks) (h : XE X it Γ (.da (dnD ks)) Γ1) (hbase : attributeBase it "items" X.env (eval it X.env) = eval it X.env := by rfl) (hline : (apos.endLine == cpos.line) = true := by rfl) : XI X (.Tuple elts kk tpos) (.Call (.Attribute it "items" apos) [] [] cpos) Γ (ks.map fun p => .tuple [p.1.data, p.2]) Γ1 := by
  by_cases hne : ks = []
  · subst hne
    exact xi_items (ks := []) h hbase hline
  · intro Ψ hq I H σ F en R k
    refine ⟨_, pi_itemsN wpE_ok hbase hline, h (fun r Γ' => r = .da (dnD ks) ∧ Γ' = Γ1) ⟨rfl, rfl⟩ I H σ F en _ ?_⟩
    rintro _ _ I1 H1 v F1 ⟨rfl, rfl⟩ st1 en1
    obtain ⟨B, G, rfl, o, en2, _⟩ := en1.pop
    cases o with
    | da o =>
      obtain ⟨a, ob, kvs, rfl, h1, h2, h3, h4⟩ := rp_dnD' ko hne o
      exact ⟨a, ob, kvs, rfl, en2.sub _ _ h1, k _ _ I1 H1 _ _ hq st1 en2 (isit_itemsN h1 h2 h3 h4)⟩
end
end TL

/-! TL30: instances of the text's own classes: attributes read and stored, methods called, instances made. -/
namespace TL
open PySem PySem.Spec PyProof.Rows L2

inductive VOB : OD → Addr → List (Str × OD) → (List (Str × OD) → OD) → Prop
  | ob {C : Addr} {fs : List (Str × OD)} : VOB (.ob C fs) C fs (.ob C)
  | pin {v : V} {C : Addr} {fs : List (Str × OD)} : VOB (.pin v (.ob C fs)) C fs fun fs => .pin v (.ob C fs)
def putO (f : Str) (x : OD) : List (Str × OD) → List (Str × OD)
  | [] => [(f, x)]
  | (g, y) :: r => if g = f then (g, x) :: r else (g, y) :: putO f x r
section
variable {T : TC} {I H : Hp} {v : V} {x : OD} {B F : List Addr} {C : Addr} {fs : List (Str × OD)} {mk : List (Str × OD) → OD} {f : Str}
theorem VOB.own (h : VOB x C fs mk) (o : Own T I H v x B) : ∃ p dx fv F, v = .ref p ∧ B = p :: F ∧ H p = some (.ins C dx fv) ∧ I p = none ∧ fv.map Prod.fst = fs.map Prod.fst ∧ OwnL T I H (fv.map Prod.snd) (fs.map Prod.snd) F ∧
    ∀ (I' H' : Hp) (fv' : List (Str × V)) (fs' : List (Str × OD)) (F' : List Addr), H' p = some (.ins C dx fv') → I' p = none → fv'.map Prod.fst = fs'.map Prod.fst → OwnL T I' H' (fv'.map Prod.snd) (fs'.map Prod.snd) F' → Own T I' H' v (mk fs') (p :: F') := by
  cases h with
  | ob => cases o with
    | ob h1 h2 h3 h4 => exact ⟨_, _, _, _, rfl, rfl, h1, h2, h3, h4, fun I' H' fv' fs' F' a b c d => .ob a b c d⟩
  | pin => cases o with
    | pin o => cases o with
      | ob h1 h2 h3 h4 => exact ⟨_, _, _, _, rfl, rfl, h1, h2, h3, h4, fun I' H' fv' fs' F' a b c d => .pin (.ob a b c d)⟩
theorem ob_lookup : ∀ {fv : List (Str × V)} {fs : List (Str × OD)} {F : List Addr} {x : OD}, fv.map Prod.fst = fs.map Prod.fst → OwnL T I H (fv.map Prod.snd) (fs.map Prod.snd) F → fs.lookup f = some x → ∃ v B, fv.lookup f = some v ∧ Own T I H v x B ∧ ∀ b ∈ B, b ∈ F
  | [], [], _, _, _, _, h => by simp at h
  | [], _ :: _, _, _, e, _, _ => by simp at e
  | _ :: _, [], _, _, e, _, _ => by simp at e
  | (g, v) :: fv, (g', y) :: fs, _, x, e, o, h => by
    rw [List.map_cons, List.map_cons, List.cons.injEq] at e
    obtain rfl : g = g' := e.1
    rw [List.map_cons, List.map_cons] at o
    cases o with
    | cons o1 o2 =>
      rw [List.lookup_cons] at h ⊢
      cases hb : f == g with
      | true =>
        rw [hb] at h
        cases h
        exact ⟨v, _, rfl, o1, fun b hb => List.mem_append_left _ hb⟩
      | false =>
        rw [hb] at h
        obtain ⟨w, B, h1, h2, h3⟩ := ob_lookup e.2 o2 h
        exact ⟨w, B, h1, h2, fun b hb => List.mem_append_right _ (h3 b hb)⟩
theorem ob_none : ∀ {fv : List (Str × V)} {fs : List (Str × OD)}, fv.map Prod.fst = fs.map Prod.fst → fs.lookup f = none → fv.lookup f = none
  | [], [], _, _ => rfl
  | [], _ :: _, e, _ => by simp at e
  | _ :: _, [], e, _ => by simp at e
  | (g, v) :: fv, (g', y) :: fs, e, h => by
    rw [List.map_cons, List.map_cons, List.cons.injEq] at e
    obtain rfl : g = g' := e.1
    rw [List.lookup_cons] at h ⊢
    cases hb : f == g with
    | true =>
      rw [hb] at h
      cases h
    | false =>
      rw [hb] at h
      exact ob_none e.2 h
theorem ob_put {r : OD} : ∀ {fv : List (Str × V)} {fs : List (Str × OD)} {F : List Addr}, fv.map Prod.fst = fs.map Prod.fst → OwnL T I H (fv.map Prod.snd) (fs.map Prod.snd) F → Own T I H v r B → (B ++ F).Nodup →
    ∃ F', (putF f v fv).map Prod.fst = (putO f r fs).map Prod.fst ∧ OwnL T I H ((putF f v fv).map Prod.snd) ((putO f r fs).map Prod.snd) F' ∧ F'.Nodup ∧ ∀ b ∈ F', b ∈ B ++ F
  | [], [], _, _, o, ob, nd => by
    cases o
    exact ⟨B ++ [], rfl, .cons ob .nil, nd, fun b hb => hb⟩
  | [], _ :: _, _, e, _, _, _ => by simp at e
  | _ :: _, [], _, e, _, _, _ => by simp at e
  | (g, w) :: fv, (g', y) :: fs, _, e, o, ob, nd => by
    rw [List.map_cons, List.map_cons, List.cons.injEq] at e
    obtain rfl : g = g' := e.1
    rw [List.map_cons, List.map_cons] at o
    cases o with
    | @cons _ _ _ _ B1 F1 o1 o2 =>
      unfold putF putO
      by_cases hg : g = f
      · rw [if_pos hg, if_pos hg]
        refine ⟨B ++ F1, by rw [List.map_cons, List.map_cons, e.2], .cons ob o2, nd.sublist ((List.Sublist.refl B).append (List.sublist_append_right B1 F1)), fun b hb => ?_⟩
        exact (List.mem_append.mp hb).elim (List.mem_append_left _) fun q => List.mem_append_right _ (List.mem_append_right _ q)
      · rw [if_neg hg, if_neg hg]
        obtain ⟨F', h1, h2, h3, h4⟩ := ob_put (r := r) e.2 o2 ob (nd.sublist ((List.Sublist.refl B).append (List.sublist_append_right B1 F1)))
        have hd := List.nodup_append.mp nd
        have hd2 := List.nodup_append.mp hd.2.1
        refine ⟨B1 ++ F', by rw [List.map_cons, List.map_cons, h1], .cons o1 h2, List.nodup_append.mpr ⟨hd2.1, h3, fun a ha b hb q => ?_⟩, fun b hb => ?_⟩
        · subst q
          rcases List.mem_append.mp (h4 a hb) with z | z
          · exact hd.2.2 a z a (List.mem_append_left _ ha) rfl
          · exact hd2.2.2 a ha a z rfl
        · rcases List.mem_append.mp hb with z | z
          · exact List.mem_append_right _ (List.mem_append_left _ z)
          · exact (List.mem_append.mp (h4 b z)).elim (List.mem_append_left _) fun q => List.mem_append_right _ (List.mem_append_right _ q)
end
section
variable {X : Cx} {e a b c o : Expr} {es : List Expr} {rest : List Stmt} {Γ Γ' Γ1 Γ2 : Sl} {Ψ : OD → Sl → Prop} {Φ : Out → Prop} {pos p apos : Pos} {r x y z : OD} {nm f m : Str} {d : PyData} {C : Addr} {fs : List (Str × OD)} {mk : List (Str × OD) → OD}
/-- x.f, x in the i-th slot, f data -/
theorem xe_fld (i : Nat) (c : Cls X.K C) (n : NoAttr X.K C f) (hf : fs.lookup f = some (.da d)) (hx : Γ[i]? = some (some x) := by rfl) (hv : VOB x C fs mk := by first | exact .ob | exact .pin)
    (hN : X.N[i]? = some nm := by rfl) (hvs : Vis X.env.scope nm := by first | exact Or.inl rfl | exact Or.inr (Or.inl rfl) | exact Or.inr (Or.inr rfl)) (h1 : (nm == ("__debug__" : Str)) = false := by decide) (h2 : (nm == ("__classdict__" : Str)) = false := by decide)
    (hb : attributeBase (.Name nm p) f X.env (eval (.Name nm p) X.env) = eval (.Name nm p) X.env := by rfl) : XE X (.Attribute (.Name nm p) f pos) Γ (.da d) Γ := fun Ψ hq I H σ F en Q k => by
  obtain ⟨v, B, e1, o⟩ := en.see hx
  obtain ⟨q, dx, fv, F1, rfl, rfl, g1, g2, g3, g4, _⟩ := hv.own o
  obtain ⟨w, B2, l1, l2, _⟩ := ob_lookup g3 g4 hf
  refine ⟨_, pe_fld (pe_var hN hvs h1 h2) hb, _, e1, q, C, dx, fv, w, rfl, g1, c, n, l1, ?_⟩
  cases l2 with
  | da l2 => exact k _ _ I H w F hq .refl (en.da l2)
/-- x.f = e -/
theorem ws_fld (i : Nat) (h : WE X e Γ fun r Γ1 => ∃ x C fs mk, Γ1[i]? = some (some x) ∧ VOB x C fs mk ∧ Cls X.K C ∧ NoAttr X.K C f ∧ fs.length < 1000 ∧ WSs X rest (Γ1.set i (some (mk (putO f r fs)))) Φ)
    (hN : X.N[i]? = some nm := by rfl) (hvs : Vis X.env.scope nm := by first | exact Or.inl rfl | exact Or.inr (Or.inl rfl) | exact Or.inr (Or.inr rfl)) (h1 : (nm == ("__debug__" : Str)) = false := by decide) (h2 : (nm == ("__classdict__" : Str)) = false := by decide)
    (hs : swapsWith e (some (.Attribute (.Name nm p) f pos)) apos.line X.env = pure false := by rfl) : WSs X (.Assign [.Attribute (.Name nm p) f pos] e apos :: rest) Γ Φ := fun I H σ F en D ek => by
  refine ⟨_, pss_cons (ps_fld (pe_var hN hvs h1 h2) wpE_ok hs) wpSs_ok, h I H σ F en _ ?_⟩
  rintro r Γ1 I1 H1 v F1 ⟨x, C, fs, mk, hx, hv, c, n, hz, hq⟩ st1 en1
  obtain ⟨B, G, rfl, o, en2, _⟩ := en1.pop
  obtain ⟨v', Bo, G', e1, ox, en3, nd3, mem⟩ := en2.take hx
  obtain ⟨q, dx, fv, Fo, rfl, rfl, g1, g2, g3, g4, g5⟩ := hv.own ox
  have ndA := List.nodup_append.mp en1.nd
  have ndO := List.nodup_append.mp nd3
  have ndq : q ∉ Fo ∧ Fo.Nodup := List.nodup_cons.mp ndO.1
  have memG : ∀ b, b ∈ q :: Fo ++ G' → b ∈ G := fun b hb => (mem b).mpr (List.mem_append.mp hb)
  have qB : q ∉ B := fun hb => ndA.2.2 q hb q (memG q (by simp)) rfl
  have nd1 : (B ++ Fo).Nodup := List.nodup_append.mpr ⟨ndA.1, ndq.2, fun a ha b hb z => ndA.2.2 a ha b (memG b (by simp [hb])) z⟩
  obtain ⟨F', k1, k2, k3, k4⟩ := ob_put (f := f) g3 g4 o nd1
  have qF : q ∉ F' := fun hb => (List.mem_append.mp (k4 q hb)).elim qB ndq.1
  have qG : q ∉ G' := fun hb => ndO.2.2 q List.mem_cons_self q hb rfl
  have sub2 : Same I1 (upd H1 q (.ins C dx (putF f v fv))) := fun b u z => by
    rw [upd_ne fun w => by
      rw [w, g2] at z
      cases z]
    exact en2.sub b u z
  have own2 : OwnL X.tc I1 (upd H1 q (.ins C dx (putF f v fv))) ((putF f v fv).map Prod.snd) ((putO f r fs).map Prod.snd) F' := k2.frame (Same.refl _) fun b hb => ⟨upd_ne fun z => qF (z ▸ hb), (k2.cells b hb).2⟩
  have en4 : EnvF X.tc I1 (upd H1 q (.ins C dx (putF f v fv))) σ (Γ1.set i none) G' := ⟨en3.env.frame (Same.refl _) fun b hb => ⟨upd_ne fun z => qG (z ▸ hb), (en3.env.cells b hb).2⟩, en3.nd, sub2⟩
  have ndF : (q :: F' ++ G').Nodup := by
    refine List.nodup_append.mpr ⟨List.nodup_cons.mpr ⟨qF, k3⟩, en3.nd, fun a ha b hb z => ?_⟩
    subst z
    rcases List.mem_cons.mp ha with w | w
    · exact qG (w ▸ hb)
    · rcases List.mem_append.mp (k4 a w) with w | w
      · exact ndA.2.2 a w a (memG a (List.mem_append_right _ hb)) rfl
      · exact ndO.2.2 a (List.mem_cons_of_mem _ w) a hb rfl
  obtain ⟨F5, en5, nd5, m5⟩ := en4.into e1 (g5 I1 _ _ _ F' upd_same g2 k1 own2) ndF
  rw [List.set_set] at en5
  refine ⟨_, e1, q, C, dx, fv, rfl, g1, c, n, by
    have := congrArg List.length g3
    rw [List.length_map, List.length_map] at this
    omega, hq I1 _ σ F5 en5 D (ek.step (st1.trans ?_))⟩
  refine (step_upd (F := B ++ G) (a := q) (List.mem_append_right _ (memG q (by simp)))).of_mem (fun b hb => hb) fun b hb => ?_
  rcases m5 b hb with w | w
  · rcases List.mem_cons.mp w with w | w
    · exact List.mem_append_right _ (memG b (by simp [w]))
    · exact (List.mem_append.mp (k4 b w)).elim (List.mem_append_left _) fun z => List.mem_append_right _ (memG b (by simp [z]))
  · exact List.mem_append_right _ (memG b (List.mem_append_right _ w))
end
/-! ### methods -/
/-- a method of the class at C -/
def DefM (P : Program) (w : World) (K : PySem.W.Frag) (mg : Str → Option Value) (bs : Heap) (k : Nat) (C : Addr) (m : Str) (ps : List Str) (sp : SpD) : Prop :=
  ∃ f fd, FnG P w K mg bs CX0 k f fd ps (mkSp ⟨P, w, K⟩ sp) ∧ Meth K C m f ∧ Binds K fd ps [] ∧ Cls K C
section
variable {X : Cx} {CX : CXT} {k : Nat} {f C : Addr} {fd : FuncData} {ps : List Str} {sp : Sp} {E : XK} {x m : Str} {p pos apos : Pos} {e o : Expr} {es : List Expr} {ta : TE} {t : TA}
theorem pe_methG {pl : Sem Bool} (he : PE X o ta) (c : Cls X.K C) (hm : Meth X.K C m f) (F : FnG X.prog X.w X.K X.mg X.base CX k f fd ps sp) (hr : Room k X.A) (hgd : X.A.guards = some []) (hb : Binds X.K fd ps []) (hx : Passes CX X E) (ha : PA X (e :: es) t)
    (hst : starEach (e :: es) X.env = (false, eval e X.env) :: starEach es X.env := by rfl) (hpl : (backTo pos (starEach es X.env)).any (·.1) = false := by rfl)
    (ht : eval (.Call (.Attribute o m apos) (e :: es) [] pos) X.env = (do
      let ov ← eval o X.env
      standAt apos.atName
      let (f, first) ← holding [ov] (getMethod ov m pl)
      callWith pos f first (backTo pos (starEach (e :: es) X.env)) (backToKw pos (keywordEach [] X.env))) := by rfl) : PE X (.Call (.Attribute o m apos) (e :: es) [] pos) (tMeth C m sp [] E ta t) :=
  ⟨fun pins s σ H Q I h => PySem.W.methodCall_KW (pl := pl) (thn (he.run pins s σ H _ I h) fun u s1 ⟨x, H1, I1, rx, a, dx, fs, ex, ea, l, q⟩ => by
    subst ex
    cases rx
    refine getmeth_ok I1 ea c hm l (PySem.W.callWith_K (first := [.ref a]) (h₀ := X.base) I.ok.mod.kin hm.kp (thn (ha.run pos pins s1 σ H1 _ I1 q) ?_) hst hpl)
    rintro us s2 ⟨vs, H2, I2, r, q2⟩
    rw [List.append_nil] at q2
    exact ⟨I2.kIn, runG (us := .ref a :: us) (vs := .ref a :: vs) F hr hgd hb hx I2 (.cons rfl r) q2⟩) ht⟩
theorem pe_methG0 {pl : Sem Bool} (he : PE X o ta) (c : Cls X.K C) (hm : Meth X.K C m f) (F : FnG X.prog X.w X.K X.mg X.base CX k f fd ps sp) (hr : Room k X.A) (hgd : X.A.guards = some []) (hb : Binds X.K fd ps []) (hx : Passes CX X E)
    (ht : eval (.Call (.Attribute o m apos) [] [] pos) X.env = (do
      let ov ← eval o X.env
      standAt apos.atName
      let (f, first) ← holding [ov] (getMethod ov m pl)
      callWith pos f first (backTo pos (starEach [] X.env)) (backToKw pos (keywordEach [] X.env))) := by rfl) : PE X (.Call (.Attribute o m apos) [] [] pos) (tMeth C m sp [] E ta tNil) :=
  ⟨fun pins s σ H Q I h => PySem.W.methodCall_KW (pl := pl) (thn (he.run pins s σ H _ I h) fun u s1 ⟨x, H1, I1, rx, a, dx, fs, ex, ea, l, q⟩ => by
    subst ex
    cases rx
    exact getmeth_ok I1 ea c hm l (PySem.W.callWith_K0 (first := [.ref a]) I1.kIn hm.kp (runG (us := [.ref a]) (vs := [.ref a]) F hr hgd hb hx I1 (.cons rfl .nil) q))) ht⟩
theorem run_makeG {pins : List (Addr × Obj)} {σ : L2.St} {H : Hp} {s : Shared} {Q : VK} {us : List Value} {vs : List V} (M : Mk X.K C f) (F : FnG X.prog X.w X.K X.mg X.base CX k f fd ps sp) (hr : Room (k + 1) X.A) (hgd : X.A.guards = some []) (hb : Binds X.K fd ps [])
    (hx : Passes CX X E) (I : Inv X pins σ H s) (r : Vals vs us)
    (h : ∀ x dx, H x = none → H dx = none → dx ≠ x → sp (.ref x :: vs) (upd (upd H dx (.own x)) x (.ins C dx [])) (fun v H2 => v = .non ∧ Q (.ref x) H2) E) : wpAny (model X.prog X.w) X.A (call (.ref C) us) (EP X pins σ Q) X.xe s := by
  have hq := h (s.heap.objs.size + 1) s.heap.objs.size (I.hok.fresh (Nat.le_succ _)) (I.hok.fresh (Nat.le_refl _)) (Nat.ne_of_lt (Nat.lt_succ_self _))
  have I2 := Inv.made (C := C) I
  have r2 : Vals (V.ref (s.heap.objs.size + 1) :: vs) (Value.ref (s.heap.objs.size + 1) :: us) := .cons rfl r
  have hl : (Value.ref (s.heap.objs.size + 1) :: us ++ []).length = ps.length := by
    rw [List.append_nil, ← r2.length]
    exact F.arity _ _ _ _ hq
  have bd := hb _ (Value.ref (s.heap.objs.size + 1) :: us) I2.kIn hl
  rw [List.append_nil] at bd
  refine wpAny_call (make_map (f := f) I.kIn M.makes M.init (beq_iff_eq.mp M.fn) (codeAny_mono (F.go _ X.stack _ _ ⟨Value.ref (s.heap.objs.size + 1) :: us, []⟩ (Value.ref (s.heap.objs.size + 1) :: us) _ _ E (hr.make C us []) hgd (I2.env0.make C us []) bd r2 hq) ?_))
  rintro (e | fl) s' hq'
  · exact hx pins σ _ _ e s' I2 hq'
  · cases fl with
    | ret u =>
      obtain ⟨v, H', I3, rv, ev, q3⟩ := I2.after hq'
      subst ev
      exact ⟨rv, ⟨V.ref (s.heap.objs.size + 1), H', I3, rfl, q3⟩⟩
    | next => cases hq'
    | brk => cases hq'
    | cont => cases hq'
theorem pe_makeG0 (M : Mk X.K C f) (F : FnG X.prog X.w X.K X.mg X.base CX k f fd ps sp) (hr : Room (k + 1) X.A) (hgd : X.A.guards = some []) (hg : Gl X x) (hm : X.mg x = some (.ref C)) (hb : Binds X.K fd ps []) (hx : Passes CX X E)
    (hdb : (x == ("__debug__" : Str)) = false := by decide) : PE X (.Call (.Name x p) [] [] pos) (tMake C sp [] E tNil) :=
  ⟨fun pins s σ H Q I h => wpAny_Call_Name_kw (ld_glob I hg hm (PySem.W.callWith_K0 I.kIn M.kp (run_makeG (us := []) (vs := []) M F hr hgd hb hx I .nil h)) hdb)⟩
theorem pe_makeG (M : Mk X.K C f) (F : FnG X.prog X.w X.K X.mg X.base CX k f fd ps sp) (hr : Room (k + 1) X.A) (hgd : X.A.guards = some []) (hg : Gl X x) (hm : X.mg x = some (.ref C)) (hb : Binds X.K fd ps []) (hx : Passes CX X E) (ha : PA X (e :: es) t)
    (hdb : (x == ("__debug__" : Str)) = false := by decide) (he : starEach (e :: es) X.env = (false, eval e X.env) :: starEach es X.env := by rfl) (hpl : (backTo pos (starEach es X.env)).any (·.1) = false := by rfl) : PE X (.Call (.Name x p) (e :: es) [] pos) (tMake C sp [] E t) := by
  refine ⟨fun pins s σ H Q I h => wpAny_Call_Name_kw (ld_glob I hg hm (PySem.W.callWith_K (h₀ := X.base) I.ok.mod.kin M.kp (thn (ha.run pos pins s σ H _ I h) ?_) he hpl) hdb)⟩
  rintro us s1 ⟨vs, H1, I1, r, q⟩
  refine ⟨I1.kIn, run_makeG M F hr hgd hb hx I1 r fun x dx a b c => ?_⟩
  have := q x dx a b c
  rwa [List.append_nil] at this
end
section
variable {X : Cx} {e a b c o : Expr} {es : List Expr} {Γ Γ' Γ1 Γ2 : Sl} {Ψ : OD → Sl → Prop} {pos p apos : Pos} {r x y z : OD} {nm m cn : Str} {d : PyData} {k : Nat} {ps : List Str} {sp : SpD} {C : Addr} {fs : List (Str × OD)} {mk : List (Str × OD) → OD}
/-- x.m(e, ..), x in the i-th slot -/
theorem we_meth (i : Nat) (G : DefM X.prog X.w X.K X.mg X.base k C m ps sp) (hr : Room k X.A) (hgd : X.A.guards = some []) (hno : fs.lookup m = none)
    (h : WR X (e :: es) Γ fun rs refs Γ2 => ∃ as Γ3, getR (none :: rs) (some i :: refs) Γ2 = some (as, Γ3) ∧ sp as fun r as' => Ψ r (repin Γ2 (some i :: refs) (putBack (some i :: refs) as' Γ3)))
    (hx : Γ[i]? = some (some x) := by rfl) (hv : VOB x C fs mk := by first | exact .ob | exact .pin) (hN : X.N[i]? = some nm := by rfl)
    (hvs : Vis X.env.scope nm := by first | exact Or.inl rfl | exact Or.inr (Or.inl rfl) | exact Or.inr (Or.inr rfl)) (h1 : (nm == ("__debug__" : Str)) = false := by decide) (h2 : (nm == ("__classdict__" : Str)) = false := by decide)
    (hst : starEach (e :: es) X.env = (false, eval e X.env) :: starEach es X.env := by rfl) (hpl : (backTo pos (starEach es X.env)).any (·.1) = false := by rfl) {pl : Sem Bool}
    (ht : eval (.Call (.Attribute (.Name nm p) m apos) (e :: es) [] pos) X.env = (do
      let ov ← eval (.Name nm p) X.env
      standAt apos.atName
      let (f, first) ← holding [ov] (getMethod ov m pl)
      callWith pos f first (backTo pos (starEach (e :: es) X.env)) (backToKw pos (keywordEach [] X.env))) := by rfl) : WE X (.Call (.Attribute (.Name nm p) m apos) (e :: es) [] pos) Γ Ψ := fun I H σ F en Q kq => by
  obtain ⟨fa, fd, FG, hm, hb, c⟩ := G
  obtain ⟨v, B0, e1, o⟩ := en.see hx
  obtain ⟨q, dx, fv, F0, rfl, rfl, g1, g2, g3, g4, _⟩ := hv.own o
  refine ⟨_, pe_methG (pe_var hN hvs h1 h2) c hm FG hr hgd hb pass0 wpA_ok hst hpl ht, _, e1, q, dx, fv, rfl, g1, ob_none g3 hno, h I H σ F en _ fun rs refs Γ1 I1 H1 vs F1 hh l1 l2 rk st en1 => ?_⟩
  obtain ⟨as, Γ3, hget, hsp⟩ := hh
  have en1' : EnvF X.tc I1 H1 ((V.ref q :: vs).map some ++ σ) ((none :: rs) ++ Γ1) F1 := ⟨.skip en1.env, en1.nd, en1.sub⟩
  have rk' : RefsOk (some i :: refs) (V.ref q :: vs) σ := rk.some e1
  obtain ⟨F2, en2, m2, l3⟩ := getR_env hget en1' (by simp [l1]) rk'
  have hp := fun j v x (hx : Γ1[j]? = some (some (OD.pin v x))) => pins_ok en1 l1 hx
  rw [List.append_nil]
  refine call_fin (Ψ := fun r Γ => Ψ r (repin Γ1 (some i :: refs) Γ)) hsp (by rw [l3]; simp [l1]) rk' (st.trans (Step.less m2)) en2 fun r Γ' I' H' v F' hq st' en' => ?_
  obtain ⟨B, G, rfl, o, en3, up⟩ := en'.pop
  obtain ⟨F5, en5, m5⟩ := repin_env (refs := some i :: refs) hp en3
  obtain ⟨en6, st6, _⟩ := up (Step.less m5) en5
  exact kq r _ I' H' v _ hq (st'.trans st6) en6
theorem we_meth0 (i : Nat) (G : DefM X.prog X.w X.K X.mg X.base k C m ps sp) (hr : Room k X.A) (hgd : X.A.guards = some []) (hno : fs.lookup m = none)
    (h : ∃ as Γ3, getR [none] [some i] Γ = some (as, Γ3) ∧ sp as fun r as' => Ψ r (repin Γ [some i] (putBack [some i] as' Γ3)))
    (hx : Γ[i]? = some (some x) := by rfl) (hv : VOB x C fs mk := by first | exact .ob | exact .pin) (hN : X.N[i]? = some nm := by rfl)
    (hvs : Vis X.env.scope nm := by first | exact Or.inl rfl | exact Or.inr (Or.inl rfl) | exact Or.inr (Or.inr rfl)) (h1 : (nm == ("__debug__" : Str)) = false := by decide) (h2 : (nm == ("__classdict__" : Str)) = false := by decide) {pl : Sem Bool}
    (ht : eval (.Call (.Attribute (.Name nm p) m apos) [] [] pos) X.env = (do
      let ov ← eval (.Name nm p) X.env
      standAt apos.atName
      let (f, first) ← holding [ov] (getMethod ov m pl)
      callWith pos f first (backTo pos (starEach [] X.env)) (backToKw pos (keywordEach [] X.env))) := by rfl) : WE X (.Call (.Attribute (.Name nm p) m apos) [] [] pos) Γ Ψ := fun I H σ F en Q kq => by
  obtain ⟨fa, fd, FG, hm, hb, c⟩ := G
  obtain ⟨v, B0, e1, o⟩ := en.see hx
  obtain ⟨q, dx, fv, F0, rfl, rfl, g1, g2, g3, g4, _⟩ := hv.own o
  refine ⟨_, pe_methG0 (pe_var hN hvs h1 h2) c hm FG hr hgd hb pass0 ht, _, e1, q, dx, fv, rfl, g1, ob_none g3 hno, ?_⟩
  obtain ⟨as, Γ3, hget, hsp⟩ := h
  have en1' : EnvF X.tc I H (([V.ref q] : List V).map some ++ σ) ([none] ++ Γ) F := ⟨.skip en.env, en.nd, en.sub⟩
  have rk' : RefsOk [some i] [V.ref q] σ := RefsOk.some e1 (fun k i e => by simp at e)
  obtain ⟨F2, en2, m2, l3⟩ := getR_env hget en1' rfl rk'
  have hp := fun j v x (hx : Γ[j]? = some (some (OD.pin v x))) => pins_ok (rs := []) (vs := []) (σ := σ) en rfl hx
  refine call_fin (Ψ := fun r Γ' => Ψ r (repin Γ [some i] Γ')) hsp (by rw [l3]; rfl) rk' (Step.less m2) en2 fun r Γ' I' H' v F' hq st' en' => ?_
  obtain ⟨B, G, rfl, o, en3, up⟩ := en'.pop
  obtain ⟨F5, en5, m5⟩ := repin_env (refs := [some i]) hp en3
  obtain ⟨en6, st6, _⟩ := up (Step.less m5) en5
  exact kq r _ I' H' v _ hq (st'.trans st6) en6
/-- the class at C, made by its __init__ -/
def DefI (P : Program) (w : World) (K : PySem.W.Frag) (mg : Str → Option Value) (bs : Heap) (k : Nat) (cn : Str) (C : Addr) (ps : List Str) (sp : SpD) : Prop :=
  ∃ f fd, FnG P w K mg bs CX0 k f fd ps (mkSp ⟨P, w, K⟩ sp) ∧ Mk K C f ∧ Binds K fd ps [] ∧ mg cn = some (.ref C)
/-- what __init__ answers -/
def spNew (C : Addr) (sp : SpD) (rs : List OD) (Ψ : OD → Prop) : Prop := sp (.ob C [] :: rs) fun r as' => r = .da .none ∧ ∃ y ys, as' = y :: ys ∧ Ψ y
theorem make_fin {I H I1 H1 : Hp} {σ : L2.St} {F F1 : List Addr} {Q : VK} {rs : List OD} {vs : List V} {x dx : Addr} (h : spNew C sp rs fun y => Ψ y Γ1) (l1 : vs.length = rs.length) (st : Step I H F I1 H1 F1) (en1 : EnvF X.tc I1 H1 (vs.map some ++ σ) (rs.map some ++ Γ1) F1)
    (hx : H1 x = none) (hdx : H1 dx = none) (ne : dx ≠ x)
    (k : ∀ (r : OD) (Γ' : Sl) (I' H' : Hp) (v : V) (F' : List Addr), Ψ r Γ' → Step I H F I' H' F' → EnvF X.tc I' H' (some v :: σ) (some r :: Γ') F' → Q v H') : mkSp X.tc sp (.ref x :: vs) (upd (upd H1 dx (.own x)) x (.ins C dx [])) (fun v H2 => v = .non ∧ Q (.ref x) H2) E0 := by
  generalize hn : upd (upd H1 dx (.own x)) x (.ins C dx []) = Hn
  have at_ : Hn x = some (.ins C dx []) := by rw [← hn, upd_same]
  have off : ∀ b u, H1 b = some u → Hn b = some u := fun b u e => by rw [← hn, upd_ne (ne_of_none e hx), upd_ne (ne_of_none e hdx)]; exact e
  have sub1 : Same I1 Hn := fun b u e => off b u (en1.sub b u e)
  have Ix : I1 x = none := en1.sub.free hx
  obtain ⟨B, G, rfl, ol, en2⟩ := en1.popL l1
  have hd := List.nodup_append.mp en1.nd
  have keep : ∀ b ∈ B ++ G, Hn b = H1 b ∧ I1 b = none := fun b hb => by
    rcases List.mem_append.mp hb with z | z
    · obtain ⟨⟨u, e⟩, i⟩ := ol.cells b z
      exact ⟨(off b u e).trans e.symm, i⟩
    · obtain ⟨⟨u, e⟩, i⟩ := en2.env.cells b z
      exact ⟨(off b u e).trans e.symm, i⟩
  have nx : x ∉ B ++ G := fun hb => by
    have := (keep x hb).1
    rw [at_, hx] at this
    cases this
  have ol2 : OwnL X.tc I1 Hn (.ref x :: vs) (.ob C [] :: rs) ([x] ++ B) := .cons (.ob (fv := []) (fs := []) at_ Ix rfl .nil) (ol.frame (Same.refl _) fun b hb => keep b (List.mem_append_left _ hb))
  refine ⟨I1, .ob C [] :: rs, [x] ++ B, _, ol2, List.nodup_cons.mpr ⟨fun z => nx (List.mem_append_left _ z), hd.1⟩, sub1, h, ?_⟩
  rintro r as' I2 H2 v B2 ⟨rfl, y, ys, rfl, hq⟩ st2 o2 nd2 sub2
  cases o2 with
  | cons orr oas => cases orr with
    | da hr =>
      cases hr
      refine ⟨rfl, ?_⟩
      rename_i F2
      cases oas with
      | @cons _ _ _ _ By Bs oy oys =>
        have kp : ∀ b ∈ G, H2 b = Hn b ∧ I2 b = none ∧ b ∉ By := fun b hb => by
          obtain ⟨⟨ob, h3⟩, h4⟩ := en2.env.cells b hb
          obtain ⟨h5, h6, h7⟩ := st2.oth b ob (off b ob h3) h4 fun q => (List.mem_append.mp q).elim (fun z => nx (List.mem_append_right _ (List.mem_singleton.mp z ▸ hb))) fun z => hd.2.2 b z b hb rfl
          exact ⟨h5.trans (off b ob h3).symm, h6, fun z => h7 (by simp [z])⟩
        have nd3 := List.nodup_append.mp (show (By ++ Bs).Nodup from nd2)
        refine k y Γ1 I2 H2 (.ref x) (By ++ G) hq ?_ ⟨.cons oy (en2.env.frame st2.inc fun b hb => ⟨(kp b hb).1.trans (keep b (List.mem_append_right _ hb)).1, (kp b hb).2.1⟩), List.nodup_append.mpr ⟨nd3.1, hd.2.1, fun a ha b hb z => ?_⟩, sub2⟩
        · refine st.trans ⟨st2.inc, fun b ob e i n => ?_⟩
          rw [List.mem_append, not_or] at n
          have nbx : b ≠ x := fun z => by rw [z, hx] at e; cases e
          obtain ⟨h3, h4, h5⟩ := st2.oth b ob (off b ob e) i fun q => (List.mem_append.mp q).elim (fun z => nbx (List.mem_singleton.mp z)) n.1
          exact ⟨h3, h4, fun q => (List.mem_append.mp q).elim (fun z => h5 (by simp [z])) n.2⟩
        · subst z
          exact (kp a hb).2.2 ha
theorem we_make0 (G : DefI X.prog X.w X.K X.mg X.base k cn C ps sp) (hr : Room (k + 1) X.A) (hgd : X.A.guards = some []) (h : spNew C sp [] fun y => Ψ y Γ) (hg : Gl X cn := by rfl) (hdb : (cn == ("__debug__" : Str)) = false := by decide) : WE X (.Call (.Name cn p) [] [] pos) Γ Ψ := fun I H σ F en Q kq => by
  obtain ⟨f, fd, FG, M, hb, hm⟩ := G
  exact ⟨_, pe_makeG0 M FG hr hgd hg hm hb pass0 hdb, fun x dx hx hdx ne => make_fin (vs := []) (rs := []) h rfl .refl en hx hdx ne kq⟩
theorem we_make (G : DefI X.prog X.w X.K X.mg X.base k cn C ps sp) (hr : Room (k + 1) X.A) (hgd : X.A.guards = some []) (h : WA X (e :: es) Γ fun rs _ Γ1 => spNew C sp rs fun y => Ψ y Γ1) (hg : Gl X cn := by rfl) (hdb : (cn == ("__debug__" : Str)) = false := by decide)
    (he : starEach (e :: es) X.env = (false, eval e X.env) :: starEach es X.env := by rfl) (hpl : (backTo pos (starEach es X.env)).any (·.1) = false := by rfl) : WE X (.Call (.Name cn p) (e :: es) [] pos) Γ Ψ := fun I H σ F en Q kq => by
  obtain ⟨f, fd, FG, M, hb, hm⟩ := G
  exact ⟨_, pe_makeG M FG hr hgd hg hm hb pass0 wpA_ok hdb he hpl, h I H σ F en _ fun rs refs Γ1 I1 H1 vs F1 hh l1 l2 rk st en1 x dx hx hdx ne => by
    rw [List.append_nil]
    exact make_fin hh l1 st en1 hx hdx ne kq⟩
end
end TL

/-! TL31: isinstance, constants of the module, list.insert, list.pop(i), own things within own lists. -/
namespace TL
open PySem PySem.Spec PyProof.Rows L2

/-! ### isinstance -/
def tyD : PyData → String
  | .none => "NoneType"
  | .bool _ => "bool"
  | .int _ => "int"
  | .str _ => "str"
  | .list _ => "list"
  | .tuple _ => "tuple"
  | .dict _ => "dict"
def noDict : PyData → Bool
  | .dict _ => false
  | _ => true
theorem tyx_of {T : TC} {I H : Hp} {v : V} {d : PyData} (h : Rp T I v d) (hd : noDict d = true) (s : Same I H) : TyX T.K H v (.type (tyD d)) := by
  cases h with
  | non => exact .base .non
  | bl b => exact .base (.bl b)
  | int i => exact .base (.int i)
  | str x => exact .base (.str x)
  | lst q _ =>
    rcases q with (q | ⟨o, q⟩) | ⟨o, its, n, q, c, _⟩
    · exact .base (.lst (s _ _ q))
    · exact .base (.frz (s _ _ q))
    · exact .kList q c
  | tup q _ =>
    rcases q with (q | ⟨o, q⟩) | ⟨o, its, n, q, c, _⟩
    · exact .base (.tup (s _ _ q))
    · exact .fTuple (s _ _ q)
    · exact .kTuple q c
  | dk _ _ _ => cases hd
  | dn _ _ _ _ _ => cases hd
  | tn _ _ _ _ => cases hd
/-- is a value of type t one of type c -/
def isT (t c : String) : Bool := t == c || (t == "bool" && c == "int")
theorem kit_isT {K : PySem.W.Frag} {t c : String} (ht : t ∈ ["NoneType", "bool", "int", "str", "list", "tuple"]) (hc : c ∈ ["int", "bool", "str", "tuple"]) : PySem.W.kitOne K (.type t) (.type c) = some (isT t c) := by
  simp only [List.mem_cons, List.not_mem_nil, or_false] at ht hc
  rcases ht with rfl | rfl | rfl | rfl | rfl | rfl <;> rcases hc with rfl | rfl | rfl | rfl <;> rfl
section
variable {X : Cx} {e a b c o : Expr} {es : List Expr} {rest : List Stmt} {Γ Γ' Γ1 Γ2 : Sl} {Ψ : OD → Sl → Prop} {Φ : Out → Prop} {pos p apos cpos p2 : Pos} {r x y z : OD} {nm n2 f m : Str} {d : PyData} {ds : List PyData} {mk : List PyData → OD}
theorem tyD_mem (hd : noDict d = true) : tyD d ∈ ["NoneType", "bool", "int", "str", "list", "tuple"] := by
  cases d with
  | dict _ => cases hd
  | _ => simp [tyD]
theorem xe_isi {Ty : String} (B : Blt X.mg) (hT : X.mg n2 = none) (hv : bootBuiltins n2 = some (.type Ty)) (hc : Ty ∈ ["int", "bool", "str", "tuple"]) (ha : XE X a Γ (.da d) Γ1) (hd : noDict d = true := by rfl) (hg : Gl X "isinstance" := by rfl) (hg2 : Gl X n2 := by rfl)
    (hn : n2 ≠ "__name__" := by decide) (hdb : (n2 == ("__debug__" : Str)) = false := by decide)
    (he : starEach [a, .Name n2 p2] X.env = (false, eval a X.env) :: starEach [.Name n2 p2] X.env := by rfl) (he2 : starEach [.Name n2 p2] X.env = (false, eval (.Name n2 p2) X.env) :: starEach [] X.env := by rfl) (hpl : (backTo pos (starEach [.Name n2 p2] X.env)).any (·.1) = false := by rfl) :
    XE X (.Call (.Name "isinstance" p) [a, .Name n2 p2] [] pos) Γ (.da (.bool (isT (tyD d) Ty))) Γ1 := fun Ψ hq I H σ F en Q k => by
  refine ⟨_, pe_callB call_isi hg B.isinstance (by decide +kernel) (pa_cons wpE_ok (pa_cons (pe_bltn (v := .ty Ty) hg2 hT hv rfl hn hdb) pa_nil he2) he) (by decide) (by decide) he hpl, ha (fun r Γ' => r = .da d ∧ Γ' = Γ1) ⟨rfl, rfl⟩ I H σ F en _ ?_⟩
  rintro _ _ I1 H1 v F1 ⟨rfl, rfl⟩ st1 en1
  obtain ⟨B', G, rfl, oo, en2, _⟩ := en1.pop
  cases oo with
  | da hh => exact ⟨v, .ty Ty, .type (tyD d), .type Ty, isT (tyD d) Ty, rfl, .ty Ty, tyx_of hh hd en2.sub, kit_isT (tyD_mem hd) hc, k _ _ I1 H1 _ _ hq st1 (en2.da (.bl _))⟩
theorem xe_isInt (B : Blt X.mg) (ha : XE X a Γ (.da d) Γ1) (hd : noDict d = true := by rfl) (hg : Gl X "isinstance" := by rfl) (hg2 : Gl X "int" := by rfl)
    (he : starEach [a, .Name "int" p2] X.env = (false, eval a X.env) :: starEach [.Name "int" p2] X.env := by rfl) (he2 : starEach [.Name "int" p2] X.env = (false, eval (.Name "int" p2) X.env) :: starEach [] X.env := by rfl) (hpl : (backTo pos (starEach [.Name "int" p2] X.env)).any (·.1) = false := by rfl) :
    XE X (.Call (.Name "isinstance" p) [a, .Name "int" p2] [] pos) Γ (.da (.bool (isT (tyD d) "int"))) Γ1 := xe_isi B B.int (by decide +kernel) (by decide) ha hd hg hg2 (by decide) (by decide) he he2 hpl
theorem xe_isBool (B : Blt X.mg) (ha : XE X a Γ (.da d) Γ1) (hd : noDict d = true := by rfl) (hg : Gl X "isinstance" := by rfl) (hg2 : Gl X "bool" := by rfl)
    (he : starEach [a, .Name "bool" p2] X.env = (false, eval a X.env) :: starEach [.Name "bool" p2] X.env := by rfl) (he2 : starEach [.Name "bool" p2] X.env = (false, eval (.Name "bool" p2) X.env) :: starEach [] X.env := by rfl) (hpl : (backTo pos (starEach [.Name "bool" p2] X.env)).any (·.1) = false := by rfl) :
    XE X (.Call (.Name "isinstance" p) [a, .Name "bool" p2] [] pos) Γ (.da (.bool (isT (tyD d) "bool"))) Γ1 := xe_isi B B.bool (by decide +kernel) (by decide) ha hd hg hg2 (by decide) (by decide) he he2 hpl
theorem xe_isStr (B : Blt X.mg) (ha : XE X a Γ (.da d) Γ1) (hd : noDict d = true := by rfl) (hg : Gl X "isinstance" := by rfl) (hg2 : Gl X "str" := by rfl)
    (he : starEach [a, .Name "str" p2] X.env = (false, eval a X.env) :: starEach [.Name "str" p2] X.env := by rfl) (he2 : starEach [.Name "str" p2] X.env = (false, eval (.Name "str" p2) X.env) :: starEach [] X.env := by rfl) (hpl : (backTo pos (starEach [.Name "str" p2] X.env)).any (·.1) = false := by rfl) :
    XE X (.Call (.Name "isinstance" p) [a, .Name "str" p2] [] pos) Γ (.da (.bool (isT (tyD d) "str"))) Γ1 := xe_isi B B.str (by decide +kernel) (by decide) ha hd hg hg2 (by decide) (by decide) he he2 hpl
theorem xe_isTup (B : Blt X.mg) (ha : XE X a Γ (.da d) Γ1) (hd : noDict d = true := by rfl) (hg : Gl X "isinstance" := by rfl) (hg2 : Gl X "tuple" := by rfl)
    (he : starEach [a, .Name "tuple" p2] X.env = (false, eval a X.env) :: starEach [.Name "tuple" p2] X.env := by rfl) (he2 : starEach [.Name "tuple" p2] X.env = (false, eval (.Name "tuple" p2) X.env) :: starEach [] X.env := by rfl) (hpl : (backTo pos (starEach [.Name "tuple" p2] X.env)).any (·.1) = false := by rfl) :
    XE X (.Call (.Name "isinstance" p) [a, .Name "tuple" p2] [] pos) Γ (.da (.bool (isT (tyD d) "tuple"))) Γ1 := xe_isi B B.tuple (by decide +kernel) (by decide) ha hd hg hg2 (by decide) (by decide) he he2 hpl

/-! ### a number of the module -/
theorem xe_globI {i : Int} (hm : ∃ t, X.mg nm = some (.int i t)) (hg : Gl X nm := by rfl) (hdb : (nm == ("__debug__" : Str)) = false := by decide) : XE X (.Name nm p) Γ (.da (.int i)) Γ := fun Ψ hq => by
  obtain ⟨t, hm⟩ := hm
  exact we_const (fun _ => .int i) (pe_glob (v := .int i) hg hm ⟨t, rfl⟩ hdb) hq

/-! ### list.insert, list.pop(i) -/
theorem RpL.insertAt {T : TC} {I : Hp} {v : V} {d : PyData} (h : Rp T I v d) {vs : List V} {ds : List PyData} (r : RpL T I vs ds) (n : Nat) : RpL T I (vs.take n ++ [v] ++ vs.drop n) (ds.take n ++ [d] ++ ds.drop n) :=
  RpL.append (RpL.append (r.take n) (.cons h .nil)) (r.drop n)
theorem RpL.eraseAt {T : TC} {I : Hp} : ∀ {vs : List V} {ds : List PyData} (_ : RpL T I vs ds) (n : Nat), RpL T I (vs.eraseIdx n) (ds.eraseIdx n)
  | _, _, .nil, _ => .nil
  | _, _, .cons _ r, 0 => r
  | _, _, .cons h r, n + 1 => .cons h (RpL.eraseAt r n)
/-- xs.insert(a, b), xs an own list in a slot, its place and its item drawn -/
theorem we_insert (i : Nat) (h : WE X a Γ fun r Γ1 => ∃ j : Int, r = .da (.int j) ∧ WE X b Γ1 fun r2 Γ2 => ∃ d x ds mk, r2 = .da d ∧ Γ2[i]? = some (some x) ∧ VLL x ds mk ∧ ds.length < sizeLine ∧ 0 ≤ j ∧ j < 2 ^ 63 ∧ Ψ (.da .none) (Γ2.set i (some (mk (ds.take j.toNat ++ [d] ++ ds.drop j.toNat)))))
    (hx : Γ[i]? = some (some x) := by rfl) (hv : VLL x ds mk := by first | exact .ll | exact .pin) (hN : X.N[i]? = some nm := by rfl) (hvs : Vis X.env.scope nm := by first | exact Or.inl rfl | exact Or.inr (Or.inl rfl) | exact Or.inr (Or.inr rfl)) (h1 : (nm == ("__debug__" : Str)) = false := by decide) (h2 : (nm == ("__classdict__" : Str)) = false := by decide)
    (hst : starEach [a, b] X.env = (false, eval a X.env) :: starEach [b] X.env := by rfl) (hst2 : starEach [b] X.env = (false, eval b X.env) :: starEach [] X.env := by rfl)
    (hb : attributeBase (.Name nm p) "insert" X.env (eval (.Name nm p) X.env) = eval (.Name nm p) X.env := by rfl)
    (hfew : ((backTo pos (starEach [a, b] X.env)).all (fun x => !x.1) && (backToKw pos (keywordEach [] X.env)).all (fun x => x.1.isSome)
      && decide (([a, b] : List Expr).length + ([] : List Keyword).length + (if ([] : List Keyword).isEmpty then 0 else 1) < 30)) = true := by rfl) (hline : (apos.endLine == pos.line) = true := by rfl) (hs2 : (backTo pos (starEach [b] X.env)).any (·.1) = false := by rfl) :
    WE X (.Call (.Attribute (.Name nm p) "insert" apos) [a, b] [] pos) Γ Ψ := fun I H σ F en Q k => by
  refine ⟨_, pe_bm PySem.F.plainAttrs_list PySem.F.slot_list_insert PySem.F.type_list_insert mt_insert (pe_var hN hvs h1 h2) (pa_cons wpE_ok (pa_cons wpE_ok pa_nil hst2) hst) hb hfew hline hst hs2, ?_⟩
  obtain ⟨q, vs, e1, g1, _, _⟩ := en.ll hx hv
  refine ⟨_, e1, .inl ⟨rfl, _, SqL.of g1⟩, h I H σ F en _ ?_⟩
  rintro r Γ1 I1 H1 v F1 ⟨j, rfl, h3⟩ st1 en1
  obtain ⟨B, G, rfl, oo, en2, _⟩ := en1.pop
  cases oo with
  | da hj =>
    cases hj
    refine h3 I1 H1 σ _ en2 _ ?_
    rintro r2 Γ2 I2 H2 u F2 ⟨d, x, ds, mk, rfl, hx2, hv2, hz, j0, j1, hq⟩ st2 en3
    obtain ⟨B2, G2, rfl, o2, en4, _⟩ := en3.pop
    cases o2 with
    | da hd =>
      obtain ⟨q', vs', e1', g3, g4, g5⟩ := en4.ll hx2 hv2
      rw [e1] at e1'
      cases e1'
      obtain ⟨F5, en5, st5⟩ := g5 _ _ (RpL.insertAt hd g4 j.toNat)
      exact ⟨q, vs', j, u, rfl, rfl, g3, by rw [g4.length]; exact hz, j0, j1, k _ _ I2 _ _ F5 hq ((st1.trans st2).trans st5) (en5.da .non)⟩
end

/-! ### own things within an own list -/
section
variable {T : TC} {I H : Hp}
theorem ownL_at : ∀ {vs : List V} {xs : List OD} {F : List Addr} {j : Nat} {x : OD}, OwnL T I H vs xs F → xs[j]? = some x → ∃ v B G, vs[j]? = some v ∧ Own T I H v x B ∧ F.Perm (B ++ G) ∧ (∀ b ∈ G, (∃ o, H b = some o) ∧ I b = none) ∧
    ∀ {I' H' : Hp} {x' : OD} {B' : List Addr}, Same I I' → (∀ b ∈ G, H' b = H b ∧ I' b = none) → Own T I' H' v x' B' → ∃ F', OwnL T I' H' vs (xs.set j x') F' ∧ F'.Perm (B' ++ G)
  | _, _, _, j, x, .nil, e => by simp at e
  | _, _, _, 0, x, .cons (F := F) (G := G) o r, e => by
    simp at e
    subst e
    exact ⟨_, F, G, rfl, o, List.Perm.refl _, r.cells, fun s k o' => ⟨_, .cons o' (r.frame s k), List.Perm.refl _⟩⟩
  | _, _, _, j + 1, x, .cons (F := F) (G := G) o r, e => by
    obtain ⟨v, B, G', h1, h2, h3, h4, h5⟩ := ownL_at (j := j) r (by simpa using e)
    have p1 : ∀ B' : List Addr, (F ++ (B' ++ G')).Perm (B' ++ (F ++ G')) := fun B' => by
      rw [← List.append_assoc, ← List.append_assoc]
      exact List.perm_append_comm.append_right G'
    refine ⟨v, B, F ++ G', by simpa using h1, h2, ((List.Perm.refl F).append h3).trans (p1 B), fun b hb => (List.mem_append.mp hb).elim (o.cells b) (h4 b), fun s k o' => ?_⟩
    obtain ⟨F', q1, q2⟩ := h5 s (fun b hb => k b (List.mem_append_right _ hb)) o'
    exact ⟨_, .cons (o.frame s fun b hb => k b (List.mem_append_left _ hb)) q1, ((List.Perm.refl F).append q2).trans (p1 _)⟩
/-- the j-th item of the own list in the i-th slot -/
theorem EnvF.item {σ : L2.St} {Γ : Sl} {F : List Addr} {i j : Nat} {xs : List OD} {x : OD} (en : EnvF T I H σ Γ F) (hx : Γ[i]? = some (some (.ls xs))) (hj : xs[j]? = some x) : ∃ p vs v B G, σ[i]? = some (some (.ref p)) ∧ H p = some (.lst vs) ∧ vs.length = xs.length ∧ vs[j]? = some v ∧ Own T I H v x B ∧ F.Perm (B ++ G) ∧
    (∀ b ∈ G, (∃ o, H b = some o) ∧ I b = none) ∧ ∀ {I' H' : Hp} {x' : OD} {B' : List Addr}, Same I I' → (∀ b ∈ G, H' b = H b ∧ I' b = none) → Same I' H' → Own T I' H' v x' B' → (B' ++ G).Nodup → ∃ F', EnvF T I' H' σ (Γ.set i (some (.ls (xs.set j x')))) F' ∧ ∀ b ∈ F', b ∈ B' ∨ b ∈ G := by
  have hl : i < Γ.length := (List.getElem?_eq_some_iff.mp hx).1
  obtain ⟨v0, A, B0, C, e1, rfl, o, _⟩ := en.env.at hx
  obtain ⟨A2, B2, C2, e2, kk, _, _⟩ := en.env.put hl
  cases o with
  | @ls p vs _ F1 h1 h2 h3 =>
    obtain ⟨v, B, G1, g1, g2, g3, g4, g5⟩ := ownL_at h3 hj
    -- the frame apart from the list
    obtain ⟨v9, B9, G9, e9, o9, en9, nd9, mem9⟩ := en.take hx
    rw [e1] at e9
    cases e9
    cases o9 with
    | @ls _ vs9 _ F9 k1 k2 k3 =>
      rw [h1] at k1
      cases k1
      obtain ⟨v8, B8, G8, l1, l2, l3, l4, l5⟩ := ownL_at k3 hj
      have p9 : (A ++ (p :: F1 ++ C)).Perm (p :: F9 ++ G9) := by
        refine (List.perm_ext_iff_of_nodup en.nd nd9).mpr fun b => ?_
        rw [mem9 b, List.mem_append]
      have pm : (p :: F9 ++ G9).Perm (B8 ++ (p :: (G8 ++ G9))) := by
        have q1 : (p :: F9 ++ G9).Perm (p :: (B8 ++ G8) ++ G9) := (l3.cons p).append_right G9
        refine q1.trans ?_
        rw [List.cons_append, List.append_assoc]
        exact List.perm_middle.symm
      refine ⟨p, vs, v8, B8, p :: (G8 ++ G9), e1, h1, h3.length, l1, l2, p9.trans pm, fun b hb => ?_, fun {I' H' x' B'} s k sub o' nd' => ?_⟩
      · rcases List.mem_cons.mp hb with rfl | hb
        · exact ⟨⟨_, h1⟩, h2⟩
        · exact (List.mem_append.mp hb).elim (l4 b) (en9.env.cells b)
      · obtain ⟨F', q1, q2⟩ := l5 s (fun b hb => k b (List.mem_cons_of_mem _ (List.mem_append_left _ hb))) o'
        have own' : Own T I' H' (.ref p) (.ls (xs.set j x')) (p :: F') := .ls ((k p List.mem_cons_self).1.trans h1) (k p List.mem_cons_self).2 q1
        have en' : EnvF T I' H' σ (Γ.set i none) G9 := ⟨en9.env.frame s fun b hb => k b (List.mem_cons_of_mem _ (List.mem_append_right _ hb)), en9.nd, sub⟩
        have pn : (p :: F' ++ G9).Perm (B' ++ (p :: (G8 ++ G9))) := by
          have r1 : (p :: F' ++ G9).Perm (p :: (B' ++ G8) ++ G9) := (q2.cons p).append_right G9
          refine r1.trans ?_
          rw [List.cons_append, List.append_assoc]
          exact List.perm_middle.symm
        have ndn : (p :: F' ++ G9).Nodup := pn.nodup_iff.mpr nd'
        obtain ⟨F3, en3, nd3, m3⟩ := en'.into e1 own' ndn
        rw [List.set_set] at en3
        refine ⟨F3, en3, fun b hb => ?_⟩
        exact List.mem_append.mp (pn.subset ((m3 b hb).elim (List.mem_append_left _) (List.mem_append_right _)))
/-- the j-th item of the own list in the i-th slot, seen otherwise -/
theorem we_itemConv {X : Cx} {e : Expr} {Γ : Sl} {Ψ : OD → Sl → Prop} (i j : Nat) {xs : List OD} {x : OD} {ι : Type} {y : ι → OD} (cv : ∀ (I H : Hp) (v : V) (B : List Addr), Own X.tc I H v x B → ∃ k, Own X.tc I H v (y k) B) (hx : Γ[i]? = some (some (.ls xs))) (hj : xs[j]? = some x)
    (h : ∀ k, WE X e (Γ.set i (some (.ls (xs.set j (y k))))) Ψ) : WE X e Γ Ψ := fun I H σ F en Q kq => by
  obtain ⟨p, vs, v, B, G, e1, h1, l1, hv, o, pm, cl, up⟩ := en.item hx hj
  obtain ⟨k, oy⟩ := cv I H v B o
  obtain ⟨F', en', m⟩ := up (Same.refl I) (fun b hb => ⟨rfl, (cl b hb).2⟩) en.sub oy (pm.nodup_iff.mp en.nd)
  exact h k I H σ F' en' Q fun r Γ' I' H' v F2 q st => kq r Γ' I' H' v F2 q ((Step.less fun b hb => pm.symm.subset (List.mem_append.mpr (m b hb))).trans st)
end
section
variable {X : Cx} {e a b c o : Expr} {es : List Expr} {Γ Γ' Γ1 Γ2 : Sl} {Ψ : OD → Sl → Prop} {pos p apos cpos p2 : Pos} {r x y z : OD} {nm fnm : Str} {d : PyData} {ds : List PyData} {xs : List OD} {k : Nat} {ps : List Str} {sp : SpD}
/-- f(xs[b], e, ..): the item handed over, the rest data -/
theorem we_fnIx (i j : Nat) (G : Def X.prog X.w X.K X.mg X.base k fnm ps sp) (hr : Room k X.A) (hgd : X.A.guards = some []) (hx : Γ[i]? = some (some (.ls xs))) (hj : xs[j]? = some x) (hb : XE X b Γ (.da (.int (j : Nat))) Γ)
    (hds : ∀ v : V, XD X es (Γ.set i (some (.ls (xs.set j (.pin v x))))) ds (Γ.set i (some (.ls (xs.set j (.pin v x))))))
    (hsp : sp (x :: ds.map .da) fun r as' => ∃ x' ys, as' = x' :: ys ∧ Ψ r (Γ.set i (some (.ls (xs.set j x'))))) (hN : X.N[i]? = some nm := by rfl)
    (hvs : Vis X.env.scope nm := by first | exact Or.inl rfl | exact Or.inr (Or.inl rfl) | exact Or.inr (Or.inr rfl)) (h1 : (nm == ("__debug__" : Str)) = false := by decide) (h2 : (nm == ("__classdict__" : Str)) = false := by decide) (hs : PlainIx b := by exact fun _ _ => rfl)
    (hg : Gl X fnm := by rfl) (hdb : (fnm == ("__debug__" : Str)) = false := by decide) (he : starEach (.Subscript (.Name nm p2) b apos :: es) X.env = (false, eval (.Subscript (.Name nm p2) b apos) X.env) :: starEach es X.env := by rfl) (hpl : (backTo pos (starEach es X.env)).any (·.1) = false := by rfl)
    (hst : ∀ (e : Expr) (r : List Expr), (e :: r) <:+ es → starEach (e :: r) X.env = (false, eval e X.env) :: starEach r X.env := by intro e r h; simp [List.suffix_cons_iff] at h; rcases h with h | h | h | h <;> (obtain ⟨rfl, rfl⟩ := h; rfl)) : WE X (.Call (.Name fnm p) (.Subscript (.Name nm p2) b apos :: es) [] pos) Γ Ψ := fun I H σ F en Q kq => by
  obtain ⟨_, _, FG, hm, hk, hbd⟩ := G
  refine ⟨_, pe_callG FG hr hgd hg hm hk hbd pass0 (pa_cons (pe_ix ix_list (pe_var hN hvs h1 h2) wpE_ok hs) wpA_ok he) hdb he hpl, ?_⟩
  obtain ⟨p0, vs0, v0, B0, G0, e1, g1, l1, gv, go, _, _, _⟩ := en.item hx hj
  refine ⟨_, e1, hb (fun r Γ' => r = .da (.int (j : Nat)) ∧ Γ' = Γ) ⟨rfl, rfl⟩ I H σ F en _ ?_⟩
  rintro _ Γb I1 H1 w F1 ⟨rfl, eΓ⟩ st1 en1
  subst eΓ
  obtain ⟨Bw, Gw, rfl, ow, en2, _⟩ := en1.pop
  cases ow with
  | da hw =>
    cases hw
    obtain ⟨p1, vs1, v1, B1, G1, e1', g1', l1', gv', go', pm', cl', up'⟩ := en2.item hx hj
    rw [e1] at e1'
    cases e1'
    have hjl : j < vs1.length := (List.getElem?_eq_some_iff.mp gv').1
    refine ⟨p0, vs1, (j : Nat), v1, rfl, rfl, SqL.of g1', atI_nat gv', ?_⟩
    obtain ⟨Fp, enp, mp⟩ := up' (Same.refl I1) (fun b hb => ⟨rfl, (cl' b hb).2⟩) en2.sub (.pin go' : Own X.tc I1 H1 v1 (.pin v1 x) B1) (pm'.nodup_iff.mp en2.nd)
    have stp : Step I1 H1 Gw I1 H1 Fp := Step.less fun b hb => pm'.symm.subset (List.mem_append.mpr (mp b hb))
    refine (hds v1).wa (Ψa := fun rs _ Γ' => rs = ds.map .da ∧ Γ' = Γb.set i (some (.ls (xs.set j (.pin v1 x))))) (fun refs => ⟨rfl, rfl⟩) hst I1 H1 σ Fp enp _ ?_
    rintro _ refs _ I3 H3 us F3 ⟨rfl, rfl⟩ m1 m2 rk st3 en3
    obtain ⟨Bd, G3, rfl, od, en4⟩ := en3.popL m1
    obtain ⟨rfl, rd⟩ := ownL_da od
    have hxs : (xs.set j (.pin v1 x))[j]? = some (.pin v1 x) := List.getElem?_set_self (List.getElem?_eq_some_iff.mp hj).1
    have hil : i < Γb.length := (List.getElem?_eq_some_iff.mp hx).1
    obtain ⟨p4, vs4, v4, B4, G4, e4, g4, l4, gv4, go4, pm4, cl4, up4⟩ := en4.item (i := i) (j := j) (List.getElem?_set_self hil) hxs
    cases go4 with
    | pin go4 =>
      have nd4 := pm4.nodup_iff.mp en4.nd
      have hd4 := List.nodup_append.mp nd4
      rw [List.append_nil]
      refine ⟨I3, x :: ds.map .da, B4 ++ [], _, .cons go4 od, by rw [List.append_nil]; exact hd4.1, en4.sub, hsp, ?_⟩
      rintro r as' I5 H5 v F5 ⟨x', ys, rfl, hq⟩ st5 o5 nd5 sub5
      cases o5 with
      | cons orr oas => cases oas with
        | @cons _ _ _ _ Bx By ox oys =>
          rename_i Br
          have kp : ∀ b ∈ G4, H5 b = H3 b ∧ I5 b = none ∧ b ∉ Br ++ (Bx ++ By) := fun b hb => by
            obtain ⟨⟨ob, h3⟩, h4⟩ := cl4 b hb
            obtain ⟨h5, h6, h7⟩ := st5.oth b ob h3 h4 fun q => hd4.2.2 b (by simpa using q) b hb rfl
            exact ⟨h5.trans h3.symm, h6, h7⟩
          have ndA := List.nodup_append.mp nd5
          have ndB := List.nodup_append.mp ndA.2.1
          have nd6 : (Bx ++ G4).Nodup := List.nodup_append.mpr ⟨ndB.1, hd4.2.1, fun a ha b hb z => by
            subst z
            exact (kp a hb).2.2 (by simp [ha])⟩
          obtain ⟨F6, en6, m6⟩ := up4 st5.inc (fun b hb => ⟨(kp b hb).1, (kp b hb).2.1⟩) sub5 ox nd6
          rw [List.set_set, List.set_set] at en6
          have stq : Step I3 H3 G3 I5 H5 (Br ++ F6) := ⟨st5.inc, fun b ob e i n => by
            have nb : b ∉ B4 ++ G4 := fun z => n (pm4.symm.subset z)
            rw [List.mem_append, not_or] at nb
            obtain ⟨h3, h4, h5⟩ := st5.oth b ob e i (by simpa using nb.1)
            refine ⟨h3, h4, fun q => ?_⟩
            rcases List.mem_append.mp q with q | q
            · exact h5 (by simp [q])
            · exact (m6 b q).elim (fun z => h5 (by simp [z])) nb.2⟩
          refine kq r _ I5 H5 v (Br ++ F6) hq ((((st1.trans (Step.less fun b hb => by simpa using hb)).trans stp).trans st3).trans (by simpa using stq)) ⟨.cons orr en6.env, List.nodup_append.mpr ⟨ndA.1, en6.nd, fun a ha b hb z => ?_⟩, en6.sub⟩
          subst z
          rcases m6 a hb with w | w
          · exact ndA.2.2 a ha a (List.mem_append_left _ w) rfl
          · exact (kp a w).2.2 (by simp [ha])
end
end TL

/-! TL32: drawn bounds and arguments, max of an answer, lists within lists read and shortened. -/
namespace TL
open PySem PySem.Spec PyProof.Rows L2
section
variable {X : Cx} {e a b c o : Expr} {es : List Expr} {rest : List Stmt} {Γ Γ' Γ1 Γ2 Γ3 : Sl} {Ψ : OD → Sl → Prop} {Φ : Out → Prop} {pos p apos cpos p2 p3 : Pos} {r x y z : OD} {nm n2 f m : Str} {d : PyData} {ds : List PyData} {xs : List OD} {mk : List PyData → OD}
/-- a - b, of answers -/
theorem we_sub (h : WE X a Γ fun x Γ1 => ∃ i, x = .da (.int i) ∧ WE X b Γ1 fun y Γ2 => ∃ j, y = .da (.int j) ∧ Ψ (.da (.int (i - j))) Γ2) : WE X (.BinOp a .Sub b pos) Γ Ψ :=
  we_bin op_sub (h.mono fun x Γ1 ⟨i, e, h2⟩ => h2.mono fun y Γ2 ⟨j, e2, hq⟩ => ⟨_, by rw [e, e2]; exact o2_I0 fun _ => .int _, hq⟩)
theorem we_max2 (B : Blt X.mg) (hc : X.calm = true) (h : WE X a Γ fun x Γ1 => ∃ i : Int, x = .da (.int i) ∧ WE X b Γ1 fun y Γ2 => ∃ j : Int, y = .da (.int j) ∧ Ψ (.da (.int (if j > i then j else i))) Γ2) (hg : Gl X "max" := by rfl) (he : starEach [a, b] X.env = (false, eval a X.env) :: starEach [b] X.env := by rfl)
    (he2 : starEach [b] X.env = (false, eval b X.env) :: starEach [] X.env := by rfl) (hpl : (backTo pos (starEach [b] X.env)).any (·.1) = false := by rfl) : WE X (.Call (.Name "max" p) [a, b] [] pos) Γ Ψ :=
  we_callB (call_max2 hc) hg B.max (by decide +kernel) (wa_cons (h.mono fun x Γ1 ⟨i, e, h2⟩ => wa_cons (h2.mono fun y Γ2 ⟨j, e2, hq⟩ => wa_nil ⟨_, by
      subst e e2
      exact OpL.pure (ds := [.int i, .int j]) fun I H vs r _ Q k => by
        obtain ⟨v, u, rfl, h, h'⟩ := rpL2 r
        cases h
        cases h'
        exact ⟨i, j, rfl, k _ (.int _)⟩, hq⟩) he2) he) (he := he) (hpl := hpl)
theorem xe_maxE {ns : List Int} {m : Int} (B : Blt X.mg) (hc : X.calm = true) (ha : XE X a Γ (.da (.list (ns.map .int))) Γ1) (hm : m ∈ ns) (hx : ∀ y ∈ ns, y ≤ m) (hg : Gl X "max" := by rfl) (he : starEach [a] X.env = (false, eval a X.env) :: starEach [] X.env := by rfl) (hpl : (backTo pos (starEach [] X.env)).any (·.1) = false := by rfl) :
    XE X (.Call (.Name "max" p) [a] [] pos) Γ (.da (.int m)) Γ1 := xe_callB1 (wl := rMax X.K) (cr_max hc) (rd_max (T := X.tc) .da hm hx).opl hg B.max (by decide +kernel) ha (he := he) (hpl := hpl)
theorem xt_lt_le {i j k : Int} (ha : XE X a Γ (.da (.int i)) Γ) (hb : XE X b Γ (.da (.int j)) Γ) (hc : XE X c Γ (.da (.int k)) Γ) (hm : lastMarks [.Lt, .LtE] [b, c] = false := by with_unfolding_all rfl) :
    XT X (.Compare a [.Lt, .LtE] [b, c] pos) Γ (decide (i < j) && decide (j ≤ k)) Γ := xt_chain op_lt op_le o2_bl o2_bl ha hb hc hm
/-- t[:e], t a tuple that is data, the bound drawn -/
theorem we_sliceTo {hi : Expr} (ha : XE X a Γ (.da (.tuple ds)) Γ1) (h : WE X hi Γ1 fun r Γ2 => ∃ j : Int, r = .da (.int j) ∧ Ψ (.da (.tuple (cutD ds none (some j)))) Γ2) : WE X (.Subscript a (.Slice none (some hi) none p2) pos) Γ Ψ := fun I H σ F en Q k => by
  refine ⟨_, pe_slice sl_tupA wpE_ok wpO_ok wpO_ok, ha (fun r Γ' => r = .da (.tuple ds) ∧ Γ' = Γ1) ⟨rfl, rfl⟩ I H σ F en _ ?_⟩
  rintro _ Γ1' I1 H1 v F1 ⟨rfl, e1⟩ st1 en1
  subst e1
  obtain ⟨B, G, rfl, o, en1', _⟩ := en1.pop
  cases o with
  | da o =>
    refine XO.none.go en1' _ fun I2 H2 F2 st2 en2 => h I2 H2 σ F2 en2 _ ?_
    rintro r Γ2 I3 H3 w F3 ⟨j, rfl, hq⟩ st3 en3'
    obtain ⟨B3, G3, rfl, o3, en3, _⟩ := en3'.pop
    cases o3 with
    | da o3 =>
      cases o3
      refine ⟨j, rfl, ?_⟩
      have o' := (o.mono st2.inc).mono st3.inc
      cases o' with
      | @tup a' vs _ q r =>
        have st := (st1.trans st2).trans st3
        refine ⟨a', vs, rfl, sqT_mono en3.sub q, fun hw => ?_, fun _ p hp => ?_⟩
        · have e : cutD ds none (some j) = ds := by
            rw [r.length] at hw
            unfold cutD
            rw [hw.1, hw.2, List.drop_zero, Nat.sub_zero, List.take_length]
          exact k _ _ I3 H3 _ _ hq st (en3.da (by rw [e]; exact .tup q r))
        · obtain ⟨en4, st4⟩ := en3.grow (step_frz (o := .tup (cutV vs none (some j))) en3.sub hp) (upd_both en3.sub)
          exact k _ _ _ _ _ _ hq (st.trans st4) (en4.da (.tup (SqT.of upd_same) ((rpL_cut r none (some j)).mono (upd_up (en3.sub.free hp)))))
/-- len(xs[b]), a list within an own list -/
theorem xe_lenIx (i j : Nat) (B : Blt X.mg) (hx : Γ[i]? = some (some (.ls xs))) (hj : xs[j]? = some (.ll ds)) (hb : XE X b Γ (.da (.int (j : Nat))) Γ) (hN : X.N[i]? = some nm := by rfl)
    (hvs : Vis X.env.scope nm := by first | exact Or.inl rfl | exact Or.inr (Or.inl rfl) | exact Or.inr (Or.inr rfl)) (h1 : (nm == ("__debug__" : Str)) = false := by decide) (h2 : (nm == ("__classdict__" : Str)) = false := by decide) (hs : PlainIx b := by exact fun _ _ => rfl)
    (hg : Gl X "len" := by rfl) (he : starEach [.Subscript (.Name nm p2) b apos] X.env = (false, eval (.Subscript (.Name nm p2) b apos) X.env) :: starEach [] X.env := by rfl) (hpl : (backTo pos (starEach [] X.env)).any (·.1) = false := by rfl) :
    XE X (.Call (.Name "len" p) [.Subscript (.Name nm p2) b apos] [] pos) Γ (.da (.int ds.length)) Γ := fun Ψ hq I H σ F en Q k => by
  refine ⟨_, pe_callB call_len_seq hg B.len PySem.boot_len (pa_cons (pe_ix ix_list (pe_var hN hvs h1 h2) wpE_ok hs) pa_nil he) (by decide) (by decide) he hpl, ?_⟩
  obtain ⟨p0, vs0, v0, B0, G0, e1, g1, l1, gv, go, _, _, _⟩ := en.item hx hj
  refine ⟨_, e1, hb (fun r Γ' => r = .da (.int (j : Nat)) ∧ Γ' = Γ) ⟨rfl, rfl⟩ I H σ F en _ ?_⟩
  rintro _ Γb I1 H1 w F1 ⟨rfl, eΓ⟩ st1 en1
  subst eΓ
  obtain ⟨Bw, Gw, rfl, ow, en2, _⟩ := en1.pop
  cases ow with
  | da hw =>
    cases hw
    obtain ⟨p1, vs1, v1, B1, G1, e1', g1', l1', gv', go', _, _, _⟩ := en2.item hx hj
    rw [e1] at e1'
    cases e1'
    cases go' with
    | @ll q ws _ k1 k2 k3 =>
      refine ⟨p0, vs1, (j : Nat), _, rfl, rfl, SqL.of g1', atI_nat gv', q, ws, rfl, .inl (SqL.of k1), ?_⟩
      rw [k3.length]
      exact k _ _ I1 H1 _ _ hq st1 (en2.da (.int _))
/-- xs[b].pop(0), a list within an own list -/
theorem we_pop0Ix (i j : Nat) (hx : Γ[i]? = some (some (.ls xs))) (hj : xs[j]? = some (.ll (d :: ds))) (hb : XE X b Γ (.da (.int (j : Nat))) Γ) (hq : Ψ (.da d) (Γ.set i (some (.ls (xs.set j (.ll ds)))))) {kk : Nat} (hN : X.N[i]? = some nm := by rfl)
    (hvs : Vis X.env.scope nm := by first | exact Or.inl rfl | exact Or.inr (Or.inl rfl) | exact Or.inr (Or.inr rfl)) (h1 : (nm == ("__debug__" : Str)) = false := by decide) (h2 : (nm == ("__classdict__" : Str)) = false := by decide) (hs : PlainIx b := by exact fun _ _ => rfl)
    (hst : starEach [.Constant (.int 0) kk p3] X.env = (false, eval (.Constant (.int 0) kk p3) X.env) :: starEach [] X.env := by rfl)
    (hbase : attributeBase (.Subscript (.Name nm p2) b p) "pop" X.env (eval (.Subscript (.Name nm p2) b p) X.env) = eval (.Subscript (.Name nm p2) b p) X.env := by rfl)
    (hfew : ((backTo pos (starEach [.Constant (.int 0) kk p3] X.env)).all (fun x => !x.1) && (backToKw pos (keywordEach [] X.env)).all (fun x => x.1.isSome)
      && decide (([.Constant (.int 0) kk p3] : List Expr).length + ([] : List Keyword).length + (if ([] : List Keyword).isEmpty then 0 else 1) < 30)) = true := by rfl) (hline : (apos.endLine == pos.line) = true := by rfl) (hs2 : (backTo pos (starEach [] X.env)).any (·.1) = false := by rfl) :
    WE X (.Call (.Attribute (.Subscript (.Name nm p2) b p) "pop" apos) [.Constant (.int 0) kk p3] [] pos) Γ Ψ := fun I H σ F en Q k => by
  refine ⟨_, pe_bm PySem.F.plainAttrs_list PySem.F.slot_list_pop PySem.F.type_list_pop mt_popAt (pe_ix ix_list (pe_var hN hvs h1 h2) wpE_ok hs) (pa_cons pe_int pa_nil hst) hbase hfew hline hst hs2, ?_⟩
  obtain ⟨p0, vs0, v0, B0, G0, e1, g1, l1, gv, go, _, _, _⟩ := en.item hx hj
  refine ⟨_, e1, hb (fun r Γ' => r = .da (.int (j : Nat)) ∧ Γ' = Γ) ⟨rfl, rfl⟩ I H σ F en _ ?_⟩
  rintro _ Γb I1 H1 w F1 ⟨rfl, eΓ⟩ st1 en1
  subst eΓ
  obtain ⟨Bw, Gw, rfl, ow, en2, _⟩ := en1.pop
  cases ow with
  | da hw =>
    cases hw
    obtain ⟨p1, vs1, v1, B1, G1, e1', g1', l1', gv', go', pm, cl, up⟩ := en2.item hx hj
    rw [e1] at e1'
    cases e1'
    cases go' with
    | @ll q ws _ k1 k2 k3 =>
      cases k3 with
      | @cons u ws' _ _ r1 r2 =>
        have nd := pm.nodup_iff.mp en2.nd
        have qG : q ∉ G1 := (List.nodup_cons.mp (show (q :: G1).Nodup from nd)).1
        obtain ⟨F5, en5, m5⟩ := up (I' := I1) (H' := upd H1 q (.lst ws')) (x' := .ll ds) (B' := [q]) (Same.refl I1) (fun b hb => ⟨upd_ne fun z => qG (z ▸ hb), (cl b hb).2⟩) (fun b u z => by
          rw [upd_ne fun w => by
            rw [w, k2] at z
            cases z]
          exact en2.sub b u z) (.ll upd_same k2 r2) nd
        refine ⟨p0, vs1, (j : Nat), _, rfl, rfl, SqL.of g1', atI_nat gv', .inl ⟨rfl, _, SqL.of k1⟩, q, u :: ws', 0, 0, u, rfl, rfl, k1, by decide, by decide, by simp [seqIndex?], rfl, ?_⟩
        exact k _ _ I1 _ u F5 hq (st1.trans ((step_upd (F := Gw) (a := q) (pm.symm.subset (by simp))).of_mem (fun b hb => hb) fun b hb => pm.symm.subset (List.mem_append.mpr (m5 b hb)))) (en5.da r1)
/-- xs.pop(e), xs an own list in a slot, the place drawn -/
theorem we_popAt (i : Nat) (h : WE X a Γ fun r Γ1 => ∃ (j : Nat) (x : OD) (ds : List PyData) (mk : List PyData → OD) (d : PyData), r = .da (.int j) ∧ Γ1[i]? = some (some x) ∧ VLL x ds mk ∧ ds[j]? = some d ∧ ds.length ≤ 2 ^ 62 ∧ Ψ (.da d) (Γ1.set i (some (mk (ds.eraseIdx j)))))
    (hx : Γ[i]? = some (some x) := by rfl) (hv : VLL x ds mk := by first | exact .ll | exact .pin) (hN : X.N[i]? = some nm := by rfl) (hvs : Vis X.env.scope nm := by first | exact Or.inl rfl | exact Or.inr (Or.inl rfl) | exact Or.inr (Or.inr rfl)) (h1 : (nm == ("__debug__" : Str)) = false := by decide) (h2 : (nm == ("__classdict__" : Str)) = false := by decide)
    (hst : starEach [a] X.env = (false, eval a X.env) :: starEach [] X.env := by rfl) (hb : attributeBase (.Name nm p) "pop" X.env (eval (.Name nm p) X.env) = eval (.Name nm p) X.env := by rfl)
    (hfew : ((backTo pos (starEach [a] X.env)).all (fun x => !x.1) && (backToKw pos (keywordEach [] X.env)).all (fun x => x.1.isSome)
      && decide (([a] : List Expr).length + ([] : List Keyword).length + (if ([] : List Keyword).isEmpty then 0 else 1) < 30)) = true := by rfl) (hline : (apos.endLine == pos.line) = true := by rfl) (hs2 : (backTo pos (starEach [] X.env)).any (·.1) = false := by rfl) :
    WE X (.Call (.Attribute (.Name nm p) "pop" apos) [a] [] pos) Γ Ψ := fun I H σ F en Q k => by
  refine ⟨_, pe_bm PySem.F.plainAttrs_list PySem.F.slot_list_pop PySem.F.type_list_pop mt_popAt (pe_var hN hvs h1 h2) (pa_cons wpE_ok pa_nil hst) hb hfew hline hst hs2, ?_⟩
  obtain ⟨q, vs, e1, g1, _, _⟩ := en.ll hx hv
  refine ⟨_, e1, .inl ⟨rfl, _, SqL.of g1⟩, h I H σ F en _ ?_⟩
  rintro r Γ1 I1 H1 v F1 ⟨j, x, ds, mk, d, rfl, hx2, hv2, hj, hz, hq⟩ st1 en1
  obtain ⟨B, G, rfl, oo, en2, _⟩ := en1.pop
  cases oo with
  | da hj' =>
    cases hj'
    obtain ⟨q', vs', e1', g3, g4, g5⟩ := en2.ll hx2 hv2
    rw [e1] at e1'
    cases e1'
    obtain ⟨u, hu, ru⟩ := g4.get hj
    have hl : j < vs'.length := (List.getElem?_eq_some_iff.mp hu).1
    have hl2 := g4.length
    obtain ⟨F5, en5, st5⟩ := g5 _ _ (RpL.eraseAt g4 j)
    have six : seqIndex? (j : Int) vs'.length = some j := (ixN_seq (show ixN vs'.length (j : Int) = some j by
      unfold ixN
      rw [if_pos (by omega), if_pos (by omega), Int.toNat_natCast])).1
    exact ⟨q, vs', j, j, u, rfl, rfl, g3, by omega, by omega, six, hu, k _ _ I1 _ u F5 hq (st1.trans st5) (en5.da ru)⟩
end
end TL

/-! TL33: methods by their bodies, drawn comprehensions, bounds of slices. -/
namespace TL
open PySem PySem.Spec PyProof.Rows L2
/-- the method m of the class at C stands in the text as st -/
def DKM (K : PySem.W.Frag) (C : Addr) (m qual : Str) (st : Stmt) : Prop := ∃ f fd, Fun K m qual st f fd ∧ Meth K C m f
/-- the class's __init__ -/
def DKI (K : PySem.W.Frag) (C : Addr) (cn qual : Str) (st : Stmt) : Prop := ∃ f fd, Fun K "__init__" qual st f fd ∧ Mk K C f ∧ PySem.W.nsIn K mainGlobals cn = some (some (.ref C))
theorem meth_ok {P : Program} {w : World} {K : PySem.W.Frag} {mg : Str → Option Value} {bs : Heap} {k : Nat} {C : Addr} {m qual : Str} {st : Stmt} {N ps : List Str} {sp : SpD} (D : DKM K C m qual st) (c : Cls K C) (S : FnScope N ps (defScope st))
    (b : ∀ f fd, Fun K m qual st f fd → Binds K fd ps []) (ln : ∀ as Ψ, sp as Ψ → as.length = ps.length)
    (hb : ∀ (f : Addr) (cdv : Value) (A : Around) (fr : List PySem.Env) (s : Shared) (H : Hp) (E : XK), TL.Fr (dcx P w K mg bs N qual st f cdv A fr s H E) k → ∀ (as : List OD) (Ψ : OD → List OD → Prop) (vs : List V), sp as Ψ → vs.length = ps.length →
      WSs (dcx P w K mg bs N qual st f cdv A fr s H E) (defBody st) (start0 N as vs) (fnΦ as vs Ψ)) : DefM P w K mg bs (k + 1) C m ps sp := by
  obtain ⟨f, fd, F, M⟩ := D
  refine ⟨f, fd, fn_ok F S ln fun X' cdv A fr s H E hX hr hg as Ψ vs hsp hl => ?_, M, b f fd F, c⟩
  subst hX
  exact hb f cdv A fr s H E ⟨S.nd, rfl, PassesOwn.never, hr, hg⟩ as Ψ vs hsp (by rw [hl, ln as Ψ hsp])
theorem init_ok {P : Program} {w : World} {K : PySem.W.Frag} {mg : Str → Option Value} {bs h : Heap} {k : Nat} {C : Addr} {cn qual : Str} {st : Stmt} {N ps : List Str} {sp : SpD} (X : K.In h) (G : h.Ns mainGlobals mg) (D : DKI K C cn qual st) (S : FnScope N ps (defScope st))
    (b : ∀ f fd, Fun K "__init__" qual st f fd → Binds K fd ps []) (ln : ∀ as Ψ, sp as Ψ → as.length = ps.length)
    (hb : ∀ (f : Addr) (cdv : Value) (A : Around) (fr : List PySem.Env) (s : Shared) (H : Hp) (E : XK), TL.Fr (dcx P w K mg bs N qual st f cdv A fr s H E) k → ∀ (as : List OD) (Ψ : OD → List OD → Prop) (vs : List V), sp as Ψ → vs.length = ps.length →
      WSs (dcx P w K mg bs N qual st f cdv A fr s H E) (defBody st) (start0 N as vs) (fnΦ as vs Ψ)) : DefI P w K mg bs (k + 1) cn C ps sp := by
  obtain ⟨f, fd, F, M, a⟩ := D
  refine ⟨f, fd, fn_ok F S ln fun X' cdv A fr s H E hX hr hg as Ψ vs hsp hl => ?_, M, b f fd F, PySem.W.mg_of X G a⟩
  subst hX
  exact hb f cdv A fr s H E ⟨S.nd, rfl, PassesOwn.never, hr, hg⟩ as Ψ vs hsp (by rw [hl, ln as Ψ hsp])
/-- a number of the module's top -/
def DKC (K : PySem.W.Frag) (nm : Str) (i : Int) : Prop := ∃ t, PySem.W.nsIn K mainGlobals nm = some (some (.int i t))
theorem DKC.mg {K : PySem.W.Frag} {h : Heap} {mg : Str → Option Value} {nm : Str} {i : Int} (d : DKC K nm i) (X : K.In h) (G : h.Ns mainGlobals mg) : ∃ t, mg nm = some (.int i t) := let ⟨t, e⟩ := d; ⟨t, PySem.W.mg_of X G e⟩
/-! ### slices -/
theorem cutD_nat {ds : List PyData} {lo hi : Nat} : cutD ds (some (lo : Int)) (some (hi : Int)) = (ds.drop (min lo ds.length)).take (min hi ds.length - min lo ds.length) := by
  unfold cutD
  rw [HT.sIx_nat, HT.sIx_nat]
theorem cutD_to {ds : List PyData} {hi : Nat} : cutD ds none (some (hi : Int)) = ds.take hi := by
  unfold cutD
  rw [HT.sIx_none, HT.sIx_nat, List.drop_zero, Nat.sub_zero]
  rcases Nat.le_total hi ds.length with h | h
  · rw [Nat.min_eq_left h]
  · rw [Nat.min_eq_right h, List.take_length, List.take_of_length_le h]
theorem cutD_from {ds : List PyData} {lo : Nat} : cutD ds (some (lo : Int)) none = ds.drop lo := by
  unfold cutD
  rw [HT.sIx_nat, HT.sIx_none]
  rcases Nat.le_total lo ds.length with h | h
  · rw [Nat.min_eq_left h, List.take_of_length_le (by simp)]
  · rw [Nat.min_eq_right h, List.drop_length, List.drop_eq_nil_of_le h]
    simp
theorem cutD_le {ds : List PyData} {lo hi : Nat} (h1 : lo ≤ hi) (h2 : hi ≤ ds.length) : cutD ds (some (lo : Int)) (some (hi : Int)) = (ds.drop lo).take (hi - lo) := by
  rw [cutD_nat, Nat.min_eq_left h2, Nat.min_eq_left (Nat.le_trans h1 h2)]
section
variable {X : Cx} {k : Nat} {scope : Scope} {it tg elt : Expr} {Γ : Sl} {Ψ : OD → Sl → Prop} {pos : Pos} {α β : Type}
/-- [elt for .. in it], what it walks and what it answers drawn -/
theorem we_lcWA (own : List (Str × Nat)) (u : α → Sl → Sl) (E : α → PyData) (F : β → PyData) (P : List α → Prop) (Pb : β → Prop) (fx : Fr X k) (h : WI X tg it Γ fun ds Γ1 => Γ1 = Γ ∧ ∃ xs : List α, P xs ∧ ds = xs.map E ∧ xs.length ≤ sizeLine)
    (hg : ∀ xs x, P xs → x ∈ xs → GB X scope own tg (E x) Γ (u x Γ)) (he : ∀ xs x, P xs → x ∈ xs → ∀ s H C cl fp, WE (Blk X scope s H C cl fp) elt (u x Γ) fun r Γ' => ∃ b, Frz r (F b) ∧ Pb b ∧ Γ' = u x Γ)
    (hq : ∀ (xs : List α) (bs : List β), P xs → bs.length = xs.length → (∀ b ∈ bs, Pb b) → Ψ (.ll (bs.map F)) Γ)
    (hd3 : ∀ x, dropΓ (own.map (·.2)) (u x Γ) = Γ := by intro x; rfl) (hd : dropΓ (own.map (·.2)) Γ = Γ := by rfl) (ok : blkC X.N X.env.scope scope own = true := by rfl) (hs : ∀ x, foldedSetIterable it X.env x = pure x := by intro _; rfl) : WE X (.ListComp elt [⟨tg, it, [], 0⟩] scope pos) Γ Ψ := by
  refine we_lc own (fun ds n Γ' acc => ∃ (xs : List α) (bs : List β), P xs ∧ ds = xs.map E ∧ Γ' = Γ ∧ acc = bs.map F ∧ bs.length = n ∧ ∀ b ∈ bs, Pb b) fx.calm fx.nd ?_ ok hs
  intro I H σ F1 en R' k'
  refine h I H σ F1 en R' fun ds Γ1 I1 H1 F2 J ⟨e1, xs, hp, hds, hsz⟩ st1 en1 => k' ds Γ1 I1 H1 F2 J ⟨by rw [hds, List.length_map]; exact hsz, ⟨xs, [], hp, hds, by rw [e1]; exact hd, rfl, rfl, by simp⟩, ?_, ?_⟩ st1 en1
  · rintro n d Γ2 acc hn ⟨ys, bs, hp', hds', rfl, rfl, hl, hb⟩
    rw [hds', List.getElem?_map] at hn
    obtain ⟨x, hx, rfl⟩ := Option.map_eq_some_iff.mp hn
    have hm := List.mem_of_getElem? hx
    refine ⟨u x _, hg ys x hp' hm, fun k Γ4 => k = true ∧ Γ4 = u x _, fun s H C cl fp => wts_nil ⟨rfl, rfl⟩, ?_⟩
    rintro k Γ4 ⟨rfl, rfl⟩
    refine ⟨fun _ s H C cl fp => (he ys x hp' hm s H C cl fp).mono fun r Γ5 ⟨b, fz, pb, e5⟩ => ⟨F b, fz, ys, bs ++ [b], hp', hds', by rw [e5]; exact hd3 x, by simp, by simp [hl], fun b' hb' => ?_⟩, fun q => Bool.noConfusion q⟩
    rcases List.mem_append.mp hb' with z | z
    · exact hb b' z
    · simp at z
      rw [z]
      exact pb
  · rintro Γ2 acc ⟨ys, bs, hp', hds', rfl, rfl, hl, hb⟩
    rw [hd]
    rw [hds', List.length_map] at hl
    exact hq ys bs hp' hl hb
end
end TL

/-! TL34: and, or, not as values. -/
namespace TL
open PySem PySem.Spec PyProof.Rows L2
section
variable {X : Cx} {e a b c o : Expr} {es rest : List Expr} {Γ Γ' Γ1 Γ2 : Sl} {Ψ : OD → Sl → Prop} {pos p : Pos} {r x y z : OD} {k k2 k3 : Bool}
theorem bool_top {I H : Hp} {σ : L2.St} {F : List Addr} {v : V} (en : EnvF X.tc I H (some v :: σ) (some (.da (.bool k)) :: Γ) F) : v = .bl k ∧ EnvF X.tc I H σ Γ F := by
  obtain ⟨B, G, rfl, o, en2, _⟩ := en.pop
  cases o with
  | da o =>
    cases o
    exact ⟨rfl, en2⟩
theorem we_andB (h : WE X a Γ fun r Γ1 => ∃ k, r = .da (.bool k) ∧ (k = true → WE X (.BoolOp .And (b :: rest) pos) Γ1 Ψ) ∧ (k = false → Ψ (.da (.bool false)) Γ1)) : WE X (.BoolOp .And (a :: b :: rest) pos) Γ Ψ := fun I H σ F en Q kq =>
  ⟨_, pe_andT wpE_ok wpE_ok, h I H σ F en _ fun r Γ1 I1 H1 v F1 ⟨k, hr, h1, h2⟩ st1 en1 => by
    subst hr
    obtain ⟨rfl, en2⟩ := bool_top en1
    refine ⟨k, rfl, ?_⟩
    cases k with
    | true =>
      rw [if_pos rfl]
      exact h1 rfl I1 H1 σ F1 en2 Q fun r Γ' I' H' v F' q st => kq r Γ' I' H' v F' q (st1.trans st)
    | false =>
      rw [if_neg (by decide)]
      exact kq _ Γ1 I1 H1 _ F1 (h2 rfl) st1 en1⟩
theorem we_orB (h : WE X a Γ fun r Γ1 => ∃ k, r = .da (.bool k) ∧ (k = false → WE X (.BoolOp .Or (b :: rest) pos) Γ1 Ψ) ∧ (k = true → Ψ (.da (.bool true)) Γ1)) : WE X (.BoolOp .Or (a :: b :: rest) pos) Γ Ψ := fun I H σ F en Q kq =>
  ⟨_, pe_orT wpE_ok wpE_ok, h I H σ F en _ fun r Γ1 I1 H1 v F1 ⟨k, hr, h1, h2⟩ st1 en1 => by
    subst hr
    obtain ⟨rfl, en2⟩ := bool_top en1
    refine ⟨k, rfl, ?_⟩
    cases k with
    | false =>
      rw [if_neg (by decide)]
      exact h1 rfl I1 H1 σ F1 en2 Q fun r Γ' I' H' v F' q st => kq r Γ' I' H' v F' q (st1.trans st)
    | true =>
      rw [if_pos rfl]
      exact kq _ Γ1 I1 H1 _ F1 (h2 rfl) st1 en1⟩
theorem we_notB (h : WE X a Γ fun r Γ1 => ∃ k, r = .da (.bool k) ∧ Ψ (.da (.bool (!k))) Γ1) : WE X (.UnaryOp .Not a pos) Γ Ψ := fun I H σ F en Q kq =>
  ⟨_, pe_notT wpE_ok, h I H σ F en _ fun r Γ1 I1 H1 v F1 ⟨k, hr, h1⟩ st1 en1 => by
    subst hr
    obtain ⟨rfl, en2⟩ := bool_top en1
    exact ⟨k, rfl, kq _ Γ1 I1 H1 _ F1 h1 st1 (en2.da (.bl _))⟩⟩
theorem xe_notB (ha : XE X a Γ (.da (.bool k)) Γ1) : XE X (.UnaryOp .Not a pos) Γ (.da (.bool (!k))) Γ1 := fun _ hq => we_notB (ha _ ⟨k, rfl, hq⟩)
theorem pe_boolOne {op : BoolOp} {ta : TE} (h : PE X a ta) : PE X (.BoolOp op [a] pos) ta := ⟨fun pins s σ H Q I q => BoolOp_one (h.run pins s σ H Q I q)⟩
theorem we_and1B (h : WE X a Γ Ψ) : WE X (.BoolOp .And [a] pos) Γ Ψ := fun I H σ F en Q kq => ⟨_, pe_boolOne wpE_ok, h I H σ F en Q kq⟩
theorem we_or1B (h : WE X a Γ Ψ) : WE X (.BoolOp .Or [a] pos) Γ Ψ := fun I H σ F en Q kq => ⟨_, pe_boolOne wpE_ok, h I H σ F en Q kq⟩
theorem xe_andB (ha : XE X a Γ (.da (.bool k)) Γ) (hb : k = true → XE X b Γ (.da (.bool k2)) Γ) : XE X (.BoolOp .And [a, b] pos) Γ (.da (.bool (k && k2))) Γ := fun _ hq => we_andB (ha _ ⟨k, rfl, fun e => we_and1B (hb e _ (by rw [e, Bool.true_and] at hq; exact hq)), fun e => by rw [e, Bool.false_and] at hq; exact hq⟩)
theorem xe_orB (ha : XE X a Γ (.da (.bool k)) Γ) (hb : k = false → XE X b Γ (.da (.bool k2)) Γ) : XE X (.BoolOp .Or [a, b] pos) Γ (.da (.bool (k || k2))) Γ := fun _ hq => we_orB (ha _ ⟨k, rfl, fun e => we_or1B (hb e _ (by rw [e, Bool.false_or] at hq; exact hq)), fun e => by rw [e, Bool.true_or] at hq; exact hq⟩)
theorem xe_and3B (ha : XE X a Γ (.da (.bool k)) Γ) (hb : k = true → XE X b Γ (.da (.bool k2)) Γ) (hc : k = true → k2 = true → XE X c Γ (.da (.bool k3)) Γ) : XE X (.BoolOp .And [a, b, c] pos) Γ (.da (.bool (k && (k2 && k3)))) Γ :=
  fun _ hq => we_andB (ha _ ⟨k, rfl, fun e => xe_andB (hb e) (hc e) _ (by rw [e, Bool.true_and] at hq; exact hq), fun e => by rw [e, Bool.false_and] at hq; exact hq⟩)
theorem eqv_self {d : PyData} (h : d.plain = true) : PyData.eqv d d = true := PySem.SeqAt.eqv_refl_plain d h
end
end TL

/-! TL35: y = [..] with a drawn walk, for over a drawn walk, a method of a thing just made. -/
namespace TL
open PySem PySem.Spec PyProof.Rows L2
section
variable {X : Cx} {k : Nat} {scope : Scope} {it tg elt : Expr} {rest body : List Stmt} {Γ : Sl} {Ψ : OD → Sl → Prop} {Φ : Out → Prop} {pos spos py : Pos} {α β : Type} {nm : Str}
theorem lc_wany (own : List (Str × Nat)) (u : α → Sl → Sl) (E : α → PyData) (F : β → PyData) (P : List α → Prop) (Pb : β → Prop) (h : WI X tg it Γ fun ds Γ1 => Γ1 = Γ ∧ ∃ xs : List α, P xs ∧ ds = xs.map E ∧ xs.length ≤ sizeLine)
    (hg : ∀ xs x, P xs → x ∈ xs → GB X scope own tg (E x) Γ (u x Γ)) (he : ∀ xs x, P xs → x ∈ xs → ∀ s H C cl fp, WE (Blk X scope s H C cl fp) elt (u x Γ) fun r Γ' => ∃ b, Frz r (F b) ∧ Pb b ∧ Γ' = u x Γ)
    (hq : ∀ (xs : List α) (bs : List β), P xs → bs.length = xs.length → (∀ b ∈ bs, Pb b) → Ψ (.ll (bs.map F)) Γ)
    (hd3 : ∀ x, dropΓ (own.map (·.2)) (u x Γ) = Γ) (hd : dropΓ (own.map (·.2)) Γ = Γ) :
    LcWI X scope own tg it elt [] Γ (fun ds n Γ' acc => ∃ (xs : List α) (bs : List β), P xs ∧ ds = xs.map E ∧ Γ' = Γ ∧ acc = bs.map F ∧ bs.length = n ∧ ∀ b ∈ bs, Pb b) Ψ := by
  intro I H σ F1 en R' k'
  refine h I H σ F1 en R' fun ds Γ1 I1 H1 F2 J ⟨e1, xs, hp, hds, hsz⟩ st1 en1 => k' ds Γ1 I1 H1 F2 J ⟨by rw [hds, List.length_map]; exact hsz, ⟨xs, [], hp, hds, by rw [e1]; exact hd, rfl, rfl, by simp⟩, ?_, ?_⟩ st1 en1
  · rintro n d Γ2 acc hn ⟨ys, bs, hp', hds', rfl, rfl, hl, hb⟩
    rw [hds', List.getElem?_map] at hn
    obtain ⟨x, hx, rfl⟩ := Option.map_eq_some_iff.mp hn
    have hm := List.mem_of_getElem? hx
    refine ⟨u x _, hg ys x hp' hm, fun k Γ4 => k = true ∧ Γ4 = u x _, fun s H C cl fp => wts_nil ⟨rfl, rfl⟩, ?_⟩
    rintro k Γ4 ⟨rfl, rfl⟩
    refine ⟨fun _ s H C cl fp => (he ys x hp' hm s H C cl fp).mono fun r Γ5 ⟨b, fz, pb, e5⟩ => ⟨F b, fz, ys, bs ++ [b], hp', hds', by rw [e5]; exact hd3 x, by simp, by simp [hl], fun b' hb' => ?_⟩, fun q => Bool.noConfusion q⟩
    rcases List.mem_append.mp hb' with z | z
    · exact hb b' z
    · simp at z
      rw [z]
      exact pb
  · rintro Γ2 acc ⟨ys, bs, hp', hds', rfl, rfl, hl, hb⟩
    rw [hd]
    rw [hds', List.length_map] at hl
    exact hq ys bs hp' hl hb
/-- y = [elt for .. in it], what it walks and what it answers drawn -/
theorem ws_setLcWA (i : Nat) (own : List (Str × Nat)) (u : α → Sl → Sl) (E : α → PyData) (F : β → PyData) (P : List α → Prop) (Pb : β → Prop) (fx : Fr X k) (h : WI X tg it Γ fun ds Γ1 => Γ1 = Γ ∧ ∃ xs : List α, P xs ∧ ds = xs.map E ∧ xs.length ≤ sizeLine)
    (hg : ∀ xs x, P xs → x ∈ xs → GB X scope own tg (E x) Γ (u x Γ)) (he : ∀ xs x, P xs → x ∈ xs → ∀ s H C cl fp, WE (Blk X scope s H C cl fp) elt (u x Γ) fun r Γ' => ∃ b, Frz r (F b) ∧ Pb b ∧ Γ' = u x Γ)
    (hq : ∀ (xs : List α) (bs : List β), P xs → bs.length = xs.length → (∀ b ∈ bs, Pb b) → WSs X rest (Γ.set i (some (.ll (bs.map F)))) Φ)
    (hd3 : ∀ x, dropΓ (own.map (·.2)) (u x Γ) = Γ := by intro x; rfl) (hd : dropΓ (own.map (·.2)) Γ = Γ := by rfl)
    (hN : X.N[i]? = some nm := by rfl) (hyl : X.env.scope.names.lookup nm = some .local := by rfl) (hl : Nat.blt i Γ.length = true := by rfl) (hsw : swapsWith (.ListComp elt [⟨tg, it, [], 0⟩] scope pos) (some (.Name nm py)) spos.line X.env = pure true := by rfl)
    (ok : blkC X.N X.env.scope scope own = true := by rfl) (hs : ∀ x, foldedSetIterable it X.env x = pure x := by intro _; rfl) : WSs X (.Assign [.Name nm py] (.ListComp elt [⟨tg, it, [], 0⟩] scope pos) spos :: rest) Γ Φ :=
  ws_setLc i own _ fx.calm fx.nd (lc_wany (Ψ := fun r Γ1 => WSs X rest (Γ1.set i (some r)) Φ) own u E F P Pb h hg he hq hd3 hd) hN hyl hl hsw ok hs
/-- for over a drawn walk -/
theorem ws_forW {kk : Nat} (f : Fr X kk) (E : α → PyData) (P : List α → Prop) (st : β → Sl) (Inv : List α → Nat → β → Prop) (hi : WI X tg it Γ fun ds Γ1 => ∃ (xs : List α) (b0 : β), P xs ∧ ds = xs.map E ∧ Inv xs 0 b0 ∧ Γ1 = st b0)
    (turn : ∀ (xs : List α) (n : Nat) (x : α) (b : β), P xs → xs[n]? = some x → Inv xs n b → WG X tg (.da (E x)) (st b) fun Γ3 => WSs X body Γ3 (loopΦ (fun Γ4 => ∃ b', Inv xs (n + 1) b' ∧ Γ4 = st b') (thn2 X rest Φ)))
    (fin : ∀ xs b, P xs → Inv xs xs.length b → WSs X rest (st b) Φ) (hs : ∀ x, foldedSetIterable it X.env x = pure x := by intro _; rfl) : WSs X (.For tg it body [] pos :: rest) Γ Φ := by
  refine ws_for (fun ds n Γ' => ∃ (xs : List α) (b' : β), P xs ∧ ds = xs.map E ∧ Inv xs n b' ∧ Γ' = st b') f.own f.calm ?_ hs
  intro I H σ F en R k
  refine hi I H σ F en R fun ds Γ1 I1 H1 F1 J ⟨xs, b0, hp, hds, h0, e0⟩ st1 en1 => k ds Γ1 I1 H1 F1 J ⟨⟨xs, b0, hp, hds, h0, e0⟩, ?_, ?_⟩ st1 en1
  · rintro n d Γ2 hn ⟨ys, b', hp', hds', hb, rfl⟩
    rw [hds', List.getElem?_map] at hn
    obtain ⟨x, hx, rfl⟩ := Option.map_eq_some_iff.mp hn
    intro I H σ F v en Q k
    refine turn ys n x b' hp' hx hb I H σ F v en Q fun Γ3 I' H' σ' F' h3 => k Γ3 I' H' σ' F' (h3.mono fun o ho => ?_)
    cases o with
    | nx Γ4 => exact ⟨ys, ho.choose, hp', hds', ho.choose_spec⟩
    | ct Γ4 => exact ⟨ys, ho.choose, hp', hds', ho.choose_spec⟩
    | bk Γ4 => exact ho
    | rt r Γ4 => exact ho
  · rintro Γ2 ⟨ys, b', hp', hds', hb, rfl⟩
    rw [hds', List.length_map] at hb
    exact fin ys b' hp' hb
end
section
variable {X : Cx} {e a b c o : Expr} {es : List Expr} {Γ Γ' Γ1 Γ2 : Sl} {Ψ : OD → Sl → Prop} {pos p apos : Pos} {m : Str} {k : Nat} {ps : List Str} {sp : SpD} {C : Addr}
/-- o.m(), o a thing just made -/
theorem we_methE0 (G : DefM X.prog X.w X.K X.mg X.base k C m ps sp) (hr : Room k X.A) (hgd : X.A.guards = some [])
    (h : WE X o Γ fun r Γ1 => ∃ fs, r = .ob C fs ∧ fs.lookup m = none ∧ sp [r] fun r as' => Ψ r (putBack [none] as' Γ1)) {pl : Sem Bool}
    (ht : eval (.Call (.Attribute o m apos) [] [] pos) X.env = (do
      let ov ← eval o X.env
      standAt apos.atName
      let (f, first) ← holding [ov] (getMethod ov m pl)
      callWith pos f first (backTo pos (starEach [] X.env)) (backToKw pos (keywordEach [] X.env))) := by rfl) : WE X (.Call (.Attribute o m apos) [] [] pos) Γ Ψ := fun I H σ F en Q kq => by
  obtain ⟨fa, fd, FG, hm, hb, c⟩ := G
  refine ⟨_, pe_methG0 wpE_ok c hm FG hr hgd hb pass0 ht, h I H σ F en _ ?_⟩
  rintro _ Γ1 I1 H1 v F1 ⟨fs, rfl, hno, hsp⟩ st1 en1
  obtain ⟨B0, G0, hF, o, en2, up⟩ := en1.pop
  obtain ⟨q, dx, fv, F0, rfl, hB, g1, g2, g3, g4, _⟩ := VOB.ob.own o
  exact ⟨q, dx, fv, rfl, g1, ob_none g3 hno, call_fin (Ψ := Ψ) (rs := [.ob C fs]) (refs := [none]) (vs := [V.ref q]) hsp rfl (RefsOk.none (fun k i e => by simp at e)) st1 en1 kq⟩
end
end TL

/-! TL36: the law's own def, by its body. -/
namespace TL
open PySem PySem.Spec PyProof.Rows L2
theorem fn_def {P : Program} {w : World} {K : PySem.W.Frag} {mg : Str → Option Value} {bs : Heap} {k : Nat} {nm : Str} {st : Stmt} {N ps : List Str} {sp : SpD} (S : FnScope N ps (defScope st)) (ln : ∀ as Ψ, sp as Ψ → as.length = ps.length)
    (hb : ∀ (f : Addr) (cdv : Value) (A : Around) (fr : List PySem.Env) (s : Shared) (H : Hp) (E : XK), TL.Fr (dcx P w K mg bs N nm st f cdv A fr s H E) k → ∀ (as : List OD) (Ψ : OD → List OD → Prop) (vs : List V), sp as Ψ → vs.length = ps.length →
      WSs (dcx P w K mg bs N nm st f cdv A fr s H E) (defBody st) (start0 N as vs) (fnΦ as vs Ψ)) : ∀ f fd, Fun K nm nm st f fd → FnG P w K mg bs CX0 (k + 1) f fd ps (mkSp ⟨P, w, K⟩ sp) :=
  fun f fd F => fn_ok F S ln fun X' cdv A fr s H E hX hr hg as Ψ vs hsp hl => by
    subst hX
    exact hb f cdv A fr s H E ⟨S.nd, rfl, PassesOwn.never, hr, hg⟩ as Ψ vs hsp (by rw [hl, ln as Ψ hsp])
theorem dkm_mk {K : PySem.W.Frag} {m qual : Str} {st : Stmt} {C f : Addr} {od an : Option Addr} {sl : Array (Option Value)} {oc kV dc pm cd ct : Value} (a : PySem.W.findIn K (.ref C) m = some (some (.ref f))) (i : PySem.W.isFn K (.ref f) = true)
    (l : K.lookup f = some ⟨oc, od, .func (PySem.W.fnOf m qual (defArgs st) (defBody st) (defScope st) .none kV dc pm an cd ct), sl⟩) (c : PySem.W.codeIn K cd qual = true) (k : PySem.W.keepIn K (.ref f) = true) : DKM K C m qual st := ⟨_, _, fun_mk (st := st) l c k, ⟨a, i, k⟩⟩
theorem dki_mk {K : PySem.W.Frag} {cn qual : Str} {st : Stmt} {C f : Addr} {od an : Option Addr} {sl : Array (Option Value)} {oc kV dc pm cd ct : Value} (aC : PySem.W.nsIn K mainGlobals cn = some (some (.ref C))) (a : PySem.W.findIn K (.ref C) "__init__" = some (some (.ref f))) (i : PySem.W.isFn K (.ref f) = true)
    (l : K.lookup f = some ⟨oc, od, .func (PySem.W.fnOf "__init__" qual (defArgs st) (defBody st) (defScope st) .none kV dc pm an cd ct), sl⟩) (c : PySem.W.codeIn K cd qual = true) (k : PySem.W.keepIn K (.ref f) = true) (mk : PySem.W.makesIn K C = true) (kc : PySem.W.keepIn K (.ref C) = true) : DKI K C cn qual st :=
  ⟨_, _, fun_mk (st := st) l c k, ⟨mk, a, i, kc⟩, aC⟩
theorem dkc_mk {K : PySem.W.Frag} {nm : Str} {i : Int} {t : _} (a : PySem.W.nsIn K mainGlobals nm = some (some (.int i t))) : DKC K nm i := ⟨t, a⟩
end TL

/-! TL37: a set comprehension over an object that grows by set.add; for numbers. -/
namespace TL
open PySem PySem.Spec PyProof.Rows L2
abbrev bareSet (w : World) : Obj := { cls := .type "set", dict := none, data := .set #[] 0 (.fresh 0 0 (!w.params.followText "set-order")) }
/-- an object that set.add lets grow -/
structure Gro (P : Program) (w : World) (τ : Type) where
  O : Addr → τ → HO
  z : τ
  step : Hp → V → τ → τ → Prop
  lay : ∀ (H : Hp) (h : Heap), ObjOk P w H (h.push (bareSet w)) h.objs.size (O h.objs.size z)
  grow : ∀ (Y : Cx), Y.prog = P → Y.w = w → ∀ {pins : List (Addr × Obj)} {σ : L2.St} {H : Hp} {s : Shared} {Er : Value → Shared → Prop} {D : Addr} {y : V} {u : Value} {t t' : τ} {Q : Value → Shared → Prop}, Inv Y pins σ H s → H D = some (O D t) → step H y t t' → RelV y u →
    (∀ s', Inv Y pins σ (upd H D (O D t')) s' → Q .none s') → wpAny (model P w) Y.A (call (.builtin "set.add") [.ref D, u]) Q Er s
section
variable {P : Program} {w : World} {τ : Type}
/-- what the loop of the block keeps -/
def scStep (G : Gro P w τ) (g : TG) (tt : TT) (te : TE) (vs : List Nat) (σw : L2.St) (J : It) (D : Addr) (Qf : Hp → Prop) (W : Nat → Nat → Hp → Prop) : Prop := ∀ i m H, W i m H → (J.stop i H ∧ Qf H) ∨ (J.go i H ∧ ∃ Nx : Hp → Prop, (∀ H', Nx H' → ∃ k, k < m ∧ W (i + 1) k H') ∧
  ∀ x H', J.yld i H x H' → g x σw H' fun σ4 H4 => wipe σ4 vs = σw ∧ tt σ4 H4 fun b H5 => if b = true then te σ4 H5 fun y H6 => ∃ t t', H6 D = some (G.O D t) ∧ G.step H6 y t t' ∧ Nx (upd H6 D (G.O D t')) else Nx H5)
def tScG (G : Gro P w τ) (wi : TI) (g : TG) (tt : TT) (te : TE) (vs : List Nat) : TE := fun σ H Q => wi σ H fun J H1 => ∀ D, H1 D = none → ∃ W : Nat → Nat → Hp → Prop, (∃ m, W 0 m (upd H1 D (G.O D G.z))) ∧ scStep G g tt te vs (wipe σ vs) J D (fun H2 => Q (.ref D) H2) W
end
section
variable {τ : Type} {elt tg iter : Expr} {ifs : List Expr} {scope : Scope} {pos : Pos} {g : TG} {tt : TT} {te : TE} {J : It} {fp : List Addr} {it D : Addr} {tn : Nat → Heap → Prop}
/-- the loop itself, in the block's context -/
theorem sc_loop {Y : Cx} (G : Gro Y.prog Y.w τ) {R : Result → Shared → Prop} (quiet : Y.xe = fun _ _ => False) (calm : Y.calm = true) (T : Turn Y.prog Y.w Y.K tg J fp it tn) (pg : PG Y tg g) (pt : PTs Y ifs tt) (pe : PE Y elt te)
    (apart : ∀ {σ' : L2.St} {H' : Hp} {s' : Shared}, Inv Y [] σ' H' s' → (∀ b ∈ fp, H' b = none) → ∀ b ∈ fp, FpOk Y [] H' b) {vs : List Nat} {σ0 : L2.St} {Qf : Hp → Prop} {W : Nat → Nat → Hp → Prop} (turn : scStep G g tt te vs (wipe σ0 vs) J D Qf W)
    (fin : ∀ s' H', Inv Y [] (wipe σ0 vs) H' s' → Qf H' → R (.ok .next) s') {m0 : Nat} {H0 : Hp} {s : Shared} (w0 : W 0 m0 H0) (I0 : Inv Y [] (wipe σ0 vs) H0 s) (t0 : tn 0 s.heap) (n0 : ∀ b ∈ fp, H0 b = none) :
    codeAny (model Y.prog Y.w) Y.A (.compLoop (.SetComp elt [⟨tg, iter, ifs, 0⟩] scope pos) 0 (.ref it) (.ref D) Y.env) R s := by
  have noE : ∀ {α : Type} {a : Sem α} {Q Q' : α → Shared → Prop} {E' : Value → Shared → Prop} {u : Shared}, wpAny (model Y.prog Y.w) Y.A a Q Y.xe u → (∀ x u', Q x u' → Q' x u') → wpAny (model Y.prog Y.w) Y.A a Q' E' u := fun h hq => wpAny_mono h hq fun e u' z => by
    rw [quiet] at z
    exact z.elim
  refine PpSet.compLoopS_any (fun n s' => ∃ i H', Inv Y [] (wipe σ0 vs) H' s' ∧ tn i s'.heap ∧ (∀ b ∈ fp, H' b = none) ∧ W i n H') ?_ m0 ⟨0, H0, I0, t0, n0, w0⟩
  rintro n u ⟨i, Hu, Iu, tu, nu, wu⟩
  rcases turn i n Hu wu with ⟨hstop, hq⟩ | ⟨hgo, Nx, down, body⟩
  · refine thnF (T.done Y rfl rfl rfl calm i [] u _ Hu (fun _ _ => False) Iu (apart Iu nu) tu hstop) fun r u1 ⟨hr, I1⟩ => ?_
    subst hr
    exact fin u1 Hu I1 hq
  · refine thnF (T.item Y rfl rfl rfl calm i [] u _ Hu (fun _ _ => False) Iu (apart Iu nu) tu hgo) fun r u1 ⟨y, hr, h1⟩ => ?_
    subst hr
    refine thnF h1 fun _ u2 ⟨x, H2, I2, rx, hy, t2, n2⟩ => ?_
    have I3 := I2.pinned (apart I2 n2) (T.obj _ _ t2)
    refine noE (pg.run _ u2 _ H2 x y _ I3 rx (body x H2 hy)) fun _ u3 ⟨σ3, H3, I4, hw3, q3⟩ => ?_
    refine noE (pt.run _ u3 σ3 H3 _ I4 q3) fun b u4 ⟨H4, I5, q4⟩ => ?_
    have close : ∀ {u' : Shared} {H' : Hp}, Inv Y ([] ++ pinsAt fp u2.heap) σ3 H' u' → Nx H' → ∃ m, m < n ∧ ∃ i H', Inv Y [] (wipe σ0 vs) H' u' ∧ tn i u'.heap ∧ (∀ b ∈ fp, H' b = none) ∧ W i m H' := fun {u' H'} I' hx => by
      obtain ⟨k, hk, wk⟩ := down H' hx
      have held : ∀ b ∈ fp, ∀ ob, u2.heap.get? b = some ob → u'.heap.get? b = some ob ∧ H' b = none := fun b hb ob e => by
        have z := I'.pin (b, ob) (List.mem_append_right _ (List.mem_append_right _ (mem_pinsAt hb e)))
        exact ⟨z.1, z.2.1⟩
      refine ⟨k, hk, i + 1, H', (I'.unpinned (pins := [])).weak (by rw [← hw3, wipe_length]) (fun j v e => ?_), T.keep _ _ _ t2 fun b hb ob e => (held b hb ob e).1, fun b hb => ?_, wk⟩
      · rw [← hw3] at e
        exact (wipe_some e).1
      · obtain ⟨ob, e, _⟩ := T.obj _ _ t2 b hb
        exact (held b hb ob e).2
    cases b with
    | false =>
      simp only [Bool.false_eq_true, if_false] at q4 ⊢
      exact close I5 q4
    | true =>
      simp only [if_true] at q4 ⊢
      refine noE (pe.run _ u4 σ3 H4 _ I5 q4) fun v u5 ⟨y5, H5, I6, r5, t, t', hD, hst, hx⟩ => ?_
      exact G.grow Y rfl rfl I6 hD hst r5 fun u6 I7 => close I7 hx
end
section
variable {X : Cx} {τ : Type} {elt tg iter : Expr} {ifs : List Expr} {scope : Scope} {own : List (Str × Nat)} {pos : Pos} {wi : TI} {g : TG} {tt : TT} {te : TE}
theorem pe_scG (G : Gro X.prog X.w τ) (calm : X.calm = true) (nd : X.N.Nodup) (hi : PI X tg iter wi) (ok : BlkOk X.N X.env.scope scope own) (hg : ∀ s H C cl fp, PG (Blk X scope s H C cl fp) tg g) (ht : ∀ s H C cl fp, PTs (Blk X scope s H C cl fp) ifs tt) (he : ∀ s H C cl fp, PE (Blk X scope s H C cl fp) elt te)
    (hs : ∀ x, foldedSetIterable iter X.env x = pure x := by intro _; rfl) : PE X (.SetComp elt [⟨tg, iter, ifs, 0⟩] scope pos) (tScG G wi g tt te (own.map (·.2))) := by
  refine ⟨fun pins s σ H Q I hw => ?_⟩
  rw [PpSet.eval_SetComp]
  have cells : ∀ y ∈ scope.names, y.2 = .free → ∃ c, X.env.cells.lookup y.1 = some c := fun y hy e => (ok.free y hy e).elim (fun k => I.ok.has _ (.inl k)) fun k => I.ok.has _ (.inr k)
  refine wpAny_comprehension_free (use := none) rfl hs (closure_ok cells) ok.kind (fun y hy e => (ok.uniq y hy).trans (by rw [e])) ?_
  refine thn (hi.run pins s σ H _ I hw) fun v0 s0 h0 => thn h0 fun v1 s1 h1 => ?_
  obtain ⟨it, fp, tn, J, H1, rfl, I1, T, t1, f1, body⟩ := h1
  refine PpSet.newSet_ok (newEnv_comp ?_)
  generalize hD : s1.heap.objs.size = D
  have Dn : H1 D = none := I1.hok.fresh (Nat.le_of_eq hD)
  obtain ⟨W, ⟨m0, w0⟩, turn⟩ := body D Dn
  have keep1 : ∀ b ob, s1.heap.get? b = some ob → (s1.heap.push (bareSet X.w)).get? b = some ob := fun b ob e => Heap.get?_push_of_some _ e
  obtain ⟨s2, e2⟩ : ∃ s2 : Shared, { s1 with heap := s1.heap.push (bareSet X.w) } = s2 := ⟨_, rfl⟩
  have h2 : s2.heap = s1.heap.push (bareSet X.w) := by rw [← e2]
  obtain ⟨H2, eH⟩ : ∃ H2 : Hp, upd H1 D (G.O D G.z) = H2 := ⟨_, rfl⟩
  have I2 : Inv X pins σ H2 s2 := by
    rw [← e2, ← eH]
    refine I1.laid (t' := s1.toks) keep1 (Nat.le_of_eq hD) ?_
    have := G.lay (upd H1 D (G.O D G.z)) s1.heap
    rwa [hD] at this
  rw [eH] at w0
  have small : ∀ b ∈ fp, b < s1.heap.objs.size := fun b hb => by
    obtain ⟨ob, e, _⟩ := T.obj _ _ t1 b hb
    exact Heap.lt_size e
  have f2 : ∀ b ∈ fp, FpOk X pins H2 b ∧ b < s2.heap.objs.size := fun b hb => by
    have lt := small b hb
    refine ⟨⟨?_, (f1 b hb).2⟩, by rw [h2, Heap.size_push]; exact Nat.lt_succ_of_lt lt⟩
    rw [← eH, upd_ne (by rw [← hD]; exact Nat.ne_of_lt lt)]
    exact (f1 b hb).1
  have t2 : tn 0 s2.heap := T.keep _ _ _ t1 fun b _ ob e => by rw [h2]; exact keep1 b ob e
  have I3 := block_start I2 ok nd f2
  have n2 : ∀ b ∈ fp, H2 b = none := fun b hb => (f2 b hb).1.1
  have pg := hg s2 H2 s2.heap.objs.size (cellsFrom (s2.heap.objs.size + 1) scope.names (cloFrom X.env.cells scope.names [])) fp
  have pt := ht s2 H2 s2.heap.objs.size (cellsFrom (s2.heap.objs.size + 1) scope.names (cloFrom X.env.cells scope.names [])) fp
  have pe := he s2 H2 s2.heap.objs.size (cellsFrom (s2.heap.objs.size + 1) scope.names (cloFrom X.env.cells scope.names [])) fp
  show codeAny _ _ (.compStart (.SetComp elt [⟨tg, iter, ifs, 0⟩] scope pos) 0 (.ref it) (.ref D) (compEnvC scope (cellsFrom ({ s1 with heap := s1.heap.push (bareSet X.w) } : Shared).heap.objs.size.succ scope.names (cloFrom X.env.cells scope.names [])) ({ s1 with heap := s1.heap.push (bareSet X.w) } : Shared).heap.objs.size X.env)) _ { ({ s1 with heap := s1.heap.push (bareSet X.w) } : Shared) with heap := pushCells (({ s1 with heap := s1.heap.push (bareSet X.w) } : Shared).heap.push { cls := .type "dict", data := .dict #[] }) scope.names }
  rw [e2]
  show codeAny _ _ (.compStart (.SetComp elt [⟨tg, iter, ifs, 0⟩] scope pos) 0 (.ref it) (.ref D) (compEnvC scope (cellsFrom (s2.heap.objs.size + 1) scope.names (cloFrom X.env.cells scope.names [])) s2.heap.objs.size X.env)) (compPost (model X.prog X.w) X.A X.xe none _ (.ref D) s2.heap.objs.size) _
  generalize hce : compEnvC scope (cellsFrom (s2.heap.objs.size + 1) scope.names (cloFrom X.env.cells scope.names [])) s2.heap.objs.size X.env = ce at I3 ⊢
  unfold Blk at pg pt pe
  rw [hce] at pg pt pe
  have cl : ce.locals = s2.heap.objs.size := by rw [← hce]; rfl
  obtain ⟨s3, e3⟩ : ∃ s3 : Shared, { s2 with heap := pushCells (s2.heap.push { cls := .type "dict", data := .dict #[] }) scope.names } = s3 := ⟨_, rfl⟩
  rw [e3] at I3 ⊢
  have t3 : tn 0 s3.heap := T.keep _ _ _ t2 fun b _ ob e => by rw [← e3]; exact pushCells_keeps _ _ _ _ (Heap.get?_push_of_some _ e)
  have apart : ∀ {σ' : L2.St} {H' : Hp} {s' : Shared}, Inv (X.blk s2 H2 scope ce fp) [] σ' H' s' → (∀ b ∈ fp, H' b = none) → ∀ b ∈ fp, FpOk (X.blk s2 H2 scope ce fp) [] H' b := fun {σ' H' s'} I' hn b hb =>
    ⟨hn b hb, (I'.ok.exf b hb).1, I'.ok.exfs b hb, .inl hb, fun x c e => (I'.ok.exf b hb).2 x c e, fun p hp => absurd (show p ∈ ([] : List (Addr × Obj)) ++ [] from hp) (by simp)⟩
  refine PpSet.codeAny_compStart_set ?_ ?_
  all_goals first
    | refine T.self X.A 0 _ _ _ t3 ?_
    | skip
  all_goals
    refine sc_loop (Y := X.blk s2 H2 scope ce fp) G rfl calm T pg pt pe apart turn (fun s' H' I' hq => ?_) w0 I3 t3 n2
    have I4 : Inv X pins σ H' s' := I2.call' (ch := fp) I'.os I'.base I'.hok I'.bare fun b hb => ⟨(f2 b hb).1.2.2.2.1, (f2 b hb).1.2.1, (f2 b hb).1.2.2.2.2.1, (f2 b hb).1.2.2.2.2.2⟩
    have nC : H' s2.heap.objs.size = none := by
      have z : H' ce.locals = none := I'.free
      rwa [cl] at z
    obtain ⟨m, hn, _⟩ := I'.loc
    have hn : s'.heap.Ns ce.locals m := hn
    rw [cl] at hn
    obtain ⟨g0, g1, g2, g3, g4, g5⟩ := I2.fpOk (Nat.le_refl _) nC
    exact ⟨m, hn, fun h'' sb => ⟨.ref D, H', I4.turned (t' := s'.toks) (fun b ob hb e => (sb.2 b hb).trans e) g0 g1 g3 g4 g5, rfl, hq⟩⟩
end
/-- sets of numbers -/
def groI (P : Program) (w : World) : Gro P w ((Int → Bool) × Nat) where
  O := fun D t => SetO w D t.1 t.2
  z := (fun _ => false, 0)
  step := fun _ v t t' => ∃ k : Int, v = .int k ∧ t.2 + 1 < scanBound ∧ t' = (fun j => t.1 j || decide (j = k), if t.1 k = true then t.2 else t.2 + 1)
  lay := fun H h => setO_new (setR_fresh w)
  grow := by
    rintro Y rfl rfl pins σ H s Er D y u t t' Q I hD ⟨k, rfl, room, rfl⟩ r hq
    obtain ⟨tk, rfl⟩ := r
    refine setR_add (setO_get I hD) room fun h' sb new => ?_
    have alive : ∃ ob, h'.get? D = some ob := by
      obtain ⟨ob, _, _, _, ho, _⟩ := new
      exact ⟨ob, ho⟩
    exact hq _ (I.write (e := D) (t' := s.toks + 1) (by rw [hD]; trivial) (.inl rfl) (fun b ob hb e => (sb.2 b hb).trans e) alive (setO_new new))
end TL

/-! TL38: sorted({..}) and len({..}) of numbers. -/
namespace TL
open PySem PySem.Spec PyProof.Rows L2
/-- a set's members, listed once each -/
structure Mem1 (S : Int → Bool) (c : Nat) (ks : List Int) : Prop where
  nd : ks.Nodup
  mem : ∀ k, S k = true ↔ k ∈ ks
  len : c = ks.length
theorem Mem1.nil : Mem1 (fun _ => false) 0 [] := ⟨.nil, fun k => by simp, rfl⟩
theorem Mem1.add {S : Int → Bool} {c : Nat} {ks : List Int} (m : Mem1 S c ks) (k : Int) : Mem1 (fun j => S j || decide (j = k)) (if S k = true then c else c + 1) (if k ∈ ks then ks else ks ++ [k]) := by
  by_cases h : k ∈ ks
  · rw [if_pos h, if_pos ((m.mem k).mpr h)]
    refine ⟨m.nd, fun j => ?_, m.len⟩
    rw [Bool.or_eq_true, decide_eq_true_eq, m.mem j]
    exact ⟨fun z => z.elim id fun e => e ▸ h, .inl⟩
  · rw [if_neg h, if_neg (fun z => h ((m.mem k).mp z))]
    refine ⟨?_, fun j => ?_, by rw [List.length_append, m.len]; rfl⟩
    · exact List.nodup_append.mpr ⟨m.nd, by simp, fun a ha b hb e => h (by rw [← List.mem_singleton.mp hb, ← e]; exact ha)⟩
    · rw [Bool.or_eq_true, decide_eq_true_eq, m.mem j, List.mem_append, List.mem_singleton]
section
variable {X : Cx} {tg it elt : Expr} {scope : Scope} {own : List (Str × Nat)} {α : Type} {Γ : Sl}
/-- the walk of {elt for tg in it}, elt a number -/
theorem sc_readI {k : Nat} (u : α → Sl → Sl) (xs : List α) (E : α → PyData) (f : α → Int) (fx : Fr X k) (hi : XI X tg it Γ (xs.map E) Γ) (hsz : xs.length < 4000) (hg : ∀ x ∈ xs, GB X scope own tg (E x) Γ (u x Γ)) (he : ∀ x ∈ xs, XB X scope elt (u x Γ) (.da (.int (f x))) (u x Γ))
    (hd3 : ∀ x, dropΓ (own.map (·.2)) (u x Γ) = Γ) (hd : dropΓ (own.map (·.2)) Γ = Γ) {I H : Hp} {σ : L2.St} {F : List Addr} (en : EnvF X.tc I H σ Γ F) (Q : VK)
    (kq : ∀ (I' H' : Hp) (F' : List Addr) (D : Addr) (S : Int → Bool) (c : Nat) (ks : List Int), H' D = some (SetO X.w D S c) → Mem1 S c ks → ks.length ≤ xs.length → (∀ j, j ∈ ks ↔ ∃ x ∈ xs, f x = j) → Step I H F I' H' F' → EnvF X.tc I' H' σ Γ F' → Q (.ref D) H') :
    tScG (groI X.prog X.w) (wpI X tg it) (fun v σ H Q => ∀ s H0 C cl fp, wpG (Blk X scope s H0 C cl fp) tg v σ H Q) tYes (fun σ H Q => ∀ s H0 C cl fp, wpE (Blk X scope s H0 C cl fp) elt σ H Q) (own.map (·.2)) σ H Q := by
  generalize hvs : own.map (·.2) = vs at *
  refine hi (fun ds Γ' => ds = xs.map E ∧ Γ' = Γ) ⟨rfl, rfl⟩ I H σ F en _ fun ds Γ1 I1 H1 F1 Jt h1 st1 en1 isit D hD => ?_
  obtain ⟨rfl, rfl⟩ := h1
  obtain ⟨Fw, enw, mw⟩ := env_drop vs en1
  rw [hd] at enw
  have nDw : D ∉ Fw := fun hb => by
    obtain ⟨⟨ob, q1⟩, _⟩ := enw.env.cells D hb
    rw [hD] at q1
    cases q1
  have en2 : EnvF X.tc I1 (upd H1 D ((groI X.prog X.w).O D (groI X.prog X.w).z)) (wipe σ vs) Γ1 Fw := ⟨enw.env.frame (Same.refl _) fun b hb => by
    obtain ⟨⟨ob, q1⟩, q2⟩ := enw.env.cells b hb
    exact ⟨upd_ne (ne_of_none q1 hD), q2⟩, enw.nd, upd_sub enw.sub hD⟩
  have st2 : Step I1 H1 F1 I1 (upd H1 D ((groI X.prog X.w).O D (groI X.prog X.w).z)) (D :: Fw) := (step_new (F := F1) hD).of_mem (fun b hb => hb) fun b hb => (List.mem_cons.mp hb).elim (fun q => q ▸ List.mem_cons_self) fun q => List.mem_cons_of_mem _ (mw b q)
  refine ⟨fun n m H' => m = xs.length - n ∧ n ≤ xs.length ∧ ∃ I2 F2 S c ks, H' D = some (SetO X.w D S c) ∧ I2 D = none ∧ Mem1 S c ks ∧ ks.length ≤ n ∧ (∀ j, j ∈ ks ↔ ∃ x ∈ xs.take n, f x = j) ∧ EnvF X.tc I2 H' (wipe σ vs) Γ1 F2 ∧ D ∉ F2 ∧ Step I1 H1 F1 I2 H' (D :: F2),
    ⟨_, rfl, Nat.zero_le _, I1, Fw, _, _, [], upd_same, en1.sub.free hD, .nil, Nat.le_refl _, fun j => by simp, en2, nDw, st2⟩, ?_⟩
  rintro n m H2 ⟨rfl, hn, I2, F2, S, c, ks, hD2, iD2, mem, hkl, hks, en3, nD2, st3⟩
  have hlen : (xs.map E).length = xs.length := List.length_map ..
  by_cases hlt : n < xs.length
  · refine .inr ⟨isit.go n I2 H2 st3.inc en3.sub (by rw [hlen]; exact hlt), fun H' => ∃ I3 F3 S' c' ks', H' D = some (SetO X.w D S' c') ∧ I3 D = none ∧ Mem1 S' c' ks' ∧ ks'.length ≤ n + 1 ∧ (∀ j, j ∈ ks' ↔ ∃ x ∈ xs.take (n + 1), f x = j) ∧ EnvF X.tc I3 H' (wipe σ vs) Γ1 F3 ∧ D ∉ F3 ∧ Step I1 H1 F1 I3 H' (D :: F3),
      fun H' q => ⟨xs.length - (n + 1), by omega, rfl, hlt, q⟩, fun v H3 hy => ?_⟩
    obtain ⟨I3, d, hdd, st4, sub3, hr⟩ := isit.yld n I2 H2 v H3 st3.inc en3.sub (by rw [hlen]; exact hlt) hy
    rw [List.getElem?_map, List.getElem?_eq_getElem hlt] at hdd
    have hdd := (Option.some.inj hdd).symm
    subst hdd
    have hx := List.getElem_mem hlt
    obtain ⟨hD3, iD3, _⟩ := st4.oth D _ hD2 iD2 (by simp)
    obtain ⟨en4, st4'⟩ := en3.grow st4 sub3
    intro s0 H0 C0 cl0 fp0
    have tgo := hg xs[n] hx s0 H0 C0 cl0 fp0
    rw [hvs] at tgo
    refine tgo I3 H3 (wipe σ vs) F2 v en4 hr _ ?_
    rintro _ I5 H5 σ5 F5 rfl st5 en5 w5
    rw [wipe_wipe] at w5
    refine ⟨w5, ?_⟩
    unfold tYes
    dsimp only
    rw [if_pos rfl]
    intro s2 H2' C2 cl2 fp2
    refine he xs[n] hx s2 H2' C2 cl2 fp2 (fun r Γ' => r = .da (.int (f xs[n])) ∧ Γ' = u xs[n] Γ1) ⟨rfl, rfl⟩ I5 H5 σ5 F5 en5 _ ?_
    rintro _ _ I7 H7 y F7 ⟨rfl, rfl⟩ st7 en7
    have st37 : Step I3 H3 F2 I7 H7 F7 := st5.trans st7
    obtain ⟨hD7, iD7, nD7⟩ := st37.oth D _ hD3 iD3 nD2
    obtain ⟨B, G, rfl, oo, en9, _⟩ := en7.pop
    cases oo with
    | da hy2 =>
      cases hy2
      obtain ⟨F8, en8, m8⟩ := env_drop vs en9
      rw [w5, hd3] at en8
      have nD8 : D ∉ F8 := fun q => nD7 (m8 D q)
      have room : c + 1 < scanBound := by
        have : (4096 : Nat) ≤ scanBound := by decide
        rw [mem.len]
        omega
      refine ⟨(S, c), _, hD7, ⟨f xs[n], rfl, room, rfl⟩, I7, F8, _, _, _, upd_same, iD7, mem.add (f xs[n]), ?_, fun j => ?_, ?_, nD8, ?_⟩
      · split
        · omega
        · rw [List.length_append]
          show _ + 1 ≤ _
          omega
      · rw [List.take_succ, List.getElem?_eq_getElem hlt]
        have e : (∃ x ∈ xs.take n ++ (some xs[n]).toList, f x = j) ↔ (j ∈ ks ∨ j = f xs[n]) := by
          rw [hks]
          constructor
          · rintro ⟨x, hx, rfl⟩
            rcases List.mem_append.mp hx with z | z
            · exact .inl ⟨x, z, rfl⟩
            · exact .inr (by rw [List.mem_singleton.mp z])
          · rintro (⟨x, hx, rfl⟩ | rfl)
            · exact ⟨x, List.mem_append_left _ hx, rfl⟩
            · exact ⟨xs[n], List.mem_append_right _ (by simp), rfl⟩
        rw [e]
        split
        · rename_i h
          exact ⟨.inl, fun z => z.elim id fun q => q ▸ h⟩
        · rw [List.mem_append, List.mem_singleton]
      · exact ⟨en8.env.frame (Same.refl _) fun b hb => ⟨upd_ne fun q => nD8 (q ▸ hb), (en8.env.cells b hb).2⟩, en8.nd, fun b ob q => by
          rw [upd_ne fun e => by
            rw [e, iD7] at q
            cases q]
          exact en8.sub b ob q⟩
      · refine ⟨(st3.inc.trans st4.inc).trans st37.inc, fun b ob q1 q2 q3 => ?_⟩
        obtain ⟨g1, g2, g3⟩ := st3.oth b ob q1 q2 q3
        rw [List.mem_cons, not_or] at g3
        obtain ⟨g4, g5, g6⟩ := st4'.oth b ob g1 g2 g3.2
        obtain ⟨g7, g8, g9⟩ := st37.oth b ob g4 g5 g6
        exact ⟨by rw [upd_ne g3.1]; exact g7, g8, fun q => (List.mem_cons.mp q).elim g3.1 fun q => g9 (m8 b q)⟩
  · have e : n = xs.length := by omega
    subst e
    refine .inl ⟨by have := isit.stop I2 H2 st3.inc en3.sub; rw [hlen] at this; exact this, ?_⟩
    obtain ⟨F3, en4, m4⟩ := env_undrop vs en3
    rw [hd] at en4
    rw [List.take_length] at hks
    exact kq I2 H2 F3 D S c ks hD2 mem hkl hks (st1.trans (st3.of_mem (fun b hb => hb) fun b hb => List.mem_cons_of_mem _ (m4 b hb))) en4
theorem tests_yes : PTs (X := X) [] tYes := pts_nil
end
section
variable {X : Cx} {tg it elt : Expr} {scope : Scope} {own : List (Str × Nat)} {α : Type} {Γ : Sl} {Ψ : OD → Sl → Prop} {pos pos2 p : Pos}
theorem pe_scI {k : Nat} (own : List (Str × Nat)) (fx : Fr X k) (ok : blkC X.N X.env.scope scope own = true) (hs : ∀ x, foldedSetIterable it X.env x = pure x) :
    PE X (.SetComp elt [⟨tg, it, [], 0⟩] scope pos) (tScG (groI X.prog X.w) (wpI X tg it) (fun v σ H Q => ∀ s H0 C cl fp, wpG (Blk X scope s H0 C cl fp) tg v σ H Q) tYes (fun σ H Q => ∀ s H0 C cl fp, wpE (Blk X scope s H0 C cl fp) elt σ H Q) (own.map (·.2))) :=
  pe_scG (groI X.prog X.w) fx.calm fx.nd wpI_ok (blkOk_by ok) (fun s H0 C cl fp => ⟨fun pins s' σ H v u Q I r h => wpG_ok.run pins s' σ H v u Q I r (h s H0 C cl fp)⟩) (fun s H0 C cl fp => pts_nil) (fun s H0 C cl fp => ⟨fun pins s' σ H Q I h => wpE_ok.run pins s' σ H Q I (h s H0 C cl fp)⟩) hs
theorem nats_of {ks : List Int} (h : ∀ j ∈ ks, 0 ≤ j) : ∃ ns : List Nat, ks = ns.map fun (n : Nat) => (n : Int) := by
  induction ks with
  | nil => exact ⟨[], rfl⟩
  | cons k ks ih =>
    obtain ⟨ns, rfl⟩ := ih fun j hj => h j (List.mem_cons_of_mem _ hj)
    obtain ⟨n, rfl⟩ := Int.eq_ofNat_of_zero_le (h k List.mem_cons_self)
    exact ⟨n :: ns, rfl⟩
theorem mem_cast {ns : List Nat} {n : Nat} : ((n : Int) ∈ ns.map fun (n : Nat) => (n : Int)) ↔ n ∈ ns := by
  rw [List.mem_map]
  exact ⟨fun ⟨a, ha, e⟩ => by rw [← Int.ofNat.inj e]; exact ha, fun h => ⟨n, h, rfl⟩⟩
/-- two ascending lists with the same members -/
theorem asc_ext {xs ys : List Nat} (hx : xs.Pairwise (· < ·)) (hy : ys.Pairwise (· < ·)) (h : ∀ n, n ∈ xs ↔ n ∈ ys) : xs = ys := by
  have nx : xs.Nodup := hx.imp fun q => Nat.ne_of_lt q
  have ny : ys.Nodup := hy.imp fun q => Nat.ne_of_lt q
  have p := (List.perm_ext_iff_of_nodup nx ny).mpr h
  exact p.eq_of_pairwise (fun a b _ _ h1 h2 => absurd (Nat.lt_trans h1 h2) (Nat.lt_irrefl a)) hx hy
theorem rpL_ilist {T : TC} {I : Hp} (ns : List Nat) : RpL T I ((ns.map fun (n : Nat) => (n : Int)).map V.int) (ilist ns) := by
  induction ns with
  | nil => exact .nil
  | cons n ns ih => exact .cons (.int _) ih
/-- sorted({elt for tg in it}) -/
theorem we_sortedSc {k : Nat} (own : List (Str × Nat)) (u : α → Sl → Sl) (xs : List α) (E : α → PyData) (f : α → Nat) (B : Blt X.mg) (fx : Fr X k) (hi : XI X tg it Γ (xs.map E) Γ) (hsz : xs.length < 64) (hg : ∀ x ∈ xs, GB X scope own tg (E x) Γ (u x Γ)) (he : ∀ x ∈ xs, XB X scope elt (u x Γ) (.da (.int (f x : Nat))) (u x Γ))
    (hq : ∀ ns : List Nat, ns.Pairwise (· < ·) → (∀ n, n ∈ ns ↔ ∃ x ∈ xs, f x = n) → ns.length ≤ xs.length → Ψ (.ll (ilist ns)) Γ)
    (hd3 : ∀ x, dropΓ (own.map (·.2)) (u x Γ) = Γ := by intro x; rfl) (hd : dropΓ (own.map (·.2)) Γ = Γ := by rfl) (hg1 : Gl X "sorted" := by rfl) (hse : starEach [.SetComp elt [⟨tg, it, [], 0⟩] scope pos2] X.env = (false, eval (.SetComp elt [⟨tg, it, [], 0⟩] scope pos2) X.env) :: starEach [] X.env := by rfl)
    (hpl : (backTo pos (starEach [] X.env)).any (·.1) = false := by rfl) (ok : blkC X.N X.env.scope scope own = true := by rfl) (hs : ∀ x, foldedSetIterable it X.env x = pure x := by intro _; rfl) :
    WE X (.Call (.Name "sorted" p) [.SetComp elt [⟨tg, it, [], 0⟩] scope pos2] [] pos) Γ Ψ := fun I H σ F en Q kq => by
  refine ⟨_, pe_callB (cr_sortedSet fx.calm) hg1 B.sorted (by decide +kernel) (pa_cons (pe_scI own fx ok hs) pa_nil hse) (by decide) (by decide) hse hpl, ?_⟩
  show tScG (groI X.prog X.w) _ _ _ _ _ σ H (fun v H1 => rSortedSet X.w [v] H1 Q)
  refine sc_readI u xs E (fun x => (f x : Int)) fx hi (by omega) hg he hd3 hd en _ fun I1 H1 F1 D S c ks hD mem hl hks st1 en1 => ?_
  obtain ⟨ks', rfl⟩ := nats_of (ks := ks) fun j hj => by
    obtain ⟨x, _, rfl⟩ := (hks j).mp hj
    exact Int.natCast_nonneg _
  refine ⟨D, S, c, rfl, hD, by rw [mem.len]; omega, fun ns p hpw hns hlen hp => ?_⟩
  obtain ⟨ns, rfl⟩ := nats_of (ks := ns) fun j hj => by
    obtain ⟨x, _, rfl⟩ := (hks j).mp ((mem.mem j).mp ((hns j).mp hj))
    exact Int.natCast_nonneg _
  have hpw' : ns.Pairwise (· < ·) := (List.pairwise_map.mp hpw).imp fun q => Int.ofNat_lt.mp q
  have free := en1.sub.free hp
  refine kq _ Γ I1 (upd H1 p (.lst ((ns.map fun (n : Nat) => (n : Int)).map V.int))) (.ref p) ([p] ++ F1) (hq ns hpw' (fun n => ?_) ?_) (st1.trans (step_new hp)) ⟨.cons (.ll upd_same free (rpL_ilist ns)) (en1.env.frame (Same.refl _) fun b hb => ?_), ?_, upd_sub en1.sub hp⟩
  · rw [← mem_cast, hns, mem.mem, hks]
    exact ⟨fun ⟨x, hx, e⟩ => ⟨x, hx, Int.ofNat.inj e⟩, fun ⟨x, hx, e⟩ => ⟨x, hx, by rw [e]⟩⟩
  · rw [List.length_map] at hlen
    rw [hlen, mem.len]
    exact hl
  · obtain ⟨⟨ob, q1⟩, q2⟩ := en1.env.cells b hb
    exact ⟨upd_ne (ne_of_none q1 hp), q2⟩
  · refine List.nodup_cons.mpr ⟨fun hb => ?_, en1.nd⟩
    obtain ⟨⟨ob, q1⟩, _⟩ := en1.env.cells p hb
    rw [hp] at q1
    cases q1
/-- len({elt for tg in it}) -/
theorem we_lenSc {k : Nat} (own : List (Str × Nat)) (u : α → Sl → Sl) (xs : List α) (E : α → PyData) (f : α → Nat) (B : Blt X.mg) (fx : Fr X k) (hi : XI X tg it Γ (xs.map E) Γ) (hsz : xs.length < 4000) (hg : ∀ x ∈ xs, GB X scope own tg (E x) Γ (u x Γ)) (he : ∀ x ∈ xs, XB X scope elt (u x Γ) (.da (.int (f x : Nat))) (u x Γ))
    (hq : ∀ ns : List Nat, ns.Nodup → (∀ n, n ∈ ns ↔ ∃ x ∈ xs, f x = n) → Ψ (.da (.int (ns.length : Nat))) Γ)
    (hd3 : ∀ x, dropΓ (own.map (·.2)) (u x Γ) = Γ := by intro x; rfl) (hd : dropΓ (own.map (·.2)) Γ = Γ := by rfl) (hg1 : Gl X "len" := by rfl) (hse : starEach [.SetComp elt [⟨tg, it, [], 0⟩] scope pos2] X.env = (false, eval (.SetComp elt [⟨tg, it, [], 0⟩] scope pos2) X.env) :: starEach [] X.env := by rfl)
    (hpl : (backTo pos (starEach [] X.env)).any (·.1) = false := by rfl) (ok : blkC X.N X.env.scope scope own = true := by rfl) (hs : ∀ x, foldedSetIterable it X.env x = pure x := by intro _; rfl) :
    WE X (.Call (.Name "len" p) [.SetComp elt [⟨tg, it, [], 0⟩] scope pos2] [] pos) Γ Ψ := fun I H σ F en Q kq => by
  have cl : CallR X (.builtin "len") (fun xs H Q => ∃ D S c, xs = [.ref D] ∧ H D = some (SetO X.w D S c) ∧ c < 4096 ∧ Q (.int (c : Nat)) H) := by
    rintro pins s σ H xs us Q I r ⟨D, S, c, rfl, hD, hc, q⟩
    rw [Vals.ref1 r]
    obtain ⟨o, es, ep, t, ho, hex, hd, _, _, _, _, hf, hn, _⟩ := setO_get I hD
    exact call_len_set ho hex hd hf (by rw [hn]; omega) ⟨.int (c : Nat), H, I.tok _, ⟨_, by rw [hn]⟩, q⟩
  refine ⟨_, pe_callB cl hg1 B.len PySem.boot_len (pa_cons (pe_scI own fx ok hs) pa_nil hse) (by decide) (by decide) hse hpl, ?_⟩
  show tScG (groI X.prog X.w) _ _ _ _ _ σ H (fun v H1 => ∃ D S c, [v] = [V.ref D] ∧ H1 D = some (SetO X.w D S c) ∧ c < 4096 ∧ Q (.int (c : Nat)) H1)
  refine sc_readI u xs E (fun x => (f x : Int)) fx hi hsz hg he hd3 hd en _ fun I1 H1 F1 D S c ks hD mem hl hks st1 en1 => ?_
  obtain ⟨ks', rfl⟩ := nats_of (ks := ks) fun j hj => by
    obtain ⟨x, _, rfl⟩ := (hks j).mp hj
    exact Int.natCast_nonneg _
  rw [List.length_map] at hl
  have hc : c = ks'.length := by rw [mem.len, List.length_map]
  refine ⟨D, S, c, rfl, hD, by omega, ?_⟩
  rw [hc]
  refine kq _ Γ I1 H1 _ F1 (hq ks' ?_ fun n => ?_) st1 (en1.da (.int _))
  · exact (List.pairwise_map.mp mem.nd).imp fun q e => q (by rw [e])
  · rw [← mem_cast, hks]
    exact ⟨fun ⟨x, hx, e⟩ => ⟨x, hx, Int.ofNat.inj e⟩, fun ⟨x, hx, e⟩ => ⟨x, hx, by rw [e]⟩⟩
end
end TL

/-! TL39: sorted(set(xs)), xs a list of numbers. -/
namespace TL
open PySem PySem.Spec PyProof.Rows L2
section
variable {P : Program} {w : World} {A : Around} {E : Value → Shared → Prop} {s : Shared}
set_option maxHeartbeats 4000000 in
/-- set(l), l a list of numbers: what it makes can be walked and sorted -/
theorem setOfList {l : Addr} {its : Array Value} (ns : List Int) {Q : Value → Shared → Prop} (quiet : A.handled = none) (isl : s.heap.IsList l its) (nums : IntsAre its.toList ns) (few : ns.length + 1 < scanBound)
    (k : ∀ (h' : Heap) (tk c : Nat), SetR w h' s.heap.objs.size (fun j => decide (j ∈ ns)) c → c ≤ ns.length → (∀ b o, s.heap.get? b = some o → h'.get? b = some o) → Q (.ref s.heap.objs.size) { s with heap := h', toks := tk }) :
    wpAny (model P w) A (call (.type "set") [.ref l]) Q E s := by
  have same : its.size = ns.length := by
    rw [← Array.length_toList]
    exact IntsAre.length nums
  obtain ⟨c0, tl0, hmro⟩ := F.called_set.mro
  have hmade := F.called_set.made
  have hsub := F.called_set.sub
  refine wpAny_call (codeAny_of_tree ?_)
  show wpAny _ _ (callAny (.type "set") _) _ _ _
  refine wpAny_pure ⟨Code.quiet_builtin _ (by decide +kernel), codeAny_builtin F.entry_type_call ?_⟩
  rw [Around.under_plain (weight_type_call_type "set" [.ref l] []) rfl]
  have hnt := F.called_set.notType
  have hcc := F.called_set.canCreate
  have htc := F.typeCall_set_1 (.ref l)
  repeat (any_goals (first | assumption | wp_step))
  refine codeAny_mono (code_set_led1 (.ref l) (E := E) (Q₁ := fun ob u => ob = .ref s.heap.objs.size ∧ u = { s with heap := s.heap.push (bareSet w) }) ⟨rfl, rfl⟩) fun r u hr => ?_
  cases r with
  | error e => exact hr
  | ok fl =>
    cases fl with
    | ret ob =>
      obtain ⟨rfl, rfl⟩ := hr
      have at0 : (s.heap.push (bareSet w)).get? s.heap.objs.size = some (bareSet w) := Heap.get?_push_size _ rfl
      have ty0 : Shared.TypeIs { s with heap := s.heap.push (bareSet w) } (.ref s.heap.objs.size) "set" := ⟨_, at0, rfl⟩
      have hil := F.called_set.init.lookup
      have hib := F.called_set.init.bind (.ref s.heap.objs.size)
      repeat (any_goals (first | assumption | wp_step))
      refine codeAny_mono (codeAny_call_builtin (R := wants (fun r u2 => r = .none ∧ ∃ h' tk c, u2 = { s with heap := h', toks := tk } ∧ SetR w h' s.heap.objs.size (fun j => decide (j ∈ ns)) c ∧ c ≤ ns.length ∧ (∀ b o, s.heap.get? b = some o → h'.get? b = some o)) E)
        F.called_set.init.plain F.entry_set_init (check_set_init_1 ty0 ?_)) fun r2 u2 hr2 => ?_
      · obtain ⟨ol, hol, hcl, nl, hdl⟩ := isl
        obtain ⟨ocls, odict, odata, oslots⟩ := ol
        simp only at hcl hdl
        subst hcl; subst hdl
        have hol' : (s.heap.push (bareSet w)).get? l = some { cls := .type "list", dict := odict, data := .seq its nl, slots := oslots } := Heap.get?_push_of_some _ hol
        have no1 := F.sub_list_set
        have no2 := F.sub_list_frozenset
        have no3 : (Value.type "list" == Value.type "dict") = false := by decide
        have isl1 : (s.heap.push (bareSet w)).IsList l its := ⟨_, hol', rfl, nl, rfl⟩
        unfold Builtin.«set.__init__» noKeywords Builtin.Frozenset.updateFrom
        generalize hIt : pyIter = It0
        wp_walk
        subst hIt
        refine wpAny_pyIter_list isl1 ?_
        refine wpAny_bind (wpAny_runValue ?_)
        have low : l < s.heap.objs.size := Heap.lt_size hol
        have quiet3 : A.in1.in1.in1.handled = none := by simp [quiet]
        have szP : (s.heap.push (bareSet w)).objs.size = s.heap.objs.size + 1 := Heap.size_push ..
        have apart : l ≠ (s.heap.push (bareSet w)).objs.size := by rw [szP]; exact Nat.ne_of_lt (Nat.lt_succ_of_lt low)
        have away : s.heap.objs.size ∉ [(s.heap.push (bareSet w)).objs.size, l] := by
          rw [szP]
          simp only [List.mem_cons, List.mem_singleton, List.not_mem_nil, or_false, not_or]
          exact ⟨Nat.ne_of_lt (Nat.lt_succ_self _), Nat.ne_of_gt low⟩
        have vals : ∀ (i : Nat) (v : Value), its[i]? = some v → ∃ k t, ns[i]? = some k ∧ v = .int k t := fun i v hv => by
          have hi : i < ns.length := by
            rw [← same]
            exact (Array.getElem?_eq_some_iff.mp hv).1
          obtain ⟨t, e⟩ := IntsAre.int_at nums i v (by rw [Array.getElem?_toList]; exact hv)
          rw [List.getD_eq_getElem?_getD, List.getElem?_eq_getElem hi] at e
          exact ⟨ns[i], t, List.getElem?_eq_getElem hi, e⟩
        refine set_update_ints ((Walks.list quiet3 _ l apart its).toS) s.heap.objs.size away ns same few vals (its.size - 0) 0 _ (by omega) (Nat.zero_le _) ⟨⟨_, Heap.get?_push_size _ rfl, rfl, rfl⟩, (isl1.push _)⟩ ?start ?stop
        case start => exact ⟨0, Nat.le_refl 0, setR_new_at (Heap.get?_push_of_some _ at0)⟩
        case stop =>
          intro u' c' mv hc' hS'
          obtain ⟨h', g2, d2, t2, o2⟩ := u'
          have eg : g2 = s.gens := mv.gens
          have ed : d2 = s.drawn := mv.drawn
          have eo : o2 = s.os := mv.os
          subst eg; subst ed; subst eo
          show wpAny _ _ _ _ _ _
          refine wpAny_pure ?_
          show wpAny _ _ (ret Value.none) _ _ _
          rw [same] at hc'
          refine wpAny_pure ⟨rfl, h', t2, c', rfl, hS', hc', fun b o e => ?_⟩
          have lt : b < s.heap.objs.size := Heap.lt_size e
          refine mv.heap b o ?_ (Heap.get?_push_of_some _ (Heap.get?_push_of_some _ e))
          simp only [List.mem_cons, List.mem_singleton, List.not_mem_nil, or_false, not_or]
          exact ⟨Nat.ne_of_lt lt, by rw [szP]; exact Nat.ne_of_lt (Nat.lt_succ_of_lt lt)⟩
      · cases r2 with
        | error e => exact hr2
        | ok fl2 =>
          cases fl2 with
          | ret r =>
            obtain ⟨rfl, h', tk, c', rfl, hS', hc', hk'⟩ := hr2
            repeat (any_goals (first | assumption | wp_step))
            exact k _ _ _ hS' hc' hk'
          | _ => exact hr2.elim
    | _ => exact hr.elim
end
section
variable {X : Cx} {a : Expr} {Γ Γ1 : Sl} {Ψ : OD → Sl → Prop} {pos pos2 p p2 : Pos}
/-- set(xs), xs numbers -/
def rSetL (K : PySem.W.Frag) (w : World) : List V → Hp → VK → Prop := fun xs H Q => ∃ (l : Addr) (ns : List Int), xs = [V.ref l] ∧ SqL K H l (ns.map V.int) ∧ ns.length < 4000 ∧ ∀ D c, H D = none → c ≤ ns.length → Q (.ref D) (upd H D (SetO w D (fun j => decide (j ∈ ns)) c))
theorem call_setL (hc : X.calm = true) : CallR X (.type "set") (rSetL X.K X.w) := by
  rintro pins s σ H xs us Q I r ⟨l, ns, rfl, hl, hz, q⟩
  rw [Vals.ref1 r]
  obtain ⟨its, rv, pl, _⟩ := I.list hl
  have few : ns.length + 1 < scanBound := by
    have : (4096 : Nat) ≤ scanBound := by decide
    omega
  refine setOfList ns (I.ok.hd hc) pl.isList (by simpa using intsAre_of rv) few fun h' tk c R hc' hk => ?_
  have hn : H s.heap.objs.size = none := I.hok.fresh (Nat.le_refl _)
  exact ⟨.ref s.heap.objs.size, upd H s.heap.objs.size (SetO X.w s.heap.objs.size (fun j => decide (j ∈ ns)) c), I.laid (t' := tk) hk (Nat.le_refl _) (setO_new R), rfl, q _ c hn hc'⟩
theorem rp_nats {T : TC} {I : Hp} : ∀ {vs : List V} {ns : List Nat}, RpL T I vs (ilist ns) → vs = (ns.map fun (n : Nat) => (n : Int)).map V.int
  | [], [], _ => rfl
  | [], _ :: _, h => by cases h
  | _ :: _, [], h => by cases h
  | v :: vs, n :: ns, h => by
    cases h with
    | cons h1 h2 =>
      cases h1
      rw [rp_nats h2]
      rfl
/-- sorted(set(xs)) -/
theorem we_sortedSet {k : Nat} (B : Blt X.mg) (fx : Fr X k) (h : WE X a Γ fun r Γ1 => ∃ xs : List Nat, Frz r (.list (ilist xs)) ∧ xs.length < 64 ∧ ∀ ns : List Nat, ns.Pairwise (· < ·) → (∀ n, n ∈ ns ↔ n ∈ xs) → ns.length ≤ xs.length → Ψ (.ll (ilist ns)) Γ1)
    (hg : Gl X "sorted" := by rfl) (hg2 : Gl X "set" := by rfl) (na : starEach [a] X.env = (false, eval a X.env) :: starEach [] X.env := by rfl) (na2 : starEach [.Call (.Name "set" p2) [a] [] pos2] X.env = (false, eval (.Call (.Name "set" p2) [a] [] pos2) X.env) :: starEach [] X.env := by rfl)
    (hpl2 : (backTo pos2 (starEach [] X.env)).any (·.1) = false := by rfl) (hpl : (backTo pos (starEach [] X.env)).any (·.1) = false := by rfl) : WE X (.Call (.Name "sorted" p) [.Call (.Name "set" p2) [a] [] pos2] [] pos) Γ Ψ := fun I H σ F en Q kq => by
  refine ⟨_, pe_callB (cr_sortedSet fx.calm) hg B.sorted (by decide +kernel) (pa_cons (pe_callTy (call_setL fx.calm) hg2 B.set (by decide +kernel) (pa_cons (wpE_ok (e := a)) pa_nil na) (by decide) (by decide) na hpl2) pa_nil na2) (by decide) (by decide) na2 hpl, ?_⟩
  show wpE X a σ H (fun v H1 => rSetL X.K X.w [v] H1 fun u H2 => rSortedSet X.w [u] H2 Q)
  have h2 : WE X a Γ fun r Γ1 => ∃ xs : List Nat, r = .da (.list (ilist xs)) ∧ xs.length < 64 ∧ ∀ ns : List Nat, ns.Pairwise (· < ·) → (∀ n, n ∈ ns ↔ n ∈ xs) → ns.length ≤ xs.length → Ψ (.ll (ilist ns)) Γ1 := we_frz (h.mono fun r Γ1 ⟨xs, f, q⟩ => ⟨_, f, xs, rfl, q⟩)
  refine h2 I H σ F en _ fun r Γ1 I1 H1 v F1 ⟨xs, hr, hz, hq⟩ st1 en1 => ?_
  subst hr
  obtain ⟨B0, G0, rfl, o, en2, _⟩ := en1.pop
  cases o with
  | da o =>
    cases o with
    | @lst l vs _ q r =>
      have ev := rp_nats r
      subst ev
      refine ⟨l, xs.map fun (n : Nat) => (n : Int), rfl, sqL_sub en1.sub q, by rw [List.length_map]; omega, fun D c hD hc => ?_⟩
      rw [List.length_map] at hc
      refine ⟨D, _, c, rfl, upd_same, by omega, fun ns p hpw hns hlen hp => ?_⟩
      have hpD : p ≠ D := fun e => by
        rw [e, upd_same] at hp
        cases hp
      rw [upd_ne hpD] at hp
      obtain ⟨ns, rfl⟩ := nats_of (ks := ns) fun j hj => by
        have := (hns j).mp hj
        rw [decide_eq_true_eq] at this
        obtain ⟨x, _, rfl⟩ := List.mem_map.mp this
        exact Int.natCast_nonneg _
      have hpw' : ns.Pairwise (· < ·) := (List.pairwise_map.mp hpw).imp fun q => Int.ofNat_lt.mp q
      have fD := en2.sub.free hD
      have fp := en2.sub.free hp
      have cells : ∀ b ∈ G0, b ≠ D ∧ b ≠ p := fun b hb => by
        obtain ⟨⟨ob, q1⟩, _⟩ := en2.env.cells b hb
        exact ⟨ne_of_none q1 hD, ne_of_none q1 hp⟩
      rw [List.length_map] at hlen
      refine kq _ Γ1 I1 _ (.ref p) ([p] ++ G0) (hq ns hpw' (fun n => ?_) (by omega)) ?_ ⟨.cons (.ll upd_same fp (rpL_ilist ns)) (en2.env.frame (Same.refl _) fun b hb => ⟨?_, (en2.env.cells b hb).2⟩), ?_, ?_⟩
      · rw [← mem_cast, hns, decide_eq_true_eq, mem_cast]
      · have hp2 : upd H1 D (SetO X.w D (fun j => decide (j ∈ xs.map fun (n : Nat) => (n : Int))) c) p = none := by rw [upd_ne hpD]; exact hp
        refine st1.trans (Step.trans (F1 := G0) ⟨Same.refl _, fun b ob e i n => ⟨by rw [upd_ne (ne_of_none e hD)]; exact e, i, fun q => n (List.mem_append_right _ q)⟩⟩ (step_new hp2))
      · rw [upd_ne (cells b hb).2, upd_ne (cells b hb).1]
      · exact List.nodup_cons.mpr ⟨fun hb => (cells p hb).2 rfl, en2.nd⟩
      · exact upd_sub (upd_sub en2.sub hD) (by rw [upd_ne hpD]; exact hp)
end
end TL

/-! TL40: min of a list of data; sorted and min of a dict with nested keys. -/
namespace TL
open PySem PySem.Spec PyProof.Rows L2
theorem depthAll_le {n : Nat} : ∀ {ds : List PyData}, (∀ d ∈ ds, d.depth ≤ n) → PyData.depthAll ds ≤ n
  | [], _ => by unfold PyData.depthAll; exact Nat.zero_le _
  | d :: ds, h => by
    unfold PyData.depthAll
    exact Nat.max_le.mpr ⟨h d List.mem_cons_self, depthAll_le fun x hx => h x (List.mem_cons_of_mem _ hx)⟩
/-- what min asks of its items -/
structure MinOk (ds : List PyData) : Prop where
  plain : PyData.plainAll ds = true
  alike : PySem.W.AlikeAll ds
  depth : ∀ d ∈ ds, d.depth ≤ 60
abbrev minD := PySem.W.minD
theorem vals_at {vs : List V} {us : List Value} : Vals vs us → ∀ {i : Nat} {u : Value}, us[i]? = some u → ∃ v, vs[i]? = some v ∧ RelV v u := fun r i u e => by
  have hi := (List.getElem?_eq_some_iff.mp e).1
  have hv : vs[i]? = some (vs[i]'(by rw [r.length]; exact hi)) := List.getElem?_eq_getElem _
  obtain ⟨u', e1, e2⟩ := r.get hv
  rw [e] at e1
  cases e1
  exact ⟨_, hv, e2⟩
section
variable {X : Cx}
/-- min over what is walked, the items' data known -/
theorem min_core {pins : List (Addr × Obj)} {σ : L2.St} {H I0 : Hp} {s : Shared} {Q : VK} {v0 : Value} {vs : List V} {us : List Value} {x : PyData} {ds : List PyData} (I : Inv X pins σ H s) (hu : X.A.units + 70 < cLine) (sub : Same I0 H) (rv : Vals vs us) (rp : RpL X.tc I0 vs (x :: ds)) (ok : MinOk (x :: ds))
    (it : ∀ (G : Value → Shared → Prop) (E : Value → Shared → Prop), (∀ (a : Addr) (fp wr : List Addr) (Pv : Nat → Value → Prop) (St : Nat → Shared → Prop) (s2 : Shared), WalksS X.prog X.w X.A.in1 a fp wr (fun a b => b = a) (ds.length + 1) Pv St → St 0 s2 → (∀ b ∈ fp, b < s2.heap.objs.size) → (∀ b o, s.heap.get? b = some o → b ∉ wr) → (∀ b o, s.heap.get? b = some o → s2.heap.get? b = some o) →
      (∀ i v, Pv i v → us[i]? = some v) → s2.gens = s.gens → s2.drawn = s.drawn → s2.os = s.os → G (.ref a) s2) → wpAny (model X.prog X.w) X.A.in1 (pyIter v0) G E s)
    (k : ∀ v, Rp X.tc I0 v (minD x ds) → Q v H) : wpAny (model X.prog X.w) X.A (call (.builtin "min") [v0]) (EP X pins σ Q) X.xe s := by
  obtain ⟨as, rs⟩ := (RpL.mono sub rp).reads I ok.plain rv
  have hl : vs.length = ds.length + 1 := rp.length
  have hus : us.toArray.size = ds.length + 1 := by rw [List.size_toArray, ← rv.length, hl]
  have rs' := rs
  rw [show us = us.toArray.toList by simp] at rs'
  have hd := depthAll_le ok.depth
  refine PySem.call_min_walkH (it _ _ fun a fp wr Pv St s2 W st hfp hw hk hP e1 e2 e3 => ?_)
  refine ⟨a, fp, wr, _, _, Pv, St, s.heap, fun i j => PySem.W.dataLt ((x :: ds).getD i .none) ((x :: ds).getD j .none), rfl, W, st, hfp, Nat.succ_pos _, hw, hk, ?_, fun v s' hv m => ?_⟩
  · intro i j vi vj s' Q' E' hk' hi hj hq
    exact PySem.W.cmpIn_lt (A := X.A.in1) rs' ok.alike (by show X.A.units + 1 + _ < _; omega) i j vi vj s' Q' E' hk' (by simpa using hP i vi hi) (by simpa using hP j vj hj) hq
  · have hv' := hP _ _ hv
    obtain ⟨w1, hw1, rw1⟩ := vals_at rv hv'
    obtain ⟨d1, hd1, rd1⟩ := rp.get' hw1
    have e4 := (PySem.W.argBest_fold PySem.W.dataLt PyData.none x ds ds.length (Nat.le_refl _)).2
    rw [List.take_length] at e4
    have ed : d1 = minD x ds := by
      rw [show ds.length + 1 - 1 = ds.length by omega] at hd1
      rw [List.getD_eq_getElem?_getD, hd1] at e4
      exact e4
    rw [ed] at rd1
    have kept : ∀ b o, s.heap.get? b = some o → s'.heap.get? b = some o := fun b o e => m.heap b o (hw b o e) (hk b o e)
    have I2 : Inv X pins σ H s' := by
      obtain ⟨h', g', d', tk, os'⟩ := s'
      have q1 : g' = s2.gens := m.gens
      have q2 : d' = s2.drawn := m.drawn
      have q3 : os' = s2.os := m.os
      rw [e1] at q1
      rw [e2] at q2
      rw [e3] at q3
      subst q1; subst q2; subst q3
      exact I.kept kept
    exact ⟨w1, H, I2, rw1, k w1 rd1⟩
/-- min(xs), data -/
def rMinD (T : TC) : List V → Hp → VK → Prop := fun xs H Q => ∃ I p vs x ds, xs = [.ref p] ∧ Same I H ∧ SqL T.K H p vs ∧ RpL T I vs (x :: ds) ∧ MinOk (x :: ds) ∧ ∀ v, Rp T I v (minD x ds) → Q v H
theorem call_minD (hc : X.calm = true) (hu : X.A.units + 70 < cLine) : CallR X (.builtin "min") (rMinD X.tc) := by
  rintro pins s σ H xs us Q I r ⟨I0, p, vs, x, ds, rfl, sub, hs, hr, ok, k⟩
  rw [Vals.ref1 r]
  obtain ⟨its, rv, pl, hz⟩ := I.list hs
  have hl : vs.length = ds.length + 1 := hr.length
  have hsz : its.toArray.size = ds.length + 1 := by rw [List.size_toArray, ← rv.length, hl]
  refine min_core I hu sub rv hr ok (fun G E hG => ?_) k
  refine PySem.W.iter_listW (A := X.A.in1) (I.ok.hd hc) pl.isList fun s2 e W st hfp hw hk => ?_
  rw [hsz] at W
  refine hG _ _ _ _ _ s2 W st hfp hw hk (fun i v hv => by simpa using hv) ?_ ?_ ?_ <;> rw [e]
end
end TL

/-! TL41: min(xs) of data as an expression; sorted(d), min(d), d an own dict with nested keys. -/
namespace TL
open PySem PySem.Spec PyProof.Rows L2
theorem opl_minD {T : TC} {x : PyData} {ds : List PyData} (ok : MinOk (x :: ds)) : OpL T (rMinD T) [.da (.list (x :: ds))] (.da (minD x ds)) := OpL.pure (ds := [.list (x :: ds)]) fun I H vs r s Q k => by
  obtain ⟨v, rfl, h⟩ := rpL1 r
  cases h with
  | @lst a vs _ q r => exact ⟨I, a, vs, x, ds, rfl, s, sqL_sub s q, r, ok, k⟩
/-- the least is one of them -/
theorem minD_mem {x : PyData} : ∀ {ds : List PyData}, minD x ds ∈ x :: ds := by
  intro ds
  show ds.foldl _ x ∈ _
  induction ds generalizing x with
  | nil => exact List.mem_cons_self
  | cons d ds ih =>
    rw [List.foldl_cons]
    by_cases h : PySem.W.dataLt d x = true
    · rw [if_pos h]
      exact List.mem_cons_of_mem _ ih
    · rw [if_neg h]
      rcases List.mem_cons.mp (ih (x := x)) with z | z
      · rw [z]; exact List.mem_cons_self
      · exact List.mem_cons_of_mem _ (List.mem_cons_of_mem _ z)
/-- the one that stands below all others -/
theorem minD_is {m : PyData} : ∀ {ds : List PyData} {x : PyData}, m ∈ x :: ds → (∀ y ∈ x :: ds, y ≠ m → PySem.W.dataLt m y = true ∧ PySem.W.dataLt y m = false) → minD x ds = m := by
  intro ds
  show ∀ {x : PyData}, _ → _ → ds.foldl _ x = m
  induction ds with
  | nil => exact fun {x} h _ => (List.mem_singleton.mp h).symm
  | cons d ds ih =>
    intro x h all
    rw [List.foldl_cons]
    have ax := all x List.mem_cons_self
    have ad := all d (List.mem_cons_of_mem _ List.mem_cons_self)
    have rest : ∀ y ∈ ds, y ≠ m → PySem.W.dataLt m y = true ∧ PySem.W.dataLt y m = false := fun y hy => all y (List.mem_cons_of_mem _ (List.mem_cons_of_mem _ hy))
    have go : ∀ z, (z = x ∨ z = d) → m ∈ z :: ds → ds.foldl (fun a y => if PySem.W.dataLt y a = true then y else a) z = m := fun z hz hm => ih hm fun y hy hne => by
      rcases List.mem_cons.mp hy with rfl | hy
      · rcases hz with rfl | rfl
        · exact ax hne
        · exact ad hne
      · exact rest y hy hne
    by_cases hx : x = m
    · by_cases hd : d = m
      · split
        · exact go d (.inr rfl) (by rw [hd]; exact List.mem_cons_self)
        · exact go x (.inl rfl) (by rw [hx]; exact List.mem_cons_self)
      · have := (ad hd).2
        rw [if_neg (by rw [hx, this]; exact Bool.false_ne_true)]
        exact go x (.inl rfl) (by rw [hx]; exact List.mem_cons_self)
    · by_cases hd : d = m
      · have := (ax hx).1
        rw [if_pos (by rw [hd]; exact this)]
        exact go d (.inr rfl) (by rw [hd]; exact List.mem_cons_self)
      · have hm : m ∈ ds := by
          rcases List.mem_cons.mp h with z | z
          · exact absurd z.symm hx
          · rcases List.mem_cons.mp z with z | z
            · exact absurd z.symm hd
            · exact z
        split
        · exact go d (.inr rfl) (List.mem_cons_of_mem _ hm)
        · exact go x (.inl rfl) (List.mem_cons_of_mem _ hm)
section
variable {X : Cx} {a : Expr} {Γ Γ1 : Sl} {Ψ : OD → Sl → Prop} {pos p p2 : Pos} {x : PyData} {ds : List PyData} {n2 : Str}
theorem xe_minD (B : Blt X.mg) (hc : X.calm = true) (hu : X.A.units + 70 < cLine) (ok : MinOk (x :: ds)) (ha : XE X a Γ (.da (.list (x :: ds))) Γ1) (hg : Gl X "min" := by rfl) (he : starEach [a] X.env = (false, eval a X.env) :: starEach [] X.env := by rfl) (hpl : (backTo pos (starEach [] X.env)).any (·.1) = false := by rfl) :
    XE X (.Call (.Name "min" p) [a] [] pos) Γ (.da (minD x ds)) Γ1 := xe_callB1 (wl := rMinD X.tc) (call_minD hc hu) (opl_minD ok) hg B.min (by decide +kernel) ha (he := he) (hpl := hpl)
end
/-! ### own dicts with nested keys -/
section
variable {X : Cx} {pins : List (Addr × Obj)} {σ : L2.St} {I0 H : Hp} {s : Shared} {p : Addr} {kvs : NKV} {ks : List (NestedKey × PyData)}
theorem npair_vals {P : Program} {w : World} {kvs : NKV} {xs : List (NestedKey × Addr × Value)} (rp : Paired NPair kvs xs) : Vals (kvs.map fun q => V.ref q.2.1) (xs.map ((fun x => x.key) ∘ entryOfKey (nestedKind P w))) := by
  induction rp with
  | nil => exact .nil
  | cons np rp ih => exact .cons (by show Value.ref _ = Value.ref _; rw [np.2.1]) ih
theorem dm_raw (I : Inv X pins σ H s) (d : DmAt X.tc I0 H p kvs ks) : kvs.length ≤ sizeLine ∧ (p == sysModules) = false ∧ ∃ (es : Array DictEntry) (ep : Nat), s.heap.DictRaw p es ep ∧ es.size = kvs.length ∧ Vals (kvs.map fun q => V.ref q.2.1) (es.toList.map (·.key)) := by
  obtain ⟨⟨z, hd, xs, rp, o, es, ep, g1, g2, g3, g4, g5⟩, _⟩ := I.hok p _ d.at_
  have hl : kvs.length = xs.length := Paired.length rp
  refine ⟨z, hd, es, ep, ⟨o, g1, g2, g3⟩, by rw [size_of_entries g4, hl], ?_⟩
  rw [g4, List.map_map]
  exact npair_vals rp
def rSortedM (T : TC) : List V → Hp → VK → Prop := fun xs H Q => ∃ I p kvs ks, xs = [.ref p] ∧ Same I H ∧ DmAt T I H p kvs ks ∧ SrtOk (ks.map fun q => q.1.data) ∧ ∀ (p' : Addr) (ws : List V), H p' = none → RpL T I ws (sortD (ks.map fun q => q.1.data)) → Q (.ref p') (upd H p' (.lst ws))
theorem call_sortedM (hcalm : X.calm = true) (hu : X.A.units + 70 < cLine) : CallR X (.builtin "sorted") (rSortedM X.tc) := by
  rintro pins s σ H xs us Q I r ⟨I0, p, kvs, ks, rfl, sub, d, ok, q⟩
  obtain ⟨u, eu, rx⟩ := vals1 r
  subst eu
  cases rx
  obtain ⟨z, lo, es, ep, raw, hsz, rv⟩ := dm_raw I d
  refine Calls.call_function_entry PyProof.Rows.kind_sorted PyProof.Rows.plain_sorted PyProof.Rows.entry_sorted (PyProof.Rows.args_sorted1 _) ?_
  unfold Builtin.«sorted»
  refine wpAny_bind (m := checkCount "sorted" 1 1 _) (wpAny_pure ?_)
  refine wpAny_bind (PySem.W.kdu_collect (A := X.A.in1) (PySem.KdlSrc.rawDict lo) (I.ok.hd hcalm) raw (by omega) fun h' tk acc hk hacc => ?_)
  have hal : acc.toList.length = kvs.length := by rw [Array.length_toList, hacc.1, hsz]
  have I1 : Inv X pins σ H { s with heap := h', toks := tk } := I.kept hk
  refine wpAny_bind (wpAny_newList ?_ (by rw [hal]; omega))
  have hoL : (h'.push (seqObj "list" acc.toList.toArray 0)).get? h'.objs.size = some (seqObj "list" acc.toList.toArray 0) := Heap.get?_push_size _ rfl
  show wpAny _ _ _ _ _ { s with heap := h'.push (seqObj "list" acc.toList.toArray 0), toks := tk }
  have eacc : acc.toList = es.toList.map (·.key) := by
    refine List.ext_getElem? fun j => ?_
    by_cases hj : j < acc.toList.length
    · obtain ⟨hi, e⟩ := hacc.2 j (acc.toList[j]) (by rw [← Array.getElem?_toList]; exact List.getElem?_eq_getElem hj)
      rw [List.getElem?_eq_getElem hj, List.getElem?_map, Array.getElem?_toList, Array.getElem?_eq_getElem hi, e]
      rfl
    · rw [List.getElem?_eq_none (by omega), List.getElem?_eq_none (by rw [List.length_map, Array.length_toList, hsz]; omega)]
  have er := each_rel d.krp (by rw [eacc]; exact rv : Vals (kvs.map fun q => V.ref q.2.1) acc.toList)
  refine wpAny_bind (wpAny_holding (wpAny_call_entry PyProof.Rows.slot_list_sort ⟨_, hoL, rfl⟩ PyProof.Rows.entry_list_sort ?body (PyProof.Rows.args_list_sort _)))
  case body =>
    refine wpAny_mono (sort_fresh (A := X.A.in1.in1) I1 er sub ok (by show X.A.units + 2 + 61 < cLine; omega) q) (fun f s' hf => ?_) fun _ _ e => e
    obtain ⟨rfl, hq⟩ := hf
    exact ⟨_, rfl, wpAny_pure ⟨_, rfl, hq⟩⟩
def rMinM (T : TC) : List V → Hp → VK → Prop := fun xs H Q => ∃ I p kvs ks x ds, xs = [.ref p] ∧ Same I H ∧ DmAt T I H p kvs ks ∧ (ks.map fun q => q.1.data) = x :: ds ∧ MinOk (x :: ds) ∧ ∀ v, Rp T I v (minD x ds) → Q v H
theorem call_minM (hc : X.calm = true) (hu : X.A.units + 70 < cLine) : CallR X (.builtin "min") (rMinM X.tc) := by
  rintro pins s σ H xs us Q I r ⟨I0, p, kvs, ks, x, ds, rfl, sub, d, eds, ok, k⟩
  rw [Vals.ref1 r]
  obtain ⟨z, lo, es, ep, raw, hsz, rv⟩ := dm_raw I d
  have krp := d.krp
  rw [eds] at krp
  have hl : kvs.length = ds.length + 1 := by
    have := krp.length
    rwa [List.length_map] at this
  refine min_core I hu sub rv krp ok (fun G E hG => ?_) k
  obtain ⟨oI, St, hit, W, st⟩ := (PySem.KdlSrc.rawDict (prog := X.prog) (w := X.w) lo).iter X.A.in1 s (I.ok.hd hc) raw
  refine hit _ _ ?_
  have W' := W.toS
  generalize hPv : (fun (i : Nat) (v : Value) => ∃ hi : i < es.size, v = es[i].key) = Pv at W'
  rw [hsz, hl] at W'
  have hp : p < s.heap.objs.size := raw.lt_size
  refine hG _ _ _ _ _ _ W' st (fun b hb => ?_) (fun b o e hb => ?_) (fun b o e => Heap.get?_push_of_some _ e) (fun i v hv => ?_) rfl rfl rfl
  · show b < (s.heap.push oI).objs.size
    rw [Heap.size_push]
    rcases List.mem_cons.mp hb with rfl | hb
    · exact Nat.lt_succ_self _
    · rw [List.mem_singleton.mp hb]; exact Nat.lt_succ_of_lt hp
  · rw [List.mem_singleton.mp hb] at e
    exact absurd (Heap.lt_size e) (Nat.lt_irrefl _)
  · rw [← hPv] at hv
    obtain ⟨hi, rfl⟩ := hv
    rw [List.getElem?_map, Array.getElem?_toList, Array.getElem?_eq_getElem hi]
    rfl
end
section
variable {X : Cx} {Γ : Sl} {pos p p2 : Pos} {x : OD} {d : PyData} {ds : List PyData} {n2 : Str} {ks : List (NestedKey × PyData)} {mk : List (NestedKey × PyData) → OD}
theorem xe_sortedMS (i : Nat) (B : Blt X.mg) (hc : X.calm = true) (hu : X.A.units + 70 < cLine) (ok : SrtOk (ks.map fun q => q.1.data)) (hx : Γ[i]? = some (some x) := by rfl) (hv : VDM x ks mk := by first | exact .dm | exact .pin) (hg : Gl X "sorted" := by rfl)
    (hN : X.N[i]? = some n2 := by rfl) (hvs : Vis X.env.scope n2 := by first | exact Or.inl rfl | exact Or.inr (Or.inl rfl) | exact Or.inr (Or.inr rfl)) (h1 : (n2 == ("__debug__" : Str)) = false := by decide) (h2 : (n2 == ("__classdict__" : Str)) = false := by decide)
    (he : starEach [.Name n2 p2] X.env = (false, eval (.Name n2 p2) X.env) :: starEach [] X.env := by rfl) (hpl : (backTo pos (starEach [] X.env)).any (·.1) = false := by rfl) :
    XE X (.Call (.Name "sorted" p) [.Name n2 p2] [] pos) Γ (.ll (sortD (ks.map fun q => q.1.data))) Γ := xe_callS (wl := rSortedM X.tc) i (call_sortedM hc hu) (fun I H v B' o s Q k => by
      obtain ⟨p, kvs, rfl, rfl, d, _⟩ := hv.own o
      exact ⟨I, p, kvs, ks, rfl, s, d, ok, fun p' ws hp r => k I _ _ [p'] (step_new hp) (.ll upd_same (s.free hp) r) (by simp) (upd_sub s hp)⟩) hg B.sorted (by decide +kernel) (hx := hx) (hN := hN) (hvs := hvs) (h1 := h1) (h2 := h2) (he := he) (hpl := hpl)
theorem xe_minMS (i : Nat) (B : Blt X.mg) (hc : X.calm = true) (hu : X.A.units + 70 < cLine) (ek : (ks.map fun q => q.1.data) = d :: ds) (ok : MinOk (d :: ds)) (hx : Γ[i]? = some (some x) := by rfl) (hv : VDM x ks mk := by first | exact .dm | exact .pin) (hg : Gl X "min" := by rfl)
    (hN : X.N[i]? = some n2 := by rfl) (hvs : Vis X.env.scope n2 := by first | exact Or.inl rfl | exact Or.inr (Or.inl rfl) | exact Or.inr (Or.inr rfl)) (h1 : (n2 == ("__debug__" : Str)) = false := by decide) (h2 : (n2 == ("__classdict__" : Str)) = false := by decide)
    (he : starEach [.Name n2 p2] X.env = (false, eval (.Name n2 p2) X.env) :: starEach [] X.env := by rfl) (hpl : (backTo pos (starEach [] X.env)).any (·.1) = false := by rfl) :
    XE X (.Call (.Name "min" p) [.Name n2 p2] [] pos) Γ (.da (minD d ds)) Γ := xe_callS (wl := rMinM X.tc) i (call_minM hc hu) (Rd1.pure fun I H v B' o s Q k => by
      obtain ⟨p, kvs, rfl, rfl, dd, _⟩ := hv.own o
      exact ⟨I, p, kvs, ks, d, ds, rfl, s, dd, ek, ok, k⟩) hg B.min (by decide +kernel) (hx := hx) (hN := hN) (hvs := hvs) (h1 := h1) (h2 := h2) (he := he) (hpl := hpl)
end
end TL

/-! TL42: [elt for .. in .. for .. in ..]. -/
namespace TL
open PySem PySem.Spec PyProof.Rows L2
theorem wipe_sub {vs : List Nat} {σ : L2.St} : ∀ {ws : List Nat}, (∀ i ∈ ws, i ∈ vs) → wipe (wipe σ ws) vs = wipe σ vs
  | [], _ => rfl
  | w :: ws, h => by
    show wipe ((wipe σ ws).set w none) vs = _
    rw [wipe_set (h w List.mem_cons_self)]
    exact wipe_sub fun i hi => h i (List.mem_cons_of_mem _ hi)
/-- a list being made at D, the slots as Γ' says -/
structure LcAt (T : TC) (D : Addr) (I1 H1 : Hp) (F1 : List Addr) (σ' : L2.St) (Γ' : Sl) (acc : List PyData) (I2 H2 : Hp) (F2 : List Addr) : Prop where
  ws : ∃ ws, H2 D = some (.lst ws) ∧ RpL T I2 ws acc
  fr : I2 D = none
  en : EnvF T I2 H2 σ' Γ' F2
  nd : D ∉ F2
  st : Step I1 H1 F1 I2 H2 (D :: F2)
section
variable {T : TC} {D : Addr} {I1 H1 I2 H2 I3 H3 : Hp} {F1 F2 F3 : List Addr} {σ' σ3 : L2.St} {Γ' Γ3 : Sl} {acc : List PyData}
theorem LcAt.go (a : LcAt T D I1 H1 F1 σ' Γ' acc I2 H2 F2) (s : Step I2 H2 F2 I3 H3 F3) (e : EnvF T I3 H3 σ3 Γ3 F3) : LcAt T D I1 H1 F1 σ3 Γ3 acc I3 H3 F3 := by
  obtain ⟨ws, h1, h2⟩ := a.ws
  obtain ⟨g1, g2, g3⟩ := s.oth D _ h1 a.fr a.nd
  refine ⟨⟨ws, g1, h2.mono s.inc⟩, g2, e, g3, a.st.inc.trans s.inc, fun b ob q1 q2 q3 => ?_⟩
  obtain ⟨k1, k2, k3⟩ := a.st.oth b ob q1 q2 q3
  rw [List.mem_cons, not_or] at k3
  obtain ⟨k4, k5, k6⟩ := s.oth b ob k1 k2 k3.2
  exact ⟨k4, k5, fun q => (List.mem_cons.mp q).elim k3.1 k6⟩
theorem LcAt.less (a : LcAt T D I1 H1 F1 σ' Γ' acc I2 H2 F2) (m : ∀ b ∈ F3, b ∈ F2) (e : EnvF T I2 H2 σ3 Γ3 F3) : LcAt T D I1 H1 F1 σ3 Γ3 acc I2 H2 F3 := a.go (Step.less m) e
theorem LcAt.put {ws : List V} {y : V} {d : PyData} (a : LcAt T D I1 H1 F1 σ' Γ' acc I2 H2 F2) (hw : H2 D = some (.lst ws)) (hy : Rp T I2 y d) : LcAt T D I1 H1 F1 σ' Γ' (acc ++ [d]) I2 (upd H2 D (.lst (ws ++ [y]))) F2 := by
  obtain ⟨ws', h1, h2⟩ := a.ws
  rw [hw] at h1
  cases h1
  refine ⟨⟨_, upd_same, RpL.append h2 (.cons hy .nil)⟩, a.fr, ⟨a.en.env.frame (Same.refl _) fun b hb => ⟨upd_ne fun q => a.nd (q ▸ hb), (a.en.env.cells b hb).2⟩, a.en.nd, fun b u q => ?_⟩, a.nd, a.st.inc, fun b ob q1 q2 q3 => ?_⟩
  · rw [upd_ne fun e => by
      rw [e, a.fr] at q
      cases q]
    exact a.en.sub b u q
  · obtain ⟨k1, k2, k3⟩ := a.st.oth b ob q1 q2 q3
    refine ⟨?_, k2, k3⟩
    rw [upd_ne fun e => k3 (by rw [e]; exact List.mem_cons_self)]
    exact k1
end
section
variable {X : Cx} {tg it elt tg1 it1 : Expr} {scope : Scope} {own : List (Str × Nat)} {vs1 : List Nat} {α β : Type} {Γ : Sl} {Ψ : OD → Sl → Prop} {pos : Pos}
theorem lc2_read {k : Nat} (u : α → Sl) (u1 : α → β → Sl) (xs : List α) (E : α → PyData) (ys : α → List β) (E1 : β → PyData) (f : α → β → PyData) (hi : XI X tg it Γ (xs.map E) Γ) (hg : ∀ x ∈ xs, GB X scope own tg (E x) Γ (u x))
    (hi1 : ∀ x ∈ xs, ∀ s H C cl fp, XI (Blk X scope s H C cl fp) tg1 it1 (u x) ((ys x).map E1) (u x)) (hg1 : ∀ x ∈ xs, ∀ y ∈ ys x, ∀ s H C cl fp, WGc (Blk X scope s H C cl fp) vs1 tg1 (E1 y) (u x) fun Γ' => Γ' = u1 x y) (he : ∀ x ∈ xs, ∀ y ∈ ys x, XB X scope elt (u1 x y) (.da (f x y)) (u1 x y))
    (few : (xs.flatMap fun x => (ys x).map (f x)).length < sizeLine) (hv : ∀ i ∈ vs1, i ∈ own.map (·.2)) (hd : dropΓ (own.map (·.2)) Γ = Γ) (hdu : ∀ x, dropΓ (own.map (·.2)) (u x) = Γ) (hd1 : ∀ x, dropΓ vs1 (u x) = u x) (hd2 : ∀ x y, dropΓ vs1 (u1 x y) = u x)
    (hq : Ψ (.ll (xs.flatMap fun x => (ys x).map (f x))) Γ) (I H : Hp) (σ : L2.St) (F : List Addr) (en : EnvF X.tc I H σ Γ F) (Q : VK) (kq : ∀ (r : OD) (Γ' : Sl) (I' H' : Hp) (v : V) (F' : List Addr), Ψ r Γ' → Step I H F I' H' F' → EnvF X.tc I' H' (some v :: σ) (some r :: Γ') F' → Q v H') :
    tLc2 (wpI X tg it) (fun v σ H Q => ∀ s H0 C cl fp, wpG (Blk X scope s H0 C cl fp) tg v σ H Q) tYes (fun σ H R => ∀ s H0 C cl fp, wpI (Blk X scope s H0 C cl fp) tg1 it1 σ H R) (fun v σ H Q => ∀ s H0 C cl fp, wpG (Blk X scope s H0 C cl fp) tg1 v σ H Q) tYes (fun σ H Q => ∀ s H0 C cl fp, wpE (Blk X scope s H0 C cl fp) elt σ H Q) (own.map (·.2)) vs1 σ H Q := by
  generalize hvs : own.map (·.2) = vs at *
  generalize hall : (fun x => (ys x).map (f x)) = g at *
  refine hi (fun ds Γ' => ds = xs.map E ∧ Γ' = Γ) ⟨rfl, rfl⟩ I H σ F en _ fun ds Γ1 I1 H1 F1 Jt h1 st1 en1 isit D hD => ?_
  obtain ⟨rfl, rfl⟩ := h1
  obtain ⟨Fw, enw, mw⟩ := env_drop vs en1
  rw [hd] at enw
  have nDw : D ∉ Fw := fun hb => by
    obtain ⟨⟨ob, q1⟩, _⟩ := enw.env.cells D hb
    rw [hD] at q1
    cases q1
  have a0 : LcAt X.tc D I1 H1 F1 (wipe σ vs) Γ1 [] I1 (upd H1 D (.lst [])) Fw := ⟨⟨[], upd_same, .nil⟩, en1.sub.free hD, ⟨enw.env.frame (Same.refl _) fun b hb => by
    obtain ⟨⟨ob, q1⟩, q2⟩ := enw.env.cells b hb
    exact ⟨upd_ne (ne_of_none q1 hD), q2⟩, enw.nd, upd_sub enw.sub hD⟩, nDw, (step_new (F := F1) hD).of_mem (fun b hb => hb) fun b hb => (List.mem_cons.mp hb).elim (fun q => q ▸ List.mem_cons_self) fun q => List.mem_cons_of_mem _ (mw b q)⟩
  have hlen : (xs.map E).length = xs.length := List.length_map ..
  refine ⟨fun n m H' => m = xs.length - n ∧ n ≤ xs.length ∧ ∃ I2 F2, LcAt X.tc D I1 H1 F1 (wipe σ vs) Γ1 ((xs.take n).flatMap g) I2 H' F2, ⟨_, rfl, Nat.zero_le _, I1, Fw, a0⟩, ?_⟩
  rintro n m H2 ⟨rfl, hn, I2, F2, a2⟩
  by_cases hlt : n < xs.length
  · refine .inr ⟨isit.go n I2 H2 a2.st.inc a2.en.sub (by rw [hlen]; exact hlt), fun H' => ∃ I3 F3, LcAt X.tc D I1 H1 F1 (wipe σ vs) Γ1 ((xs.take (n + 1)).flatMap g) I3 H' F3, fun H' q => ⟨xs.length - (n + 1), by omega, rfl, hlt, q⟩, fun v H3 hy => ?_⟩
    obtain ⟨I3, d, hdd, st4, sub3, hr⟩ := isit.yld n I2 H2 v H3 a2.st.inc a2.en.sub (by rw [hlen]; exact hlt) hy
    rw [List.getElem?_map, List.getElem?_eq_getElem hlt] at hdd
    have hdd := (Option.some.inj hdd).symm
    subst hdd
    have hx := List.getElem_mem hlt
    obtain ⟨en4, st4'⟩ := a2.en.grow st4 sub3
    have a3 := a2.go st4' en4
    intro s0 H0 C0 cl0 fp0
    have tgo := hg xs[n] hx s0 H0 C0 cl0 fp0
    rw [hvs] at tgo
    refine tgo I3 H3 (wipe σ vs) F2 v en4 hr _ ?_
    rintro _ I5 H5 σ5 F5 rfl st5 en5 w5
    rw [wipe_wipe] at w5
    have a5 := a3.go st5 en5
    refine ⟨w5, ?_⟩
    unfold tYes
    dsimp only
    rw [if_pos rfl]
    -- the inner walk
    intro s1 H1' C1 cl1 fp1
    refine hi1 xs[n] hx s1 H1' C1 cl1 fp1 (fun es Γ' => es = (ys xs[n]).map E1 ∧ Γ' = u xs[n]) ⟨rfl, rfl⟩ I5 H5 σ5 F5 en5 _ ?_
    rintro es Γ6 I6 H6 F6 J1 ⟨rfl, rfl⟩ st6 en6 isit1
    have a6 := a5.go st6 en6
    obtain ⟨F6', en6', m6⟩ := env_drop vs1 en6
    rw [hd1] at en6'
    have a6' := a6.less m6 en6'
    have hlen1 : ((ys xs[n]).map E1).length = (ys xs[n]).length := List.length_map ..
    have st16 : Step I6 H6 (D :: F6') I6 H6 (D :: F6') := .refl
    refine ⟨fun j k H' => k = (ys xs[n]).length - j ∧ j ≤ (ys xs[n]).length ∧ ∃ I7 F7, LcAt X.tc D I1 H1 F1 (wipe σ5 vs1) (u xs[n]) ((xs.take n).flatMap g ++ ((ys xs[n]).take j).map (f xs[n])) I7 H' F7 ∧ Same I6 I7, ⟨_, rfl, Nat.zero_le _, I6, F6', by simpa using a6', Same.refl _⟩, ?_⟩
    rintro j k H7 ⟨rfl, hj, I7, F7, a7, s67⟩
    by_cases hlj : j < (ys xs[n]).length
    · refine .inr ⟨isit1.go j I7 H7 s67 a7.en.sub (by rw [hlen1]; exact hlj), fun H' => ∃ I8 F8, LcAt X.tc D I1 H1 F1 (wipe σ5 vs1) (u xs[n]) ((xs.take n).flatMap g ++ ((ys xs[n]).take (j + 1)).map (f xs[n])) I8 H' F8 ∧ Same I6 I8, fun H' q => ⟨(ys xs[n]).length - (j + 1), by omega, rfl, hlj, q⟩, fun v8 H8 hy8 => ?_⟩
      obtain ⟨I8, d8, hd8, st8, sub8, hr8⟩ := isit1.yld j I7 H7 v8 H8 s67 a7.en.sub (by rw [hlen1]; exact hlj) hy8
      rw [List.getElem?_map, List.getElem?_eq_getElem hlj] at hd8
      have hd8 := (Option.some.inj hd8).symm
      subst hd8
      have hyj := List.getElem_mem hlj
      obtain ⟨en8, st8'⟩ := a7.en.grow st8 sub8
      have a8 := a7.go st8' en8
      intro s2 H2' C2 cl2 fp2
      refine hg1 xs[n] hx _ hyj s2 H2' C2 cl2 fp2 I8 H8 (wipe σ5 vs1) F7 v8 en8 hr8 _ ?_
      rintro _ I9 H9 σ9 F9 rfl st9 en9 w9
      rw [wipe_wipe] at w9
      have a9 := a8.go st9 en9
      refine ⟨w9, ?_⟩
      dsimp only
      rw [if_pos rfl]
      intro s3 H3' C3 cl3 fp3
      refine he xs[n] hx _ hyj s3 H3' C3 cl3 fp3 (fun r Γ' => r = .da (f xs[n] (ys xs[n])[j]) ∧ Γ' = u1 xs[n] (ys xs[n])[j]) ⟨rfl, rfl⟩ I9 H9 σ9 F9 en9 _ ?_
      rintro _ _ I10 H10 y F10 ⟨rfl, rfl⟩ st10 en10
      obtain ⟨B, G, rfl, oo, en11, _⟩ := en10.pop
      cases oo with
      | da hy2 =>
        have a11 := a9.go st10 en11
        obtain ⟨F12, en12, m12⟩ := env_drop vs1 en11
        rw [w9, hd2] at en12
        have a12 := a11.less m12 en12
        obtain ⟨ws, hw, rws⟩ := a12.ws
        refine ⟨ws, hw, ?_, I10, F12, ?_, ((s67.trans st8.inc).trans st9.inc).trans st10.inc⟩
        · have e1 := rws.length
          have l1 : ((xs.take (n + 1)).flatMap g).length ≤ (xs.flatMap g).length := by
            conv => rhs; rw [← List.take_append_drop (n + 1) xs, List.flatMap_append, List.length_append]
            omega
          have l2 : (xs.take (n + 1)).flatMap g = (xs.take n).flatMap g ++ (ys xs[n]).map (f xs[n]) := by
            rw [List.take_succ, List.getElem?_eq_getElem hlt, List.flatMap_append, ← hall]
            simp
          rw [l2, List.length_append, List.length_map] at l1
          rw [List.length_append, List.length_map, List.length_take] at e1
          omega
        · have := a12.put hw hy2
          rw [List.append_assoc] at this
          have e3 : ((ys xs[n]).take j).map (f xs[n]) ++ [f xs[n] (ys xs[n])[j]] = ((ys xs[n]).take (j + 1)).map (f xs[n]) := by
            rw [List.take_succ, List.getElem?_eq_getElem hlj, List.map_append]
            rfl
          rw [e3] at this
          exact this
    · have ej : j = (ys xs[n]).length := by omega
      subst ej
      refine .inl ⟨by have := isit1.stop I7 H7 s67 a7.en.sub; rw [hlen1] at this; exact this, ?_⟩
      obtain ⟨F8, en8, m8⟩ := env_drop vs a7.en
      rw [hdu, wipe_sub (fun i hi => by have := hv i hi; exact this), w5] at en8
      refine ⟨I7, F8, ?_⟩
      have := a7.less m8 en8
      have e4 : (xs.take n).flatMap g ++ ((ys xs[n]).take (ys xs[n]).length).map (f xs[n]) = (xs.take (n + 1)).flatMap g := by
        rw [List.take_length, List.take_succ, List.getElem?_eq_getElem hlt, List.flatMap_append, ← hall]
        simp
      rw [e4] at this
      exact this
  · have e : n = xs.length := by omega
    subst e
    refine .inl ⟨by have := isit.stop I2 H2 a2.st.inc a2.en.sub; rw [hlen] at this; exact this, ?_⟩
    obtain ⟨F3, en4, m4⟩ := env_undrop vs a2.en
    rw [hd] at en4
    obtain ⟨ws, hw, rws⟩ := a2.ws
    rw [List.take_length] at rws
    have nd : (D :: F3).Nodup := List.nodup_cons.mpr ⟨fun q => a2.nd (m4 D q), en4.nd⟩
    exact kq _ _ I2 H2 (.ref D) (D :: F3) hq (st1.trans (a2.st.of_mem (fun b hb => hb) fun b hb => (List.mem_cons.mp hb).elim (fun q => q ▸ List.mem_cons_self) fun q => List.mem_cons_of_mem _ (m4 b q))) ⟨.cons (.ll hw a2.fr rws) en4.env, nd, en4.sub⟩
theorem xe_lc2 {k : Nat} (own : List (Str × Nat)) (vs1 : List Nat) (u : α → Sl) (u1 : α → β → Sl) (xs : List α) (E : α → PyData) (ys : α → List β) (E1 : β → PyData) (f : α → β → PyData) (fx : Fr X k) (hi : XI X tg it Γ (xs.map E) Γ) (hg : ∀ x ∈ xs, GB X scope own tg (E x) Γ (u x))
    (hi1 : ∀ x ∈ xs, ∀ s H C cl fp, XI (Blk X scope s H C cl fp) tg1 it1 (u x) ((ys x).map E1) (u x)) (hg1 : ∀ x ∈ xs, ∀ y ∈ ys x, ∀ s H C cl fp, WGc (Blk X scope s H C cl fp) vs1 tg1 (E1 y) (u x) fun Γ' => Γ' = u1 x y) (he : ∀ x ∈ xs, ∀ y ∈ ys x, XB X scope elt (u1 x y) (.da (f x y)) (u1 x y))
    (few : (xs.flatMap fun x => (ys x).map (f x)).length < sizeLine) (hv : ∀ i ∈ vs1, i ∈ own.map (·.2) := by simp) (hd : dropΓ (own.map (·.2)) Γ = Γ := by rfl) (hdu : ∀ x, dropΓ (own.map (·.2)) (u x) = Γ := by intro _; rfl) (hd1 : ∀ x, dropΓ vs1 (u x) = u x := by intro _; rfl) (hd2 : ∀ x y, dropΓ vs1 (u1 x y) = u x := by intro _ _; rfl)
    (ok : blkC X.N X.env.scope scope own = true := by rfl) (hs : ∀ x, foldedSetIterable it X.env x = pure x := by intro _; rfl) (hs1 : ∀ env x, foldedSetIterable it1 env x = pure x := by intro _ _; rfl) :
    XE X (.ListComp elt [⟨tg, it, [], 0⟩, ⟨tg1, it1, [], 0⟩] scope pos) Γ (.ll (xs.flatMap fun x => (ys x).map (f x))) Γ := fun Ψ hq I H σ F en Q kq =>
  ⟨_, pe_lc2 (vs1 := vs1) fx.calm fx.nd wpI_ok (blkOk_by ok) hv (fun s H0 C cl fp => ⟨fun pins s' σ H v u Q I r h => wpG_ok.run pins s' σ H v u Q I r (h s H0 C cl fp)⟩) (fun s H0 C cl fp => pts_nil) (fun s H0 C cl fp => ⟨fun pins s' σ H R I h => wpI_ok.run pins s' σ H R I (h s H0 C cl fp)⟩)
    (fun s H0 C cl fp => ⟨fun pins s' σ H v u Q I r h => wpG_ok.run pins s' σ H v u Q I r (h s H0 C cl fp)⟩) (fun s H0 C cl fp => pts_nil) (fun s H0 C cl fp => ⟨fun pins s' σ H Q I h => wpE_ok.run pins s' σ H Q I (h s H0 C cl fp)⟩) hs hs1,
    lc2_read (k := k) u u1 xs E ys E1 f hi hg hi1 hg1 he few hv hd hdu hd1 hd2 hq I H σ F en Q kq⟩
end
end TL

/-! TL43: own dicts with nested keys, whose values are own lists: d.setdefault(k, []).append(x). -/
namespace TL
open PySem PySem.Spec PyProof.Rows L2
structure KeysAt (T : TC) (I H : Hp) (p : Addr) (kvs : NKV) (ks : List NestedKey) : Prop where
  at_ : H p = some (DN T p kvs)
  keys : kvs.map Prod.fst = ks
  krp : RpL T I (kvs.map fun q => V.ref q.2.1) (ks.map NestedKey.data)
theorem keys_heap {X : Cx} {pins : List (Addr × Obj)} {σ : L2.St} {I H : Hp} {s : Shared} {p : Addr} {kvs : NKV} {ks : List NestedKey} (J : Inv X pins σ H s) (d : KeysAt X.tc I H p kvs ks) (sub : Same I H) (h8 : ∀ k ∈ ks, k.depth ≤ 8) :
    kvs.length ≤ sizeLine ∧ (p == sysModules) = false ∧ ∃ xs, Paired NPair kvs xs ∧ s.heap.DictOfH (nestedKind X.prog X.w) p xs := by
  obtain ⟨⟨z, hd, xs, r, o, es, ep, g1, g2, g3, g4, g5⟩, _⟩ := J.hok p _ d.at_
  refine ⟨z, hd, xs, r, o, es, ep, g1, g2, g3, g4, fun x hx => ?_, g5⟩
  obtain ⟨j, hj⟩ := List.mem_iff_getElem?.mp hx
  have hlen : kvs.length = xs.length := Paired.length r
  obtain ⟨hjl, _⟩ := List.getElem?_eq_some_iff.mp hj
  have hk : kvs[j]? = some (kvs[j]'(by omega)) := List.getElem?_eq_getElem (by omega)
  obtain ⟨y, hy, np⟩ := LiI.paired_get r hk
  rw [hj] at hy
  cases hy
  have e1 : ks[j]? = some (kvs[j]'(by omega)).1 := by rw [← d.keys, List.getElem?_map, hk]; rfl
  obtain ⟨v, hv, rv⟩ := d.krp.get (i := j) (d := (kvs[j]'(by omega)).1.data) (by rw [List.getElem?_map, e1]; rfl)
  rw [List.getElem?_map, hk] at hv
  cases hv
  refine ⟨?_, ?_⟩
  · rw [← np.1, ← np.2.1]
    exact nested_is J _ (rv.mono sub) rfl
  · rw [← np.1]
    exact h8 _ (List.mem_of_getElem? e1)
theorem dk_at {k : NestedKey} : ∀ {kvs : NKV} {xs : List (NestedKey × Addr × Value)}, Paired NPair kvs xs → (∀ pr, atKey xs k = some pr → ∃ (j : Nat) (a : Addr) (v : V), kvs[j]? = some (k, a, v) ∧ RelV v pr.2) ∧ (atKey xs k = none → k ∉ kvs.map Prod.fst)
  | [], _, .nil => ⟨fun pr h => (by cases h), fun _ => by simp⟩
  | p :: kvs, _, .cons (b := y) (l₂ := xs) np r => by
    have ha : atKey (y :: xs) k = if y.1 = k then some y.2 else atKey xs k := by
      unfold atKey
      rw [List.find?_cons]
      by_cases hk : y.1 = k <;> simp [hk]
    obtain ⟨h1, h2⟩ := dk_at (k := k) r
    rw [ha]
    by_cases hk : y.1 = k
    · rw [if_pos hk]
      refine ⟨fun pr e => ?_, fun e => by cases e⟩
      cases e
      obtain ⟨pk, pa, pv⟩ := p
      refine ⟨0, pa, pv, ?_, np.2.2⟩
      rw [show pk = k from np.1.trans hk]
      rfl
    · rw [if_neg hk]
      refine ⟨fun pr e => ?_, fun e hm => ?_⟩
      · obtain ⟨j, a, v, q1, q2⟩ := h1 pr e
        exact ⟨j + 1, a, v, q1, q2⟩
      · rw [List.map_cons] at hm
        rcases List.mem_cons.mp hm with z | z
        · exact hk (np.1.symm.trans z.symm)
        · exact h2 e z
/-! the reading of setdefault, the value at hand -/
def rSetN (T : TC) (x y z : V) (H : Hp) (Q : VK) : Prop := ∃ I p kvs ks k a, x = .ref p ∧ y = .ref a ∧ Same I H ∧ KeysAt T I H p kvs ks ∧ (∀ k ∈ ks, k.depth ≤ 8) ∧ Rp T I y (NestedKey.data k) ∧ k.depth ≤ 8 ∧ kvs.length < sizeLine ∧
  (∀ (j : Nat) (a' : Addr) (v : V), kvs[j]? = some (k, a', v) → Q v H) ∧ (k ∉ ks → Q z (upd H p (DN T p (kvs ++ [(k, a, z)]))))
def tSetN (T : TC) (td ty tz : TE) : TE := fun σ H Q => td σ H fun x H1 => (∃ I p kvs ks, x = .ref p ∧ Same I H1 ∧ KeysAt T I H1 p kvs ks ∧ ∀ k ∈ ks, k.depth ≤ 8) ∧ ty σ H1 fun y H2 => tz σ H2 fun z H3 => rSetN T x y z H3 Q
section
variable {X : Cx} {a b o e : Expr} {apos cpos : Pos}
theorem pe_setN {td ty tz : TE} (hu : X.A.units + 16 < cLine) (ho : PE X o td) (ha : PE X a ty) (hb : PE X b tz) (m : M2 X o "setdefault" apos a b cpos) : PE X (.Call (.Attribute o "setdefault" apos) [a, b] [] cpos) (tSetN X.tc td ty tz) := by
  refine ⟨fun pins s σ H Q I h => wpAny_Call_method m.base m.few m.line PySem.F.plainAttrs_dict PySem.F.slot_dict_setdefault PySem.F.type_dict_setdefault (thn (ho.run pins s σ H _ I h) ?_)⟩
  rintro u s1 ⟨x, H1, I1, rx, ⟨I0, p, kvs, ks, rfl, sub, d, h8⟩, q1⟩
  cases rx
  obtain ⟨z, hd, xs, rp, dd⟩ := keys_heap I1 d sub h8
  obtain ⟨ob, es, ep, g1, g2, _⟩ := id dd
  refine ⟨dd.typeIs, fun b' e' => by cases e'; exact ⟨ob, g1, g2.2.1⟩, ?_⟩
  rw [m.trees]
  refine Calls.callWith_builtin rfl (Calls.evalArgs_plain (Calls.spliced_cons (thn (ha.run pins s1 σ H1 _ I1 q1) fun iv s2 ⟨y, H2, I2, ry, q2⟩ => Calls.spliced_cons (thn (hb.run pins s2 σ H2 _ I2 q2) fun fv s3 ⟨z', H3, I3, rz, q3⟩ => Calls.spliced_nil ?_))))
  obtain ⟨I0', p', kvs', ks', k, a', e1, rfl, sub', d', h8', hk, hk8, hl, qs, qn⟩ := q3
  cases e1
  cases ry
  obtain ⟨z2, hd2, xs2, rp2, dd2⟩ := keys_heap I3 d' sub' h8'
  have hxl : kvs'.length = xs2.length := Paired.length rp2
  obtain ⟨w1, w2⟩ := dk_at (k := k) rp2
  refine call_setdefault_heap (knd := nestedKind X.prog X.w) (k := k) (hsz := by omega) (show X.A.units + 1 + 8 < cLine by omega) ⟨nested_is I3 k (hk.mono sub') rfl, hk8⟩ hd2 dd2 (fun pr hpr => ?_) fun hn h' hm' hs => ?_
  · obtain ⟨j, a2, v, e2, rv⟩ := w1 pr hpr
    exact ⟨v, H3, I3.tok _, rv, qs j a2 v e2⟩
  · have e := w2 hn
    rw [d'.keys] at e
    obtain ⟨o', es', ep', f1, f2, f3, f4, _, f6⟩ := hm'
    rw [storedH_new hn] at f4 f6
    have new : DnOk X.tc p (kvs' ++ [(k, a', z')]) h' := by
      refine ⟨by rw [List.length_append]; show _ + 1 ≤ _; omega, hd2, xs2 ++ [(k, a', fv)], ?_, o', es', ep', f1, f2, f3, f4, f6⟩
      have app : ∀ {l1 : NKV} {l2 : List (NestedKey × Addr × Value)}, Paired NPair l1 l2 → Paired NPair (l1 ++ [(k, a', z')]) (l2 ++ [(k, a', fv)]) := by
        intro l1 l2 r
        induction r with
        | nil => exact .cons ⟨rfl, rfl, rz⟩ .nil
        | cons h _ ih => exact .cons h ih
      exact app rp2
    exact ⟨z', _, d_write (t' := s3.toks + (nestedKind X.prog X.w).draws k) I3 (by rw [d'.at_]; exact True.intro) hs ⟨o', f1⟩ (ob := DN X.tc p (kvs' ++ [(k, a', z')])) ⟨new, ⟨o', f1⟩, fun h1 h2 q e => dn_stay q e⟩, rz, qn e⟩
end
/-! the own thing -/
inductive Lsts (T : TC) (I H : Hp) : List V → List Addr → List (List PyData) → Prop
  | nil : Lsts T I H [] [] []
  | cons {q : Addr} {vs ws : List V} {qs : List Addr} {ds : List PyData} {dss : List (List PyData)} : H q = some (.lst ws) → I q = none → RpL T I ws ds → Lsts T I H vs qs dss → Lsts T I H (.ref q :: vs) (q :: qs) (ds :: dss)
section
variable {T : TC} {I H I' H' : Hp}
theorem Lsts.frame (e : Same I I') : ∀ {vs : List V} {qs : List Addr} {dss : List (List PyData)}, Lsts T I H vs qs dss → (∀ b ∈ qs, H' b = H b ∧ I' b = none) → Lsts T I' H' vs qs dss
  | _, _, _, .nil, _ => .nil
  | _, _, _, .cons h i r t, k => .cons ((k _ List.mem_cons_self).1.trans h) (k _ List.mem_cons_self).2 (r.mono e) (t.frame e fun b hb => k b (List.mem_cons_of_mem _ hb))
theorem Lsts.cells : ∀ {vs : List V} {qs : List Addr} {dss : List (List PyData)}, Lsts T I H vs qs dss → ∀ b ∈ qs, (∃ o, H b = some o) ∧ I b = none
  | _, _, _, .cons h i r t, b, hb => by
    rcases List.mem_cons.mp hb with e | hb
    · rw [e]
      exact ⟨⟨_, h⟩, i⟩
    · exact t.cells b hb
theorem Lsts.len : ∀ {vs : List V} {qs : List Addr} {dss : List (List PyData)}, Lsts T I H vs qs dss → vs.length = dss.length ∧ qs.length = dss.length
  | _, _, _, .nil => ⟨rfl, rfl⟩
  | _, _, _, .cons _ _ _ t => ⟨congrArg (· + 1) t.len.1, congrArg (· + 1) t.len.2⟩
theorem Lsts.at : ∀ {vs : List V} {qs : List Addr} {dss : List (List PyData)} {j : Nat} {v : V}, Lsts T I H vs qs dss → vs[j]? = some v → ∃ q ws ds, v = .ref q ∧ q ∈ qs ∧ qs[j]? = some q ∧ dss[j]? = some ds ∧ H q = some (.lst ws) ∧ RpL T I ws ds
  | _, _, _, 0, v, .cons h i r t, e => by
    cases (show some (V.ref _) = some v from e)
    exact ⟨_, _, _, rfl, List.mem_cons_self, rfl, rfl, h, r⟩
  | _, _, _, j + 1, v, .cons h i r t, e => by
    obtain ⟨q, ws, ds, e1, e2, e3, e4, e5, e6⟩ := t.at (j := j) (v := v) e
    exact ⟨q, ws, ds, e1, List.mem_cons_of_mem _ e2, e3, e4, e5, e6⟩
theorem Lsts.put {y : V} {d : PyData} (hy : Rp T I y d) : ∀ {vs : List V} {qs : List Addr} {dss : List (List PyData)} {j : Nat} {q : Addr} {ws : List V} {ds : List PyData}, Lsts T I H vs qs dss → qs.Nodup → qs[j]? = some q → dss[j]? = some ds → H q = some (.lst ws) → RpL T I ws ds →
    Lsts T I (upd H q (.lst (ws ++ [y]))) vs qs (dss.set j (ds ++ [d]))
  | _, _, _, 0, q, ws, ds, .cons h i r t, nd, e1, e2, e3, e4 => by
    cases (show some _ = some q from e1)
    cases (show some _ = some ds from e2)
    have nd' := List.nodup_cons.mp nd
    exact .cons upd_same i (RpL.append e4 (.cons hy .nil)) (t.frame (Same.refl _) fun b hb => ⟨upd_ne fun z => nd'.1 (z ▸ hb), (t.cells b hb).2⟩)
  | _, _, _, j + 1, q, ws, ds, .cons (q := q0) (qs := qs0) h i r t, nd, e1, e2, e3, e4 => by
    have nd' := List.nodup_cons.mp nd
    have hq : q ∈ qs0 := List.mem_of_getElem? (i := j) e1
    exact .cons (by rw [upd_ne fun z => nd'.1 (by rw [z]; exact hq)]; exact h) i r (Lsts.put hy t nd'.2 e1 e2 e3 e4)
theorem Lsts.app {q : Addr} {ws : List V} {ds : List PyData} (h : H q = some (.lst ws)) (i : I q = none) (r : RpL T I ws ds) : ∀ {vs : List V} {qs : List Addr} {dss : List (List PyData)}, Lsts T I H vs qs dss → Lsts T I H (vs ++ [.ref q]) (qs ++ [q]) (dss ++ [ds])
  | _, _, _, .nil => .cons h i r .nil
  | _, _, _, .cons a b c t => .cons a b c (t.app h i r)
theorem KeysAt.frame {p : Addr} {kvs : NKV} {ks : List NestedKey} (e : Same I I') (k : KeysAt T I H p kvs ks) (h : H' p = H p) : KeysAt T I' H' p kvs ks := ⟨h.trans k.at_, k.keys, k.krp.mono e⟩
end
def dlO (T : TC) (ks : List (NestedKey × List PyData)) : OP where
  own := fun I H v B => ∃ p kvs qs, v = .ref p ∧ B = p :: qs ∧ I p = none ∧ KeysAt T I H p kvs (ks.map Prod.fst) ∧ Lsts T I H (kvs.map fun q => q.2.2) qs (ks.map Prod.snd)
  frame := fun e ⟨p, kvs, qs, e1, e2, i, k, l⟩ f => by
    subst e1 e2
    have f0 := f p List.mem_cons_self
    exact ⟨p, kvs, qs, rfl, rfl, f0.2, k.frame e f0.1, l.frame e fun b hb => f b (List.mem_cons_of_mem _ hb)⟩
  cells := fun ⟨p, kvs, qs, e1, e2, i, k, l⟩ b hb => by
    subst e1 e2
    rcases List.mem_cons.mp hb with z | z
    · rw [z]
      exact ⟨⟨_, k.at_⟩, i⟩
    · exact l.cells b z
theorem dl_new {T : TC} (I H : Hp) (v : V) (B : List Addr) (o : Own T I H v (.dm []) B) : Own T I H v (.op (dlO T [])) B := by
  cases o with
  | @dm p kvs _ h1 h2 h3 h4 h5 =>
    have hk : kvs = [] := by
      have := congrArg List.length h3
      exact List.eq_nil_of_length_eq_zero (by simpa using this)
    subst hk
    exact .op ⟨p, [], [], rfl, rfl, h2, ⟨h1, rfl, .nil⟩, .nil⟩
end TL

/-! TL44: d.setdefault(k, []).append(x) over own dicts of own lists. -/
namespace TL
open PySem PySem.Spec PyProof.Rows L2
/-- x put behind what stands at k -/
def addL (ks : List (NestedKey × List PyData)) (k : NestedKey) (d : PyData) : List (NestedKey × List PyData) := if k ∈ ks.map Prod.fst then ks.map (fun q => if q.1 = k then (q.1, q.2 ++ [d]) else q) else ks ++ [(k, [d])]
theorem addL_keys {ks : List (NestedKey × List PyData)} {k : NestedKey} {d : PyData} : (addL ks k d).map Prod.fst = if k ∈ ks.map Prod.fst then ks.map Prod.fst else ks.map Prod.fst ++ [k] := by
  unfold addL
  split
  · rw [List.map_map]
    refine List.map_congr_left fun q _ => ?_
    show (if q.1 = k then (q.1, q.2 ++ [d]) else q).1 = q.1
    split <;> rfl
  · rw [List.map_append]
    rfl
theorem addL_set {k : NestedKey} {d : PyData} : ∀ {ks : List (NestedKey × List PyData)} {j : Nat} {ds : List PyData}, (ks.map Prod.fst).Nodup → ks[j]? = some (k, ds) → (ks.map fun q => if q.1 = k then (q.1, q.2 ++ [d]) else q).map Prod.snd = (ks.map Prod.snd).set j (ds ++ [d])
  | q :: ks, 0, ds, nd, e => by
    cases (show some q = some (k, ds) from e)
    rw [List.map_cons] at nd
    have nd' := List.nodup_cons.mp nd
    rw [List.map_cons, List.map_cons, List.map_cons, if_pos rfl]
    show (ds ++ [d]) :: _ = (ds ++ [d]) :: _
    congr 1
    rw [List.map_map]
    refine List.map_congr_left fun q hq => ?_
    show (if q.1 = k then (q.1, q.2 ++ [d]) else q).2 = q.2
    rw [if_neg fun z => nd'.1 (by show k ∈ _; rw [← z]; exact List.mem_map_of_mem (f := Prod.fst) hq)]
  | q :: ks, j + 1, ds, nd, e => by
    rw [List.map_cons] at nd
    have nd' := List.nodup_cons.mp nd
    have e' : ks[j]? = some (k, ds) := e
    have hne : q.1 ≠ k := fun z => nd'.1 (by
      rw [z]
      exact List.mem_map_of_mem (f := Prod.fst) (List.mem_of_getElem? e'))
    rw [List.map_cons, List.map_cons, List.map_cons, if_neg hne, addL_set nd'.2 e']
    rfl
section
variable {T : TC} {I H I' H' : Hp} {G G' : List Addr} {v : V} {x : OD} {B : List Addr}
theorem Step.keeps (st : Step I H G I' H' G') (o : Own T I H v x B) (nd : (B ++ G).Nodup) : ∀ b ∈ B, b ∉ G' ∧ H' b = H b ∧ I' b = none := fun b hb => by
  obtain ⟨⟨ob, e⟩, i⟩ := o.cells b hb
  obtain ⟨h1, h2, h3⟩ := st.oth b ob e i fun q => (List.nodup_append.mp nd).2.2 b hb b q rfl
  exact ⟨h3, h1.trans e.symm, h2⟩
end
section
variable {X : Cx} {a e : Expr} {Γ : Sl} {Ψ : OD → Sl → Prop} {ap1 ap2 cp1 cp2 lp p : Pos} {nm : Str} {d : PyData} {k : NestedKey} {ks : List (NestedKey × List PyData)}
theorem we_setdefApp (i : Nat) (hu : X.A.units + 16 < cLine) (ha : XE X a (Γ.set i none) (.da k.data) (Γ.set i none)) (he : XE X e (Γ.set i none) (.da d) (Γ.set i none)) (h8 : ∀ q ∈ ks, q.1.depth ≤ 8) (hk : KOk k) (knd : (ks.map Prod.fst).Nodup) (hz : ks.length < sizeLine) (hzl : ∀ q ∈ ks, q.2.length < sizeLine)
    (hq : Ψ (.da .none) (Γ.set i (some (.op (dlO X.tc (addL ks k d)))))) (hx : Γ[i]? = some (some (.op (dlO X.tc ks))) := by rfl) (hN : X.N[i]? = some nm := by rfl)
    (hvs : Vis X.env.scope nm := by first | exact Or.inl rfl | exact Or.inr (Or.inl rfl) | exact Or.inr (Or.inr rfl)) (h1 : (nm == ("__debug__" : Str)) = false := by decide) (h2 : (nm == ("__classdict__" : Str)) = false := by decide)
    (hb1 : attributeBase (.Name nm p) "setdefault" X.env (eval (.Name nm p) X.env) = eval (.Name nm p) X.env := by rfl)
    (few1 : ((backTo cp1 (starEach [a, .List [] lp] X.env)).all (fun x => !x.1) && (backToKw cp1 (keywordEach [] X.env)).all (fun x => x.1.isSome)
      && decide (([a, .List [] lp] : List Expr).length + ([] : List Keyword).length + (if ([] : List Keyword).isEmpty then 0 else 1) < 30)) = true := by rfl) (line1 : (ap1.endLine == cp1.line) = true := by rfl)
    (trees : backTo cp1 (starEach [a, .List [] lp] X.env) = [(false, eval a X.env), (false, eval (.List [] lp) X.env)] := by rfl)
    (hb2 : attributeBase (.Call (.Attribute (.Name nm p) "setdefault" ap1) [a, .List [] lp] [] cp1) "append" X.env (eval (.Call (.Attribute (.Name nm p) "setdefault" ap1) [a, .List [] lp] [] cp1) X.env) = eval (.Call (.Attribute (.Name nm p) "setdefault" ap1) [a, .List [] lp] [] cp1) X.env := by rfl)
    (hst : starEach [e] X.env = (false, eval e X.env) :: starEach [] X.env := by rfl)
    (few2 : ((backTo cp2 (starEach [e] X.env)).all (fun x => !x.1) && (backToKw cp2 (keywordEach [] X.env)).all (fun x => x.1.isSome)
      && decide (([e] : List Expr).length + ([] : List Keyword).length + (if ([] : List Keyword).isEmpty then 0 else 1) < 30)) = true := by rfl) (line2 : (ap2.endLine == cp2.line) = true := by rfl) (hs2 : (backTo cp2 (starEach [] X.env)).any (·.1) = false := by rfl) :
    WE X (.Call (.Attribute (.Call (.Attribute (.Name nm p) "setdefault" ap1) [a, .List [] lp] [] cp1) "append" ap2) [e] [] cp2) Γ Ψ := fun I H σ F en Q kq => by
  refine ⟨_, pe_bm PySem.F.plainAttrs_list PySem.F.slot_list_append PySem.F.type_list_append mt_append (pe_setN hu (pe_var hN hvs h1 h2) (wpE_ok (e := a)) (wpE_ok (e := .List [] lp)) ⟨hb1, few1, line1, trees⟩) (pa_cons (wpE_ok (e := e)) pa_nil hst) hb2 few2 line2 hst hs2, ?_⟩
  obtain ⟨v0, B0, G0, e1, o0, en0, nd0, mem0⟩ := en.take hx
  have own0 := o0
  cases o0 with
  | op o0 =>
    obtain ⟨p0, kvs, qs, rfl, rfl, ip, K0, L0⟩ := o0
    have h8' : ∀ k ∈ ks.map Prod.fst, k.depth ≤ 8 := fun k hk => by
      obtain ⟨q, hq, rfl⟩ := List.mem_map.mp hk
      exact h8 q hq
    refine ⟨_, e1, ⟨I, p0, kvs, _, rfl, en.sub, K0, h8'⟩, ha (fun r Γ' => r = .da k.data ∧ Γ' = Γ.set i none) ⟨rfl, rfl⟩ I H σ G0 en0 _ ?_⟩
    rintro _ _ I1 H1 y F1 ⟨rfl, rfl⟩ st1 en1
    obtain ⟨B1, G1, rfl, oy, en1', _⟩ := en1.pop
    cases oy with
    | da hy =>
      refine xe_lst0 (fun r Γ' => r = .ll [] ∧ Γ' = Γ.set i none) ⟨rfl, rfl⟩ I1 H1 σ _ en1' _ ?_
      rintro _ _ I2 H2 z F2 ⟨rfl, rfl⟩ st2 en2
      obtain ⟨B2, G2, rfl, oz, en2', _⟩ := en2.pop
      have ndz := en2.nd
      cases oz with
      | @ll zq ws _ hz1 hz2 hz3 =>
        cases hz3
        have st12 : Step I H G0 I2 H2 ([zq] ++ G2) := st1.trans st2
        have k2 := st12.keeps own0 nd0
        have K2 := K0.frame st12.inc (k2 p0 List.mem_cons_self).2.1
        have L2' := L0.frame st12.inc fun b hb => (k2 b (List.mem_cons_of_mem _ hb)).2
        have hy2 := hy.mono st2.inc
        obtain ⟨a', rfl⟩ := hk.ref hy2
        have ndB : (p0 :: qs).Nodup := (List.nodup_append.mp nd0).1
        have ndG : G2.Nodup := en2'.nd
        have zG : zq ∉ G2 := (List.nodup_cons.mp (show (zq :: G2).Nodup from ndz)).1
        have hlk : kvs.length = ks.length := by
          have := congrArg List.length K0.keys
          rwa [List.length_map, List.length_map] at this
        have bF : ∀ b, b ∉ F → b ∉ p0 :: qs ∧ b ∉ G0 := fun b hb => ⟨fun q => hb ((mem0 b).mpr (.inl q)), fun q => hb ((mem0 b).mpr (.inr q))⟩
        refine ⟨I2, p0, kvs, _, k, a', rfl, rfl, en2'.sub, K2, h8', hy2, hk.d8, by rw [hlk]; exact hz, fun j a2 v hj => ?_, fun hnk => ?_⟩
        · -- found
          obtain ⟨q, ws, ds, rfl, hqm, hqj, hdj, hqw, rws⟩ := L2'.at (j := j) (v := v) (by rw [List.getElem?_map, hj]; rfl)
          refine ⟨.inl ⟨rfl, _, SqL.of hqw⟩, he (fun r Γ' => r = .da d ∧ Γ' = Γ.set i none) ⟨rfl, rfl⟩ I2 H2 σ G2 en2' _ ?_⟩
          rintro _ _ I3 H3 w F3 ⟨rfl, rfl⟩ st3 en3
          obtain ⟨B3, G3, rfl, ow, en3', _⟩ := en3.pop
          cases ow with
          | da hw =>
            have own2 : Own X.tc I2 H2 (.ref p0) (.op (dlO X.tc ks)) (p0 :: qs) := .op ⟨p0, kvs, qs, rfl, rfl, (k2 p0 List.mem_cons_self).2.2, K2, L2'⟩
            have nd2 : ((p0 :: qs) ++ G2).Nodup := List.nodup_append.mpr ⟨ndB, ndG, fun x hx y hy e => (k2 x hx).1 (by rw [e]; exact List.mem_append_right _ hy)⟩
            have k3 := st3.keeps own2 nd2
            have K3 := K2.frame st3.inc (k3 p0 List.mem_cons_self).2.1
            have L3 := L2'.frame st3.inc fun b hb => (k3 b (List.mem_cons_of_mem _ hb)).2
            have hq3 : H3 q = some (.lst ws) := (k3 q (List.mem_cons_of_mem _ hqm)).2.1.trans hqw
            have rw3 := rws.mono st3.inc
            have L4 := L3.put hw (List.nodup_cons.mp ndB).2 hqj hdj hq3 rw3
            have hks : ks[j]? = some (k, ds) := by
              have e5 : (ks.map Prod.fst)[j]? = some k := by
                rw [← K0.keys, List.getElem?_map, hj]
                rfl
              rw [List.getElem?_map] at e5 hdj
              obtain ⟨q1, g1, g2⟩ := Option.map_eq_some_iff.mp e5
              rw [g1] at hdj
              cases (show some q1.2 = some ds from hdj)
              cases g2
              exact g1
            have hmem : k ∈ ks.map Prod.fst := List.mem_map_of_mem (f := Prod.fst) (List.mem_of_getElem? hks)
            have ha1 : (addL ks k d).map Prod.fst = ks.map Prod.fst := by rw [addL_keys, if_pos hmem]
            have ha2 : (addL ks k d).map Prod.snd = (ks.map Prod.snd).set j (ds ++ [d]) := by
              unfold addL
              rw [if_pos hmem]
              exact addL_set knd hks
            have qp : q ≠ p0 := fun e => (List.nodup_cons.mp ndB).1 (by rw [← e]; exact hqm)
            have own4 : Own X.tc I3 (upd H3 q (.lst (ws ++ [w]))) (.ref p0) (.op (dlO X.tc (addL ks k d))) (p0 :: qs) := .op ⟨p0, kvs, qs, rfl, rfl, (k3 p0 List.mem_cons_self).2.2, by rw [ha1]; exact K3.frame (Same.refl _) (upd_ne qp.symm), by rw [ha2]; exact L4⟩
            have qG : q ∉ G3 := fun h => (k3 q (List.mem_cons_of_mem _ hqm)).1 (List.mem_append_right _ h)
            have en4 : EnvF X.tc I3 (upd H3 q (.lst (ws ++ [w]))) σ (Γ.set i none) G3 := ⟨en3'.env.frame (Same.refl _) fun b hb => ⟨upd_ne fun z => qG (z ▸ hb), (en3'.env.cells b hb).2⟩, en3'.nd, fun b u h => by
              rw [upd_ne fun z => by
                rw [z, (k3 q (List.mem_cons_of_mem _ hqm)).2.2] at h
                cases h]
              exact en3'.sub b u h⟩
            have nd4 : ((p0 :: qs) ++ G3).Nodup := List.nodup_append.mpr ⟨ndB, en3'.nd, fun x hx y hy e => (k3 x hx).1 (by rw [e]; exact List.mem_append_right _ hy)⟩
            obtain ⟨F5, en5, nd5, m5⟩ := en4.into e1 own4 nd4
            rw [List.set_set] at en5
            have hlt : ws.length < sizeLine := by
              rw [rws.length]
              exact hzl (k, ds) (List.mem_of_getElem? hks)
            refine ⟨q, ws, w, rfl, rfl, hq3, hlt, kq _ _ I3 _ .non F5 hq ⟨st12.inc.trans st3.inc, fun b ob g1 g2 g3 => ?_⟩ (en5.da .non)⟩
            obtain ⟨g4, g5⟩ := bF b g3
            obtain ⟨g6, g7, g8⟩ := st12.oth b ob g1 g2 g5
            obtain ⟨g9, g10, g11⟩ := st3.oth b ob g6 g7 fun h => g8 (List.mem_append_right _ h)
            refine ⟨?_, g10, fun h => (m5 b h).elim g4 fun h => g11 (List.mem_append_right _ h)⟩
            rw [upd_ne fun z => g4 (by rw [z]; exact List.mem_cons_of_mem _ hqm)]
            exact g9
        · -- new
          have zB : ∀ b ∈ p0 :: qs, b ≠ zq := fun b hb z => (k2 b hb).1 (by rw [z]; exact List.mem_append_left _ (List.mem_singleton.mpr rfl))
          have pG : p0 ∉ G2 := fun h => (k2 p0 List.mem_cons_self).1 (List.mem_append_right _ h)
          have pz : p0 ≠ zq := zB p0 List.mem_cons_self
          have ip2 := (k2 p0 List.mem_cons_self).2.2
          have en2b : EnvF X.tc I2 (upd H2 p0 (DN X.tc p0 (kvs ++ [(k, a', .ref zq)]))) σ (Γ.set i none) G2 := ⟨en2'.env.frame (Same.refl _) fun b hb => ⟨upd_ne fun z => pG (z ▸ hb), (en2'.env.cells b hb).2⟩, en2'.nd, fun b u h => by
            rw [upd_ne fun z => by
              rw [z, ip2] at h
              cases h]
            exact en2'.sub b u h⟩
          refine ⟨.inl ⟨rfl, _, SqL.of (show upd H2 p0 _ zq = some (.lst []) by rw [upd_ne pz.symm]; exact hz1)⟩, he (fun r Γ' => r = .da d ∧ Γ' = Γ.set i none) ⟨rfl, rfl⟩ I2 _ σ G2 en2b _ ?_⟩
          rintro _ _ I3 H3 w F3 ⟨rfl, rfl⟩ st3 en3
          obtain ⟨B3, G3, rfl, ow, en3', _⟩ := en3.pop
          cases ow with
          | da hw =>
            have K2b : KeysAt X.tc I2 (upd H2 p0 (DN X.tc p0 (kvs ++ [(k, a', .ref zq)]))) p0 (kvs ++ [(k, a', .ref zq)]) (ks.map Prod.fst ++ [k]) := ⟨upd_same, by rw [List.map_append, K2.keys]; rfl, by rw [List.map_append, List.map_append]; exact RpL.append K2.krp (.cons hy2 .nil)⟩
            have L2b := L2'.frame (H' := upd H2 p0 (DN X.tc p0 (kvs ++ [(k, a', .ref zq)]))) (Same.refl _) fun b hb => ⟨upd_ne fun z => (List.nodup_cons.mp ndB).1 (z ▸ hb), (k2 b (List.mem_cons_of_mem _ hb)).2.2⟩
            have z2b : upd H2 p0 (DN X.tc p0 (kvs ++ [(k, a', .ref zq)])) zq = some (.lst []) := by rw [upd_ne pz.symm]; exact hz1
            have own2 : Own X.tc I2 (upd H2 p0 (DN X.tc p0 (kvs ++ [(k, a', .ref zq)]))) (.ref p0) (.op (dlO X.tc (ks ++ [(k, [])]))) (p0 :: (qs ++ [zq])) := .op ⟨p0, _, _, rfl, rfl, ip2, by rw [List.map_append]; exact K2b, by
              rw [List.map_append, List.map_append]
              exact L2b.app z2b hz2 .nil⟩
            have ndB' : (p0 :: (qs ++ [zq])).Nodup := by
              rw [← List.cons_append]
              exact List.nodup_append.mpr ⟨ndB, by simp, fun x hx y hy e => zB x hx (by rw [e]; exact List.mem_singleton.mp hy)⟩
            have nd2 : ((p0 :: (qs ++ [zq])) ++ G2).Nodup := List.nodup_append.mpr ⟨ndB', ndG, fun x hx y hy e => by
              subst e
              rw [← List.cons_append] at hx
              rcases List.mem_append.mp hx with h | h
              · exact (k2 x h).1 (List.mem_append_right _ hy)
              · rw [List.mem_singleton.mp h] at hy
                exact zG hy⟩
            have k3 := st3.keeps own2 nd2
            have inz : zq ∈ p0 :: (qs ++ [zq]) := by simp
            have inq : ∀ b ∈ qs, b ∈ p0 :: (qs ++ [zq]) := fun b hb => List.mem_cons_of_mem _ (List.mem_append_left _ hb)
            have K3 := K2b.frame st3.inc (k3 p0 List.mem_cons_self).2.1
            have L3 := L2b.frame st3.inc fun b hb => (k3 b (inq b hb)).2
            have z3 : H3 zq = some (.lst []) := (k3 zq inz).2.1.trans z2b
            have iz3 := (k3 zq inz).2.2
            have zqs : zq ∉ qs := fun h => zB zq (List.mem_cons_of_mem _ h) rfl
            have ha1 : (addL ks k d).map Prod.fst = ks.map Prod.fst ++ [k] := by rw [addL_keys, if_neg hnk]
            have ha2 : (addL ks k d).map Prod.snd = ks.map Prod.snd ++ [[d]] := by
              unfold addL
              rw [if_neg hnk, List.map_append]
              rfl
            have own4 : Own X.tc I3 (upd H3 zq (.lst ([] ++ [w]))) (.ref p0) (.op (dlO X.tc (addL ks k d))) (p0 :: (qs ++ [zq])) := .op ⟨p0, _, _, rfl, rfl, (k3 p0 List.mem_cons_self).2.2, by rw [ha1]; exact K3.frame (Same.refl _) (upd_ne pz), by
              rw [ha2, List.map_append]
              exact (L3.frame (Same.refl _) fun b hb => ⟨upd_ne fun z : b = zq => zqs (by rw [← z]; exact hb), (k3 b (inq b hb)).2.2⟩).app upd_same iz3 (.cons hw .nil)⟩
            have zG3 : zq ∉ G3 := fun h => (k3 zq inz).1 (List.mem_append_right _ h)
            have en4 : EnvF X.tc I3 (upd H3 zq (.lst ([] ++ [w]))) σ (Γ.set i none) G3 := ⟨en3'.env.frame (Same.refl _) fun b hb => ⟨upd_ne fun z => zG3 (z ▸ hb), (en3'.env.cells b hb).2⟩, en3'.nd, fun b u h => by
              rw [upd_ne fun z => by
                rw [z, iz3] at h
                cases h]
              exact en3'.sub b u h⟩
            have nd4 : ((p0 :: (qs ++ [zq])) ++ G3).Nodup := List.nodup_append.mpr ⟨ndB', en3'.nd, fun x hx y hy e => (k3 x hx).1 (by rw [e]; exact List.mem_append_right _ hy)⟩
            obtain ⟨F5, en5, nd5, m5⟩ := en4.into e1 own4 nd4
            rw [List.set_set] at en5
            refine ⟨zq, [], w, rfl, rfl, z3, Nat.lt_of_lt_of_le (show 0 < 6 by decide) (by decide), kq _ _ I3 _ .non F5 hq ⟨st12.inc.trans st3.inc, fun b ob g1 g2 g3 => ?_⟩ (en5.da .non)⟩
            obtain ⟨g4, g5⟩ := bF b g3
            obtain ⟨g6, g7, g8⟩ := st12.oth b ob g1 g2 g5
            have bp : b ≠ p0 := fun z => g4 (by rw [z]; exact List.mem_cons_self)
            have bz : b ≠ zq := fun z => g8 (by rw [z]; exact List.mem_append_left _ (List.mem_singleton.mpr rfl))
            obtain ⟨g9, g10, g11⟩ := st3.oth b ob (by rw [upd_ne bp]; exact g6) g7 fun h => g8 (List.mem_append_right _ h)
            refine ⟨by rw [upd_ne bz]; exact g9, g10, fun h => (m5 b h).elim (fun h => ?_) fun h => g11 (List.mem_append_right _ h)⟩
            rw [← List.cons_append] at h
            rcases List.mem_append.mp h with h | h
            · exact g4 h
            · exact bz (List.mem_singleton.mp h)
end
end TL

/-! TL45: a dict of own lists made one of data; d.get(k, x), keys nested. -/
namespace TL
open PySem PySem.Spec PyProof.Rows L2
abbrev lstD (ks : List (NestedKey × List PyData)) : NL := ks.map fun q => (q.1, .list q.2)
theorem Lsts.frz {T : TC} {I H : Hp} {B : List Addr} (inc : Same I (frzH I H B)) : ∀ {vs : List V} {qs : List Addr} {dss : List (List PyData)}, Lsts T I H vs qs dss → (∀ b ∈ qs, b ∈ B) → RpL T (frzH I H B) vs (dss.map .list)
  | _, _, _, .nil, _ => .nil
  | _, _, _, .cons (q := q) h i r t, hb => .cons (.lst (SqL.of (show frzH I H B q = some (.lst _) by rw [frzH_in (hb q List.mem_cons_self)]; exact h)) (r.mono inc)) (t.frz inc fun b hb' => hb b (List.mem_cons_of_mem _ hb'))
section
variable {X : Cx} {ss : List Stmt} {Γ : Sl} {Φ : Out → Prop} {ks : List (NestedKey × List PyData)}
theorem ws_dlDm (i : Nat) (h : WSs X ss (Γ.set i (some (.dm (lstD ks)))) Φ) (hx : Γ[i]? = some (some (.op (dlO X.tc ks))) := by rfl) : WSs X ss Γ Φ := fun I H σ F en D ek => by
  obtain ⟨v0, B0, G0, e1, o0, en0, nd0, mem0⟩ := en.take hx
  have own0 := o0
  cases o0 with
  | op o0 =>
    obtain ⟨p, kvs, qs, rfl, rfl, ip, K0, L0⟩ := o0
    have ndB := List.nodup_cons.mp (List.nodup_append.mp nd0).1
    have inc : Same I (frzH I H qs) := frzH_inc fun b hb => (L0.cells b hb).2
    have sub := frzH_sub (B := qs) en.sub
    have hv := L0.frz (B := qs) inc fun b hb => hb
    have own1 : Own X.tc (frzH I H qs) H (.ref p) (.dm (lstD ks)) [p] := .dm K0.at_ (by rw [frzH_out ndB.1]; exact ip) (by rw [K0.keys, List.map_map]; rfl) (by
      have := K0.krp.mono inc
      rw [List.map_map] at this ⊢
      exact this) (by
      rw [List.map_map] at hv ⊢
      exact hv)
    have outG : ∀ b ∈ G0, b ∉ qs ∧ b ≠ p := fun b hb => ⟨fun q => (List.nodup_append.mp nd0).2.2 b (List.mem_cons_of_mem _ q) b hb rfl, fun q => (List.nodup_append.mp nd0).2.2 p List.mem_cons_self b hb q.symm⟩
    have en1 : EnvF X.tc (frzH I H qs) H σ (Γ.set i none) G0 := ⟨en0.env.frame inc fun b hb => ⟨rfl, by rw [frzH_out (outG b hb).1]; exact (en0.env.cells b hb).2⟩, en0.nd, sub⟩
    have nd1 : ([p] ++ G0).Nodup := List.nodup_cons.mpr ⟨fun q => (outG p q).2 rfl, en0.nd⟩
    obtain ⟨F5, en5, nd5, m5⟩ := en1.into e1 own1 nd1
    rw [List.set_set] at en5
    refine h (frzH I H qs) H σ F5 en5 D (ek.step ⟨inc, fun b ob q1 q2 q3 => ⟨q1, ?_, fun q => q3 ?_⟩⟩)
    · rw [frzH_out fun q => q3 ((mem0 b).mpr (.inl (List.mem_cons_of_mem _ q)))]
      exact q2
    · rcases m5 b q with z | z
      · exact (mem0 b).mpr (.inl (by rw [List.mem_singleton.mp z]; exact List.mem_cons_self))
      · exact (mem0 b).mpr (.inr z)
end
/-! d.get(k, x) -/
def tNget (T : TC) (td ty tz : TE) : TE := fun σ H Q => td σ H fun x H1 => (∃ I p kvs ks, x = .ref p ∧ Same I H1 ∧ NAt T I H1 p kvs ks ∧ KsOk ks) ∧ ty σ H1 fun y H2 => tz σ H2 fun z H3 => ∃ I p kvs ks k d, x = .ref p ∧ Same I H3 ∧ NAt T I H3 p kvs ks ∧ KsOk ks ∧ Rp T I y (NestedKey.data k) ∧ KOk k ∧ Rp T I z d ∧ ∀ v, Rp T I v ((kget ks k).getD d) → Q v H3
section
variable {X : Cx} {a b o e : Expr} {apos cpos p pos : Pos} {Γ Γ1 Γ2 : Sl} {nm : Str} {ks : NL} {k : NestedKey} {d : PyData} {x : OD}
theorem pe_nget2 {td ty tz : TE} (hu : X.A.units + 16 < cLine) (ho : PE X o td) (ha : PE X a ty) (hb : PE X b tz) (m : M2 X o "get" apos a b cpos) : PE X (.Call (.Attribute o "get" apos) [a, b] [] cpos) (tNget X.tc td ty tz) := by
  refine ⟨fun pins s σ H Q I h => wpAny_Call_method m.base m.few m.line PySem.F.plainAttrs_dict PySem.F.slot_dict_get PySem.F.type_dict_get (thn (ho.run pins s σ H _ I h) ?_)⟩
  rintro u s1 ⟨x, H1, I1, rx, ⟨I0, p, kvs, ks, rfl, sub, d, h8⟩, q1⟩
  cases rx
  obtain ⟨z, hd, xs, rp, dd⟩ := dn_heap I1 d sub h8
  obtain ⟨ob, es, ep, g1, g2, _⟩ := id dd
  refine ⟨dd.typeIs, fun b' e' => by cases e'; exact ⟨ob, g1, g2.2.1⟩, ?_⟩
  rw [m.trees]
  refine Calls.callWith_builtin rfl (Calls.evalArgs_plain (Calls.spliced_cons (thn (ha.run pins s1 σ H1 _ I1 q1) fun iv s2 ⟨y, H2, I2, ry, q2⟩ => Calls.spliced_cons (thn (hb.run pins s2 σ H2 _ I2 q2) fun fv s3 ⟨z', H3, I3, rz, q3⟩ => Calls.spliced_nil ?_))))
  obtain ⟨I0', p', kvs', ks', k, d', e1, sub', d2, h8', hk, kk, hd', q⟩ := q3
  cases e1
  obtain ⟨a', rfl⟩ := kk.ref hk
  cases ry
  obtain ⟨z2, hd2, xs2, rp2, dd2⟩ := dn_heap I3 d2 sub' h8'
  obtain ⟨w1, w2⟩ := dm_get (k := k) rp2 d2.keys d2.vrp
  refine call_meetsIn PySem.F.slot_dict_get dd2.typeIs PySem.F.entry_dict_get (PySem.F.args_dict_get_3 _ _ _) (meetsH_dict_get_default (nestedKind X.prog X.w) p a' hd2 fv) ⟨show X.A.units + 1 + 8 < cLine by omega, k, xs2, ⟨nested_is I3 k (hk.mono sub') rfl, kk.d8⟩, dd2, ?_⟩
  cases e : kget ks' k with
  | none =>
    rw [w2 e]
    refine ⟨z', H3, I3.tok _, rz, q z' ?_⟩
    rw [e]
    exact hd'
  | some d0 =>
    obtain ⟨v, pr, e2, rv, hv⟩ := w1 d0 e
    rw [e2]
    refine ⟨v, H3, I3.tok _, rv, q v ?_⟩
    rw [e]
    exact hv
/-- d.get(k, x), d in the i-th slot -/
theorem xe_ngetD (i : Nat) (hu : X.A.units + 16 < cLine) (ko : KsOk ks) (kk : KOk k) (ha : XE X a Γ (.da k.data) Γ1) (hb : XE X b Γ1 (.da d) Γ1) (h0 : Γ[i]? = some (some x) := by rfl) (hx : Γ1[i]? = some (some x) := by rfl) (hv : VN x ks := by first | exact .dm | exact .pin | exact .da)
    (hN : X.N[i]? = some nm := by rfl) (hvs : Vis X.env.scope nm := by first | exact Or.inl rfl | exact Or.inr (Or.inl rfl) | exact Or.inr (Or.inr rfl)) (h1 : (nm == ("__debug__" : Str)) = false := by decide) (h2 : (nm == ("__classdict__" : Str)) = false := by decide)
    (hb1 : attributeBase (.Name nm p) "get" X.env (eval (.Name nm p) X.env) = eval (.Name nm p) X.env := by rfl)
    (few1 : ((backTo cpos (starEach [a, b] X.env)).all (fun x => !x.1) && (backToKw cpos (keywordEach [] X.env)).all (fun x => x.1.isSome)
      && decide (([a, b] : List Expr).length + ([] : List Keyword).length + (if ([] : List Keyword).isEmpty then 0 else 1) < 30)) = true := by rfl) (line1 : (apos.endLine == cpos.line) = true := by rfl)
    (trees : backTo cpos (starEach [a, b] X.env) = [(false, eval a X.env), (false, eval b X.env)] := by rfl) :
    XE X (.Call (.Attribute (.Name nm p) "get" apos) [a, b] [] cpos) Γ (.da ((kget ks k).getD d)) Γ1 := fun Ψ hq I H σ F en Q kq => by
  refine ⟨_, pe_nget2 hu (pe_var hN hvs h1 h2) (wpE_ok (e := a)) (wpE_ok (e := b)) ⟨hb1, few1, line1, trees⟩, ?_⟩
  obtain ⟨v, B, e1, o⟩ := en.see h0
  obtain ⟨p0, kvs, rfl, at0⟩ := hv.rd ko o en.sub
  refine ⟨_, e1, ⟨I, p0, kvs, ks, rfl, en.sub, at0, ko⟩, ha (fun r Γ' => r = .da k.data ∧ Γ' = Γ1) ⟨rfl, rfl⟩ I H σ F en _ ?_⟩
  rintro _ Γ1' I1 H1 y F1 ⟨rfl, eΓ⟩ st1 en1
  subst eΓ
  obtain ⟨B1, G1, rfl, oy, en1', _⟩ := en1.pop
  cases oy with
  | da hy =>
    refine hb (fun r Γ' => r = .da d ∧ Γ' = Γ1') ⟨rfl, rfl⟩ I1 H1 σ _ en1' _ ?_
    rintro _ _ I2 H2 z F2 ⟨rfl, rfl⟩ st2 en2
    obtain ⟨B2, G2, rfl, oz, en2', _⟩ := en2.pop
    cases oz with
    | da hz =>
      obtain ⟨v', B', e1', o'⟩ := en2'.see hx
      rw [e1] at e1'
      cases e1'
      obtain ⟨p1, kvs1, e3, at1⟩ := hv.rd ko o' en2'.sub
      cases e3
      exact ⟨I2, p0, kvs1, ks, k, d, rfl, en2'.sub, at1, ko, hy.mono st2.inc, kk, hz, fun w hw => kq _ _ I2 H2 w G2 hq (st1.trans st2) (en2'.da hw)⟩
end
end TL

/-! TL46: zip of three tuples. -/
namespace TL
open PySem PySem.Spec PyProof.Rows L2
/-- three tuples as they stand at each turn, the items in new triples -/
def ItZ3 (K : PySem.W.Frag) (a b c : Addr) : It :=
  ⟨fun i H => ∃ (xs ys zs : List V) (x y z : V), SqT K H a xs ∧ SqT K H b ys ∧ SqT K H c zs ∧ xs[i]? = some x ∧ ys[i]? = some y ∧ zs[i]? = some z,
    fun i H v H' => ∃ T x y z, v = .ref T ∧ H T = none ∧ H' = upd H T (.tup [x, y, z]) ∧ (∀ xs, SqT K H a xs → xs[i]? = some x) ∧ (∀ ys, SqT K H b ys → ys[i]? = some y) ∧ ∀ zs, SqT K H c zs → zs[i]? = some z,
    fun i H => ∃ xs ys zs : List V, SqT K H a xs ∧ SqT K H b ys ∧ SqT K H c zs ∧ i = min (min xs.length ys.length) zs.length⟩
section
variable {P : Program} {w : World} {K : PySem.W.Frag} {elts : List Expr} {kk : Nat} {tpos : Pos} {a b c z TI TO i1 i2 i3 : Addr}
theorem turn_zip3 (S : ZipSep3 z TI TO i1 i2 i3 [i1, a] [i2, b] [i3, c]) (n1 : a ≠ i1) (n2 : b ≠ i2) (n3 : c ≠ i3) :
    Turn P w K (.Tuple elts kk tpos) (ItZ3 K a b c) [z, TI, TO, i1, i2, i3] z (fun i h => IsZip h z TI TO .none ∧ IsTupOf3 h TI (.ref i1) (.ref i2) (.ref i3) ∧ (∃ a1 a2 a3, IsTupOf3 h TO a1 a2 a3) ∧ h.IsTupleIter i1 a i ∧ h.IsTupleIter i2 b i ∧ h.IsTupleIter i3 c i) where
  mem := by simp
  obj := fun i h st q hq => by
    obtain ⟨hz, hTI, ⟨_, _, _, hTO⟩, ⟨o1, e1, _, d1⟩, ⟨o2, e2, _, d2⟩, ⟨o3, e3, _, d3⟩⟩ := st
    simp only [List.mem_cons, List.not_mem_nil, or_false] at hq
    rcases hq with rfl | rfl | rfl | rfl | rfl | rfl
    · exact ⟨_, hz, fun v q => nomatch q⟩
    · exact ⟨_, hTI, fun v q => nomatch q⟩
    · exact ⟨_, hTO, fun v q => nomatch q⟩
    · exact ⟨o1, e1, fun v q => by rw [d1] at q; cases q⟩
    · exact ⟨o2, e2, fun v q => by rw [d2] at q; cases q⟩
    · exact ⟨o3, e3, fun v q => by rw [d3] at q; cases q⟩
  keep := fun i h h' st k => by
    obtain ⟨hz, hTI, ⟨x, y, u, hTO⟩, h1, h2, h3⟩ := st
    exact ⟨k z (by simp) _ hz, k TI (by simp) _ hTI, ⟨x, y, u, k TO (by simp) _ hTO⟩, h1.at fun o q => k i1 (by simp) o q, h2.at fun o q => k i2 (by simp) o q, h3.at fun o q => k i3 (by simp) o q⟩
  item := by
    intro X hP hw hK hc i pins s σ H E I hf st hg
    subst hP hw hK
    obtain ⟨hz, hTI, hTO, h1, h2, h3⟩ := id st
    obtain ⟨xs, ys, zs, x, y, u, q1, q2, q3, g1, g2, g3⟩ := hg
    obtain ⟨u1, r1, p1, _⟩ := I.tuple q1
    obtain ⟨u2, r2, p2, _⟩ := I.tuple q2
    obtain ⟨u3, r3, p3, _⟩ := I.tuple q3
    obtain ⟨v1, e1, rv1⟩ := r1.get g1
    obtain ⟨v2, e2, rv2⟩ := r2.get g2
    obtain ⟨v3, e3, rv3⟩ := r3.get g3
    have quiet : X.A.in1.handled = none := I.ok.hd hc
    have W := WalksT.zipD3 (prog := X.prog) (w := X.w) (A := X.A) S (Draws.tuple quiet i1 a n1 u1.toArray) (Draws.tuple quiet i2 b n2 u2.toArray) (Draws.tuple quiet i3 c n3 u3.toArray)
    have l1 := (List.getElem?_eq_some_iff.mp e1).1
    have l2 := (List.getElem?_eq_some_iff.mp e2).1
    have l3 := (List.getElem?_eq_some_iff.mp e3).1
    refine W.item i s _ _ (by simp; omega) ⟨hz, hTI, hTO, ⟨h1, p1⟩, ⟨h2, p2⟩, ⟨h3, p3⟩⟩ fun T vals h' tk hPt hT isT mid keep => ?_
    obtain ⟨w1, w2, w3, f1, f2, f3, ev⟩ := hPt
    have ew1 : w1 = v1 := by
      rw [show u1.toArray[i]? = u1[i]? by simp, e1] at f1
      exact (Option.some.inj f1).symm
    have ew2 : w2 = v2 := by
      rw [show u2.toArray[i]? = u2[i]? by simp, e2] at f2
      exact (Option.some.inj f2).symm
    have ew3 : w3 = v3 := by
      rw [show u3.toArray[i]? = u3[i]? by simp, e3] at f3
      exact (Option.some.inj f3).symm
    subst ew1 ew2 ew3 ev
    refine ⟨_, rfl, W.go elts kk tpos i T { s with heap := h', toks := tk } _ _ mid fun h'' st'' keep' => ?_⟩
    have Twr := W.apart i T h' mid
    have isT2 : h''.IsTuple T #[w1, w2, w3] := by
      obtain ⟨o, ho, r⟩ := isT
      exact ⟨o, keep' T o Twr ho, r⟩
    have old : ∀ q o, q ∉ [z, TO, i1, i2, i3] → s.heap.get? q = some o → h''.get? q = some o := fun q o hq e => keep' q o hq (keep q o hq e)
    have new : ObjOk X.prog X.w (upd H T (.tup [x, y, u])) h'' T (.tup [x, y, u]) := ⟨by show 3 ≤ sizeLine; decide, [w1, w2, w3], .cons rv1 (.cons rv2 (.cons rv3 .nil)), isT2⟩
    have I1 : Inv X pins σ (upd H T (.tup [x, y, u])) { s with heap := h'', toks := tk } := I.turnedNew (t' := tk) (ch := [z, TI, TO, i1, i2, i3]) (fun q o hb e => old q o (fun m => hb (by
      simp only [List.mem_cons, List.not_mem_nil, or_false] at m ⊢
      rcases m with m | m | m | m | m
      · exact .inl m
      · exact .inr (.inr (.inl m))
      · exact .inr (.inr (.inr (.inl m)))
      · exact .inr (.inr (.inr (.inr (.inl m))))
      · exact .inr (.inr (.inr (.inr (.inr m)))))) e) hf hT new
    obtain ⟨z'', t'', o'', ⟨j1, _⟩, ⟨j2, _⟩, ⟨j3, _⟩⟩ := st''
    refine ⟨.ref T, _, I1, rfl, ⟨T, x, y, u, rfl, I.hok.fresh hT, rfl, fun l hl => by rw [I.tuple_inj hl q1]; exact g1, fun l hl => by rw [I.tuple_inj hl q2]; exact g2, fun l hl => by rw [I.tuple_inj hl q3]; exact g3⟩, ⟨z'', t'', o'', j1, j2, j3⟩, fun q hqm => ?_⟩
    have hlt : q < s.heap.objs.size := by
      obtain ⟨_, _, ⟨_, _, _, hTO'⟩, ⟨o1, k1, _⟩, ⟨o2, k2, _⟩, ⟨o3, k3, _⟩⟩ := st
      simp only [List.mem_cons, List.not_mem_nil, or_false] at hqm
      rcases hqm with rfl | rfl | rfl | rfl | rfl | rfl
      · exact Heap.lt_size hz
      · exact Heap.lt_size hTI
      · exact Heap.lt_size hTO'
      · exact Heap.lt_size k1
      · exact Heap.lt_size k2
      · exact Heap.lt_size k3
    rw [upd_ne (Nat.ne_of_lt (Nat.lt_of_lt_of_le hlt hT))]
    exact (hf q hqm).1
  done := by
    intro X hP hw hK hc i pins s σ H E I hf st hg
    subst hP hw hK
    obtain ⟨hz, hTI, hTO, h1, h2, h3⟩ := st
    obtain ⟨xs, ys, zs, q1, q2, q3, hend⟩ := hg
    obtain ⟨u1, r1, p1, _⟩ := I.tuple q1
    obtain ⟨u2, r2, p2, _⟩ := I.tuple q2
    obtain ⟨u3, r3, p3, _⟩ := I.tuple q3
    have quiet : X.A.in1.handled = none := I.ok.hd hc
    have W := WalksT.zipD3 (prog := X.prog) (w := X.w) (A := X.A) S (Draws.tuple quiet i1 a n1 u1.toArray) (Draws.tuple quiet i2 b n2 u2.toArray) (Draws.tuple quiet i3 c n3 u3.toArray)
    have e : i = min (min u1.toArray.size u2.toArray.size) u3.toArray.size := by
      rw [hend, List.size_toArray, List.size_toArray, List.size_toArray, r1.length, r2.length, r3.length]
    subst e
    refine W.done s _ _ ⟨hz, hTI, hTO, ⟨h1, p1⟩, ⟨h2, p2⟩, ⟨h3, p3⟩⟩ fun h' tk keep => ⟨rfl, I.turnedL (t' := tk) (ch := [z, TI, TO, i1, i2, i3]) (fun q o hb e => keep q o (fun m => hb (by
      simp only [List.mem_cons, List.not_mem_nil, or_false] at m ⊢
      rcases m with m | m | m | m | m
      · exact .inl m
      · exact .inr (.inr (.inl m))
      · exact .inr (.inr (.inr (.inl m)))
      · exact .inr (.inr (.inr (.inr (.inl m))))
      · exact .inr (.inr (.inr (.inr (.inr m)))))) e) hf⟩
  self := fun A i s Q E st h => wpAny_pyIter_zip st.1 h
end
section
variable {X : Cx} {a b c : Expr} {elts : List Expr} {kk : Nat} {tpos p pos : Pos} {Γ Γ1 Γ2 Γ3 : Sl} {ta : TA}
def iZip3 (K : PySem.W.Frag) (ta : TA) : TI := fun σ H R => ta σ H fun vs H1 => ∃ a b c xs ys zs, vs = [.ref a, .ref b, .ref c] ∧ SqT K H1 a xs ∧ SqT K H1 b ys ∧ SqT K H1 c zs ∧ R (ItZ3 K a b c) H1
theorem pi_zip3 (hg : Gl X "zip") (hm : X.mg "zip" = none) (ha : PA X [a, b, c] ta) (hs : starEach [a, b, c] X.env = (false, eval a X.env) :: starEach [b, c] X.env := by rfl) (hpl : (backTo pos (starEach [b, c] X.env)).any (·.1) = false := by rfl) :
    PI X (.Tuple elts kk tpos) (.Call (.Name "zip" p) [a, b, c] [] pos) (iZip3 X.K ta) := by
  refine ⟨fun pins s σ H R I h => ?_⟩
  refine Call_ (ld_blt I hg hm PyProof.Rows.boot_zip (PyProof.Rows.callWith_type1 (thn (ha.run pos pins s σ H _ I h) fun us s1 ⟨vs, H1, I1, r1, q1⟩ => ?_) hs hpl))
  obtain ⟨a0, b0, c0, xs, ys, zs, rfl, g1, g2, g3, q⟩ := q1
  cases r1 with
  | cons ra rr => cases rr with
    | cons rb rr => cases rr with
      | cons rc rr =>
        cases rr
        cases ra
        cases rb
        cases rc
        obtain ⟨u1, rv1, p1, _⟩ := I1.tuple g1
        obtain ⟨u2, rv2, p2, _⟩ := I1.tuple g2
        obtain ⟨u3, rv3, p3, _⟩ := I1.tuple g3
        have lt1 : a0 < s1.heap.objs.size := by obtain ⟨o, ho, _⟩ := id p1; exact Heap.lt_size ho
        have lt2 : b0 < s1.heap.objs.size := by obtain ⟨o, ho, _⟩ := id p2; exact Heap.lt_size ho
        have lt3 : c0 < s1.heap.objs.size := by obtain ⟨o, ho, _⟩ := id p3; exact Heap.lt_size ho
        refine zip_begins3 (begins_tuple a0 u1.toArray) (begins_tuple b0 u2.toArray) (begins_tuple c0 u3.toArray) p1 p2 p3 fun h' hz hTI hTO k1 k2 k3 hsz hk => wpAny_pyIter_zip hz ?_
        have I2 : Inv X pins σ H1 { s1 with heap := h' } := I1.kept (t' := s1.toks) hk
        have fresh : ∀ q, q ∈ [s1.heap.objs.size + 5, s1.heap.objs.size + 3, s1.heap.objs.size + 4, s1.heap.objs.size, s1.heap.objs.size + 1, s1.heap.objs.size + 2] → FpOk X pins H1 q := fun q hq => by
          have hle : s1.heap.objs.size ≤ q := by
            simp only [List.mem_cons, List.not_mem_nil, or_false] at hq
            rcases hq with rfl | rfl | rfl | rfl | rfl | rfl
            · exact Nat.le_add_right _ _
            · exact Nat.le_add_right _ _
            · exact Nat.le_add_right _ _
            · exact Nat.le_refl _
            · exact Nat.le_add_right _ _
            · exact Nat.le_add_right _ _
          exact I1.fpOk hle (I1.hok.fresh hle)
        exact ⟨s1.heap.objs.size + 5, _, _, _, H1, rfl, I2, turn_zip3 (zip_sep3 (fun b hb => by rw [List.mem_singleton.mp hb]; exact lt1) (fun b hb => by rw [List.mem_singleton.mp hb]; exact lt2) fun b hb => by rw [List.mem_singleton.mp hb]; exact lt3) (Nat.ne_of_lt lt1) (Nat.ne_of_lt (Nat.lt_succ_of_lt lt2)) (Nat.ne_of_lt (Nat.lt_succ_of_lt (Nat.lt_succ_of_lt lt3))),
          ⟨hz, hTI, ⟨_, _, _, hTO⟩, ⟨_, k1, rfl, rfl⟩, ⟨_, k2, rfl, rfl⟩, ⟨_, k3, rfl, rfl⟩⟩, fresh, q⟩
theorem isit_zip3 {T : TC} {I : Hp} {a b c : Addr} {vs us ws : List V} {α β γ : Type} {xs : List α} {ys : List β} {zs : List γ} {E1 : α → PyData} {E2 : β → PyData} {E3 : γ → PyData} (q1 : SqT T.K I a vs) (q2 : SqT T.K I b us) (q3 : SqT T.K I c ws) (r1 : RpL T I vs (xs.map E1)) (r2 : RpL T I us (ys.map E2)) (r3 : RpL T I ws (zs.map E3)) :
    IsIt T (ItZ3 T.K a b c) ((xs.zip (ys.zip zs)).map fun q => .tuple [E1 q.1, E2 q.2.1, E3 q.2.2]) I := by
  have l1 : vs.length = xs.length := by rw [r1.length, List.length_map]
  have l2 : us.length = ys.length := by rw [r2.length, List.length_map]
  have l3 : ws.length = zs.length := by rw [r3.length, List.length_map]
  have hl : ((xs.zip (ys.zip zs)).map fun q => PyData.tuple [E1 q.1, E2 q.2.1, E3 q.2.2]).length = min (min vs.length us.length) ws.length := by
    rw [List.length_map, List.length_zip, List.length_zip]
    omega
  refine ⟨fun i I' H s s' hi => ?_, fun I' H s s' => ?_, fun i I' H v H' s s' hi y => ?_⟩
  · rw [hl] at hi
    exact ⟨vs, us, ws, _, _, _, sqT_mono (s.trans s') q1, sqT_mono (s.trans s') q2, sqT_mono (s.trans s') q3, List.getElem?_eq_getElem (by omega), List.getElem?_eq_getElem (by omega), List.getElem?_eq_getElem (by omega)⟩
  · exact ⟨vs, us, ws, sqT_mono (s.trans s') q1, sqT_mono (s.trans s') q2, sqT_mono (s.trans s') q3, hl⟩
  · obtain ⟨t, x, y, u, rfl, ht, rfl, f1, f2, f3⟩ := y
    rw [hl] at hi
    obtain ⟨d1, g1, k1⟩ := r1.get' (f1 _ (sqT_mono (s.trans s') q1))
    obtain ⟨d2, g2, k2⟩ := r2.get' (f2 _ (sqT_mono (s.trans s') q2))
    obtain ⟨d3, g3, k3⟩ := r3.get' (f3 _ (sqT_mono (s.trans s') q3))
    rw [List.getElem?_map] at g1 g2 g3
    obtain ⟨x1, a1, rfl⟩ := Option.map_eq_some_iff.mp g1
    obtain ⟨x2, a2, rfl⟩ := Option.map_eq_some_iff.mp g2
    obtain ⟨x3, a3, rfl⟩ := Option.map_eq_some_iff.mp g3
    have up : Same I' (upd I' t (.tup [x, y, u])) := upd_up (s'.free ht)
    refine ⟨upd I' t (.tup [x, y, u]), .tuple [E1 x1, E2 x2, E3 x3], ?_, step_frz s' ht, upd_both s', .tup (SqT.of upd_same) (.cons (k1.mono (s.trans up)) (.cons (k2.mono (s.trans up)) (.cons (k3.mono (s.trans up)) .nil)))⟩
    have z23 : (ys.zip zs)[i]? = some (x2, x3) := List.getElem?_zip_eq_some.mpr ⟨a2, a3⟩
    have z123 : (xs.zip (ys.zip zs))[i]? = some (x1, (x2, x3)) := List.getElem?_zip_eq_some.mpr ⟨a1, z23⟩
    rw [List.getElem?_map, z123]
    rfl
/-- zip of three typed tuples -/
theorem xi_zip3 {α β γ : Type} {xs : List α} {ys : List β} {zs : List γ} {E1 : α → PyData} {E2 : β → PyData} {E3 : γ → PyData} (B : Blt X.mg) (ha : XE X a Γ (.da (.tuple (xs.map E1))) Γ1) (hb : XE X b Γ1 (.da (.tuple (ys.map E2))) Γ2) (hc : XE X c Γ2 (.da (.tuple (zs.map E3))) Γ3) (hg : Gl X "zip" := by rfl)
    (hs : starEach [a, b, c] X.env = (false, eval a X.env) :: starEach [b, c] X.env := by rfl) (hs2 : starEach [b, c] X.env = (false, eval b X.env) :: starEach [c] X.env := by rfl) (hs3 : starEach [c] X.env = (false, eval c X.env) :: starEach [] X.env := by rfl) (hpl : (backTo pos (starEach [b, c] X.env)).any (·.1) = false := by rfl) :
    XI X (.Tuple elts kk tpos) (.Call (.Name "zip" p) [a, b, c] [] pos) Γ ((xs.zip (ys.zip zs)).map fun q => .tuple [E1 q.1, E2 q.2.1, E3 q.2.2]) Γ3 := fun Ψ hq I H σ F en R k => by
  refine ⟨_, pi_zip3 hg B.zip wpA_ok hs hpl, wa_data (ds := [.tuple (xs.map E1), .tuple (ys.map E2), .tuple (zs.map E3)]) (Γ2 := Γ3) (wa_cons (ha _ (wa_cons (hb _ (wa_cons (hc _ (wa_nil ⟨rfl, rfl⟩)) hs3)) hs2)) hs) en fun I1 H1 vs F1 r st1 en1 => ?_⟩
  cases r with
  | cons h1 r => cases r with
    | cons h2 r => cases r with
      | cons h3 r =>
        cases r
        cases h1 with
        | tup q1 r1 => cases h2 with
          | tup q2 r2 => cases h3 with
            | tup q3 r3 => exact ⟨_, _, _, _, _, _, rfl, sqT_mono en1.sub q1, sqT_mono en1.sub q2, sqT_mono en1.sub q3, k _ _ I1 H1 F1 _ hq st1 en1 (isit_zip3 q1 q2 q3 r1 r2 r3)⟩
end
end TL

/-! TL47: tuples known to hold no dict of their own: tuple(xs), t.index(x). -/
namespace TL
open PySem PySem.Spec PyProof.Rows L2
/-- data: a tuple whose object is known -/
abbrev tnD (ds : List PyData) : PyData := .dict [(.list [], .tuple ds)]
theorem rp_tn {T : TC} {I : Hp} {v : V} {ds : List PyData} (h : Rp T I v (tnD ds)) : ∃ (a : Addr) (ob : Obj) (vs : List V), v = .ref a ∧ I a = some (.frz ob (.tup vs)) ∧ ob.dict = none ∧ RpL T I vs ds := by
  generalize e : tnD ds = d at h
  cases h with
  | tn h1 h2 r q =>
    injection e with e
    rw [← e] at q
    injection q with q _
    injection q with _ q
    injection q with q
    subst q
    exact ⟨_, _, _, rfl, h1, h2, r⟩
  | @dk a ob kvs _ h k r0 =>
    injection e with e
    subst e
    cases kvs with
    | nil => cases k
    | cons p r =>
      have k' : PyData.list [] = keyD p.1 := (List.cons.inj k).1
      cases hp : p.1 <;> rw [hp] at k' <;> cases k'
  | @dn a ob kvs _ h k r0 s0 n0 =>
    injection e with e
    subst e
    cases kvs with
    | nil => cases k
    | cons p r =>
      have k' : PyData.list [] = NestedKey.data p.1 := (List.cons.inj k).1
      cases hp : p.1 <;> rw [hp] at k' <;> simp [NestedKey.data] at k'
  | _ => cases e
section
variable {X : Cx} {a b e o : Expr} {Γ Γ1 Γ2 : Sl} {ds : List PyData} {pos p apos : Pos}
theorem xe_tn (h : XE X e Γ (.da (tnD ds)) Γ1) : XE X e Γ (.da (.tuple ds)) Γ1 := fun Ψ hq => we_conv (fun I H v B o => by
  cases o with
  | da o =>
    obtain ⟨a, ob, vs, rfl, h1, _, r⟩ := rp_tn o
    exact .da (.tup (.inl (.inr ⟨ob, h1⟩)) r)) (h _ ⟨rfl, hq⟩)
/-! ### tuple(xs) -/
theorem call_tupN : CallR X (.type "tuple") (fun xs H Q => ∃ p ys, xs = [.ref p] ∧ SqL X.K H p ys ∧ ∀ (l : Addr) (ob : Obj), H l = none → ob.dict = none → Q (.ref l) (upd H l (.frz ob (.tup ys)))) := by
  intro pins s σ H xs us Q I r h
  obtain ⟨p, ys, rfl, hq, q⟩ := h
  obtain ⟨u, rfl, rx⟩ := vals1 r
  cases rx
  obtain ⟨its, r', pl, hz⟩ := I.list hq
  have hlen := r'.length
  refine call_tuple_list pl.isList (fun h' kp => ?_) (by simp only [List.size_toArray] <;> omega)
  have I1 : Inv X pins σ H { s with heap := h' } := I.kept (t' := s.toks) kp
  let ob : Obj := { cls := .type "tuple", data := .seq its.toArray }
  have I2 : Inv X pins σ (upd H h'.objs.size (.frz ob (.tup ys))) { s with heap := h'.push ob } :=
    I1.laid (t' := s.toks) (fun b o e => Heap.get?_push_of_some _ e) (Nat.le_refl _) ⟨Heap.get?_push_size _ rfl, hz, its, r', IsTup.new _ _⟩
  exact ⟨.ref h'.objs.size, _, I2, rfl, q _ ob (I1.hok.fresh (Nat.le_refl _)) rfl⟩
def rTupN (T : TC) : List V → Hp → VK → Prop := fun xs H Q => ∃ p ys, xs = [.ref p] ∧ SqL T.K H p ys ∧ ∀ (l : Addr) (ob : Obj), H l = none → ob.dict = none → Q (.ref l) (upd H l (.frz ob (.tup ys)))
theorem rd_tupN {T : TC} {x : OD} (hv : SV x (.list ds)) : Rd1 T (rTupN T) x (.da (tnD ds)) := fun I H v B o s Q k => by
  obtain ⟨a, vs, rfl, h, r⟩ := hv.seq (.inl rfl) o s
  rcases h with ⟨_, h⟩ | ⟨h, _⟩
  · exact ⟨a, vs, rfl, h, fun l ob hl hd => k (upd I l (.frz ob (.tup vs))) _ _ [] (step_frz s hl) (.da (.tn upd_same hd (r.mono (upd_up (s.free hl))) rfl)) List.nodup_nil (upd_both s)⟩
  · cases h
theorem xe_tupN (B : Blt X.mg) (ha : XE X a Γ (.da (.list ds)) Γ1) (hg : Gl X "tuple" := by rfl) (he : starEach [a] X.env = (false, eval a X.env) :: starEach [] X.env := by rfl) (hpl : (backTo pos (starEach [] X.env)).any (·.1) = false := by rfl) :
    XE X (.Call (.Name "tuple" p) [a] [] pos) Γ (.da (tnD ds)) Γ1 := xe_callTy1 (wl := rTupN X.tc) call_tupN (rd_tupN .da).opl hg B.tuple PyProof.Rows.boot_tuple ha (he := he) (hpl := hpl)
/-! ### t.index(x) -/
def rIndexT (K : PySem.W.Frag) : V → List V → Hp → VK → Prop := fun x xs H Q => ∃ (a : Addr) (y : V) (d : PyData) (ds : List PyData) (j : Nat) (z : PyData), x = V.ref a ∧ xs = [y] ∧ Dp K H (V.ref a) (.tuple ds) ∧ Dp K H y d ∧
  SeqAt.shaped (.list ds) = true ∧ SeqAt.shaped d = true ∧ ds[j]? = some z ∧ PyData.eqv z d = true ∧ (∀ (m : Nat) (z' : PyData), m < j → ds[m]? = some z' → PyData.eqv z' d = false) ∧ Q (.int (j : Nat)) H
theorem mt_indexT (hu : X.A.units + 65 < cLine) : MtR X "tuple.index" (rIndexT X.K) := by
  intro pins s σ H x xs v us Q I rx rxs h
  obtain ⟨a, y, d, ds, j, z, rfl, rfl, hl, hy, sl, sd, hz, hzj, hno, q⟩ := h
  cases rx
  obtain ⟨uy, rfl, ry⟩ := vals1 rxs
  obtain ⟨bs, r1⟩ := Dp.reads I d y uy hy ry
  cases hl with
  | tup hs ha =>
    obtain ⟨its, rv, ⟨⟨cls, dd, data, sls⟩, ho, hc, n, hdt⟩, hlen⟩ := I.tuple hs
    simp only at hc hdt
    subst hc hdt
    obtain ⟨as, h4⟩ := Dp.readsAll I ds _ its ha rv
    have hmap : its.map (SeqAt.readOf s.heap) = ds := SeqAt.readsAll_map ds its as (SeqAt.canLay_of_shaped sl) h4
    have at_ : ∀ (m : Nat) (hm : m < its.toArray.size), ds[m]? = some (SeqAt.readOf s.heap its.toArray[m]) := fun m hm => by
      have hml : m < its.length := by simpa using hm
      rw [← hmap, List.getElem?_map, List.getElem?_eq_getElem hml]
      simp
    have hj : j < its.toArray.size := by
      have h5 := (List.getElem?_eq_some_iff.mp hz).1
      rw [← hmap, List.length_map] at h5
      simpa using h5
    refine call_meets PySem.F.slot_tuple_index ⟨_, ho, rfl⟩ PySem.F.entry_tuple_index (PySem.F.args_tuple_index_2 _ _)
      (TI.tuple_indexAt a its.toArray n dd sls uy (fun u => PyData.eqv (SeqAt.readOf s.heap u) d) j hj ?_ ?_) ⟨ho, SeqAt.items_eqAt (vs := its.toArray) (show ReadsAll s.heap its.toArray.toList ds as from h4) r1 (SeqAt.canLay_of_shaped sl) (SeqAt.canLay_of_shaped sd) (room_in_shaped sd hu), .int (j : Nat), H, I.tok _, ⟨_, rfl⟩, q⟩
    · have := at_ j hj
      rw [hz] at this
      show PyData.eqv (SeqAt.readOf s.heap its.toArray[j]) d = true
      rw [← Option.some.inj this]
      exact hzj
    · exact fun m hm hmj => hno m _ hmj (at_ m hm)
/-- the call of a method of a tuple that is known -/
def tBMT (r : V → List V → Hp → VK → Prop) (to : TE) (t : TA) : TE := fun σ H Q => to σ H fun x H1 => (∃ (p : Addr) (ob : Obj) (vs : List V), x = .ref p ∧ H1 p = some (.frz ob (.tup vs)) ∧ ob.dict = none) ∧ t σ H1 fun xs H2 => r x xs H2 Q
theorem pe_bmT {name : Str} {id : String} {es : List Expr} {to : TE} {t : TA} {r : V → List V → Hp → VK → Prop} {cpos : Pos} (slot : Slot "tuple" name id) (hty : typeOf (.builtin id) = pure (.type "method_descriptor")) (hm : MtR X id r) (ho : PE X o to) (ha : PA X (e :: es) t)
    (hbase : attributeBase o name X.env (eval o X.env) = eval o X.env)
    (hfew : ((backTo cpos (starEach (e :: es) X.env)).all (fun x => !x.1) && (backToKw cpos (keywordEach [] X.env)).all (fun x => x.1.isSome)
      && decide ((e :: es).length + ([] : List Keyword).length + (if ([] : List Keyword).isEmpty then 0 else 1) < 30)) = true)
    (hline : (apos.endLine == cpos.line) = true) (hs : starEach (e :: es) X.env = (false, eval e X.env) :: starEach es X.env) (hplain : (backTo cpos (starEach es X.env)).any (·.1) = false) :
    PE X (.Call (.Attribute o name apos) (e :: es) [] cpos) (tBMT r to t) := by
  refine ⟨fun pins s σ H Q I h => ?_⟩
  refine wpAny_Call_method_late hbase hfew hline rfl (thn (ho.run pins s σ H _ I h) fun v s1 ⟨x, H1, I1, r1, ⟨p, ob, vs, hx, hp, hd⟩, q1⟩ => ?_)
  subst hx
  cases r1
  obtain ⟨g1, _, its, _, g2⟩ := I1.hok p _ hp
  refine ⟨"tuple", id, PySem.F.plainAttrs_tuple, slot, hty, g2.typeIs, fun a e => ?_, ?_⟩
  · cases e
    exact ⟨ob, g1, hd⟩
  have hA := ha.run cpos pins s1 σ H1 _ I1 q1
  rw [hs] at hA ⊢
  refine Calls.callWith_builtin (by show (false || (backTo cpos (starEach es X.env)).any (·.1)) = false; rw [hplain] <;> rfl) (Calls.evalArgs_plain ?_)
  exact thn hA fun us s2 ⟨ws, H2, I2, r2, q2⟩ => hm pins s2 σ H2 (.ref p) ws (.ref p) us Q I2 rfl r2 q2
theorem xe_indexN {cpos : Pos} {d z : PyData} {j : Nat} (hu : X.A.units + 65 < cLine) (ho : XE X o Γ (.da (tnD ds)) Γ1) (ha : XE X a Γ1 (.da d) Γ2) (sl : SeqAt.shaped (.list ds) = true) (sd : SeqAt.shaped d = true) (pl : PyData.plainAll ds = true) (pd : d.plain = true) (hj : ds[j]? = some z) (he' : PyData.eqv z d = true)
    (hn : ∀ (m : Nat) (z' : PyData), m < j → ds[m]? = some z' → PyData.eqv z' d = false)
    (hst : starEach [a] X.env = (false, eval a X.env) :: starEach [] X.env := by rfl) (hb : attributeBase o "index" X.env (eval o X.env) = eval o X.env := by rfl)
    (hfew : ((backTo cpos (starEach [a] X.env)).all (fun x => !x.1) && (backToKw cpos (keywordEach [] X.env)).all (fun x => x.1.isSome)
      && decide (([a] : List Expr).length + ([] : List Keyword).length + (if ([] : List Keyword).isEmpty then 0 else 1) < 30)) = true := by rfl) (hline : (apos.endLine == cpos.line) = true := by rfl) (hs2 : (backTo cpos (starEach [] X.env)).any (·.1) = false := by rfl) :
    XE X (.Call (.Attribute o "index" apos) [a] [] cpos) Γ (.da (.int (j : Nat))) Γ2 := fun Ψ hq I H σ F en Q k => by
  refine ⟨_, pe_bmT PySem.F.slot_tuple_index PySem.F.type_tuple_index (mt_indexT hu) (wpE_ok (e := o)) (pa_cons (wpE_ok (e := a)) pa_nil hst) hb hfew hline hst hs2, ?_⟩
  refine ho (fun r Γ' => r = .da (tnD ds) ∧ Γ' = Γ1) ⟨rfl, rfl⟩ I H σ F en _ ?_
  rintro _ Γ1' I1 H1 v F1 ⟨rfl, e2⟩ st1 en1
  subst e2
  obtain ⟨B2, G, rfl, oo, en2, _⟩ := en1.pop
  cases oo with
  | da hd =>
    obtain ⟨p, ob, vs, rfl, h1, h2, r⟩ := rp_tn hd
    refine ⟨⟨p, ob, vs, rfl, en2.sub _ _ h1, h2⟩, ?_⟩
    refine ha (fun r Γ' => r = .da d ∧ Γ' = Γ2) ⟨rfl, rfl⟩ I1 H1 σ _ en2 _ ?_
    rintro _ Γ2' I2 H2 u F2 ⟨rfl, e2⟩ st2 en3
    subst e2
    obtain ⟨B3, G3, rfl, o3, en4, _⟩ := en3.pop
    cases o3 with
    | da hd3 =>
      have hd' : Rp X.tc I2 (.ref p) (.tuple ds) := .tup (.inl (.inr ⟨ob, st2.1 _ _ h1⟩)) (r.mono st2.1)
      exact ⟨p, u, d, ds, j, z, rfl, rfl, (hd'.mono en4.sub).dp (by simpa [PyData.plain] using pl), (hd3.mono en4.sub).dp pd, sl, sd, hj, he', hn, k _ _ I2 H2 _ _ hq (st1.trans st2) (en4.da (.int _))⟩
end
end TL

/-! TL48: len and min of dicts with nested keys, own or data. -/
namespace TL
open PySem PySem.Spec PyProof.Rows L2
section
variable {X : Cx} {pins : List (Addr × Obj)} {σ : L2.St} {I0 H : Hp} {s : Shared} {p : Addr} {kvs : NKV} {ks : NL}
theorem dn_raw (I : Inv X pins σ H s) (d : NAt X.tc I0 H p kvs ks) : kvs.length ≤ sizeLine ∧ (p == sysModules) = false ∧ ∃ (es : Array DictEntry) (ep : Nat), s.heap.DictRaw p es ep ∧ es.size = kvs.length ∧ Vals (kvs.map fun q => V.ref q.2.1) (es.toList.map (·.key)) := by
  obtain ⟨z, hd, xs, rp, o, es, ep, g1, g2, g3, g4, g5⟩ := dn_ok I d.at_
  have hl : kvs.length = xs.length := Paired.length rp
  refine ⟨z, hd, es, ep, ⟨o, g1, g2, g3⟩, by rw [size_of_entries g4, hl], ?_⟩
  rw [g4, List.map_map]
  exact npair_vals rp
def rLenN (T : TC) : List V → Hp → VK → Prop := fun xs H Q => ∃ I p kvs ks, xs = [.ref p] ∧ Same I H ∧ NAt T I H p kvs ks ∧ KsOk ks ∧ Q (.int ks.length) H
theorem call_lenN : CallR X (.builtin "len") (rLenN X.tc) := by
  rintro pins s σ H xs us Q I r ⟨I0, p, kvs, ks, rfl, sub, d, h8, q⟩
  obtain ⟨u, rfl, rv⟩ := vals1 r
  cases rv
  obtain ⟨z, hd, xs, rp, dd⟩ := dn_heap I d sub h8
  have hl : kvs.length = xs.length := Paired.length rp
  refine call_len_dictH hd dd (by rw [← hl]; rw [sizeLine_eq] at z; omega) ⟨.int ks.length, H, I.tok _, ?_, q⟩
  rw [← hl, d.len]
  exact ⟨_, rfl⟩
def rMinN (T : TC) : List V → Hp → VK → Prop := fun xs H Q => ∃ I p kvs ks x ds, xs = [.ref p] ∧ Same I H ∧ NAt T I H p kvs ks ∧ (ks.map fun q => q.1.data) = x :: ds ∧ MinOk (x :: ds) ∧ ∀ v, Rp T I v (minD x ds) → Q v H
theorem call_minN (hc : X.calm = true) (hu : X.A.units + 70 < cLine) : CallR X (.builtin "min") (rMinN X.tc) := by
  rintro pins s σ H xs us Q I r ⟨I0, p, kvs, ks, x, ds, rfl, sub, d, eds, ok, k⟩
  rw [Vals.ref1 r]
  obtain ⟨z, lo, es, ep, raw, hsz, rv⟩ := dn_raw I d
  have krp := d.krp
  rw [eds] at krp
  have hl : kvs.length = ds.length + 1 := by
    have := krp.length
    rwa [List.length_map] at this
  refine min_core I hu sub rv krp ok (fun G E hG => ?_) k
  obtain ⟨oI, St, hit, W, st⟩ := (PySem.KdlSrc.rawDict (prog := X.prog) (w := X.w) lo).iter X.A.in1 s (I.ok.hd hc) raw
  refine hit _ _ ?_
  have W' := W.toS
  generalize hPv : (fun (i : Nat) (v : Value) => ∃ hi : i < es.size, v = es[i].key) = Pv at W'
  rw [hsz, hl] at W'
  have hp : p < s.heap.objs.size := raw.lt_size
  refine hG _ _ _ _ _ _ W' st (fun b hb => ?_) (fun b o e hb => ?_) (fun b o e => Heap.get?_push_of_some _ e) (fun i v hv => ?_) rfl rfl rfl
  · show b < (s.heap.push oI).objs.size
    rw [Heap.size_push]
    rcases List.mem_cons.mp hb with rfl | hb
    · exact Nat.lt_succ_self _
    · rw [List.mem_singleton.mp hb]; exact Nat.lt_succ_of_lt hp
  · rw [List.mem_singleton.mp hb] at e
    exact absurd (Heap.lt_size e) (Nat.lt_irrefl _)
  · rw [← hPv] at hv
    obtain ⟨hi, rfl⟩ := hv
    rw [List.getElem?_map, Array.getElem?_toList, Array.getElem?_eq_getElem hi]
    rfl
end
section
variable {X : Cx} {Γ : Sl} {pos p p2 : Pos} {x : OD} {d : PyData} {ds : List PyData} {n2 : Str} {ks : NL}
theorem xe_lenNS (i : Nat) (B : Blt X.mg) (ko : KsOk ks) (hx : Γ[i]? = some (some x) := by rfl) (hv : VN x ks := by first | exact .dm | exact .pin | exact .da) (hg : Gl X "len" := by rfl)
    (hN : X.N[i]? = some n2 := by rfl) (hvs : Vis X.env.scope n2 := by first | exact Or.inl rfl | exact Or.inr (Or.inl rfl) | exact Or.inr (Or.inr rfl)) (h1 : (n2 == ("__debug__" : Str)) = false := by decide) (h2 : (n2 == ("__classdict__" : Str)) = false := by decide)
    (he : starEach [.Name n2 p2] X.env = (false, eval (.Name n2 p2) X.env) :: starEach [] X.env := by rfl) (hpl : (backTo pos (starEach [] X.env)).any (·.1) = false := by rfl) :
    XE X (.Call (.Name "len" p) [.Name n2 p2] [] pos) Γ (.da (.int ks.length)) Γ := xe_callS (wl := rLenN X.tc) i call_lenN (fun I H v B' o s Q k => by
      obtain ⟨p, kvs, rfl, d⟩ := hv.rd ko o s
      exact ⟨I, p, kvs, ks, rfl, s, d, ko, k I H _ [] .refl (.da (.int _)) List.nodup_nil s⟩) hg B.len PySem.boot_len (hx := hx) (hN := hN) (hvs := hvs) (h1 := h1) (h2 := h2) (he := he) (hpl := hpl)
theorem xe_minNS (i : Nat) (B : Blt X.mg) (ko : KsOk ks) (hc : X.calm = true) (hu : X.A.units + 70 < cLine) (ek : (ks.map fun q => q.1.data) = d :: ds) (ok : MinOk (d :: ds)) (hx : Γ[i]? = some (some x) := by rfl) (hv : VN x ks := by first | exact .dm | exact .pin | exact .da) (hg : Gl X "min" := by rfl)
    (hN : X.N[i]? = some n2 := by rfl) (hvs : Vis X.env.scope n2 := by first | exact Or.inl rfl | exact Or.inr (Or.inl rfl) | exact Or.inr (Or.inr rfl)) (h1 : (n2 == ("__debug__" : Str)) = false := by decide) (h2 : (n2 == ("__classdict__" : Str)) = false := by decide)
    (he : starEach [.Name n2 p2] X.env = (false, eval (.Name n2 p2) X.env) :: starEach [] X.env := by rfl) (hpl : (backTo pos (starEach [] X.env)).any (·.1) = false := by rfl) :
    XE X (.Call (.Name "min" p) [.Name n2 p2] [] pos) Γ (.da (minD d ds)) Γ := xe_callS (wl := rMinN X.tc) i (call_minN hc hu) (Rd1.pure fun I H v B' o s Q k => by
      obtain ⟨p, kvs, rfl, dd⟩ := hv.rd ko o s
      exact ⟨I, p, kvs, ks, d, ds, rfl, s, dd, ek, ok, k⟩) hg B.min (by decide +kernel) (hx := hx) (hN := hN) (hvs := hvs) (h1 := h1) (h2 := h2) (he := he) (hpl := hpl)
end
end TL

/-! TL49: chains of three comparisons. -/
namespace TL
open PySem PySem.Spec PyProof.Rows L2
section
variable {X : Cx} {a b c e : Expr} {Γ : Sl} {pos : Pos} {d d' g g2 : PyData}
def tCh3 (r r' r2 : R2) (ta tb tc td : TE) : TT := fun σ H Q => ta σ H fun x H1 => tb σ H1 fun y H2 => r x y H2 fun z H3 => ∃ k, z = .bl k ∧
  (if k = true then tc σ H3 fun u H4 => r' y u H4 fun z1 H5 => ∃ k1, z1 = .bl k1 ∧ (if k1 = true then td σ H5 fun w H6 => r2 u w H6 fun z2 H7 => ∃ k2, z2 = .bl k2 ∧ Q k2 H7 else Q false H5) else Q false H3)
theorem pt_ch3 {op op' op2 : CmpOp} {r r' r2 : R2} {ta tb tc td : TE} (ho : OpR X (compareOp op) r) (ho' : OpR X (compareOp op') r') (ho2 : OpR X (compareOp op2) r2) (ha : PE X a ta) (hb : PE X b tb) (hc : PE X c tc) (hd : PE X e td)
    (hm : lastMarks [op, op', op2] [b, c, e] = false) : PT X (.Compare a [op, op', op2] [b, c, e] pos) (tCh3 r r' r2 ta tb tc td) := by
  refine ⟨fun pins s σ H Q I h => ?_⟩
  refine isTrue_chain (thn (ha.run pins s σ H _ I h) fun v s1 ⟨x, H1, I1, r1, q1⟩ => test_link (thn (hb.run pins s1 σ H1 _ I1 q1) fun u s2 ⟨y, H2, I2, r2, q2⟩ =>
    thn (ho pins s2 σ H2 x y v u _ I2 r1 r2 q2) fun _ s3 ⟨z, H3, I3, r3, k, e1, q3⟩ => ?_)) hm
  subst e1
  cases r3
  refine wpAny_truthy_bool ?_
  cases k with
  | false => exact ite_ff ⟨H3, I3, q3⟩
  | true =>
    refine ite_tt (test_link (thn (hc.run pins s3 σ H3 _ I3 q3) fun u' s4 ⟨y', H4, I4, r4, q4⟩ => thn (ho' pins s4 σ H4 y y' u u' _ I4 r2 r4 q4) fun _ s5 ⟨z1, H5, I5, r5, k1, e2, q5⟩ => ?_))
    subst e2
    cases r5
    refine wpAny_truthy_bool ?_
    cases k1 with
    | false => exact ite_ff ⟨H5, I5, q5⟩
    | true =>
      refine ite_tt (test_last (thn (hd.run pins s5 σ H5 _ I5 q5) fun w' s6 ⟨z', H6, I6, r6, q6⟩ => thn (ho2 pins s6 σ H6 y' z' u' w' _ I6 r4 r6 q6) fun _ s7 ⟨z2, H7, I7, r7, k2, e3, q7⟩ => ?_))
      subst e3
      cases r7
      exact wpAny_truthy_bool ⟨H7, I7, q7⟩
theorem xt_ch3 {op op' op2 : CmpOp} {wr wr' wr2 : R2} {k k' k2 : Bool} (ho : OpR X (compareOp op) wr) (ho' : OpR X (compareOp op') wr') (ho2 : OpR X (compareOp op2) wr2) (q : Op2 X.tc wr (.da d) (.da d') (.da (.bool k))) (q' : Op2 X.tc wr' (.da d') (.da g) (.da (.bool k'))) (q2 : Op2 X.tc wr2 (.da g) (.da g2) (.da (.bool k2)))
    (ha : XE X a Γ (.da d) Γ) (hb : XE X b Γ (.da d') Γ) (hc : XE X c Γ (.da g) Γ) (hd : XE X e Γ (.da g2) Γ) (hm : lastMarks [op, op', op2] [b, c, e] = false) : XT X (.Compare a [op, op', op2] [b, c, e] pos) Γ (k && (k' && k2)) Γ := fun Ψ hq I H σ F en Q kk => by
  refine ⟨_, pt_ch3 ho ho' ho2 wpE_ok wpE_ok wpE_ok wpE_ok hm, ha (fun r Γ' => r = .da d ∧ Γ' = Γ) ⟨rfl, rfl⟩ I H σ F en _ ?_⟩
  rintro _ _ I1 H1 v F1 ⟨rfl, rfl⟩ st1 en1
  obtain ⟨B1, G1, rfl, o1, en1', _⟩ := en1.pop
  cases o1 with
  | da r1 =>
    refine hb (fun r Γ'' => r = .da d' ∧ Γ'' = _) ⟨rfl, rfl⟩ I1 H1 σ G1 en1' _ ?_
    rintro _ _ I2 H2 u F2 ⟨rfl, rfl⟩ st2 en2
    obtain ⟨B2, G2, rfl, o2, en2', _⟩ := en2.pop
    cases o2 with
    | da r2 =>
      have ol : OwnL X.tc I2 H2 [v, u] [.da d, .da d'] ([] ++ ([] ++ [])) := .cons (.da (r1.mono st2.inc)) (.cons (.da r2) .nil)
      refine q I2 H2 v u _ ol (by simp) en2'.sub _ fun I3 H3 w B3 st3 o3 nd3 sub3 => ?_
      cases o3 with
      | da r3 =>
        cases r3
        obtain ⟨en3, st3'⟩ := en2'.grow (by simpa using st3) sub3
        have st123 := (st1.trans st2).trans st3'
        cases k with
        | false => exact ⟨false, rfl, kk _ _ I3 H3 G2 hq st123 en3⟩
        | true =>
          refine ⟨true, rfl, hc (fun r Γ'' => r = .da g ∧ Γ'' = _) ⟨rfl, rfl⟩ I3 H3 σ G2 en3 _ ?_⟩
          rintro _ _ I4 H4 y F4 ⟨rfl, rfl⟩ st4 en4
          obtain ⟨B4, G4, rfl, o4, en4', _⟩ := en4.pop
          cases o4 with
          | da r4 =>
            have ol2 : OwnL X.tc I4 H4 [u, y] [.da d', .da g] ([] ++ ([] ++ [])) := .cons (.da ((r2.mono st3'.inc).mono st4.inc)) (.cons (.da r4) .nil)
            refine q' I4 H4 u y _ ol2 (by simp) en4'.sub _ fun I5 H5 w5 B5 st5 o5 nd5 sub5 => ?_
            cases o5 with
            | da r5 =>
              cases r5
              obtain ⟨en5, st5'⟩ := en4'.grow (by simpa using st5) sub5
              have st15 := (st123.trans st4).trans st5'
              cases k' with
              | false => exact ⟨false, rfl, kk _ _ I5 H5 G4 hq st15 en5⟩
              | true =>
                refine ⟨true, rfl, hd (fun r Γ'' => r = .da g2 ∧ Γ'' = _) ⟨rfl, rfl⟩ I5 H5 σ G4 en5 _ ?_⟩
                rintro _ _ I6 H6 y6 F6 ⟨rfl, rfl⟩ st6 en6
                obtain ⟨B6, G6, rfl, o6, en6', _⟩ := en6.pop
                cases o6 with
                | da r6 =>
                  have ol3 : OwnL X.tc I6 H6 [y, y6] [.da g, .da g2] ([] ++ ([] ++ [])) := .cons (.da ((r4.mono st5'.inc).mono st6.inc)) (.cons (.da r6) .nil)
                  refine q2 I6 H6 y y6 _ ol3 (by simp) en6'.sub _ fun I7 H7 w7 B7 st7 o7 nd7 sub7 => ?_
                  cases o7 with
                  | da r7 =>
                    cases r7
                    obtain ⟨en7, st7'⟩ := en6'.grow (by simpa using st7) sub7
                    exact ⟨k2, rfl, kk _ _ I7 H7 G6 (by simpa using hq) ((st15.trans st6).trans st7') en7⟩
theorem xt_le_lt_lt {i j k l : Int} (ha : XE X a Γ (.da (.int i)) Γ) (hb : XE X b Γ (.da (.int j)) Γ) (hc : XE X c Γ (.da (.int k)) Γ) (hd : XE X e Γ (.da (.int l)) Γ) (hm : lastMarks [.LtE, .Lt, .Lt] [b, c, e] = false := by with_unfolding_all rfl) :
    XT X (.Compare a [.LtE, .Lt, .Lt] [b, c, e] pos) Γ (decide (i ≤ j) && (decide (j < k) && decide (k < l))) Γ := xt_ch3 op_le op_lt op_lt o2_bl o2_bl o2_bl ha hb hc hd hm
/-- d in t, as a value -/
theorem xe_inV {ds : List PyData} (hu : X.A.units + 70 < cLine) {Γ1 Γ2 : Sl} (hb : XE X b Γ (.da d) Γ1) (ha : XE X a Γ1 (.da d') Γ2) (pd : d.plain = true) (pe : PyData.plainAll ds = true) (hh : d.depth ≤ 60) (hd' : d' = .list ds ∨ d' = .tuple ds := by first | exact .inl rfl | exact .inr rfl) (hm : behindInMarks .In a = false := by rfl) :
    XE X (.Compare b [.In] [a] pos) Γ (.da (.bool (ds.any fun z => PyData.eqv z d))) Γ2 := xe_cmp (op_inP hu) hm (by have q := (rd_in (T := X.tc) (neg := false) (x := .da d') .da hd' pd pe hh).op2' (f := rInP X.tc false); simpa using q) hb ha
end
end TL

namespace Law
open PySem PySem.Spec PyProof.Rows L2 TL
/-! the text of law_k04_whole_resets by places -/
def top (i : Nat) : Stmt := PySem.Challenge.pw_tellgarner_k04_whole_resets.main.body.getD i (.Pass ⟨0, 0, 0, 0⟩)
abbrev s_keep_least : Stmt := top 1
theorem sc_keep_least : FnScope ["rows", "pair", "row"] ["rows", "pair", "row"] (defScope s_keep_least) := ⟨rfl, rfl, rfl, by decide +kernel, rfl, by decide +kernel, by decide +kernel⟩
abbrev s_all_pairs : Stmt := top 2
theorem sc_all_pairs : FnScope ["many", "c", "d"] ["many"] (defScope s_all_pairs) := ⟨rfl, rfl, rfl, by decide +kernel, rfl, by decide +kernel, by decide +kernel⟩
abbrev s_ordered : Stmt := top 4
theorem sc_ordered : FnScope ["one", "two"] ["one", "two"] (defScope s_ordered) := ⟨rfl, rfl, rfl, by decide +kernel, rfl, by decide +kernel, by decide +kernel⟩
abbrev s_pairs_behind : Stmt := top 5
theorem sc_pairs_behind : FnScope ["book", "level", "met", "found", "pair", "row", "deed", "one", "two"] ["book", "level", "met"] (defScope s_pairs_behind) := ⟨rfl, rfl, rfl, by decide +kernel, rfl, by decide +kernel, by decide +kernel⟩
abbrev s_meeting : Stmt := top 6
theorem sc_meeting : FnScope ["book", "c", "d", "level", "met", "rows", "pair", "row"] ["book", "c", "d"] (defScope s_meeting) := ⟨rfl, rfl, rfl, by decide +kernel, rfl, by decide +kernel, by decide +kernel⟩
abbrev s_meeting_pairs : Stmt := top 7
theorem sc_meeting_pairs : FnScope ["book", "behind", "found", "left", "c", "d", "one", "two", "pair"] ["book"] (defScope s_meeting_pairs) := ⟨rfl, rfl, rfl, by decide +kernel, rfl, by decide +kernel, by decide +kernel⟩
abbrev s_pairs_of : Stmt := top 8
theorem sc_pairs_of : FnScope ["book", "c", "d", "met", "left", "pair", "one", "two"] ["book", "c", "d"] (defScope s_pairs_of) := ⟨rfl, rfl, rfl, by decide +kernel, rfl, by decide +kernel, by decide +kernel⟩
abbrev s_reset_row : Stmt := top 9
theorem sc_reset_row : FnScope ["book", "known", "c", "d", "codes", "row", "step"] ["book"] (defScope s_reset_row) := ⟨rfl, rfl, rfl, by decide +kernel, rfl, by decide +kernel, by decide +kernel⟩
abbrev s_codes_behind : Stmt := top 10
theorem sc_codes_behind : FnScope ["book", "codes", "row", "deed", "at", "code"] ["book", "codes", "row"] (defScope s_codes_behind) := ⟨rfl, rfl, rfl, by decide +kernel, rfl, by decide +kernel, by decide +kernel⟩
abbrev s_judge_reset : Stmt := top 11
theorem sc_judge_reset : FnScope ["book", "told", "many", "known", "c", "d", "deed", "pair"] ["book", "told"] (defScope s_judge_reset) := ⟨rfl, rfl, rfl, by decide +kernel, rfl, by decide +kernel, by decide +kernel⟩
abbrev s_stays_apart : Stmt := top 12
theorem sc_stays_apart : FnScope ["book", "known", "pair", "one", "two"] ["book", "known", "pair"] (defScope s_stays_apart) := ⟨rfl, rfl, rfl, by decide +kernel, rfl, by decide +kernel, by decide +kernel⟩
abbrev s_l_begin : Stmt := top 14
theorem sc_l_begin : FnScope ["script"] ["script"] (defScope s_l_begin) := ⟨rfl, rfl, rfl, by decide +kernel, rfl, by decide +kernel, by decide +kernel⟩
abbrev s_l_mix : Stmt := top 15
theorem sc_l_mix : FnScope ["d", "number", "word"] ["d", "number"] (defScope s_l_mix) := ⟨rfl, rfl, rfl, by decide +kernel, rfl, by decide +kernel, by decide +kernel⟩
abbrev s_l_draw : Stmt := top 16
theorem sc_l_draw : FnScope ["d", "many", "cell", "left", "digit"] ["d", "many"] (defScope s_l_draw) := ⟨rfl, rfl, rfl, by decide +kernel, rfl, by decide +kernel, by decide +kernel⟩
abbrev s_l_pick : Stmt := top 17
theorem sc_l_pick : FnScope ["d", "row"] ["d", "row"] (defScope s_l_pick) := ⟨rfl, rfl, rfl, by decide +kernel, rfl, by decide +kernel, by decide +kernel⟩
abbrev s_l_rare : Stmt := top 18
theorem sc_l_rare : FnScope ["d", "many"] ["d", "many"] (defScope s_l_rare) := ⟨rfl, rfl, rfl, by decide +kernel, rfl, by decide +kernel, by decide +kernel⟩
abbrev s_l_lower : Stmt := top 19
theorem sc_l_lower : FnScope ["level", "state", "row"] ["level", "state", "row"] (defScope s_l_lower) := ⟨rfl, rfl, rfl, by decide +kernel, rfl, by decide +kernel, by decide +kernel⟩
abbrev s_l_same : Stmt := top 20
theorem sc_l_same : FnScope ["told", "due"] ["told", "due"] (defScope s_l_same) := ⟨rfl, rfl, rfl, by decide +kernel, rfl, by decide +kernel, by decide +kernel⟩
abbrev s_l_marked : Stmt := top 21
theorem sc_l_marked : FnScope ["marks", "numbers", "found", "mark"] ["marks"] (defScope s_l_marked) := ⟨rfl, rfl, rfl, by decide +kernel, rfl, by decide +kernel, by decide +kernel⟩
abbrev s_l_refined : Stmt := top 22
theorem sc_l_refined : FnScope ["views", "moves", "codes", "turn", "fresh", "code", "row", "after"] ["views", "moves"] (defScope s_l_refined) := ⟨rfl, rfl, rfl, by decide +kernel, rfl, by decide +kernel, by decide +kernel⟩
abbrev s_l_targets : Stmt := top 23
theorem sc_l_targets : FnScope ["d", "size", "way", "one", "two", "state"] ["d", "size"] (defScope s_l_targets) := ⟨rfl, rfl, rfl, by decide +kernel, rfl, by decide +kernel, by decide +kernel⟩
abbrev s_l_free_book : Stmt := top 24
theorem sc_l_free_book : FnScope ["d", "most", "count", "size", "deeds", "version", "shown", "views", "columns", "moves", "codes", "firsts", "starts", "behind", "part", "state", "deed", "column", "code", "after"] ["d", "most"] (defScope s_l_free_book) := ⟨rfl, rfl, rfl, by decide +kernel, rfl, by decide +kernel, by decide +kernel⟩
abbrev s_l_pair : Stmt := top 25
theorem sc_l_pair : FnScope ["one", "two"] ["one", "two"] (defScope s_l_pair) := ⟨rfl, rfl, rfl, by decide +kernel, rfl, by decide +kernel, by decide +kernel⟩
abbrev s_l_apart_pairs : Stmt := top 26
theorem sc_l_apart_pairs : FnScope ["book", "many", "alive", "two", "one", "turn", "gone", "pair", "nexts", "left", "after"] ["book"] (defScope s_l_apart_pairs) := ⟨rfl, rfl, rfl, by decide +kernel, rfl, by decide +kernel, by decide +kernel⟩
abbrev s_l_pairs_from : Stmt := top 27
theorem sc_l_pairs_from : FnScope ["book", "pair", "met", "left", "one", "a", "c"] ["book", "pair"] (defScope s_l_pairs_from) := ⟨rfl, rfl, rfl, by decide +kernel, rfl, by decide +kernel, by decide +kernel⟩
abbrev s_l_meeting : Stmt := top 28
theorem sc_l_meeting : FnScope ["book", "c", "d", "level", "met", "turn", "rows", "later", "pair", "deed", "one", "two"] ["book", "c", "d"] (defScope s_l_meeting) := ⟨rfl, rfl, rfl, by decide +kernel, rfl, by decide +kernel, by decide +kernel⟩
abbrev s_l_image : Stmt := top 29
theorem sc_l_image : FnScope ["book", "codes", "row", "deed", "at", "code"] ["book", "codes", "row"] (defScope s_l_image) := ⟨rfl, rfl, rfl, by decide +kernel, rfl, by decide +kernel, by decide +kernel⟩
abbrev s_l_due : Stmt := top 30
theorem sc_l_due : FnScope ["book", "apart", "pair", "codes", "row", "turn", "step"] ["book"] (defScope s_l_due) := ⟨rfl, rfl, rfl, by decide +kernel, rfl, by decide +kernel, by decide +kernel⟩
abbrev s_l_takes : Stmt := top 31
theorem sc_l_takes : FnScope ["book", "told", "many", "pair", "deed", "one", "two"] ["book", "told"] (defScope s_l_takes) := ⟨rfl, rfl, rfl, by decide +kernel, rfl, by decide +kernel, by decide +kernel⟩
abbrev s_l_papers : Stmt := top 32
theorem sc_l_papers : FnScope ["d", "book", "due", "other", "many", "papers", "place"] ["d", "book", "due", "other"] (defScope s_l_papers) := ⟨rfl, rfl, rfl, by decide +kernel, rfl, by decide +kernel, by decide +kernel⟩
abbrev s_law : Stmt := top 33
theorem sc_law : FnScope ["script", "d", "books", "dues", "place", "paper", "book"] ["script"] (defScope s_law) := ⟨rfl, rfl, rfl, by decide +kernel, rfl, by decide +kernel, by decide +kernel⟩
section
variable {P : Program} {w : World} {K : PySem.W.Frag} {mg : Str → Option Value} {bs h : Heap} (X : K.In h) (G : h.Ns mainGlobals mg) (B : Blt mg)
include X G B
theorem d_begin (D : DK K "_law_begin" s_l_begin) : Def P w K mg bs 1 "_law_begin" ["script"] (spBegin ⟨P, w, K⟩) := by
  refine def_ok X G D sc_l_begin (fun f fd F => F.binds (ps := ["script"]) fun _ _ _ _ _ _ us hl => match us, hl with | [_], _ => rfl) (fun as Ψ h => by obtain ⟨_, rfl, _⟩ := h; rfl) fun f cdv A fr s H E fx as Ψ vs hsp hl => ?_
  obtain ⟨ns, rfl, hq⟩ := hsp
  obtain ⟨v0, rfl⟩ := ar1 hl
  show WSs _ _ [some (.da (.list (ns.map .int)))] _
  refine ws_ret (we_conv (x := .ll (dS ns 0 0 271828 0)) (dw_new (Int.le_refl 0)) ?_)
  refine we_lst (wa_cons (xe_frz (xe_lstOfS 0 B) _ (wa_cons (xe_int _ (wa_cons (xe_int _ (wa_cons (xe_int _ (wa_cons (xe_int _ (wa_nil ⟨dS ns 0 0 271828 0, rfl, by show 5 ≤ sizeLine; decide, rfl, ?_⟩)))))))))))
  exact ⟨_, .da .nil, hq⟩
theorem d_mix (D : DK K "_law_mix" s_l_mix) : Def P w K mg bs 1 "_law_mix" ["d", "number"] spMix := by
  refine def_ok X G D sc_l_mix (fun f fd F => F.binds (ps := ["d", "number"]) fun _ _ _ _ _ _ us hl => match us, hl with | [_, _], _ => rfl) (fun as Ψ h => by obtain ⟨_, _, _, _, _, _, rfl, _⟩ := h; rfl) fun f cdv A fr s H E fx as Ψ vs hsp hl => ?_
  obtain ⟨sc, p, c, w0, n, m, rfl, hq⟩ := hsp
  obtain ⟨v0, v1, rfl⟩ := ar2 hl
  show WSs _ _ [some (.pin v0 (.ll (dS sc p c w0 n))), some (.da (.int m)), none] _
  have nd := fx.nd
  refine ws_setll 0 (j := 4) (n := 4) (xe_add (xe_ixll 0 (j := 4) xe_int) xe_int _ ⟨_, _, _, _, rfl, rfl, .pin, rfl, xe_int, ?_⟩)
  refine xs_set 2 nd (xe_mod (by decide) (xe_int1 B (xe_add (xe_add (xe_add (xe_mul (.inr ⟨by decide, by decide⟩) (xe_ixll 0 (j := 3) xe_int) xe_int) (xe_mul (.inr ⟨by decide, by decide⟩) (xv 1) xe_int)) (xe_mul (.inr ⟨by decide, by decide⟩) (xe_ixll 0 (j := 4) xe_int) xe_int)) xe_int)) xe_int) ?_
  refine xs_set 2 nd (xe_mod (by decide) (xe_int1 B (xe_add (xe_mul (.inr ⟨by decide, by decide⟩) (xe_xor (xv 2) (xe_shr (by decide) (xv 2) xe_int)) xe_int) (xe_mul (.inr ⟨by decide, by decide⟩) (xe_ixll 0 (j := 4) xe_int) xe_int))) xe_int) ?_
  refine xs_set 2 nd (xe_mod (by decide) (xe_int1 B (xe_add (xe_mul (.inr ⟨by decide, by decide⟩) (xe_xor (xv 2) (xe_shr (by decide) (xv 2) xe_int)) xe_int) xe_int)) xe_int) ?_
  refine ws_setll 0 (j := 3) (n := 3) (xe_xor (xv 2) (xe_shr (by decide) (xv 2) xe_int) _ ⟨_, _, _, _, rfl, rfl, .pin, rfl, xe_int, ?_⟩)
  exact ws_nil ⟨_, .own (.da .nil), hq _⟩
/-- _law_mix(d, e) -/
theorem d_draw (D : DK K "_law_draw" s_l_draw) (gM : Def P w K mg bs 1 "_law_mix" ["d", "number"] spMix) : Def P w K mg bs 2 "_law_draw" ["d", "many"] (spDraw ⟨P, w, K⟩) := by
  refine def_ok X G D sc_l_draw (fun f fd F => F.binds (ps := ["d", "many"]) fun _ _ _ _ _ _ us hl => match us, hl with | [_, _], _ => rfl) (fun as Ψ h => by obtain ⟨_, rfl, _⟩ := h; rfl) fun f cdv A fr s H E fx as Ψ vs hsp hl => ?_
  obtain ⟨m, rfl, m0, m1, hq⟩ := hsp
  obtain ⟨v0, v1, rfl⟩ := ar2 hl
  show WSs _ _ [some (.pin v0 (.op (dw ⟨P, w, K⟩))), some (.da (.int m)), none, none, none] _
  have nd := fx.nd
  refine ws_convE 0 (y := fun j : {q : List Int × Int × Int × Int × Int // 0 ≤ q.2.1} => .pin v0 (.ll (dS j.1.1 j.1.2.1 j.1.2.2.1 j.1.2.2.2.1 j.1.2.2.2.2))) (fun I H v B o => dw_open I H v v0 B o) ?_
  rintro ⟨⟨sc, p, c, w0, n⟩, p0⟩
  have p0 : 0 ≤ p := p0
  show WSs _ _ [some (.pin v0 (.ll (dS sc p c w0 n))), some (.da (.int m)), none, none, none] _
  -- behind the first if: a state whose place is not negative
  have tail : ∀ (p c w0 n : Int) (o2 : Option OD), 0 ≤ p → WSs (dcx P w K mg bs ["d", "many", "cell", "left", "digit"] "_law_draw" s_l_draw f cdv A fr s H E) ((defBody s_l_draw).drop 1) [some (.pin v0 (.ll (dS sc p c w0 n))), some (.da (.int m)), o2, none, none] (fnΦ [.op (dw ⟨P, w, K⟩), .da (.int m)] [v0, v1] Ψ) := by
    intro p c w0 n o2 p0
    refine xs_if (xt_gt (xe_ixll 0 (j := 2) xe_int) xe_int) (fun hc => ?_) fun hc => ?_
    · refine ws_asgT (we_pure (xe_divmod B m0 m1 (xe_ixll 0 (j := 2) xe_int) (xv 1)) (wg_tup rfl (wgs_cons (wg_name 3 nd (wgs_cons (wg_name 4 nd (wgs_nil ?_)))))))
      refine ws_setll 0 (j := 2) (n := 2) (we_pure (xv 3) ⟨_, _, _, _, rfl, rfl, .pin, rfl, xe_int, ?_⟩)
      refine ws_conv 0 (y := .pin v0 (.op (dw ⟨P, w, K⟩))) (fun I H v B o => dw_shut p0 I H v v0 B o) ?_
      exact xs_ret (xv 4) ⟨_, .own (.da .nil), hq _ (Int.emod_nonneg _ (by omega)) (Int.emod_lt_of_pos _ m0)⟩
    · refine ws_nil ?_
      show WSs _ _ [some (.pin v0 (.ll (dS sc p c w0 n))), some (.da (.int m)), o2, none, none] _
      refine ws_expr (we_unpin 0 rfl (we_fn gM (fx.room.mono (by decide)) fx.gd (wa_ref 0 (wa_cons (we_pure (xv 1) (wa_nil ⟨sc, p, c, w0, n, m, rfl, fun w' => ⟨_, rfl, ?_⟩⟩))))))
      show WSs _ _ [some (.pin v0 (.ll (dS sc p c w' (n + 1)))), some (.da (.int m)), o2, none, none] _
      refine ws_ret (we_convAt 0 (we_pure (xe_mod m0 (xe_int1 B (xe_shr (by decide) (xe_ixll 0 (j := 3) xe_int) xe_int)) (xv 1)) ⟨_, .pin v0 (.op (dw ⟨P, w, K⟩)), rfl, fun I H v B o => dw_shut p0 I H v v0 B o, ?_⟩))
      exact ⟨_, .own (.da .nil), hq _ (Int.emod_nonneg _ (by omega)) (Int.emod_lt_of_pos _ m0)⟩
  refine xs_if (xt_and2 (xt_eqI fx.u (xe_ixll 0 (j := 2) xe_int) xe_int) fun _ => xt_lt (xe_ixll 0 (j := 1) xe_int) (xe_len B (xe_ixll 0 (j := 0) xe_int) (.inl rfl))) (fun hc => ?_) fun _ => ws_nil (tail p c w0 n none p0)
  rw [Bool.and_eq_true, decide_eq_true_eq, decide_eq_true_eq, List.length_map] at hc
  obtain ⟨v, hv⟩ := atI_int (sc := sc) p0 hc.2
  refine xs_set 2 nd (xe_band (xe_abs B (xe_ix (xe_ixll 0 (j := 0) xe_int) (xe_ixll 0 (j := 1) xe_int) (.inl rfl) hv)) (xe_sub (xe_shl ⟨by decide, by decide, by decide⟩ xe_int xe_int) xe_int)) ?_
  show WSs _ _ [some (.pin v0 (.ll (dS sc p c w0 n))), some (.da (.int m)), some (.da (.int _)), none, none] _
  refine ws_expr (we_fnR gM (fx.room.mono (by decide)) fx.gd (wr_ref 0 (wr_da (xe_add (xe_mul (.inl ⟨by decide, by decide⟩) xe_int (xv 2)) (xe_ifI (xt_lt (xe_ix (xe_ixll 0 (j := 0) xe_int) (xe_ixll 0 (j := 1) xe_int) (.inl rfl) hv) xe_int) (fun _ => xe_int) fun _ => xe_int)) (wr_nil ⟨_, _, rfl, sc, p, c, w0, n, _, rfl, fun w' => ?_⟩))))
  show WSs _ _ [some (.pin v0 (.ll (dS sc p c w' (n + 1)))), some (.da (.int m)), some (.da (.int _)), none, none] _
  refine ws_setll 0 (j := 1) (n := 1) (we_pure (xe_add (xe_ixll 0 (j := 1) xe_int) xe_int) ⟨_, _, _, _, rfl, rfl, .pin, rfl, xe_int, ?_⟩)
  show WSs _ _ [some (.pin v0 (.ll (dS sc (p + 1) c w' (n + 1)))), some (.da (.int m)), some (.da (.int _)), none, none] _
  refine ws_setll 0 (j := 2) (n := 2) (we_pure (xe_ifI (xt_ge (xv 2) xe_int) (fun _ => xv 2) fun _ => xe_int) ⟨_, _, _, _, rfl, rfl, .pin, rfl, xe_int, ?_⟩)
  exact ws_nil (tail (p + 1) _ w' (n + 1) _ (by omega))
theorem d_rare (D : DK K "_law_rare" s_l_rare) (gD : Def P w K mg bs 2 "_law_draw" ["d", "many"] (spDraw ⟨P, w, K⟩)) : Def P w K mg bs 3 "_law_rare" ["d", "many"] (spRare ⟨P, w, K⟩) := by
  refine def_ok X G D sc_l_rare (fun f fd F => F.binds (ps := ["d", "many"]) fun _ _ _ _ _ _ us hl => match us, hl with | [_, _], _ => rfl) (fun as Ψ h => by obtain ⟨_, rfl, _⟩ := h; rfl) fun f cdv A fr s H E fx as Ψ vs hsp hl => ?_
  obtain ⟨m, rfl, m0, m1, hq⟩ := hsp
  obtain ⟨v0, v1, rfl⟩ := ar2 hl
  show WSs _ _ [some (.pin v0 (.op (dw ⟨P, w, K⟩))), some (.da (.int m))] _
  refine ws_ret (we_cmp (op_eqP fx.u) (nomark _) (we_draw 0 gD (fx.room.mono (by decide)) fx.gd (xv 1) m0 m1 fun r r0 r1 => we_pure (xe_bor (xe_shr (by decide) (xv 1) xe_int) xe_int) ⟨_, o2_eq rfl rfl (Nat.zero_le _), _, .own (.da .nil), hq _⟩))
theorem d_same (D : DK K "_law_same" s_l_same) : Def P w K mg bs 1 "_law_same" ["told", "due"] spSame := by
  refine def_ok X G D sc_l_same (fun f fd F => F.binds (ps := ["told", "due"]) fun _ _ _ _ _ _ us hl => match us, hl with | [_, _], _ => rfl) (fun as Ψ h => by obtain ⟨_, rfl, _⟩ := h; rfl) fun f cdv A fr s H E fx as Ψ vs hsp hl => ?_
  obtain ⟨d, rfl, hd, hq⟩ := hsp
  obtain ⟨v0, v1, rfl⟩ := ar2 hl
  show WSs _ _ [some (.da d), some (.da d)] _
  refine xs_ret (xe_eqP fx.u (xe_repr B fx.u fx.gd (xv 0) hd.plain hd.shows hd.nodict hd.depth (hd.shown (Nat.le_refl _))) (xe_repr B fx.u fx.gd (xv 1) hd.plain hd.shows hd.nodict hd.depth (hd.shown (Nat.le_refl _)))) ?_
  rw [eqv_str, decide_eq_true rfl]
  exact ⟨_, .da (.da .nil), hq⟩
end
end Law

namespace Law
open PySem PySem.Spec PyProof.Rows L2 TL
/-! ### _law_marked -/
def mStep (st : List (NestedKey × Nat) × List Nat) (m : NestedKey) : List (NestedKey × Nat) × List Nat := match kget st.1 m with
  | some c => (st.1, st.2 ++ [c])
  | none => (st.1 ++ [(m, st.1.length)], st.2 ++ [st.1.length])
def mFold (ms : List NestedKey) : List (NestedKey × Nat) × List Nat := ms.foldl mStep ([], [])
def marked (ms : List NestedKey) : List Nat := (mFold ms).2
def nD (nums : List (NestedKey × Nat)) : List (NestedKey × PyData) := nums.map fun p => (id p.1, (fun (n : Nat) => PyData.int n) p.2)
theorem kget_nD {nums : List (NestedKey × Nat)} {m : NestedKey} : kget (nD nums) m = (kget nums m).map fun (n : Nat) => PyData.int n := kget_map (f := id) (g := fun (n : Nat) => PyData.int n) (fun _ _ h => h)
structure MInv (ms : List NestedKey) (st : List (NestedKey × Nat) × List Nat) : Prop where
  len : st.2.length = ms.length
  nlen : st.1.length ≤ ms.length
  keys : ∀ p ∈ st.1, p.1 ∈ ms
  lt : ∀ x ∈ st.2, x < st.1.length
  val : ∀ p ∈ st.1, p.2 ∈ st.2
  all : ∀ v, v < st.1.length → v ∈ st.2
theorem mInv_step {ms : List NestedKey} {st : List (NestedKey × Nat) × List Nat} {m : NestedKey} (h : MInv ms st) : MInv (ms ++ [m]) (mStep st m) := by
  unfold mStep
  cases e : kget st.1 m with
  | some c =>
    have hc := h.val _ (kget_some_mem e)
    refine ⟨by simp [h.len], by have := h.nlen; simp; omega, fun p hp => List.mem_append_left _ (h.keys p hp), fun x hx => ?_, fun p hp => List.mem_append_left _ (h.val p hp), fun v hv => List.mem_append_left _ (h.all v hv)⟩
    rcases List.mem_append.mp hx with hx | hx
    · exact h.lt x hx
    · simp at hx
      subst hx
      exact h.lt _ hc
  | none =>
    refine ⟨by simp [h.len], by have := h.nlen; simp; omega, fun p hp => ?_, fun x hx => ?_, fun p hp => ?_, fun v hv => ?_⟩
    · rcases List.mem_append.mp hp with hp | hp
      · exact List.mem_append_left _ (h.keys p hp)
      · simp at hp
        subst hp
        simp
    · simp only [List.length_append, List.length_singleton]
      rcases List.mem_append.mp hx with hx | hx
      · have := h.lt x hx
        omega
      · simp at hx
        omega
    · rcases List.mem_append.mp hp with hp | hp
      · exact List.mem_append_left _ (h.val p hp)
      · simp at hp
        subst hp
        simp
    · simp only [List.length_append, List.length_singleton] at hv
      by_cases hv' : v < st.1.length
      · exact List.mem_append_left _ (h.all v hv')
      · exact List.mem_append_right _ (by simp; omega)
theorem mInv_fold : ∀ (ms l : List NestedKey) (st : List (NestedKey × Nat) × List Nat), MInv l st → MInv (l ++ ms) (ms.foldl mStep st)
  | [], l, st, h => by rw [List.append_nil]; exact h
  | m :: ms, l, st, h => by
    have e : l ++ m :: ms = (l ++ [m]) ++ ms := by simp
    rw [e, List.foldl_cons]
    exact mInv_fold ms _ _ (mInv_step h)
theorem mInv (ms : List NestedKey) : MInv ms (mFold ms) := by
  have := mInv_fold ms [] ([], []) ⟨rfl, Nat.le_refl _, by simp, by simp, by simp, by simp⟩
  simpa [mFold] using this
/-- a numbering: as many as there were marks, the numbers 0 .. k - 1 -/
structure Codes (n : Nat) (cs : List Nat) : Prop where
  len : cs.length = n
  down : ∀ x ∈ cs, ∀ v, v ≤ x → v ∈ cs
theorem codes_marked (ms : List NestedKey) : Codes ms.length (marked ms) := by
  have h := mInv ms
  exact ⟨h.len, fun x hx v hv => h.all v (Nat.lt_of_le_of_lt hv (h.lt x hx))⟩
def MOk (ms : List NestedKey) : Prop := ms.length ≤ 1000 ∧ ∀ m ∈ ms, m.depth ≤ 8 ∧ ∃ l, m = .tup l
def spMarked : SpD := fun as Ψ => ∃ ms : List NestedKey, as = [.da (.list (ms.map NestedKey.data))] ∧ MOk ms ∧ Ψ (.ll (ilist (marked ms))) as
section
variable {P : Program} {w : World} {K : PySem.W.Frag} {mg : Str → Option Value} {bs h : Heap} (X : K.In h) (G : h.Ns mainGlobals mg) (B : Blt mg)
include X G B
theorem d_marked (D : DK K "_law_marked" s_l_marked) : Def P w K mg bs 1 "_law_marked" ["marks"] spMarked := by
  refine def_ok X G D sc_l_marked (fun f fd F => F.binds (ps := ["marks"]) fun _ _ _ _ _ _ us hl => match us, hl with | [_], _ => rfl) (fun as Ψ h => by obtain ⟨_, rfl, _⟩ := h; rfl) fun f cdv A fr s H E fx as Ψ vs hsp hl => ?_
  obtain ⟨ms, rfl, ok, hq⟩ := hsp
  obtain ⟨v0, rfl⟩ := ar1 hl
  show WSs _ _ [some (.da (.list (ms.map NestedKey.data))), none, none, none] _
  have nd := fx.nd
  refine xs_set 1 nd xe_dictM0 ?_
  refine xs_set 2 nd xe_lst0 ?_
  refine ws_fold fx ms NestedKey.data (fun st => [some (.da (.list (ms.map NestedKey.data))), some (.dm (nD st.1)), some (.ll (ilist st.2)), none]) mStep ([], []) (xi_lst (xv 0)) rfl (fun n m hm => ?_) ?_
  · have hi := mInv_fold (ms.take n) [] ([], []) ⟨rfl, Nat.le_refl _, by simp, by simp, by simp, by simp⟩
    rw [List.nil_append] at hi
    revert hi
    generalize (ms.take n).foldl mStep ([], []) = st
    intro hi
    have hmm := ok.2 m (List.mem_of_getElem? hm)
    have hl1 : (ms.take n).length ≤ 1000 := by
      rw [List.length_take]
      have := ok.1
      omega
    have h8 : ∀ q ∈ nD st.1, q.1.depth ≤ 8 := fun q hq => by
      obtain ⟨p, hp, rfl⟩ := List.mem_map.mp hq
      exact (ok.2 p.1 (List.mem_of_mem_take (hi.keys p hp))).1
    have hsz : ∀ k, k ≤ 1000 → k < sizeLine := fun k hk => by rw [sizeLine_eq]; omega
    refine wg_name 3 nd ?_
    show WSs _ _ [some (.da (.list (ms.map NestedKey.data))), some (.dm (nD st.1)), some (.ll (ilist st.2)), some (.da m.data)] _
    have hln : (nD st.1).length = st.1.length := List.length_map _
    refine ws_expr (we_append 2 (we_setdefM 1 (by have := fx.room.un; omega) (xv 3) (xe_lenM 1 B h8) h8 hmm.1 hmm.2 (hsz _ (by have := hi.nlen; omega)) ?_))
    refine ⟨_, _, _, _, rfl, rfl, .ll, hsz _ (by have := hi.len; simp [ilist]; omega), ?_⟩
    refine ws_drop 3 (ws_nil ?_)
    change (_ : Sl) = _
    rw [kget_nD]
    unfold mStep
    cases e : kget st.1 m with
    | some c => simp [ilist]
    | none => simp [ilist, nD]
  · exact xs_ret (xe_move 2) ⟨_, .da .nil, hq⟩
end
end Law

namespace Law
open PySem PySem.Spec PyProof.Rows L2 TL
/-! ### _law_refined -/
def vK (v : List Nat) : NestedKey := .tup (v.map fun (x : Nat) => .tup [.num x])
def vD (v : List Nat) : PyData := .tuple (v.map fun (x : Nat) => .tuple [.int x])
theorem datas_map {α : Type} (f : α → NestedKey) : ∀ xs : List α, NestedKey.datas (xs.map f) = xs.map fun x => (f x).data
  | [] => rfl
  | x :: xs => by
    rw [List.map_cons, NestedKey.datas, datas_map f xs, List.map_cons]
theorem vK_data (v : List Nat) : (vK v).data = vD v := by
  unfold vK vD
  rw [NestedKey.data, datas_map]
  rfl
theorem depthAll_le {n : Nat} : ∀ ks : List NestedKey, (∀ k ∈ ks, k.depth ≤ n) → NestedKey.depthAll ks ≤ n
  | [], _ => Nat.zero_le _
  | k :: ks, h => by
    have h1 := h k List.mem_cons_self
    have h2 := depthAll_le ks fun q hq => h q (List.mem_cons_of_mem _ hq)
    simp only [NestedKey.depthAll]
    omega
theorem vK_ok (v : List Nat) : (vK v).depth ≤ 8 ∧ ∃ l, vK v = .tup l := by
  refine ⟨?_, _, rfl⟩
  unfold vK
  have := depthAll_le (n := 1) (v.map fun (x : Nat) => NestedKey.tup [.num x]) fun k hk => by
    obtain ⟨x, _, rfl⟩ := List.mem_map.mp hk
    simp [NestedKey.depth, NestedKey.depthAll]
  simp only [NestedKey.depth]
  omega
/-- the key of a state: its code, the codes it leads to -/
def wK (cs : List Nat) (p : Nat × List Nat) : NestedKey := .tup [.num p.1, .tup (p.2.map fun a => .num ((cs.getD a 0 : Nat) : Int))]
def wD (cs : List Nat) (p : Nat × List Nat) : PyData := .tuple [.int p.1, .tuple (p.2.map fun a => .int ((cs.getD a 0 : Nat) : Int))]
theorem wK_data (cs : List Nat) (p : Nat × List Nat) : (wK cs p).data = wD cs p := by
  unfold wK wD
  simp only [NestedKey.data, NestedKey.datas]
  rw [datas_map]
  simp [NestedKey.data]
theorem wK_ok (cs : List Nat) (p : Nat × List Nat) : (wK cs p).depth ≤ 8 ∧ ∃ l, wK cs p = .tup l := by
  refine ⟨?_, _, rfl⟩
  unfold wK
  have := depthAll_le (n := 0) (p.2.map fun a => NestedKey.num ((cs.getD a 0 : Nat) : Int)) fun k hk => by
    obtain ⟨x, _, rfl⟩ := List.mem_map.mp hk
    simp [NestedKey.depth]
  simp only [NestedKey.depth, NestedKey.depthAll]
  omega
theorem atI_nat {α : Type} {xs : List α} {i : Nat} {x : α} (h : xs[i]? = some x) : atI xs (i : Int) = some x := by
  have hl := (List.getElem?_eq_some_iff.mp h).1
  unfold atI ixN
  rw [if_pos (by omega), if_pos (by omega)]
  exact h
theorem getD_get {cs : List Nat} {a : Nat} (h : a < cs.length) : cs[a]? = some (cs.getD a 0) := by
  rw [List.getElem?_eq_getElem h]
  simp [List.getD, h]
theorem atI_codes {cs : List Nat} {a : Nat} (h : a < cs.length) : atI (ilist cs) (a : Int) = some (.int ((cs.getD a 0 : Nat) : Int)) := atI_nat (by rw [List.getElem?_map, getD_get h]; rfl)
def rowD (r : List Nat) : PyData := .list (ilist r)
def spRefined : SpD := fun as Ψ => ∃ (vs mv : List (List Nat)), as = [.da (.list (vs.map vD)), .da (.list (mv.map rowD))] ∧ vs.length ≤ 1000 ∧ mv.length = vs.length ∧ (∀ r ∈ mv, r.length ≤ 1000 ∧ ∀ a ∈ r, a < vs.length) ∧
  ∀ cs, Codes vs.length cs → Ψ (.da (.list (ilist cs))) as
section
variable {P : Program} {w : World} {K : PySem.W.Frag} {mg : Str → Option Value} {bs h : Heap} (X : K.In h) (G : h.Ns mainGlobals mg) (B : Blt mg)
include X G B
theorem d_refined (D : DK K "_law_refined" s_l_refined) (gM : Def P w K mg bs 1 "_law_marked" ["marks"] spMarked) : Def P w K mg bs 2 "_law_refined" ["views", "moves"] spRefined := by
  refine def_ok X G D sc_l_refined (fun f fd F => F.binds (ps := ["views", "moves"]) fun _ _ _ _ _ _ us hl => match us, hl with | [_, _], _ => rfl) (fun as Ψ h => by obtain ⟨_, _, rfl, _⟩ := h; rfl) fun f cdv A fr s H E fx as Ψ us hsp hl => ?_
  obtain ⟨vs, mv, rfl, hv, hm, hr, hq⟩ := hsp
  obtain ⟨v0, v1, rfl⟩ := ar2 hl
  show WSs _ _ [some (.da (.list (vs.map vD))), some (.da (.list (mv.map rowD))), none, none, none, none, none, none] _
  have nd := fx.nd
  have e0 : vs.map vD = (vs.map vK).map NestedKey.data := by
    rw [List.map_map]
    exact List.map_congr_left fun v _ => (vK_data v).symm
  refine ws_set 2 nd (we_frz (we_fnR gM (fx.room.mono (by decide)) fx.gd (wr_da (xv 0) (wr_nil ⟨_, _, rfl, vs.map vK, by rw [← e0], ⟨by rw [List.length_map]; exact hv, fun m hm => ?_⟩, _, .ll, ?_⟩))))
  · obtain ⟨v, _, rfl⟩ := List.mem_map.mp hm
    exact vK_ok v
  show WSs _ _ [some (.da (.list (vs.map vD))), some (.da (.list (mv.map rowD))), some (.da (.list (ilist (marked (vs.map vK))))), none, none, none, none, none] _
  have c0 : Codes vs.length (marked (vs.map vK)) := by
    have := codes_marked (vs.map vK)
    rwa [List.length_map] at this
  refine ws_forT fx vs vD (fun cs => [some (.da (.list (vs.map vD))), some (.da (.list (mv.map rowD))), some (.da (.list (ilist cs))), none, none, none, none, none]) (fun _ cs => Codes vs.length cs) _ (xi_lst (xv 0)) c0 rfl (fun n x cs hx hc => ?_) fun cs hc => ?_
  · refine wg_name 3 nd ?_
    show WSs _ _ [some (.da (.list (vs.map vD))), some (.da (.list (mv.map rowD))), some (.da (.list (ilist cs))), some (.da (vD x)), none, none, none, none] _
    have hcl : cs.length = vs.length := hc.len
    have hz : (cs.zip mv).length ≤ 1000 := by rw [List.length_zip]; omega
    have sz : ∀ n, n ≤ 1000 → n ≤ sizeLine := fun n hn => by rw [sizeLine_eq]; omega
    refine ws_set 4 nd (we_frz (we_fnR gM (fx.room.mono (by decide)) fx.gd (wr_da (xe_frz (xe_lcM [("code", 5), ("row", 6)] (fun p Γ => (Γ.set 5 (some (.da (.int (p : Nat × List Nat).1)))).set 6 (some (.da (rowD p.2)))) (cs.zip mv) (fun p => .tuple [.int p.1, rowD p.2]) (wD cs) fx (R := fun p => .da (wD cs p))
      ?hi (sz _ hz) ?hg ?he)) (wr_nil ⟨_, _, rfl, (cs.zip mv).map (wK cs), ?hk, ?mk, _, .ll, ?nx⟩))))
    case hi => exact xi_zipL (E := fun (n : Nat) => PyData.int n) (E' := rowD) B (xv 2) (xv 1)
    case hg => exact fun p hp s H C cl fp => gc_tup rfl (gsc_cons (gc_name 5 nd (gsc_cons (gc_name 6 nd (gsc_nil rfl)))))
    case he =>
      intro p hp s H C cl fp
      have hrow := hr p.2 (List.of_mem_zip hp).2
      refine xe_tup2 (xv 5) (xe_tupL B (xe_lcM [("after", 7)] (fun a Γ => Γ.set 7 (some (.da (.int (a : Nat))))) p.2 (fun (a : Nat) => .int a) (fun a => .int ((cs.getD a 0 : Nat) : Int)) fx.blk (R := fun a => .da (.int ((cs.getD a 0 : Nat) : Int))) (xi_lst (xv 6)) (sz _ hrow.1) (fun a ha s H C cl fp => gc_name 7 nd rfl) ?_))
      intro a ha s H C cl fp
      exact xe_ix (xv 2) (xv 7) (.inl rfl) (atI_codes (by rw [hcl]; exact hrow.2 a ha))
    case hk =>
      show [OD.da (.list ((cs.zip mv).map (wD cs)))] = _
      rw [List.map_map]
      congr 3
      exact List.map_congr_left fun p _ => (wK_data cs p).symm
    case mk =>
      refine ⟨by rw [List.length_map]; exact hz, fun m hm => ?_⟩
      obtain ⟨p, _, rfl⟩ := List.mem_map.mp hm
      exact wK_ok cs p
    case nx =>
      have cn : Codes vs.length (marked ((cs.zip mv).map (wK cs))) := by
        have := codes_marked ((cs.zip mv).map (wK cs))
        rw [List.length_map, List.length_zip] at this
        have e : min cs.length mv.length = vs.length := by omega
        rwa [e] at this
      revert cn
      generalize marked ((cs.zip mv).map (wK cs)) = c2
      intro cn
      show WSs _ _ [some (.da (.list (vs.map vD))), some (.da (.list (mv.map rowD))), some (.da (.list (ilist cs))), some (.da (vD x)), some (.da (.list (ilist c2))), none, none, none] _
      refine xs_if (xt_eqP fx.u (xv 4) (xv 2) plain_il plain_il (Nat.le_trans depth_il (by decide))) (fun _ => xs_ret (xv 2) ⟨_, .da (.da .nil), hq cs hc⟩) fun _ => ws_nil ?_
      show WSs _ _ [some (.da (.list (vs.map vD))), some (.da (.list (mv.map rowD))), some (.da (.list (ilist cs))), some (.da (vD x)), some (.da (.list (ilist c2))), none, none, none] _
      exact xs_set 2 nd (xv 4) (ws_drop 3 (ws_drop 4 (ws_nil ⟨c2, cn, rfl⟩)))
  · exact xs_ret (xv 2) ⟨_, .da (.da .nil), hq cs hc⟩
end
end Law

namespace Law
open PySem PySem.Spec PyProof.Rows L2 TL
theorem sz1000 {n : Nat} (h : n ≤ 1000) : n ≤ sizeLine := by rw [sizeLine_eq]; omega
/-! ### _law_targets -/
def spTargets (T : TC) : SpD := fun as Ψ => ∃ n : Nat, as = [.op (dw T), .da (.int n)] ∧ 1 ≤ n ∧ n ≤ 1000 ∧ ∀ ts : List Nat, ts.length = n → (∀ t ∈ ts, t < n) → Ψ (.ll (ilist ts)) as
section
variable {P : Program} {w : World} {K : PySem.W.Frag} {mg : Str → Option Value} {bs h : Heap} (X : K.In h) (G : h.Ns mainGlobals mg) (B : Blt mg)
include X G B
theorem d_targets (D : DK K "_law_targets" s_l_targets) (gD : Def P w K mg bs 2 "_law_draw" ["d", "many"] (spDraw ⟨P, w, K⟩)) : Def P w K mg bs 3 "_law_targets" ["d", "size"] (spTargets ⟨P, w, K⟩) := by
  refine def_ok X G D sc_l_targets (fun f fd F => F.binds (ps := ["d", "size"]) fun _ _ _ _ _ _ us hl => match us, hl with | [_, _], _ => rfl) (fun as Ψ h => by obtain ⟨_, rfl, _⟩ := h; rfl) fun f cdv A fr s H E fx as Ψ us hsp hl => ?_
  obtain ⟨n, rfl, n1, n2, hq⟩ := hsp
  obtain ⟨v0, v1, rfl⟩ := ar2 hl
  show WSs _ _ [some (.pin v0 (.op (dw ⟨P, w, K⟩))), some (.da (.int n)), none, none, none, none] _
  have nd := fx.nd
  have hm0 : (0 : Int) < n := by omega
  have hm1 : (n : Int) < 2 ^ 64 := by omega
  have fin : ∀ {Γ : Sl} (ts : List Nat), ts.length = n → (∀ t ∈ ts, t < n) → fnΦ [.op (dw ⟨P, w, K⟩), .da (.int n)] [v0, v1] Ψ (.rt (.ll (ilist ts)) (some (.pin v0 (.op (dw ⟨P, w, K⟩))) :: some (.da (.int n)) :: Γ)) := fun ts h1 h2 => ⟨_, .own (.da .nil), hq ts h1 h2⟩
  refine ws_set 2 nd (we_draw 0 gD (fx.room.mono (by decide)) fx.gd xe_int (by decide) (by decide) fun way w0 w1 => ?_)
  show WSs _ _ [some (.pin v0 (.op (dw ⟨P, w, K⟩))), some (.da (.int n)), some (.da (.int way)), none, none, none] _
  refine xs_if (xt_eqI fx.u (xv 2) xe_int) (fun _ => ?_) fun _ => ws_nil ?_
  · refine ws_ret (we_lcA [("state", 5)] (fun (i : Nat) Γ => Γ.set 5 (some (.da (.int i)))) (List.range n) (fun i => .int i) (fun (t : Nat) => .int t) (fun _ _ t => t < n) fx (xi_rangeN B (xv 1) (by omega)) (by rw [List.length_range]; exact sz1000 n2) (fun x hx s H C cl fp => gc_name 5 nd rfl) (fun i x hx s H C cl fp => ?_) fun ts h1 h2 => ?_)
    · refine we_draw 0 gD (fx.room.mono (by decide)) fx.gd (xv 1) hm0 hm1 fun r r0 r1 => ⟨r.toNat, ?_, by omega, rfl⟩
      rw [Int.toNat_of_nonneg r0]
      exact .da
    · rw [List.length_range] at h1
      refine fin ts h1 fun t ht => ?_
      obtain ⟨i, hi⟩ := List.mem_iff_getElem?.mp ht
      have hin := (List.getElem?_eq_some_iff.mp hi).1
      exact h2 i i t (by rw [List.getElem?_range (by omega)]) hi
  show WSs _ _ [some (.pin v0 (.op (dw ⟨P, w, K⟩))), some (.da (.int n)), some (.da (.int way)), none, none, none] _
  refine ws_set 3 nd (we_draw 0 gD (fx.room.mono (by decide)) fx.gd (xv 1) hm0 hm1 fun one o0 o1 => ?_)
  refine ws_set 4 nd (we_draw 0 gD (fx.room.mono (by decide)) fx.gd (xv 1) hm0 hm1 fun two t0 t1 => ?_)
  obtain ⟨one, rfl⟩ := Int.eq_ofNat_of_zero_le o0
  obtain ⟨two, rfl⟩ := Int.eq_ofNat_of_zero_le t0
  show WSs _ _ [some (.pin v0 (.op (dw ⟨P, w, K⟩))), some (.da (.int n)), some (.da (.int way)), some (.da (.int (one : Nat))), some (.da (.int (two : Nat))), none] _
  -- a comprehension over range(size) with an int as answer
  have done : ∀ {Γ : Sl} (g : Nat → Int), (∀ i, i < n → 0 ≤ g i ∧ g i < n) → fnΦ [.op (dw ⟨P, w, K⟩), .da (.int n)] [v0, v1] Ψ (.rt (.ll ((List.range n).map fun i => .int (g i))) (some (.pin v0 (.op (dw ⟨P, w, K⟩))) :: some (.da (.int n)) :: Γ)) := by
    intro Γ g hg
    have e : ((List.range n).map fun i => PyData.int (g i)) = ilist ((List.range n).map fun i => (g i).toNat) := by
      show _ = List.map _ _
      rw [List.map_map]
      refine List.map_congr_left fun i hi => ?_
      have := hg i (List.mem_range.mp hi)
      show _ = PyData.int _
      rw [Int.toNat_of_nonneg this.1]
    rw [e]
    refine fin _ (by simp) fun t ht => ?_
    obtain ⟨i, hi, rfl⟩ := List.mem_map.mp ht
    have := hg i (List.mem_range.mp hi)
    omega
  refine xs_if (xt_eqI fx.u (xv 2) xe_int) (fun _ => ?_) fun _ => ws_nil ?_
  · refine xs_ret (xe_lcM [("state", 5)] (fun (i : Nat) Γ => Γ.set 5 (some (.da (.int i)))) (List.range n) (fun i => .int i) (fun i => .int (((i : Int) + one) % n)) fx (R := fun i => .da (.int (((i : Int) + one) % n))) (xi_rangeN B (xv 1) (by omega)) (by rw [List.length_range]; exact sz1000 n2) (fun x hx s H C cl fp => gc_name 5 nd rfl) fun i hi s H C cl fp => xe_mod hm0 (xe_int1 B (xe_add (xv 5) (xv 3))) (xv 1)) (done _ fun i hi => ⟨Int.emod_nonneg _ (by omega), Int.emod_lt_of_pos _ hm0⟩)
  refine xs_if (xt_eqI fx.u (xv 2) xe_int) (fun _ => ?_) fun _ => ws_nil ?_
  · refine xs_ret (xe_lcM [("state", 5)] (fun (i : Nat) Γ => Γ.set 5 (some (.da (.int i)))) (List.range n) (fun i => .int i) (fun i => .int (if decide ((i : Int) = one) = true then (two : Int) else i)) fx (R := fun i => .da (.int (if decide ((i : Int) = one) = true then (two : Int) else i))) (xi_rangeN B (xv 1) (by omega)) (by rw [List.length_range]; exact sz1000 n2) (fun x hx s H C cl fp => gc_name 5 nd rfl) fun i hi s H C cl fp => xe_ifI (xt_eqI fx.u (xv 5) (xv 3)) (fun _ => xv 4) fun _ => xv 5) (done _ fun i hi => by split <;> omega)
  refine xs_if (xt_eqI fx.u (xv 2) xe_int) (fun _ => ?_) fun _ => ws_nil ?_
  · refine xs_ret (xe_lcM [("state", 5)] (fun (i : Nat) Γ => Γ.set 5 (some (.da (.int i)))) (List.range n) (fun i => .int i) (fun i => .int (if decide ((i : Int) = one) = true then (two : Int) else if decide ((i : Int) = two) = true then (one : Int) else i)) fx (R := fun i => .da (.int (if decide ((i : Int) = one) = true then (two : Int) else if decide ((i : Int) = two) = true then (one : Int) else i))) (xi_rangeN B (xv 1) (by omega)) (by rw [List.length_range]; exact sz1000 n2) (fun x hx s H C cl fp => gc_name 5 nd rfl) fun i hi s H C cl fp => xe_ifI (xt_eqI fx.u (xv 5) (xv 3)) (fun _ => xv 4) fun _ => xe_ifI (xt_eqI fx.u (xv 5) (xv 4)) (fun _ => xv 3) fun _ => xv 5) (done _ fun i hi => by split <;> (try split) <;> omega)
  · refine xs_ret (xe_lcM [("state", 5)] (fun (i : Nat) Γ => Γ.set 5 (some (.da (.int i)))) (List.range n) (fun i => .int i) (fun i => .int (if decide ((i : Int) = one) = true then (two : Int) else if (n : Int) - 1 < i + 1 then (n : Int) - 1 else i + 1)) fx (R := fun i => .da (.int (if decide ((i : Int) = one) = true then (two : Int) else if (n : Int) - 1 < i + 1 then (n : Int) - 1 else i + 1))) (xi_rangeN B (xv 1) (by omega)) (by rw [List.length_range]; exact sz1000 n2) (fun x hx s H C cl fp => gc_name 5 nd rfl) fun i hi s H C cl fp => xe_ifI (xt_eqI fx.u (xv 5) (xv 3)) (fun _ => xv 4) fun _ => xe_min2 B rfl (xe_add (xv 5) xe_int) (xe_sub (xv 1) xe_int)) (done _ fun i hi => by split <;> (try split) <;> omega)
end
end Law

namespace Law
open PySem PySem.Spec PyProof.Rows L2 TL
/-! ### books -/
structure Bk where
  deeds : List PyData
  starts : PyData
  views : List PyData
  beh : List (List Nat)
def Bk.n (b : Bk) : Nat := b.beh.length
abbrev rowT (r : List Nat) : PyData := .tuple (ilist r)
def Bk.data (b : Bk) : PyData := .tuple [.str "book", tnD b.deeds, b.starts, .tuple b.views, .tuple (b.beh.map rowT)]
structure Bk.Ok (b : Bk) : Prop where
  n1 : 1 ≤ b.n
  n2 : b.n ≤ 60
  vl : b.views.length = b.n
  dl : b.deeds.length ≤ 8
  row : ∀ r ∈ b.beh, r.length = b.deeds.length ∧ ∀ a ∈ r, a < b.n
  dfn : ∀ d ∈ b.deeds, Fn 3 200 d
  dal : PySem.W.AllAlike b.deeds
def eD (v p : Nat) : PyData := .tuple [.int v, .tuple [.int p, .tuple []]]
theorem eD_fn {v p : Nat} (hv : v < 1000) (hp : p < 1000) : Fn 3 200 (eD v p) := by
  have h1 : Fn 2 76 (.int (v : Int)) := Fn.int (by omega) (by decide)
  have h2 : Fn 1 37 (.int (p : Int)) := Fn.int (by omega) (by decide)
  have h3 : Fn 1 37 (.tuple []) := Fn.tup (n := 0) (w := 0) (by simp) (by simp)
  have h4 : Fn 2 76 (.tuple [.int (p : Int), .tuple []]) := Fn.tup (n := 1) (w := 37) (fun d hd => by
    simp only [List.mem_cons, List.not_mem_nil, or_false] at hd
    rcases hd with rfl | rfl
    · exact h2
    · exact h3) (by simp)
  exact Fn.tup (n := 2) (w := 76) (fun d hd => by
    simp only [List.mem_cons, List.not_mem_nil, or_false] at hd
    rcases hd with rfl | rfl
    · exact h1
    · exact h4) (by simp)
theorem eD_alike (v p v' p' : Nat) : PySem.W.alike (eD v p) (eD v' p') = true := by
  simp [eD, PySem.W.alike, PySem.W.alikeAll]
theorem shaped_il {xs : List Nat} : SeqAt.shaped (.list (ilist xs)) = true := by
  have h : PyData.canLayAll0 (ilist xs) = true := by
    induction xs with
    | nil => rfl
    | cons x xs ih => simp [PyData.canLayAll0, PyData.canLay0, ih]
  have hd := depth_il (xs := xs)
  unfold SeqAt.shaped
  simp only [PyData.canLay0, h, Bool.true_and, decide_eq_true_eq]
  omega
theorem codes_bound {cs : List Nat} {n m : Nat} (hc : Codes n cs) (hm : m ∈ cs) : m + 1 ≤ n := by
  have hs : List.range (m + 1) ⊆ cs := fun v hv => hc.down m hm v (by have := List.mem_range.mp hv; omega)
  have := List.Nodup.length_le_of_subset List.nodup_range hs
  rw [List.length_range, hc.len] at this
  exact this
theorem ex_max : ∀ {cs : List Nat}, cs ≠ [] → ∃ m ∈ cs, ∀ y ∈ cs, y ≤ m
  | [x], _ => ⟨x, by simp, by simp⟩
  | x :: y :: r, _ => by
    obtain ⟨m, hm, h⟩ := ex_max (cs := y :: r) (by simp)
    by_cases hx : x ≤ m
    · exact ⟨m, List.mem_cons_of_mem _ hm, fun z hz => (List.mem_cons.mp hz).elim (fun e => e ▸ hx) (h z)⟩
    · exact ⟨x, List.mem_cons_self, fun z hz => (List.mem_cons.mp hz).elim (fun e => by omega) fun q => by have := h z q; omega⟩
/-- the first place of c -/
def fIx : List Nat → Nat → Nat
  | [], _ => 0
  | y :: r, c => if y = c then 0 else fIx r c + 1
theorem fIx_spec {c : Nat} : ∀ {cs : List Nat}, c ∈ cs → cs[fIx cs c]? = some c ∧ ∀ m, m < fIx cs c → ∀ z, cs[m]? = some z → z ≠ c
  | [], h => by cases h
  | y :: r, h => by
    unfold fIx
    by_cases hy : y = c
    · rw [if_pos hy]
      exact ⟨by rw [hy]; rfl, fun m hm => absurd hm (Nat.not_lt_zero _)⟩
    · rw [if_neg hy]
      have hr : c ∈ r := (List.mem_cons.mp h).elim (fun e => absurd e.symm hy) id
      obtain ⟨h1, h2⟩ := fIx_spec hr
      refine ⟨by simpa using h1, fun m hm z hz => ?_⟩
      cases m with
      | zero =>
        simp at hz
        subst hz
        exact hy
      | succ m => exact h2 m (by omega) z (by simpa using hz)
def lexN (a b : Nat × Nat) : Prop := a.1 < b.1 ∨ (a.1 = b.1 ∧ a.2 < b.2)
/-- what the deeds and the views are made of -/
structure Bk.Fine (b : Bk) (ct : Nat) : Prop where
  c1 : 1 ≤ ct
  c4 : ct ≤ 4
  dd : ∃ vps : List (Nat × Nat), b.deeds = vps.map (fun q => eD q.1 q.2) ∧ (∀ q ∈ vps, q.1 < ct ∧ q.2 < 2) ∧ vps.Pairwise lexN
  dn : 0 < b.deeds.length
  st : ∃ sts : List Nat, b.starts = .tuple (ilist sts) ∧ sts.length = b.deeds.length
  vw : ∀ v ∈ b.views, ∃ x : List Nat, x.length = ct ∧ (∀ y ∈ x, y < 4) ∧ v = vD x
def spFree (T : TC) : SpD := fun as Ψ => ∃ m : Nat, as = [.op (dw T), .da (.int m)] ∧ 1 ≤ m ∧ m ≤ 60 ∧ ∀ (b : Bk) (ct : Nat), b.Ok → b.Fine ct → b.n ≤ m → Ψ (.da b.data) as
section
variable {P : Program} {w : World} {K : PySem.W.Frag} {mg : Str → Option Value} {bs h : Heap} (X : K.In h) (G : h.Ns mainGlobals mg) (B : Blt mg)
include X G B
theorem d_free (D : DK K "_law_free_book" s_l_free_book) (gD : Def P w K mg bs 2 "_law_draw" ["d", "many"] (spDraw ⟨P, w, K⟩)) (gT : Def P w K mg bs 3 "_law_targets" ["d", "size"] (spTargets ⟨P, w, K⟩)) (gR : Def P w K mg bs 2 "_law_refined" ["views", "moves"] spRefined) :
    Def P w K mg bs 4 "_law_free_book" ["d", "most"] (spFree ⟨P, w, K⟩) := by
  refine def_ok X G D sc_l_free_book (fun f fd F => F.binds (ps := ["d", "most"]) fun _ _ _ _ _ _ us hl => match us, hl with | [_, _], _ => rfl) (fun as Ψ h => by obtain ⟨_, rfl, _⟩ := h; rfl) fun f cdv A fr s H E fx as Ψ us hsp hl => ?_
  obtain ⟨most, rfl, n1, n2, hq⟩ := hsp
  obtain ⟨v0, v1, rfl⟩ := ar2 hl
  let Dp : Option OD := some (.pin v0 (.op (dw ⟨P, w, K⟩)))
  show WSs _ _ [some (.pin v0 (.op (dw ⟨P, w, K⟩))), some (.da (.int most)), none, none, none, none, none, none, none, none, none, none, none, none, none, none, none, none, none, none] _
  have nd := fx.nd
  have r2 := fx.room.mono (show 2 ≤ 3 by decide)
  refine ws_set 2 nd (we_add (we_pure xe_int ⟨1, rfl, we_draw 0 gD r2 fx.gd xe_int (by decide) (by decide) fun r r0 r1 => ⟨r, rfl, ?_⟩⟩))
  obtain ⟨count, hc⟩ := Int.eq_ofNat_of_zero_le (show 0 ≤ 1 + r by omega)
  rw [hc]
  have hc1 : 1 ≤ count ∧ count ≤ 4 := by omega
  clear hc r0 r1
  show WSs _ _ [some (.pin v0 (.op (dw ⟨P, w, K⟩))), some (.da (.int most)), some (.da (.int (count : Nat))), none, none, none, none, none, none, none, none, none, none, none, none, none, none, none, none, none] _
  refine ws_set 3 nd (we_add (we_pure xe_int ⟨1, rfl, we_draw 0 gD r2 fx.gd (xv 1) (by omega) (by omega) fun r r0 r1 => ⟨r, rfl, ?_⟩⟩))
  obtain ⟨size, hs⟩ := Int.eq_ofNat_of_zero_le (show 0 ≤ 1 + r by omega)
  rw [hs]
  have hs1 : 1 ≤ size ∧ size ≤ 60 := by omega
  have hs2 : size ≤ most := by omega
  clear hs r0 r1
  refine xs_set 4 nd (xe_frz xe_lst0) ?_
  show WSs _ _ [some (.pin v0 (.op (dw ⟨P, w, K⟩))), some (.da (.int most)), some (.da (.int (count : Nat))), some (.da (.int (size : Nat))), some (.da (.list [])), none, none, none, none, none, none, none, none, none, none, none, none, none, none, none] _
  refine ws_forT fx (List.range count) (fun i => .int i) (fun ds => [some (.pin v0 (.op (dw ⟨P, w, K⟩))), some (.da (.int most)), some (.da (.int (count : Nat))), some (.da (.int (size : Nat))), some (.da (.list ds)), none, none, none, none, none, none, none, none, none, none, none, none, none, none, none])
    (fun n ds => ∃ vps : List (Nat × Nat), ds = vps.map (fun q => eD q.1 q.2) ∧ (vps.length ≤ 2 * n ∧ n ≤ vps.length) ∧ (∀ q ∈ vps, q.1 < n ∧ q.2 < 2) ∧ vps.Pairwise lexN) [] (xi_rangeN B (xv 2) (by omega)) ⟨[], rfl, ⟨Nat.le_refl _, Nat.le_refl _⟩, by simp, .nil⟩ rfl (fun n x ds hx hds => ?_) fun ds hds => ?_
  · refine wg_name 5 nd ?_
    show WSs _ _ [some (.pin v0 (.op (dw ⟨P, w, K⟩))), some (.da (.int most)), some (.da (.int (count : Nat))), some (.da (.int (size : Nat))), some (.da (.list ds)), some (.da (.int x)), none, none, none, none, none, none, none, none, none, none, none, none, none, none] _
    refine ws_set 4 nd (we_frz (we_catL (we_pure (xv 4) ⟨ds, .da, we_lcW [("part", 14)] (fun (p : Nat) Γ => Γ.set 14 (some (.da (.int p)))) (fun (p : Nat) => .int p) (fun p => eD x p) (fun xs => ∃ r, (1 ≤ r ∧ r ≤ 2) ∧ xs = List.range r) fx (R := fun p => .da (eD x p))
      (wi_rangeN B (we_add (we_pure xe_int ⟨1, rfl, we_draw 0 gD r2 fx.gd xe_int (by decide) (by decide) fun r r0 r1 => ⟨r, rfl, ?w⟩⟩))) (fun xs p _ _ s H C cl fp => gc_name 14 nd rfl) (fun xs p _ _ s H C cl fp => xe_tup2 (xv 5) (xe_tup2 (xv 14) xe_tup0)) ?q⟩)))
    case w => exact ⟨(1 + r).toNat, by rw [Int.toNat_of_nonneg (by omega)], by omega, rfl, List.range (1 + r).toNat, ⟨(1 + r).toNat, ⟨by omega, by omega⟩, rfl⟩, rfl, by rw [List.length_range]; exact sz1000 (by omega)⟩
    case q =>
      rintro xs ⟨r, hr, rfl⟩
      obtain ⟨vps, rfl, hl, hb, pw⟩ := hds
      have hn := (List.getElem?_eq_some_iff.mp hx).1
      rw [List.length_range] at hn
      have hxn : x = n := by
        rw [List.getElem?_range hn] at hx
        exact (Option.some.inj hx).symm
      subst hxn
      refine ⟨_, .ll, by rw [List.length_map, List.length_map, List.length_range]; exact sz1000 (by omega), _, .ll, ?_⟩
      refine ws_drop 5 (ws_nil ⟨vps.map (fun q => eD q.1 q.2) ++ (List.range r).map (fun p => eD x p), ⟨vps ++ (List.range r).map fun p => (x, p), ?_, ?_, fun q hq => ?_, ?_⟩, rfl⟩)
      · rw [List.map_append, List.map_map]
        rfl
      · rw [List.length_append, List.length_map, List.length_range]
        omega
      · rcases List.mem_append.mp hq with z | z
        · have := hb q z
          exact ⟨by omega, this.2⟩
        · obtain ⟨p, hp, rfl⟩ := List.mem_map.mp z
          have := List.mem_range.mp hp
          exact ⟨Nat.lt_succ_self _, show p < 2 by omega⟩
      · refine List.pairwise_append.mpr ⟨pw, ?_, fun a ha b hb' => ?_⟩
        · exact List.pairwise_map.mpr (List.pairwise_lt_range.imp fun h => .inr ⟨rfl, h⟩)
        · obtain ⟨p, hp, rfl⟩ := List.mem_map.mp hb'
          exact .inl (hb a ha).1
  · rw [List.length_range] at hds
    have hdd := hds
    replace hds : ds.length ≤ 2 * count ∧ ∀ d ∈ ds, ∃ v p, v < count ∧ p < 2 ∧ d = eD v p := by
      obtain ⟨vps, rfl, hl, hb, _⟩ := hds
      refine ⟨by rw [List.length_map]; exact hl.1, fun d hd => ?_⟩
      obtain ⟨q, hq, rfl⟩ := List.mem_map.mp hd
      exact ⟨q.1, q.2, (hb q hq).1, (hb q hq).2, rfl⟩
    refine ws_set 6 nd (we_add (we_pure xe_int ⟨1, rfl, we_draw 0 gD r2 fx.gd xe_int (by decide) (by decide) fun r r0 r1 => ⟨r, rfl, ?_⟩⟩))
    have sh0 : 0 < 1 + r := by omega
    have sh1 : 1 + r < 2 ^ 64 := by omega
    have sh2 : 1 + r ≤ 4 := by omega
    clear r0 r1
    revert sh0 sh1 sh2
    generalize 1 + r = shown
    intro sh0 sh1 sh2
    show WSs _ _ [some (.pin v0 (.op (dw ⟨P, w, K⟩))), some (.da (.int most)), some (.da (.int (count : Nat))), some (.da (.int (size : Nat))), some (.da (.list ds)), none, some (.da (.int shown)), none, none, none, none, none, none, none, none, none, none, none, none, none] _
    refine ws_set 7 nd (we_frz (we_lcA [("state", 15)] (fun (p : Nat) Γ => Γ.set 15 (some (.da (.int p)))) (List.range size) (fun (p : Nat) => .int p) vD (fun _ _ (v : List Nat) => v.length = count ∧ ∀ y ∈ v, y < 4) fx (xi_rangeN B (xv 3) (by omega)) (by rw [List.length_range]; exact sz1000 (by omega)) (fun x hx s H C cl fp => gc_name 15 nd rfl) (fun i x hx s H C cl fp => ?va) fun vs hvl hvp => ⟨_, .ll, ?vb⟩))
    case va =>
      refine we_tupOf B (we_lcA [("version", 5)] (fun (v : Nat) Γ => Γ.set 5 (some (.da (.int v)))) (List.range count) (fun (v : Nat) => .int v) (fun (x : Nat) => .tuple [.int x]) (fun _ _ (y : Nat) => y < 4) fx.blk (xi_rangeN B (xv 2) (by omega)) (by rw [List.length_range]; exact sz1000 (by omega)) (fun x hx s H C cl fp => gc_name 5 nd rfl) (fun i x hx s H C cl fp => ?vc) fun v hvl hvp => ⟨_, rfl, v, .da, ⟨by rw [hvl, List.length_range], fun y hy => by
        obtain ⟨j, hj⟩ := List.mem_iff_getElem?.mp hy
        have hjn := (List.getElem?_eq_some_iff.mp hj).1
        exact hvp j _ y (List.getElem?_eq_getElem (by omega)) hj⟩, rfl⟩)
      refine we_tup (wa_cons (we_draw 0 gD r2 fx.gd (xv 6) sh0 sh1 fun r r0 r1 => ?_))
      obtain ⟨r, rfl⟩ := Int.eq_ofNat_of_zero_le r0
      exact wa_nil ⟨[.int (r : Nat)], rfl, by show 1 ≤ sizeLine; decide, r, .da, by omega, rfl⟩
    have hvw : ∀ s, s < size → (vs.getD s []).length = count ∧ ∀ y ∈ vs.getD s [], y < 4 := fun s hs => by
      rw [List.length_range] at hvl
      exact hvp s s _ (List.getElem?_range hs) (by rw [List.getElem?_eq_getElem (by omega)]; simp [List.getD, show s < vs.length by omega])
    clear hvp
    rw [List.length_range] at hvl
    show WSs _ _ [some (.pin v0 (.op (dw ⟨P, w, K⟩))), some (.da (.int most)), some (.da (.int (count : Nat))), some (.da (.int (size : Nat))), some (.da (.list ds)), none, some (.da (.int shown)), some (.da (.list (vs.map vD))), none, none, none, none, none, none, none, none, none, none, none, none] _
    have dl : ds.length ≤ 8 := by omega
    -- the columns
    refine ws_set 8 nd (we_frz (we_lcA [("deed", 16)] (fun (d : PyData) Γ => Γ.set 16 (some (.da d))) ds (fun d => d) rowD (fun _ _ c => c.length = size ∧ ∀ t ∈ c, t < size) fx (by rw [List.map_id']; exact xi_lst (xv 4)) (sz1000 (by omega)) (fun x hx s H C cl fp => gc_name 16 nd rfl) (fun i x hx s H C cl fp => ?ca) fun cols hcl hcol => ⟨_, .ll, ?_⟩))
    case ca => exact we_fnR gT fx.room fx.gd (wr_ref 0 (wr_da (xv 3) (wr_nil ⟨_, _, rfl, size, rfl, hs1.1, by omega, fun ts h1 h2 => ⟨ts, .ll, ⟨h1, h2⟩, rfl⟩⟩)))
    have hcols : ∀ c ∈ cols, c.length = size ∧ ∀ t ∈ c, t < size := fun c hc => by
      obtain ⟨i, hi⟩ := List.mem_iff_getElem?.mp hc
      have hin := (List.getElem?_eq_some_iff.mp hi).1
      exact hcol i _ c (List.getElem?_eq_getElem (by omega)) hi
    clear hcol
    show WSs _ _ [some (.pin v0 (.op (dw ⟨P, w, K⟩))), some (.da (.int most)), some (.da (.int (count : Nat))), some (.da (.int (size : Nat))), some (.da (.list ds)), none, some (.da (.int shown)), some (.da (.list (vs.map vD))), some (.da (.list (cols.map rowD))), none, none, none, none, none, none, none, none, none, none, none] _
    -- the moves
    refine xs_set 9 nd (xe_frz (xe_lcM [("state", 15)] (fun (p : Nat) Γ => Γ.set 15 (some (.da (.int p)))) (List.range size) (fun (p : Nat) => .int p) (fun i => .list (cols.map fun c => .int ((c.getD i 0 : Nat) : Int))) fx (R := fun i => .ll (cols.map fun c => .int ((c.getD i 0 : Nat) : Int))) (xi_rangeN B (xv 3) (by omega)) (by rw [List.length_range]; exact sz1000 (by omega)) (fun x hx s H C cl fp => gc_name 15 nd rfl) fun i hi s H C cl fp => ?_)) ?_
    · refine xe_lcM [("column", 17)] (fun (c : List Nat) Γ => Γ.set 17 (some (.da (rowD c)))) cols rowD (fun c => .int ((c.getD i 0 : Nat) : Int)) fx.blk (R := fun c => .da (.int ((c.getD i 0 : Nat) : Int))) (xi_lst (xv 8)) (sz1000 (by omega)) (fun c hc s H C cl fp => gc_name 17 nd rfl) fun c hc s H C cl fp => xe_ix (xv 17) (xv 15) (.inl rfl) (atI_codes ?_)
      rw [(hcols c hc).1]
      exact List.mem_range.mp hi
    have hmv : ((List.range size).map fun i => PyData.list (cols.map fun c => .int ((c.getD i 0 : Nat) : Int))) = ((List.range size).map fun i => cols.map fun c => c.getD i 0).map rowD := by
      rw [List.map_map]
      refine List.map_congr_left fun i _ => ?_
      show _ = PyData.list (List.map _ (cols.map _))
      rw [List.map_map]
      rfl
    rw [hmv]
    have hmr : ∀ r ∈ (List.range size).map fun i => cols.map fun c => c.getD i 0, r.length = ds.length ∧ ∀ a ∈ r, a < size := fun r hr => by
      obtain ⟨i, hi, rfl⟩ := List.mem_map.mp hr
      refine ⟨by rw [List.length_map, hcl], fun a ha => ?_⟩
      obtain ⟨c, hc, rfl⟩ := List.mem_map.mp ha
      have hi' := List.mem_range.mp hi
      obtain ⟨h1, h2⟩ := hcols c hc
      exact h2 _ (List.mem_of_getElem? (getD_get (by omega)))
    have hml : ((List.range size).map fun i => cols.map fun c => c.getD i 0).length = size := by simp
    revert hmr hml
    generalize ((List.range size).map fun i => cols.map fun c => c.getD i 0) = mv
    intro hmr hml
    show WSs _ _ [some (.pin v0 (.op (dw ⟨P, w, K⟩))), some (.da (.int most)), some (.da (.int (count : Nat))), some (.da (.int (size : Nat))), some (.da (.list ds)), none, some (.da (.int shown)), some (.da (.list (vs.map vD))), some (.da (.list (cols.map rowD))), some (.da (.list (mv.map rowD))), none, none, none, none, none, none, none, none, none, none] _
    -- the codes
    refine ws_set 10 nd (we_fnR gR r2 fx.gd (wr_da (xv 7) (wr_da (xv 9) (wr_nil ⟨_, _, rfl, vs, mv, rfl, by omega, by omega, fun r hr => ⟨by rw [(hmr r hr).1]; omega, fun a ha => by rw [hvl]; exact (hmr r hr).2 a ha⟩, fun cs hcs => ?_⟩))))
    rw [hvl] at hcs
    show WSs _ _ [some (.pin v0 (.op (dw ⟨P, w, K⟩))), some (.da (.int most)), some (.da (.int (count : Nat))), some (.da (.int (size : Nat))), some (.da (.list ds)), none, some (.da (.int shown)), some (.da (.list (vs.map vD))), some (.da (.list (cols.map rowD))), some (.da (.list (mv.map rowD))), some (.da (.list (ilist cs))), none, none, none, none, none, none, none, none, none] _
    obtain ⟨m, hm, hmx⟩ := ex_max (cs := cs) (fun e => by have := hcs.len; rw [e] at this; simp at this; omega)
    have hm1 := codes_bound hcs hm
    have hidx : ∀ c, c < m + 1 → c ∈ cs := fun c hc => hcs.down m hm c (by omega)
    refine xs_setLcM [("code", 18)] (fun (c : Nat) Γ => Γ.set 18 (some (.da (.int c)))) (List.range (m + 1)) (fun (c : Nat) => .int c) (fun c => .int ((fIx cs c : Nat) : Int)) 11 fx (R := fun c => .da (.int ((fIx cs c : Nat) : Int))) (xi_rangeN B (xe_cast (xe_add (xe_maxN 10 B rfl hm hmx) xe_int) (by omega)) (by omega)) (by rw [List.length_range]; exact sz1000 (by omega)) (fun x hx s H C cl fp => gc_name 18 nd rfl) (fun c hc s H C cl fp => ?fi) ?_
    case fi =>
      obtain ⟨g1, g2⟩ := fIx_spec (hidx c (List.mem_range.mp hc))
      refine xe_indexS 10 fx.blk.u65 (z := .int c) (xv 18) shaped_il rfl plain_ilist rfl (by rw [List.getElem?_map, g1]; rfl) (by rw [eqv_int]; simp) fun k z hk hz => ?_
      rw [List.getElem?_map] at hz
      obtain ⟨y, hy, rfl⟩ := Option.map_eq_some_iff.mp hz
      have := g2 k hk y hy
      rw [eqv_int, decide_eq_false_iff_not]
      omega
    have hfs : ((List.range (m + 1)).map fun c => PyData.int ((fIx cs c : Nat) : Int)) = ilist ((List.range (m + 1)).map (fIx cs)) := by
      show _ = List.map _ (List.map _ _)
      rw [List.map_map]
      rfl
    rw [hfs]
    have hfl : ((List.range (m + 1)).map (fIx cs)).length = m + 1 := by simp
    have hfm : ∀ x ∈ (List.range (m + 1)).map (fIx cs), x < size := fun x hx => by
      obtain ⟨c, hc, rfl⟩ := List.mem_map.mp hx
      have := (List.getElem?_eq_some_iff.mp (fIx_spec (hidx c (List.mem_range.mp hc))).1).1
      rwa [hcs.len] at this
    revert hfl hfm
    generalize (List.range (m + 1)).map (fIx cs) = fs
    intro hfl hfm
    refine ws_frz 11 .ll ?_
    show WSs _ _ [some (.pin v0 (.op (dw ⟨P, w, K⟩))), some (.da (.int most)), some (.da (.int (count : Nat))), some (.da (.int (size : Nat))), some (.da (.list ds)), none, some (.da (.int shown)), some (.da (.list (vs.map vD))), some (.da (.list (cols.map rowD))), some (.da (.list (mv.map rowD))), some (.da (.list (ilist cs))), some (.da (.list (ilist fs))), none, none, none, none, none, none, none, none] _
    refine ws_set 12 nd (we_tupOf B (we_lcA [("deed", 16)] (fun (d : PyData) Γ => Γ.set 16 (some (.da d))) ds (fun d => d) (fun (x : Nat) => .int x) (fun _ _ _ => True) fx (by rw [List.map_id']; exact xi_lst (xv 4)) (sz1000 (by omega)) (fun x hx s H C cl fp => gc_name 16 nd rfl) (fun i x hx s H C cl fp => ?sa) fun sts hsl _ => ⟨_, rfl, ?_⟩))
    case sa =>
      refine we_ix (we_pure (xv 10) ⟨_, _, rfl, .inl rfl, we_draw 0 gD r2 fx.gd (xv 3) (by omega) (by omega) fun r r0 r1 => ?_⟩)
      obtain ⟨r, rfl⟩ := Int.eq_ofNat_of_zero_le r0
      exact ⟨_, _, rfl, atI_codes (by rw [hcs.len]; omega), _, .da, trivial, rfl⟩
    show WSs _ _ [some (.pin v0 (.op (dw ⟨P, w, K⟩))), some (.da (.int most)), some (.da (.int (count : Nat))), some (.da (.int (size : Nat))), some (.da (.list ds)), none, some (.da (.int shown)), some (.da (.list (vs.map vD))), some (.da (.list (cols.map rowD))), some (.da (.list (mv.map rowD))), some (.da (.list (ilist cs))), some (.da (.list (ilist fs))), some (.da (.tuple (ilist sts))), none, none, none, none, none, none, none] _
    have hmvs : ∀ s, s < size → mv[s]? = some (mv.getD s []) := fun s hs => by
      rw [List.getElem?_eq_getElem (by omega)]
      simp [List.getD, show s < mv.length by omega]
    have hvvs : ∀ s, s < size → vs[s]? = some (vs.getD s []) := fun s hs => by
      rw [List.getElem?_eq_getElem (by omega)]
      simp [List.getD, show s < vs.length by omega]
    refine xs_set 13 nd (xe_tupL B (xe_lcM [("state", 15)] (fun (p : Nat) Γ => Γ.set 15 (some (.da (.int p)))) fs (fun (p : Nat) => .int p) (fun s => .tuple ((mv.getD s []).map fun a => .int ((cs.getD a 0 : Nat) : Int))) fx (R := fun s => .da (.tuple ((mv.getD s []).map fun a => .int ((cs.getD a 0 : Nat) : Int)))) (xi_lst (xv 11)) (sz1000 (by omega)) (fun x hx s H C cl fp => gc_name 15 nd rfl) fun i hi s H C cl fp => ?be)) ?_
    case be =>
      have hmi := hmvs i (hfm i hi)
      have hri := hmr _ (List.mem_of_getElem? hmi)
      refine xe_tupL B (xe_lcM [("after", 19)] (fun (a : Nat) Γ => Γ.set 19 (some (.da (.int a)))) (mv.getD i []) (fun (a : Nat) => .int a) (fun a => .int ((cs.getD a 0 : Nat) : Int)) fx.blk (R := fun a => .da (.int ((cs.getD a 0 : Nat) : Int))) (xi_lst (xe_ix (xv 9) (xv 15) (.inl rfl) (atI_nat (by rw [List.getElem?_map, hmi]; rfl)))) (sz1000 (by omega)) (fun x hx s H C cl fp => gc_name 19 nd rfl) fun a ha s H C cl fp => xe_ix (xv 10) (xv 19) (.inl rfl) (atI_codes (by rw [hcs.len]; exact hri.2 a ha)))
    refine xs_ret (xe_tup5 xe_str (xe_tupN B (xv 4)) (xv 12) (xe_tupL B (xe_lcM [("state", 15)] (fun (p : Nat) Γ => Γ.set 15 (some (.da (.int p)))) fs (fun (p : Nat) => .int p) (fun s => vD (vs.getD s [])) fx (R := fun s => .da (vD (vs.getD s []))) (xi_lst (xv 11)) (sz1000 (by omega)) (fun x hx s H C cl fp => gc_name 15 nd rfl) fun i hi s H C cl fp => xe_ix (xv 7) (xv 15) (.inl rfl) (atI_nat (by rw [List.getElem?_map, hvvs i (hfm i hi)]; rfl)))) (xv 13)) ⟨_, .own (.da .nil), ?_⟩
    let b : Bk := ⟨ds, .tuple (ilist sts), fs.map fun s => vD (vs.getD s []), fs.map fun s => (mv.getD s []).map fun a => cs.getD a 0⟩
    have hb : b.data = .tuple [.str "book", tnD ds, .tuple (ilist sts), .tuple (fs.map fun s => vD (vs.getD s [])), .tuple (fs.map fun s => .tuple ((mv.getD s []).map fun a => .int ((cs.getD a 0 : Nat) : Int)))] := by
      have e : b.beh.map rowT = fs.map fun s => .tuple ((mv.getD s []).map fun a => .int ((cs.getD a 0 : Nat) : Int)) := by
        show List.map _ (fs.map _) = _
        rw [List.map_map]
        refine List.map_congr_left fun s _ => ?_
        show PyData.tuple (List.map _ (List.map _ _)) = _
        rw [List.map_map]
        rfl
      unfold Bk.data
      rw [e]
    rw [← hb]
    have bn : b.n = m + 1 := by
      show (fs.map _).length = _
      rw [List.length_map, hfl]
    refine hq b count ⟨by omega, by omega, by rw [bn]; show (fs.map _).length = _; rw [List.length_map, hfl], dl, fun r hr => ?_, fun d hd => ?_, fun d hd d' hd' => ?_⟩ ⟨hc1.1, hc1.2, let ⟨vps, e, _, hb, pw⟩ := hdd; ⟨vps, e, hb, pw⟩, by obtain ⟨vps, e, hl, _⟩ := hdd; show 0 < ds.length; rw [e, List.length_map]; omega, ⟨sts, rfl, hsl⟩, fun v hv => ?_⟩ ?_
    · obtain ⟨s, hs, rfl⟩ := List.mem_map.mp hr
      have hri := hmr _ (List.mem_of_getElem? (hmvs s (hfm s hs)))
      refine ⟨by rw [List.length_map]; exact hri.1, fun a ha => ?_⟩
      obtain ⟨c, hc, rfl⟩ := List.mem_map.mp ha
      rw [bn]
      have := hmx _ (List.mem_of_getElem? (getD_get (cs := cs) (a := c) (by rw [hcs.len]; exact hri.2 c hc)))
      omega
    · obtain ⟨v, p, h1, h2, rfl⟩ := hds.2 d hd
      exact eD_fn (by omega) (by omega)
    · obtain ⟨v, p, _, _, rfl⟩ := hds.2 d hd
      obtain ⟨v', p', _, _, rfl⟩ := hds.2 d' hd'
      exact eD_alike ..
    · obtain ⟨c, hc, rfl⟩ := List.mem_map.mp hv
      obtain ⟨h1, h2⟩ := hvw c (hfm c hc)
      exact ⟨_, h1, h2, rfl⟩
    · omega
end
end Law

namespace Law
open PySem PySem.Spec PyProof.Rows L2 TL
/-! ### pairs -/
abbrev Pr := Nat × Nat
abbrev PL := List (Pr × List PyData)
def pK (q : Pr) : NestedKey := .tup [.num q.1, .num q.2]
def pD (q : Pr) : PyData := .tuple [.int q.1, .int q.2]
theorem pK_data (q : Pr) : (pK q).data = pD q := by
  unfold pK
  rw [nkd_tup]
  rfl
theorem pK_inj : ∀ a b : Pr, pK a = pK b → a = b := fun a b h => by
  unfold pK at h
  injection h with h
  injection h with h1 h2
  injection h1 with h1
  injection h2 with h2 _
  injection h2 with h2
  exact Prod.ext (Int.ofNat.inj h1) (Int.ofNat.inj h2)
theorem pK_ok (q : Pr) : KOk (pK q) := ⟨⟨_, rfl⟩, by show _ ≤ 8; simp [pK, NestedKey.depth, NestedKey.depthAll]⟩
abbrev plD (m : PL) : NL := m.map fun q => (pK q.1, .tuple q.2)
abbrev metD (M : List Pr) : NL := M.map fun q => (pK q, .bool true)
theorem plD_ok {m : PL} : KsOk (plD m) := fun q hq => by
  obtain ⟨p, _, rfl⟩ := List.mem_map.mp hq
  exact pK_ok _
theorem metD_ok {M : List Pr} : KsOk (metD M) := fun q hq => by
  obtain ⟨p, _, rfl⟩ := List.mem_map.mp hq
  exact pK_ok _
theorem kget_pl {m : PL} {a : Pr} : kget (plD m) (pK a) = (kget m a).map PyData.tuple := kget_map (f := pK) (g := PyData.tuple) pK_inj
theorem kput_pl {m : PL} {a : Pr} {r : List PyData} : kput (plD m) (pK a) (.tuple r) = plD (kput m a r) := kput_map (f := pK) (g := PyData.tuple) pK_inj
theorem metD_eq {M : List Pr} : metD M = (M.map fun q => (q, ())).map fun p => (pK p.1, (fun _ => PyData.bool true) p.2) := by rw [List.map_map]; rfl
theorem kget_met {M : List Pr} {a : Pr} : (kget (metD M) (pK a)).isSome = decide (a ∈ M) := by
  rw [metD_eq, kget_map (f := pK) (g := fun _ => PyData.bool true) pK_inj, Option.isSome_map, kget_mem, List.map_map]
  congr 1
  show (a ∈ M.map fun q => q) = _
  rw [List.map_id']
theorem kput_met {M : List Pr} {a : Pr} : kput (metD M) (pK a) (.bool true) = metD (if a ∈ M then M else M ++ [a]) := by
  have h : (M.any fun q => decide (q = a)) = decide (a ∈ M) := by
    rw [Bool.eq_iff_iff]
    simp
  have e := kput_map (f := pK) (g := fun _ : Unit => PyData.bool true) pK_inj (m := M.map fun q => (q, ())) (k := a) (v := ())
  rw [← metD_eq] at e
  rw [e]
  unfold kput
  have h2 : ((M.map fun q => (q, ())).any fun q => decide (q.1 = a)) = decide (a ∈ M) := by rw [List.any_map]; exact h
  rw [h2]
  by_cases hm : a ∈ M
  · rw [if_pos (decide_eq_true hm), if_pos hm, List.map_map, List.map_map]
    refine List.map_congr_left fun q _ => ?_
    show (pK (if q = a then (q, ()) else (q, ())).1, PyData.bool true) = _
    split <;> rfl
  · rw [if_neg (by simp [hm]), if_neg hm, List.map_append, List.map_map]
    show _ = List.map _ _
    rw [List.map_append]
    rfl
abbrev ltR (r q : List PyData) : Bool := PySem.W.dataLt (.tuple r) (.tuple q)
def lowP (f : PL) (a : Pr) (r : List PyData) : PL := match kget f a with
  | none => kput f a r
  | some q => if ltR r q = true then kput f a r else f
theorem lowP_none {f : PL} {a : Pr} {r : List PyData} (e : kget f a = none) : lowP f a r = kput f a r := by
  unfold lowP
  rw [e]
theorem lowP_yes {f : PL} {a : Pr} {r q : List PyData} (e : kget f a = some q) (h : ltR r q = true) : lowP f a r = kput f a r := by
  unfold lowP
  rw [e]
  exact if_pos h
theorem lowP_no {f : PL} {a : Pr} {r q : List PyData} (e : kget f a = some q) (h : ltR r q = false) : lowP f a r = f := by
  unfold lowP
  rw [e]
  exact if_neg (by rw [h]; simp)
def spLow : SpD := fun as Ψ => ∃ (f : PL) (a : Pr) (r : List PyData), as = [.dm (plD f), .da (pD a), .da (.tuple r)] ∧ f.length < sizeLine ∧ (PyData.tuple r).plain = true ∧ (PyData.tuple r).depth ≤ 60 ∧ (∀ q, kget f a = some q → (PyData.tuple q).plain = true ∧ PySem.W.alike (.tuple r) (.tuple q) = true) ∧
  Ψ (.da .none) [.dm (plD (lowP f a r)), .da (pD a), .da (.tuple r)]
section
variable {P : Program} {w : World} {K : PySem.W.Frag} {mg : Str → Option Value} {bs h : Heap} (X : K.In h) (G : h.Ns mainGlobals mg) (B : Blt mg)
include X G B
theorem d_keep (D : DK K "keep_least" s_keep_least) : Def P w K mg bs 1 "keep_least" ["rows", "pair", "row"] spLow := by
  refine def_ok X G D sc_keep_least (fun f fd F => F.binds (ps := ["rows", "pair", "row"]) fun _ _ _ _ _ _ us hl => match us, hl with | [_, _, _], _ => rfl) (fun as Ψ h => by obtain ⟨_, _, _, rfl, _⟩ := h; rfl) fun f cdv A fr s H E fx as Ψ us hsp hl => ?_
  obtain ⟨m, a, r, rfl, hz, pr, dr, hk, hq⟩ := hsp
  obtain ⟨v0, v1, v2, rfl⟩ := ar3 hl
  show WSs _ _ [some (.pin v0 (.dm (plD m))), some (.da (pD a)), some (.da (.tuple r))] _
  have nd := fx.nd
  have kx : ∀ {Γ : Sl} {e : Expr} {X' : Cx}, XE X' e Γ (.da (pD a)) Γ → XE X' e Γ (.da (pK a).data) Γ := fun h => xe_castD h (pK_data a).symm
  have hz' : (plD m).length < sizeLine := by rw [List.length_map]; exact hz
  cases e : kget m a with
  | none =>
    rw [lowP_none e] at hq
    refine xs_if (xt_or2 (k := true) (k2 := true) (xt_cast (xt_nninS 0 fx.u16 plD_ok (pK_ok a) (kx (xv 1))) (by rw [kget_pl, e]; rfl)) (fun q => by cases q)) (fun _ => ?_) fun q => by cases q
    refine ws_nput 0 fx.u16 (we_pure (xv 2) ⟨_, pK a, _, _, _, rfl, rfl, .pin, plD_ok, pK_ok a, hz', kx (xv 1), ws_nil (ws_nil ⟨_, .own (.da (.da .nil)), ?_⟩)⟩)
    rw [kput_pl]
    exact hq
  | some q =>
    obtain ⟨pq, al⟩ := hk q e
    refine xs_if (xt_or2 (k := false) (xt_cast (xt_nninS 0 fx.u16 plD_ok (pK_ok a) (kx (xv 1))) (by rw [kget_pl, e]; rfl)) (fun _ => xt_ltP fx.u (xv 2) (xe_ngetS 0 fx.u16 plD_ok (pK_ok a) (kx (xv 1)) (by rw [kget_pl, e]; rfl)) pr pq al (by simp) dr)) (fun hc => ?_) fun hc => ?_
    · rw [Bool.false_or] at hc
      rw [lowP_yes e hc] at hq
      refine ws_nput 0 fx.u16 (we_pure (xv 2) ⟨_, pK a, _, _, _, rfl, rfl, .pin, plD_ok, pK_ok a, hz', kx (xv 1), ws_nil (ws_nil ⟨_, .own (.da (.da .nil)), ?_⟩)⟩)
      rw [kput_pl]
      exact hq
    · rw [Bool.false_or] at hc
      rw [lowP_no e hc] at hq
      exact ws_nil (ws_nil ⟨_, .own (.da (.da .nil)), hq⟩)
theorem d_lower (D : DK K "_law_lower" s_l_lower) : Def P w K mg bs 1 "_law_lower" ["level", "state", "row"] spLow := by
  refine def_ok X G D sc_l_lower (fun f fd F => F.binds (ps := ["level", "state", "row"]) fun _ _ _ _ _ _ us hl => match us, hl with | [_, _, _], _ => rfl) (fun as Ψ h => by obtain ⟨_, _, _, rfl, _⟩ := h; rfl) fun f cdv A fr s H E fx as Ψ us hsp hl => ?_
  obtain ⟨m, a, r, rfl, hz, pr, dr, hk, hq⟩ := hsp
  obtain ⟨v0, v1, v2, rfl⟩ := ar3 hl
  show WSs _ _ [some (.pin v0 (.dm (plD m))), some (.da (pD a)), some (.da (.tuple r))] _
  have nd := fx.nd
  have kx : ∀ {Γ : Sl} {e : Expr} {X' : Cx}, XE X' e Γ (.da (pD a)) Γ → XE X' e Γ (.da (pK a).data) Γ := fun h => xe_castD h (pK_data a).symm
  have hz' : (plD m).length < sizeLine := by rw [List.length_map]; exact hz
  cases e : kget m a with
  | none =>
    rw [lowP_none e] at hq
    refine xs_if (xt_or2 (k := true) (k2 := true) (xt_cast (xt_nninS 0 fx.u16 plD_ok (pK_ok a) (kx (xv 1))) (by rw [kget_pl, e]; rfl)) (fun q => by cases q)) (fun _ => ?_) fun q => by cases q
    refine ws_nput 0 fx.u16 (we_pure (xv 2) ⟨_, pK a, _, _, _, rfl, rfl, .pin, plD_ok, pK_ok a, hz', kx (xv 1), ws_nil (ws_nil ⟨_, .own (.da (.da .nil)), ?_⟩)⟩)
    rw [kput_pl]
    exact hq
  | some q =>
    obtain ⟨pq, al⟩ := hk q e
    refine xs_if (xt_or2 (k := false) (xt_cast (xt_nninS 0 fx.u16 plD_ok (pK_ok a) (kx (xv 1))) (by rw [kget_pl, e]; rfl)) (fun _ => xt_ltP fx.u (xv 2) (xe_ngetS 0 fx.u16 plD_ok (pK_ok a) (kx (xv 1)) (by rw [kget_pl, e]; rfl)) pr pq al (by simp) dr)) (fun hc => ?_) fun hc => ?_
    · rw [Bool.false_or] at hc
      rw [lowP_yes e hc] at hq
      refine ws_nput 0 fx.u16 (we_pure (xv 2) ⟨_, pK a, _, _, _, rfl, rfl, .pin, plD_ok, pK_ok a, hz', kx (xv 1), ws_nil (ws_nil ⟨_, .own (.da (.da .nil)), ?_⟩)⟩)
      rw [kput_pl]
      exact hq
    · rw [Bool.false_or] at hc
      rw [lowP_no e hc] at hq
      exact ws_nil (ws_nil ⟨_, .own (.da (.da .nil)), hq⟩)
end
end Law

namespace Law
open PySem PySem.Spec PyProof.Rows L2 TL
/-! ### the pairs behind a level -/
theorem szl {n : Nat} (h : n ≤ 1000000) : n ≤ sizeLine := by rw [sizeLine_eq]; omega
theorem szlt {n : Nat} (h : n < 1000000) : n < sizeLine := by rw [sizeLine_eq]; omega
abbrev rowOf (b : Bk) (c : Nat) : List Nat := b.beh.getD c []
def z3 (b : Bk) (q : Pr) : List (PyData × Nat × Nat) := b.deeds.zip ((rowOf b q.1).zip (rowOf b q.2))
def stepB (M : List Pr) (row : List PyData) (f : PL) (p : PyData × Nat × Nat) : PL := if p.2 ∈ M then f else lowP f p.2 (row ++ [p.1])
def behR (b : Bk) (M : List Pr) (f : PL) (q : Pr × List PyData) : PL := (z3 b q.1).foldl (stepB M q.2) f
def behind (b : Bk) (M : List Pr) (L : PL) : PL := L.foldl (behR b M) []
structure RowOk (b : Bk) (k : Nat) (r : List PyData) : Prop where
  len : r.length ≤ k
  mem : ∀ d ∈ r, d ∈ b.deeds
structure POk (b : Bk) (k : Nat) (m : PL) : Prop where
  nd : (m.map (·.1)).Nodup
  lt : ∀ p ∈ m, p.1.1 < b.n ∧ p.1.2 < b.n
  row : ∀ p ∈ m, RowOk b k p.2
theorem pairs_len {n : Nat} {M : List Pr} (nd : M.Nodup) (lt : ∀ p ∈ M, p.1 < n ∧ p.2 < n) : M.length ≤ n * n := by
  have hs : M ⊆ (List.range n).flatMap fun c => (List.range n).map fun d => (c, d) := fun x hx => by
    obtain ⟨h1, h2⟩ := lt x hx
    exact List.mem_flatMap.mpr ⟨x.1, List.mem_range.mpr h1, List.mem_map.mpr ⟨x.2, List.mem_range.mpr h2, rfl⟩⟩
  have := List.Nodup.length_le_of_subset nd hs
  have e : ((List.range n).flatMap fun c => (List.range n).map fun d => (c, d)).length = n * n := by
    rw [List.length_flatMap]
    simp [List.map_const']
  rwa [e] at this
theorem POk.len {b : Bk} {k : Nat} {m : PL} (h : POk b k m) : m.length ≤ b.n * b.n := by
  have := pairs_len h.nd fun p hp => by
    obtain ⟨q, hq, rfl⟩ := List.mem_map.mp hp
    exact h.lt q hq
  rwa [List.length_map] at this
theorem nn_le {b : Bk} (ok : b.Ok) : b.n * b.n ≤ 3600 := Nat.mul_le_mul ok.n2 ok.n2
theorem POk.small {b : Bk} {k : Nat} {m : PL} (ok : b.Ok) (h : POk b k m) : m.length ≤ 3600 := Nat.le_trans h.len (nn_le ok)
theorem POk.nil {b : Bk} {k : Nat} : POk b k [] := ⟨List.nodup_nil, by simp, by simp⟩
theorem kput_mem {κ β : Type} [DecidableEq κ] {m : List (κ × β)} {k : κ} {v : β} {p : κ × β} (h : p ∈ kput m k v) : p ∈ m ∨ p = (k, v) := by
  unfold kput at h
  split at h
  · obtain ⟨q, hq, rfl⟩ := List.mem_map.mp h
    by_cases e : q.1 = k
    · simp [e]
    · simp [e, hq]
  · rcases List.mem_append.mp h with h | h
    · exact .inl h
    · simp at h
      exact .inr h
theorem POk.put {b : Bk} {k : Nat} {m : PL} (h : POk b k m) {a : Pr} {r : List PyData} (ha : a.1 < b.n ∧ a.2 < b.n) (hr : RowOk b k r) : POk b k (kput m a r) :=
  ⟨kput_nodup h.nd, fun p hp => (kput_mem hp).elim (h.lt p) fun e => by rw [e]; exact ha, fun p hp => (kput_mem hp).elim (h.row p) fun e => by rw [e]; exact hr⟩
theorem POk.lower {b : Bk} {k : Nat} {m : PL} (h : POk b k m) {a : Pr} {r : List PyData} (ha : a.1 < b.n ∧ a.2 < b.n) (hr : RowOk b k r) : POk b k (lowP m a r) := by
  unfold lowP
  split
  · exact h.put ha hr
  · split
    · exact h.put ha hr
    · exact h
theorem alikeAll_of {ds : List PyData} (al : PySem.W.AllAlike ds) : ∀ {r q : List PyData}, (∀ d ∈ r, d ∈ ds) → (∀ d ∈ q, d ∈ ds) → PySem.W.alikeAll r q = true
  | [], _, _, _ => by simp [PySem.W.alikeAll]
  | _ :: _, [], _, _ => by simp [PySem.W.alikeAll]
  | x :: r, y :: q, h1, h2 => by
    simp only [PySem.W.alikeAll, Bool.and_eq_true]
    exact ⟨al x (h1 x List.mem_cons_self) y (h2 y List.mem_cons_self), alikeAll_of al (fun d hd => h1 d (List.mem_cons_of_mem _ hd)) fun d hd => h2 d (List.mem_cons_of_mem _ hd)⟩
theorem row_fn {b : Bk} (ok : b.Ok) {k : Nat} {r : List PyData} (h : RowOk b k r) : Fn 4 (k * 201) (.tuple r) := Fn.tup (n := 3) (w := 200) (fun d hd => ok.dfn d (h.mem d hd)) (Nat.mul_le_mul_right _ h.len)
theorem row_alike {b : Bk} (ok : b.Ok) {k k' : Nat} {r q : List PyData} (h : RowOk b k r) (h' : RowOk b k' q) : PySem.W.alike (.tuple r) (.tuple q) = true := by
  rw [PySem.W.alike]
  exact alikeAll_of ok.dal h.mem h'.mem
theorem beh_row {b : Bk} (ok : b.Ok) {c : Nat} (hc : c < b.n) : b.beh[c]? = some (rowOf b c) ∧ (rowOf b c).length = b.deeds.length ∧ ∀ a ∈ rowOf b c, a < b.n := by
  have e : b.beh[c]? = some (rowOf b c) := by
    have hc' : c < b.beh.length := hc
    rw [List.getElem?_eq_getElem hc']
    simp [rowOf, List.getD, hc']
  exact ⟨e, ok.row _ (List.mem_of_getElem? e)⟩
theorem z3_ok {b : Bk} (ok : b.Ok) {q : Pr} (h1 : q.1 < b.n) (h2 : q.2 < b.n) : ∀ p ∈ z3 b q, p.1 ∈ b.deeds ∧ p.2.1 < b.n ∧ p.2.2 < b.n := fun p hp => by
  obtain ⟨g1, g2⟩ := List.of_mem_zip (a := p.1) (b := p.2) hp
  obtain ⟨g3, g4⟩ := List.of_mem_zip (a := p.2.1) (b := p.2.2) g2
  exact ⟨g1, (beh_row ok h1).2.2 _ g3, (beh_row ok h2).2.2 _ g4⟩
theorem stepB_ok {b : Bk} {k : Nat} {M : List Pr} {row : List PyData} (hr : RowOk b k row) {f : PL} (h : POk b (k + 1) f) {p : PyData × Nat × Nat} (hp : p.1 ∈ b.deeds ∧ p.2.1 < b.n ∧ p.2.2 < b.n) : POk b (k + 1) (stepB M row f p) := by
  unfold stepB
  split
  · exact h
  · refine h.lower hp.2 ⟨by rw [List.length_append]; have := hr.len; simp; omega, fun d hd => ?_⟩
    rcases List.mem_append.mp hd with hd | hd
    · exact hr.mem d hd
    · rw [List.mem_singleton.mp hd]
      exact hp.1
theorem behR_ok {b : Bk} {k : Nat} {M : List Pr} {row : List PyData} (hr : RowOk b k row) : ∀ (ps : List (PyData × Nat × Nat)) (f : PL), (∀ p ∈ ps, p.1 ∈ b.deeds ∧ p.2.1 < b.n ∧ p.2.2 < b.n) → POk b (k + 1) f → POk b (k + 1) (ps.foldl (stepB M row) f)
  | [], f, _, h => h
  | p :: ps, f, hp, h => behR_ok hr ps _ (fun x hx => hp x (List.mem_cons_of_mem _ hx)) (stepB_ok hr h (hp p List.mem_cons_self))
theorem behind_go {b : Bk} (ok : b.Ok) {k : Nat} {M : List Pr} : ∀ (L : PL) (f : PL), (∀ p ∈ L, p.1.1 < b.n ∧ p.1.2 < b.n) → (∀ p ∈ L, RowOk b k p.2) → POk b (k + 1) f → POk b (k + 1) (L.foldl (behR b M) f)
  | [], f, _, _, h => h
  | q :: L, f, h1, h2, h => behind_go ok L _ (fun p hp => h1 p (List.mem_cons_of_mem _ hp)) (fun p hp => h2 p (List.mem_cons_of_mem _ hp)) (behR_ok (h2 q List.mem_cons_self) _ _ (z3_ok ok (h1 q List.mem_cons_self).1 (h1 q List.mem_cons_self).2) h)
theorem behind_ok {b : Bk} (ok : b.Ok) {k : Nat} {M : List Pr} {L : PL} (h : POk b k L) : POk b (k + 1) (behind b M L) := behind_go ok L [] h.lt h.row .nil
theorem kget_row {b : Bk} {k : Nat} {m : PL} (h : POk b k m) {a : Pr} {r : List PyData} (e : kget m a = some r) : RowOk b k r := h.row _ (kget_some_mem e)
def spBehind : SpD := fun as Ψ => ∃ (b : Bk) (M : List Pr) (L : PL) (k : Nat), as = [.da b.data, .da (dnD (plD L)), .dm (metD M)] ∧ b.Ok ∧ k ≤ 4000 ∧ POk b k L ∧ Ψ (.dm (plD (behind b M L))) as
section
variable {X : Cx} {a c e : Expr} {Γ : Sl} {b : Bk} {q : Pr} {pos p1 p2 : Pos}
/-- book[4][c] -/
theorem xe_beh (i : Nat) {nm : Str} {k4 : Nat} {p3 p4 : Pos} (ok : b.Ok) {n : Nat} (hn : n < b.n) (hx : Γ[i]? = some (some (.da b.data))) (hc : XE X c Γ (.da (.int (n : Nat))) Γ) (hs : PlainIx c := by exact fun _ _ => rfl) (hN : X.N[i]? = some nm := by rfl) (hv : Vis X.env.scope nm := by first | exact Or.inl rfl | exact Or.inr (Or.inl rfl) | exact Or.inr (Or.inr rfl))
    (h1 : (nm == ("__debug__" : Str)) = false := by decide) (h2 : (nm == ("__classdict__" : Str)) = false := by decide) : XE X (.Subscript (.Subscript (.Name nm p1) (.Constant (.int 4) k4 p3) p4) c pos) Γ (.da (rowT (rowOf b n))) Γ :=
  xe_ix (xe_ix (xe_var (i := i) hN hv hx h1 h2) xe_int (.inr rfl) rfl) hc (.inr rfl) (atI_nat (by rw [List.getElem?_map, (beh_row ok hn).1]; rfl)) hs
end
section
variable {X : Cx} {it tg : Expr} {elts : List Expr} {kk : Nat} {tpos apos cpos : Pos} {Γ Γ1 : Sl} {L : PL}
theorem xi_itemsPL (h : XE X it Γ (.da (dnD (plD L))) Γ1) (hbase : attributeBase it "items" X.env (eval it X.env) = eval it X.env := by rfl) (hline : (apos.endLine == cpos.line) = true := by rfl) : XI X (.Tuple elts kk tpos) (.Call (.Attribute it "items" apos) [] [] cpos) Γ (L.map fun q => .tuple [pD q.1, .tuple q.2]) Γ1 := by
  have := xi_itemsP (elts := elts) (kk := kk) (tpos := tpos) (apos := apos) (cpos := cpos) (plD_ok (m := L)) h hbase hline
  rw [List.map_map] at this
  have e : (L.map fun q => PyData.tuple [pD q.1, .tuple q.2]) = L.map ((fun p : NestedKey × PyData => PyData.tuple [p.1.data, p.2]) ∘ fun q => (pK q.1, .tuple q.2)) := List.map_congr_left fun q _ => by
    show _ = PyData.tuple [(pK q.1).data, .tuple q.2]
    rw [pK_data]
  rw [e]
  exact this
theorem xi_keysPL (h : XE X it Γ (.da (dnD (plD L))) Γ1) : XI X tg it Γ (L.map fun q => pD q.1) Γ1 := by
  have := xi_keysP (tg := tg) (plD_ok (m := L)) h
  rw [List.map_map] at this
  have e : (L.map fun q => pD q.1) = L.map ((fun p : NestedKey × PyData => p.1.data) ∘ fun q => (pK q.1, .tuple q.2)) := List.map_congr_left fun q _ => (pK_data q.1).symm
  rw [e]
  exact this
theorem xi_keysM {M : List Pr} (h : XE X it Γ (.da (dnD (metD M))) Γ1) : XI X tg it Γ (M.map pD) Γ1 := by
  have := xi_keysP (tg := tg) (metD_ok (M := M)) h
  rw [List.map_map] at this
  have e : M.map pD = M.map ((fun p : NestedKey × PyData => p.1.data) ∘ fun q => (pK q, .bool true)) := List.map_congr_left fun q _ => (pK_data q).symm
  rw [e]
  exact this
end
section
variable {P : Program} {w : World} {K : PySem.W.Frag} {mg : Str → Option Value} {bs h : Heap} (X : K.In h) (G : h.Ns mainGlobals mg) (B : Blt mg)
include X G B
theorem d_behind (D : DK K "pairs_behind" s_pairs_behind) (gK : Def P w K mg bs 1 "keep_least" ["rows", "pair", "row"] spLow) : Def P w K mg bs 2 "pairs_behind" ["book", "level", "met"] spBehind := by
  refine def_ok X G D sc_pairs_behind (fun f fd F => F.binds (ps := ["book", "level", "met"]) fun _ _ _ _ _ _ us hl => match us, hl with | [_, _, _], _ => rfl) (fun as Ψ h => by obtain ⟨_, _, _, _, rfl, _⟩ := h; rfl) fun f cdv A fr s H E fx as Ψ us hsp hl => ?_
  obtain ⟨b, M, L, k, rfl, ok, hk, pok, hq⟩ := hsp
  obtain ⟨v0, v1, v2, rfl⟩ := ar3 hl
  have nd := fx.nd
  have r1 := fx.room.mono (show 1 ≤ 1 by decide)
  show WSs _ _ [some (.da b.data), some (.da (dnD (plD L))), some (.pin v2 (.dm (metD M))), none, none, none, none, none, none] _
  refine xs_set 3 nd xe_dictM0 ?_
  have hL := pok.small ok
  refine ws_forT fx L (fun q => .tuple [pD q.1, .tuple q.2]) (fun f : PL => [some (.da b.data), some (.da (dnD (plD L))), some (.pin v2 (.dm (metD M))), some (.dm (plD f)), none, none, none, none, none]) (fun n f => f = (L.take n).foldl (behR b M) [] ∧ POk b (k + 1) f) [] (xi_itemsPL (xv 1)) ⟨rfl, .nil⟩ rfl ?_ ?_
  · rintro n q f0 hq0 ⟨rfl, pf⟩
    have hm := List.mem_of_getElem? hq0
    obtain ⟨l1, l2⟩ := pok.lt q hm
    have hr := pok.row q hm
    refine wg_tup rfl (wgs_cons (wg_name 4 nd (wgs_cons (wg_name 5 nd (wgs_nil ?_)))))
    generalize hF : (L.take n).foldl (behR b M) [] = F0 at pf
    show WSs _ _ [some (.da b.data), some (.da (dnD (plD L))), some (.pin v2 (.dm (metD M))), some (.dm (plD F0)), some (.da (pD q.1)), some (.da (.tuple q.2)), none, none, none] _
    refine ws_forT fx (z3 b q.1) (fun p => .tuple [p.1, .int (p.2.1 : Nat), .int (p.2.2 : Nat)]) (fun f : PL => [some (.da b.data), some (.da (dnD (plD L))), some (.pin v2 (.dm (metD M))), some (.dm (plD f)), some (.da (pD q.1)), some (.da (.tuple q.2)), none, none, none]) (fun m f => f = ((z3 b q.1).take m).foldl (stepB M q.2) F0 ∧ POk b (k + 1) f) F0
      (xi_zip3 (E1 := fun d => d) (E2 := fun (n : Nat) => .int n) (E3 := fun (n : Nat) => .int n) (xs := b.deeds) (ys := rowOf b q.1.1) (zs := rowOf b q.1.2) B (xe_castD (xe_tn (xe_ix (xv 0) xe_int (.inr rfl) rfl)) (by rw [List.map_id'])) (xe_beh 0 ok l1 rfl (xe_ix (xv 4) xe_int (.inr rfl) rfl)) (xe_beh 0 ok l2 rfl (xe_ix (xv 4) xe_int (.inr rfl) rfl))) ⟨rfl, pf⟩ rfl ?_ ?_
    · rintro m p f1 hp ⟨rfl, pf1⟩
      have hpo := z3_ok ok l1 l2 p (List.mem_of_getElem? hp)
      refine wg_tup rfl (wgs_cons (wg_name 6 nd (wgs_cons (wg_name 7 nd (wgs_cons (wg_name 8 nd (wgs_nil ?_)))))))
      have next : ((z3 b q.1).take (m + 1)).foldl (stepB M q.2) F0 = stepB M q.2 (((z3 b q.1).take m).foldl (stepB M q.2) F0) p := by
        rw [List.take_succ, hp, List.foldl_append]
        rfl
      have nok := stepB_ok (M := M) hr pf1 hpo
      rw [← next] at nok
      generalize hG : ((z3 b q.1).take m).foldl (stepB M q.2) F0 = F1 at pf1 next
      show WSs _ _ [some (.da b.data), some (.da (dnD (plD L))), some (.pin v2 (.dm (metD M))), some (.dm (plD F1)), some (.da (pD q.1)), some (.da (.tuple q.2)), some (.da p.1), some (.da (.int (p.2.1 : Nat))), some (.da (.int (p.2.2 : Nat)))] _
      refine xs_if (xt_cast (xt_nninS 2 fx.u16 metD_ok (pK_ok p.2) (xe_castD (xe_tup2 (xv 7) (xv 8)) (pK_data p.2).symm)) (by rw [kget_met])) (fun hc => ?_) fun hc => ?_
      · have hnm : p.2 ∉ M := by simpa using hc
        have hst : stepB M q.2 F1 p = lowP F1 p.2 (q.2 ++ [p.1]) := if_neg hnm
        have hr2 : RowOk b (k + 1) (q.2 ++ [p.1]) := ⟨by rw [List.length_append]; have := hr.len; simp; omega, fun d hd => by
          rcases List.mem_append.mp hd with hd | hd
          · exact hr.mem d hd
          · rw [List.mem_singleton.mp hd]
            exact hpo.1⟩
        have fn := row_fn ok hr2
        refine ws_expr (we_fnR gK r1 fx.gd (wr_ref 3 (wr_da (xe_tup2 (xv 7) (xv 8)) (wr_da (xe_catT (ds := q.2) (es' := [p.1]) (by have := hr.len; exact szl (by show _ + 1 ≤ _; omega)) (xv 5) (xe_tup1 (xv 6))) (wr_nil ⟨_, _, rfl, F1, p.2, q.2 ++ [p.1], rfl, ?_, fn.plain, Nat.le_trans fn.depth (by decide), fun r hr' => ⟨(row_fn ok (kget_row pf1 hr')).plain, row_alike ok hr2 (kget_row pf1 hr')⟩, ?_⟩)))))
        · have := pf1.small ok
          exact szlt (by omega)
        · refine ws_nil (ws_drop 6 (ws_drop 7 (ws_drop 8 (ws_nil ⟨_, ⟨rfl, nok⟩, ?_⟩))))
          rw [next, hst]
          rfl
      · have hm2 : p.2 ∈ M := by simpa using hc
        have hst : stepB M q.2 F1 p = F1 := if_pos hm2
        refine ws_nil (ws_drop 6 (ws_drop 7 (ws_drop 8 (ws_nil ⟨_, ⟨rfl, nok⟩, ?_⟩))))
        rw [next, hst]
        rfl
    · rintro f1 ⟨rfl, pf1⟩
      rw [List.take_length] at pf1 ⊢
      have e : (L.take (n + 1)).foldl (behR b M) [] = (z3 b q.1).foldl (stepB M q.2) F0 := by
        rw [List.take_succ, hq0, List.foldl_append, hF]
        rfl
      refine ws_drop 4 (ws_drop 5 (ws_nil ⟨_, ⟨rfl, by rw [e]; exact pf1⟩, ?_⟩))
      rw [e]
      rfl
  · rintro f0 ⟨rfl, pf⟩
    rw [List.take_length]
    exact ws_ret (we_pure (xe_move 3) ⟨_, .da (.da (.own .nil)), hq⟩)
end
end Law

namespace Law
open PySem PySem.Spec PyProof.Rows L2 TL
/-! ### the least row to one -/
def rowsAt (L : PL) : List (List PyData) := (L.filter fun q => decide (q.1.1 = q.1.2)).map (·.2)
def addM (M ks : List Pr) : List Pr := ks.foldl (fun M a => if a ∈ M then M else M ++ [a]) M
def minR : List (List PyData) → PyData
  | [] => .none
  | r :: rs => minD (.tuple r) (rs.map .tuple)
def meetGo (b : Bk) : Nat → PL → List Pr → Option PyData
  | 0, _, _ => none
  | k + 1, L, M => if rowsAt L = [] then (if L = [] then none else meetGo b k (behind b M L) (addM M ((behind b M L).map (·.1)))) else some (minR (rowsAt L))
structure PrOk (b : Bk) (M : List Pr) : Prop where
  nd : M.Nodup
  lt : ∀ p ∈ M, p.1 < b.n ∧ p.2 < b.n
theorem PrOk.one {b : Bk} {M : List Pr} (h : PrOk b M) {a : Pr} (ha : a.1 < b.n ∧ a.2 < b.n) : PrOk b (if a ∈ M then M else M ++ [a]) := by
  split
  · exact h
  · rename_i hn
    refine ⟨List.nodup_append.mpr ⟨h.nd, by simp, fun x hx y hy e => hn (by rw [← List.mem_singleton.mp hy, ← e]; exact hx)⟩, fun p hp => ?_⟩
    rcases List.mem_append.mp hp with z | z
    · exact h.lt p z
    · rw [List.mem_singleton.mp z]; exact ha
theorem PrOk.add {b : Bk} : ∀ {ks M : List Pr}, PrOk b M → (∀ a ∈ ks, a.1 < b.n ∧ a.2 < b.n) → PrOk b (addM M ks)
  | [], _, h, _ => h
  | a :: ks, M, h, hk => PrOk.add (ks := ks) (M := if a ∈ M then M else M ++ [a]) (h.one (hk a List.mem_cons_self)) fun x hx => hk x (List.mem_cons_of_mem _ hx)
theorem PrOk.small {b : Bk} (ok : b.Ok) {M : List Pr} (h : PrOk b M) : M.length ≤ 3600 := Nat.le_trans (pairs_len h.nd h.lt) (nn_le ok)
theorem rowsAt_mem {b : Bk} {k : Nat} {L : PL} (h : POk b k L) : ∀ r ∈ rowsAt L, RowOk b k r := fun r hr => by
  obtain ⟨q, hq, rfl⟩ := List.mem_map.mp hr
  exact h.row q (List.mem_filter.mp hq).1
theorem rows_minOk {b : Bk} (ok : b.Ok) {k : Nat} : ∀ {rs : List (List PyData)}, (∀ r ∈ rs, RowOk b k r) → MinOk (rs.map .tuple) := fun {rs} h => by
  refine ⟨plainAll_map fun r hr => (row_fn ok (h r hr)).plain, ⟨fun x hx y hy => ?_, fun x hx => ?_⟩, fun x hx => ?_⟩
  · obtain ⟨r, hr, rfl⟩ := List.mem_map.mp hx
    obtain ⟨r', hr', rfl⟩ := List.mem_map.mp hy
    exact row_alike ok (h r hr) (h r' hr')
  · obtain ⟨r, _, rfl⟩ := List.mem_map.mp hx
    simp
  · obtain ⟨r, hr, rfl⟩ := List.mem_map.mp hx
    exact Nat.le_trans (row_fn ok (h r hr)).depth (by decide)
def spMeet : SpD := fun as Ψ => ∃ (b : Bk) (c d : Nat) (r : PyData), as = [.da b.data, .da (.int (c : Nat)), .da (.int (d : Nat))] ∧ b.Ok ∧ c < b.n ∧ d < b.n ∧ meetGo b (b.n * b.n + 1) [((c, d), [])] [(c, d)] = some r ∧ Ψ (.da r) as
/-- what each turn knows -/
structure MS (b : Bk) (r : PyData) (q : Nat × PL × List Pr) : Prop where
  go : meetGo b q.1 q.2.1 q.2.2 = some r
  lv : ∃ k, POk b k q.2.1 ∧ k + q.1 ≤ 3700
  met : PrOk b q.2.2
theorem MS.start {b : Bk} (ok : b.Ok) {c d : Nat} {r : PyData} (hc : c < b.n) (hd : d < b.n) (h : meetGo b (b.n * b.n + 1) [((c, d), [])] [(c, d)] = some r) : MS b r (b.n * b.n + 1, [((c, d), [])], [(c, d)]) :=
  ⟨h, ⟨0, ⟨by simp, fun p hp => by rw [List.mem_singleton.mp hp]; exact ⟨hc, hd⟩, fun p hp => by rw [List.mem_singleton.mp hp]; exact ⟨Nat.le_refl _, by simp⟩⟩, by have := nn_le ok; show 0 + (b.n * b.n + 1) ≤ _; omega⟩, ⟨by simp, fun p hp => by rw [List.mem_singleton.mp hp]; exact ⟨hc, hd⟩⟩⟩
theorem MS.next {b : Bk} (ok : b.Ok) {r : PyData} {k : Nat} {L : PL} {M : List Pr} (h : MS b r (k + 1, L, M)) (hr : rowsAt L = []) : MS b r (k, behind b M L, addM M ((behind b M L).map (·.1))) ∧ L ≠ [] := by
  have g := h.go
  unfold meetGo at g
  rw [if_pos hr] at g
  have hL : L ≠ [] := fun e => by
    rw [if_pos e] at g
    cases g
  rw [if_neg hL] at g
  obtain ⟨j, pj, hj⟩ := h.lv
  have pn := behind_ok ok (M := M) pj
  refine ⟨⟨g, ⟨j + 1, pn, ?_⟩, h.met.add fun a ha => ?_⟩, hL⟩
  · have hj : j + (k + 1) ≤ 3700 := hj
    show j + 1 + k ≤ 3700
    omega
  · obtain ⟨q, hq, rfl⟩ := List.mem_map.mp ha
    exact pn.lt q hq
theorem MS.done {b : Bk} {r : PyData} {k : Nat} {L : PL} {M : List Pr} (h : MS b r (k + 1, L, M)) (hr : rowsAt L ≠ []) : r = minR (rowsAt L) := by
  have g := h.go
  unfold meetGo at g
  rw [if_neg hr] at g
  exact (Option.some.inj g).symm
theorem MS.pos {b : Bk} {r : PyData} {k : Nat} {L : PL} {M : List Pr} (h : MS b r (k, L, M)) : ∃ j, k = j + 1 := by
  cases k with
  | zero => cases h.go
  | succ j => exact ⟨j, rfl⟩
section
variable {P : Program} {w : World} {K : PySem.W.Frag} {mg : Str → Option Value} {bs h : Heap} (X : K.In h) (G : h.Ns mainGlobals mg) (B : Blt mg)
include X G B
theorem d_meeting (D : DK K "meeting" s_meeting) (gB : Def P w K mg bs 2 "pairs_behind" ["book", "level", "met"] spBehind) : Def P w K mg bs 3 "meeting" ["book", "c", "d"] spMeet := by
  refine def_ok X G D sc_meeting (fun f fd F => F.binds (ps := ["book", "c", "d"]) fun _ _ _ _ _ _ us hl => match us, hl with | [_, _, _], _ => rfl) (fun as Ψ h => by obtain ⟨_, _, _, _, rfl, _⟩ := h; rfl) fun f cdv A fr s H E fx as Ψ us hsp hl => ?_
  obtain ⟨b, c, d, r, rfl, ok, hc, hd, hgo, hq⟩ := hsp
  obtain ⟨v0, v1, v2, rfl⟩ := ar3 hl
  have nd := fx.nd
  have r2 := fx.room.mono (show 2 ≤ 2 by decide)
  show WSs _ _ [some (.da b.data), some (.da (.int (c : Nat))), some (.da (.int (d : Nat))), none, none, none, none, none] _
  refine xs_set 3 nd (xe_ndict1 fx.u16 (pK_ok (c, d)) (xe_castD (xe_tup2 (xv 1) (xv 2)) (pK_data (c, d)).symm) xe_tup0) ?_
  refine xs_set 4 nd (xe_ndict1 fx.u16 (pK_ok (c, d)) (xe_castD (xe_tup2 (xv 1) (xv 2)) (pK_data (c, d)).symm) xe_bl) ?_
  show WSs _ _ [some (.da b.data), some (.da (.int (c : Nat))), some (.da (.int (d : Nat))), some (.dm (plD [((c, d), [])])), some (.dm (metD [(c, d)])), none, none, none] _
  refine ws_frzN 3 plD_ok ?_
  refine ws_whileT fx (fun q : Nat × PL × List Pr => [some (.da b.data), some (.da (.int (c : Nat))), some (.da (.int (d : Nat))), some (.da (dnD (plD q.2.1))), some (.dm (metD q.2.2)), none, none, none]) (MS b r) (fun q => q.1) (b.n * b.n + 1, [((c, d), [])], [(c, d)]) (MS.start ok hc hd hgo) rfl ?_
  rintro ⟨k, L, M⟩ ms
  obtain ⟨k, rfl⟩ := ms.pos
  obtain ⟨j, pj, hj⟩ := ms.lv
  have pj : POk b j L := pj
  have hj : j + (k + 1) ≤ 3700 := hj
  have hL := pj.small ok
  refine wt_pure (xt_truN 3 plD_ok) ⟨fun _ => ?_, fun he => ?_⟩
  · refine xs_setLcF [("pair", 6), ("row", 7)] (fun (q : Pr × List PyData) Γ => (Γ.set 6 (some (.da (pD q.1)))).set 7 (some (.da (.tuple q.2)))) L (fun q => .tuple [pD q.1, .tuple q.2]) (fun q => .tuple q.2) 5 (fun q => decide (q.1.1 = q.1.2)) fx (R := fun q => .da (.tuple q.2)) (xi_itemsPL (xv 3)) (szl (by omega)) (fun q hq s H C cl fp => gc_tup rfl (gsc_cons (gc_name 6 nd (gsc_cons (gc_name 7 nd (gsc_nil rfl))))))
      (fun q hq s H C cl fp => xt_cast (xt_eqI fx.blk.u (xe_ix (xv 6) xe_int (.inr rfl) rfl) (xe_ix (xv 6) xe_int (.inr rfl) rfl)) (by rw [Bool.eq_iff_iff, decide_eq_true_eq, decide_eq_true_eq]; omega)) (fun q hq hp s H C cl fp => xv 7) ?_
    have hrw : (L.filter fun q => decide (q.1.1 = q.1.2)).map (fun q => PyData.tuple q.2) = (rowsAt L).map .tuple := by
      unfold rowsAt
      rw [List.map_map]
      rfl
    rw [hrw]
    show WSs _ _ [some (.da b.data), some (.da (.int (c : Nat))), some (.da (.int (d : Nat))), some (.da (dnD (plD L))), some (.dm (metD M)), some (.ll ((rowsAt L).map .tuple)), none, none] _
    refine xs_if (xt_truS 5 (.sv .ll (.inl rfl))) (fun ht => ?_) fun ht => ws_nil ?_
    · have hne : rowsAt L ≠ [] := fun e => by
        rw [e] at ht
        cases ht
      have er := ms.done hne
      obtain ⟨x, xs, hx⟩ : ∃ x xs, rowsAt L = x :: xs := by
        cases e : rowsAt L with
        | nil => exact absurd e hne
        | cons x xs => exact ⟨x, xs, rfl⟩
      have mo := rows_minOk ok (rowsAt_mem pj)
      rw [hx] at mo er ⊢
      refine xs_ret (xe_minD B rfl fx.u70 mo (xe_frz (xe_move 5))) ⟨_, .da (.da (.da .nil)), ?_⟩
      rw [er] at hq
      exact hq
    · have he : rowsAt L = [] := by
        cases e : rowsAt L with
        | nil => rfl
        | cons x xs =>
          rw [e] at ht
          cases ht
      obtain ⟨ms', _⟩ := ms.next ok he
      refine ws_drop 5 ?_
      refine ws_set 3 nd (we_fnR gB r2 fx.gd (wr_da (xv 0) (wr_da (xv 3) (wr_ref 4 (wr_nil ⟨_, _, rfl, b, M, L, j, rfl, ok, by omega, pj, ?_⟩)))))
      generalize hN : behind b M L = N at ms'
      show WSs _ _ [some (.da b.data), some (.da (.int (c : Nat))), some (.da (.int (d : Nat))), some (.dm (plD N)), some (.dm (metD M)), none, none, none] _
      refine ws_frzN 3 plD_ok ?_
      obtain ⟨j', pj', _⟩ := ms'.lv
      have pj' : POk b j' N := pj'
      refine ws_forT fx N (fun q => pD q.1) (fun M' : List Pr => [some (.da b.data), some (.da (.int (c : Nat))), some (.da (.int (d : Nat))), some (.da (dnD (plD N))), some (.dm (metD M')), none, none, none]) (fun n M' => M' = addM M ((N.take n).map (·.1)) ∧ PrOk b M') M (xi_keysPL (xv 3)) ⟨rfl, ms.met⟩ rfl ?_ ?_
      · rintro n q M' hq' ⟨rfl, mo⟩
        have hqm := List.mem_of_getElem? hq'
        refine wg_name 6 nd ?_
        have nx : addM M ((N.take (n + 1)).map (·.1)) = if q.1 ∈ addM M ((N.take n).map (·.1)) then addM M ((N.take n).map (·.1)) else addM M ((N.take n).map (·.1)) ++ [q.1] := by
          rw [List.take_succ, hq', List.map_append]
          unfold addM
          rw [List.foldl_append]
          rfl
        have mo' := mo.one (pj'.lt q hqm)
        rw [← nx] at mo'
        generalize addM M ((N.take n).map (·.1)) = M1 at mo nx
        have hz := mo.small ok
        refine ws_nput 4 fx.u16 (we_pure xe_bl ⟨_, pK q.1, _, metD M1, _, rfl, rfl, .dm, metD_ok, pK_ok q.1, by rw [List.length_map]; exact szlt (by omega), xe_castD (xv 6) (pK_data q.1).symm, ws_drop 6 (ws_nil ⟨_, ⟨rfl, mo'⟩, ?_⟩)⟩)
        rw [kput_met, nx]
        rfl
      · rintro M' ⟨rfl, mo⟩
        rw [List.take_length]
        exact ws_nil ⟨(k, N, addM M (N.map (·.1))), ms', Nat.lt_succ_self k, rfl⟩
  · have hL0 : L = [] := by
      cases L with
      | nil => rfl
      | cons q L => cases he
    have := (ms.next ok (by rw [hL0]; rfl)).2
    exact absurd hL0 this
end
end Law

namespace Law
open PySem PySem.Spec PyProof.Rows L2 TL
section
variable {P : Program} {w : World} {K : PySem.W.Frag} {mg : Str → Option Value} {bs h : Heap} (X : K.In h) (G : h.Ns mainGlobals mg) (B : Blt mg)
include X G B
theorem d_lmeeting (D : DK K "_law_meeting" s_l_meeting) (gK : Def P w K mg bs 1 "_law_lower" ["level", "state", "row"] spLow) : Def P w K mg bs 2 "_law_meeting" ["book", "c", "d"] spMeet := by
  refine def_ok X G D sc_l_meeting (fun f fd F => F.binds (ps := ["book", "c", "d"]) fun _ _ _ _ _ _ us hl => match us, hl with | [_, _, _], _ => rfl) (fun as Ψ h => by obtain ⟨_, _, _, _, rfl, _⟩ := h; rfl) fun f cdv A fr s H E fx as Ψ us hsp hl => ?_
  obtain ⟨b, c, d, r, rfl, ok, hc, hd, hgo, hq⟩ := hsp
  obtain ⟨v0, v1, v2, rfl⟩ := ar3 hl
  have nd := fx.nd
  have r1 := fx.room.mono (show 1 ≤ 1 by decide)
  have hnn := nn_le ok
  show WSs _ _ [some (.da b.data), some (.da (.int (c : Nat))), some (.da (.int (d : Nat))), none, none, none, none, none, none, none, none, none] _
  refine xs_set 3 nd (xe_ndict1 fx.u16 (pK_ok (c, d)) (xe_castD (xe_tup2 (xv 1) (xv 2)) (pK_data (c, d)).symm) xe_tup0) ?_
  refine xs_set 4 nd (xe_ndict1 fx.u16 (pK_ok (c, d)) (xe_castD (xe_tup2 (xv 1) (xv 2)) (pK_data (c, d)).symm) xe_bl) ?_
  show WSs _ _ [some (.da b.data), some (.da (.int (c : Nat))), some (.da (.int (d : Nat))), some (.dm (plD [((c, d), [])])), some (.dm (metD [(c, d)])), none, none, none, none, none, none, none] _
  refine ws_frzN 3 plD_ok ?_
  have lenV : ∀ {Γ : Sl} {p1 p2 p3 p4 p5 : Pos} {k3 : Nat}, Γ[0]? = some (some (.da b.data)) → XE (dcx P w K mg bs ["book", "c", "d", "level", "met", "turn", "rows", "later", "pair", "deed", "one", "two"] "_law_meeting" s_l_meeting f cdv A fr s H E) (.Call (.Name "len" p1) [.Subscript (.Name "book" p2) (.Constant (.int 3) k3 p3) p4] [] p5) Γ (.da (.int (b.n : Nat))) Γ := fun h0 => xe_cast (xe_len B (ds := b.views) (xe_ix (xe_var (i := 0) rfl (.inl rfl) h0) xe_int (.inr rfl) rfl) (.inr rfl)) (by rw [ok.vl])
  refine ws_forT fx (List.range (b.n * b.n + 1)) (fun i => .int i) (fun q : Nat × PL × List Pr => [some (.da b.data), some (.da (.int (c : Nat))), some (.da (.int (d : Nat))), some (.da (dnD (plD q.2.1))), some (.dm (metD q.2.2)), none, none, none, none, none, none, none]) (fun n q => MS b r q ∧ q.1 + n = b.n * b.n + 1) (b.n * b.n + 1, [((c, d), [])], [(c, d)])
    (xi_rangeN B (xe_cast (xe_add (xe_mul (.inr ⟨by omega, by have := ok.n2; omega⟩) (lenV rfl) (lenV rfl)) xe_int) (by rw [Int.natCast_add, Int.natCast_mul]; rfl)) (by omega)) ⟨MS.start ok hc hd hgo, rfl⟩ rfl ?_ ?_
  · rintro n x ⟨k, L, M⟩ hx ⟨ms, hkn⟩
    refine wg_name 5 nd ?_
    obtain ⟨k, rfl⟩ := ms.pos
    obtain ⟨j, pj, hj⟩ := ms.lv
    have pj : POk b j L := pj
    have hj : j + (k + 1) ≤ 3700 := hj
    have hL := pj.small ok
    have gL : ∀ q ∈ L, kget (plD L) (pK q.1) = some (.tuple q.2) := fun q hq => by rw [kget_pl, mem_kget pj.nd hq]; rfl
    refine ws_drop 5 ?_
    show WSs _ _ [some (.da b.data), some (.da (.int (c : Nat))), some (.da (.int (d : Nat))), some (.da (dnD (plD L))), some (.dm (metD M)), none, none, none, none, none, none, none] _
    refine xs_setLcF [("pair", 8)] (fun (q : Pr × List PyData) Γ => Γ.set 8 (some (.da (pD q.1)))) L (fun q => pD q.1) (fun q => .tuple q.2) 6 (fun q => decide (q.1.1 = q.1.2)) fx (R := fun q => .da (.tuple q.2)) (xi_keysPL (xv 3)) (szl (by omega)) (fun q hq s H C cl fp => gc_name 8 nd rfl)
      (fun q hq s H C cl fp => xt_cast (xt_eqI fx.blk.u (xe_ix (xv 8) xe_int (.inr rfl) rfl) (xe_ix (xv 8) xe_int (.inr rfl) rfl)) (by rw [Bool.eq_iff_iff, decide_eq_true_eq, decide_eq_true_eq]; omega)) (fun q hq hp s H C cl fp => xe_ngetS 3 fx.blk.u16 plD_ok (pK_ok q.1) (xe_castD (xv 8) (pK_data q.1).symm) (gL q hq)) ?_
    have hrw : (L.filter fun q => decide (q.1.1 = q.1.2)).map (fun q => PyData.tuple q.2) = (rowsAt L).map .tuple := by
      unfold rowsAt
      rw [List.map_map]
      rfl
    rw [hrw]
    show WSs _ _ [some (.da b.data), some (.da (.int (c : Nat))), some (.da (.int (d : Nat))), some (.da (dnD (plD L))), some (.dm (metD M)), none, some (.ll ((rowsAt L).map .tuple)), none, none, none, none, none] _
    refine xs_if (xt_gt (xe_lenS 6 B) xe_int) (fun ht => ?_) fun ht => ws_nil ?_
    · rw [decide_eq_true_eq, List.length_map] at ht
      have hne : rowsAt L ≠ [] := fun e => by
        rw [e] at ht
        cases ht
      have er := ms.done hne
      obtain ⟨x, xs, hx⟩ : ∃ x xs, rowsAt L = x :: xs := by
        cases e : rowsAt L with
        | nil => exact absurd e hne
        | cons x xs => exact ⟨x, xs, rfl⟩
      have mo := rows_minOk ok (rowsAt_mem pj)
      rw [hx] at mo er ⊢
      refine xs_ret (xe_minD B rfl fx.u70 mo (xe_frz (xe_move 6))) ⟨_, .da (.da (.da .nil)), ?_⟩
      rw [er] at hq
      exact hq
    · rw [decide_eq_false_iff_not, List.length_map] at ht
      have he : rowsAt L = [] := List.eq_nil_of_length_eq_zero (by omega)
      obtain ⟨ms', _⟩ := ms.next ok he
      refine ws_drop 6 ?_
      refine xs_set 7 nd xe_dictM0 ?_
      show WSs _ _ [some (.da b.data), some (.da (.int (c : Nat))), some (.da (.int (d : Nat))), some (.da (dnD (plD L))), some (.dm (metD M)), none, none, some (.dm (plD [])), none, none, none, none] _
      refine ws_forT fx L (fun q => pD q.1) (fun f : PL => [some (.da b.data), some (.da (.int (c : Nat))), some (.da (.int (d : Nat))), some (.da (dnD (plD L))), some (.dm (metD M)), none, none, some (.dm (plD f)), none, none, none, none]) (fun n f => f = (L.take n).foldl (behR b M) [] ∧ POk b (j + 1) f) [] (xi_keysPL (xv 3)) ⟨rfl, .nil⟩ rfl ?_ ?_
      · rintro n q f0 hq0 ⟨rfl, pf⟩
        have hm := List.mem_of_getElem? hq0
        obtain ⟨l1, l2⟩ := pj.lt q hm
        have hr := pj.row q hm
        refine wg_name 8 nd ?_
        generalize hF : (L.take n).foldl (behR b M) [] = F0 at pf
        show WSs _ _ [some (.da b.data), some (.da (.int (c : Nat))), some (.da (.int (d : Nat))), some (.da (dnD (plD L))), some (.dm (metD M)), none, none, some (.dm (plD F0)), some (.da (pD q.1)), none, none, none] _
        refine ws_forT fx (z3 b q.1) (fun p => .tuple [p.1, .int (p.2.1 : Nat), .int (p.2.2 : Nat)]) (fun f : PL => [some (.da b.data), some (.da (.int (c : Nat))), some (.da (.int (d : Nat))), some (.da (dnD (plD L))), some (.dm (metD M)), none, none, some (.dm (plD f)), some (.da (pD q.1)), none, none, none]) (fun m f => f = ((z3 b q.1).take m).foldl (stepB M q.2) F0 ∧ POk b (j + 1) f) F0
          (xi_zip3 (E1 := fun d => d) (E2 := fun (n : Nat) => .int n) (E3 := fun (n : Nat) => .int n) (xs := b.deeds) (ys := rowOf b q.1.1) (zs := rowOf b q.1.2) B (xe_castD (xe_tn (xe_ix (xv 0) xe_int (.inr rfl) rfl)) (by rw [List.map_id'])) (xe_beh 0 ok l1 rfl (xe_ix (xv 8) xe_int (.inr rfl) rfl)) (xe_beh 0 ok l2 rfl (xe_ix (xv 8) xe_int (.inr rfl) rfl))) ⟨rfl, pf⟩ rfl ?_ ?_
        · rintro m p f1 hp ⟨rfl, pf1⟩
          have hpo := z3_ok ok l1 l2 p (List.mem_of_getElem? hp)
          refine wg_tup rfl (wgs_cons (wg_name 9 nd (wgs_cons (wg_name 10 nd (wgs_cons (wg_name 11 nd (wgs_nil ?_)))))))
          have next : ((z3 b q.1).take (m + 1)).foldl (stepB M q.2) F0 = stepB M q.2 (((z3 b q.1).take m).foldl (stepB M q.2) F0) p := by
            rw [List.take_succ, hp, List.foldl_append]
            rfl
          have nok := stepB_ok (M := M) hr pf1 hpo
          rw [← next] at nok
          generalize hG : ((z3 b q.1).take m).foldl (stepB M q.2) F0 = F1 at pf1 next
          show WSs _ _ [some (.da b.data), some (.da (.int (c : Nat))), some (.da (.int (d : Nat))), some (.da (dnD (plD L))), some (.dm (metD M)), none, none, some (.dm (plD F1)), some (.da (pD q.1)), some (.da p.1), some (.da (.int (p.2.1 : Nat))), some (.da (.int (p.2.2 : Nat)))] _
          refine xs_if (xt_cast (xt_nninS 4 fx.u16 metD_ok (pK_ok p.2) (xe_castD (xe_tup2 (xv 10) (xv 11)) (pK_data p.2).symm)) (by rw [kget_met])) (fun hc => ?_) fun hc => ?_
          · have hnm : p.2 ∉ M := by simpa using hc
            have hst : stepB M q.2 F1 p = lowP F1 p.2 (q.2 ++ [p.1]) := if_neg hnm
            have hr2 : RowOk b (j + 1) (q.2 ++ [p.1]) := ⟨by rw [List.length_append]; have := hr.len; simp; omega, fun d hd => by
              rcases List.mem_append.mp hd with hd | hd
              · exact hr.mem d hd
              · rw [List.mem_singleton.mp hd]
                exact hpo.1⟩
            have fn := row_fn ok hr2
            refine ws_expr (we_fnR gK r1 fx.gd (wr_ref 7 (wr_da (xe_tup2 (xv 10) (xv 11)) (wr_da (xe_catT (ds := q.2) (es' := [p.1]) (by have := hr.len; exact szl (by show _ + 1 ≤ _; omega)) (xe_ngetS 3 fx.u16 plD_ok (pK_ok q.1) (xe_castD (xv 8) (pK_data q.1).symm) (gL q hm)) (xe_tup1 (xv 9))) (wr_nil ⟨_, _, rfl, F1, p.2, q.2 ++ [p.1], rfl, ?_, fn.plain, Nat.le_trans fn.depth (by decide), fun r hr' => ⟨(row_fn ok (kget_row pf1 hr')).plain, row_alike ok hr2 (kget_row pf1 hr')⟩, ?_⟩)))))
            · have := pf1.small ok
              exact szlt (by omega)
            · refine ws_nil (ws_drop 9 (ws_drop 10 (ws_drop 11 (ws_nil ⟨_, ⟨rfl, nok⟩, ?_⟩))))
              rw [next, hst]
              rfl
          · have hm2 : p.2 ∈ M := by simpa using hc
            have hst : stepB M q.2 F1 p = F1 := if_pos hm2
            refine ws_nil (ws_drop 9 (ws_drop 10 (ws_drop 11 (ws_nil ⟨_, ⟨rfl, nok⟩, ?_⟩))))
            rw [next, hst]
            rfl
        · rintro f1 ⟨rfl, pf1⟩
          rw [List.take_length] at pf1 ⊢
          have e : (L.take (n + 1)).foldl (behR b M) [] = (z3 b q.1).foldl (stepB M q.2) F0 := by
            rw [List.take_succ, hq0, List.foldl_append, hF]
            rfl
          refine ws_drop 8 (ws_nil ⟨_, ⟨rfl, by rw [e]; exact pf1⟩, ?_⟩)
          rw [e]
          rfl
      · rintro f0 ⟨rfl, pf⟩
        rw [List.take_length]
        show WSs _ _ [some (.da b.data), some (.da (.int (c : Nat))), some (.da (.int (d : Nat))), some (.da (dnD (plD L))), some (.dm (metD M)), none, none, some (.dm (plD (behind b M L))), none, none, none, none] _
        generalize hN : behind b M L = N at ms'
        refine ws_frzN 7 plD_ok ?_
        obtain ⟨j', pj', _⟩ := ms'.lv
        have pj' : POk b j' N := pj'
        refine ws_forT fx N (fun q => pD q.1) (fun M' : List Pr => [some (.da b.data), some (.da (.int (c : Nat))), some (.da (.int (d : Nat))), some (.da (dnD (plD L))), some (.dm (metD M')), none, none, some (.da (dnD (plD N))), none, none, none, none]) (fun n M' => M' = addM M ((N.take n).map (·.1)) ∧ PrOk b M') M (xi_keysPL (xv 7)) ⟨rfl, ms.met⟩ rfl ?_ ?_
        · rintro n q M' hq' ⟨rfl, mo⟩
          have hqm := List.mem_of_getElem? hq'
          refine wg_name 8 nd ?_
          have nx : addM M ((N.take (n + 1)).map (·.1)) = if q.1 ∈ addM M ((N.take n).map (·.1)) then addM M ((N.take n).map (·.1)) else addM M ((N.take n).map (·.1)) ++ [q.1] := by
            rw [List.take_succ, hq', List.map_append]
            unfold addM
            rw [List.foldl_append]
            rfl
          have mo' := mo.one (pj'.lt q hqm)
          rw [← nx] at mo'
          generalize addM M ((N.take n).map (·.1)) = M1 at mo nx
          have hz := mo.small ok
          refine ws_nput 4 fx.u16 (we_pure xe_bl ⟨_, pK q.1, _, metD M1, _, rfl, rfl, .dm, metD_ok, pK_ok q.1, by rw [List.length_map]; exact szlt (by omega), xe_castD (xv 8) (pK_data q.1).symm, ws_drop 8 (ws_nil ⟨_, ⟨rfl, mo'⟩, ?_⟩)⟩)
          rw [kput_met, nx]
          rfl
        · rintro M' ⟨rfl, mo⟩
          rw [List.take_length]
          refine xs_set 3 nd (xv 7) (ws_drop 7 (ws_nil ⟨(k, N, addM M (N.map (·.1))), ⟨ms', ?_⟩, rfl⟩))
          have hkn : k + 1 + n = b.n * b.n + 1 := hkn
          show k + _ = _
          omega
  · rintro ⟨k, L, M⟩ ⟨ms, hkn⟩
    rw [List.length_range] at hkn
    obtain ⟨k, rfl⟩ := ms.pos
    have hkn : k + 1 + (b.n * b.n + 1) = b.n * b.n + 1 := hkn
    omega
end
end Law

namespace Law
open PySem PySem.Spec PyProof.Rows L2 TL
/-! ### codes behind a row of deeds -/
structure Bk.Idx (b : Bk) : Prop where
  sh : SeqAt.shaped (.list b.deeds) = true
  si : ∀ d ∈ b.deeds, SeqAt.shaped d = true
  pw : b.deeds.Pairwise fun x y => PyData.eqv x y = false
def dIx (b : Bk) (d : PyData) : Nat := b.deeds.findIdx fun z => PyData.eqv z d
def imgS (b : Bk) (cs : List Nat) (j : Nat) : List Nat := (List.range b.n).filter fun m => cs.any fun c => decide ((rowOf b c).getD j 0 = m)
def image (b : Bk) (cs : List Nat) (r : List PyData) : List Nat := r.foldl (fun cs d => imgS b cs (dIx b d)) cs
structure CsOk (b : Bk) (cs : List Nat) : Prop where
  asc : cs.Pairwise (· < ·)
  lt : ∀ c ∈ cs, c < b.n
theorem CsOk.len {b : Bk} {cs : List Nat} (h : CsOk b cs) : cs.length ≤ b.n := by
  have := List.Nodup.length_le_of_subset (h.asc.imp fun q => Nat.ne_of_lt q : cs.Nodup) (l₂ := List.range b.n) fun c hc => List.mem_range.mpr (h.lt c hc)
  rwa [List.length_range] at this
theorem CsOk.all {b : Bk} : CsOk b (List.range b.n) := ⟨List.pairwise_lt_range, fun c hc => List.mem_range.mp hc⟩
theorem imgS_mem {b : Bk} (ok : b.Ok) {cs : List Nat} {j : Nat} (h : CsOk b cs) (hj : j < b.deeds.length) {m : Nat} : m ∈ imgS b cs j ↔ ∃ c ∈ cs, (rowOf b c).getD j 0 = m := by
  unfold imgS
  rw [List.mem_filter, List.any_eq_true]
  constructor
  · rintro ⟨_, c, hc, e⟩
    exact ⟨c, hc, of_decide_eq_true e⟩
  · rintro ⟨c, hc, e⟩
    obtain ⟨_, g1, g2⟩ := beh_row ok (h.lt c hc)
    refine ⟨List.mem_range.mpr ?_, c, hc, decide_eq_true e⟩
    rw [← e]
    refine g2 _ ?_
    have hl : j < (rowOf b c).length := by omega
    exact List.mem_of_getElem? (getD_get hl)
theorem imgS_ok {b : Bk} {cs : List Nat} {j : Nat} : CsOk b (imgS b cs j) := ⟨List.pairwise_lt_range.filter _, fun c hc => List.mem_range.mp (List.mem_filter.mp hc).1⟩
theorem dIx_spec {b : Bk} (ok : b.Ok) {d : PyData} (hd : d ∈ b.deeds) : dIx b d < b.deeds.length ∧ (∃ z, b.deeds[dIx b d]? = some z ∧ PyData.eqv z d = true) ∧ ∀ (m : Nat) (z' : PyData), m < dIx b d → b.deeds[m]? = some z' → PyData.eqv z' d = false := by
  have hlt : dIx b d < b.deeds.length := List.findIdx_lt_length_of_exists ⟨d, hd, eqv_self (ok.dfn d hd).plain⟩
  refine ⟨hlt, ⟨_, List.getElem?_eq_getElem hlt, List.findIdx_getElem (w := hlt)⟩, fun m z' hm hz => ?_⟩
  obtain ⟨hl, rfl⟩ := List.getElem?_eq_some_iff.mp hz
  simpa using List.not_of_lt_findIdx hm
theorem deeds_plain {b : Bk} (ok : b.Ok) : PyData.plainAll b.deeds = true := by
  have := plainAll_map (f := id) (xs := b.deeds) fun d hd => (ok.dfn d hd).plain
  rwa [List.map_id] at this
def spImage : SpD := fun as Ψ => ∃ (b : Bk) (cs : List Nat) (r : List PyData), as = [.da b.data, .da (.list (ilist cs)), .da (.tuple r)] ∧ b.Ok ∧ b.Idx ∧ CsOk b cs ∧ (∀ d ∈ r, d ∈ b.deeds) ∧ Ψ (.da (.list (ilist (image b cs r)))) as
theorem image_take {b : Bk} {cs : List Nat} {r : List PyData} {n : Nat} {d : PyData} (h : r[n]? = some d) : image b cs (r.take (n + 1)) = imgS b (image b cs (r.take n)) (dIx b d) := by
  unfold image
  rw [List.take_succ, h, List.foldl_append]
  rfl
section
variable {P : Program} {w : World} {K : PySem.W.Frag} {mg : Str → Option Value} {bs h : Heap} (X : K.In h) (G : h.Ns mainGlobals mg) (B : Blt mg)
include X G B
theorem d_behindC (D : DK K "codes_behind" s_codes_behind) : Def P w K mg bs 1 "codes_behind" ["book", "codes", "row"] spImage := by
  refine def_ok X G D sc_codes_behind (fun f fd F => F.binds (ps := ["book", "codes", "row"]) fun _ _ _ _ _ _ us hl => match us, hl with | [_, _, _], _ => rfl) (fun as Ψ h => by obtain ⟨_, _, _, rfl, _⟩ := h; rfl) fun f cdv A fr s H E fx as Ψ us hsp hl => ?_
  obtain ⟨b, cs, r, rfl, ok, ix, co, hr, hq⟩ := hsp
  obtain ⟨v0, v1, v2, rfl⟩ := ar3 hl
  have nd := fx.nd
  show WSs _ _ [some (.da b.data), some (.da (.list (ilist cs))), some (.da (.tuple r)), none, none, none] _
  refine ws_forT fx r (fun d => d) (fun cs : List Nat => [some (.da b.data), some (.da (.list (ilist cs))), some (.da (.tuple r)), none, none, none]) (fun n cs' => cs' = image b cs (r.take n) ∧ CsOk b cs') cs (by rw [List.map_id']; exact xi_tup (xv 2)) ⟨rfl, co⟩ rfl ?_ ?_
  · rintro n d cs' hd ⟨rfl, co'⟩
    refine wg_name 3 nd ?_
    have hdm := hr d (List.mem_of_getElem? hd)
    obtain ⟨hlt, ⟨z, hz, he⟩, hno⟩ := dIx_spec ok hdm
    have nx := image_take (b := b) (cs := cs) hd
    generalize image b cs (r.take n) = cs1 at co' nx
    have hn60 := ok.n2
    have hcl := co'.len
    refine xs_set 4 nd (xe_indexN fx.u65 (xe_ix (xv 0) xe_int (.inr rfl) rfl) (xv 3) ix.sh (ix.si d hdm) (deeds_plain ok) (ok.dfn d hdm).plain hz he hno) ?_
    generalize hj : dIx b d = j at hlt nx
    show WSs _ _ [some (.da b.data), some (.da (.list (ilist cs1))), some (.da (.tuple r)), some (.da d), some (.da (.int (j : Nat))), none] _
    refine ws_set 1 nd (we_frz (we_sortedSc [("code", 5)] (fun (c : Nat) Γ => Γ.set 5 (some (.da (.int c)))) cs1 (fun (c : Nat) => .int c) (fun c => (rowOf b c).getD j 0) B fx (xi_lst (xv 1)) (by omega) (fun c hc s H C cl fp => gc_name 5 nd rfl) (fun c hc s H C cl fp => ?e) fun ns asc mem len => ⟨_, .ll, ?_⟩))
    case e =>
      obtain ⟨_, g1, g2⟩ := beh_row ok (co'.lt c hc)
      have hl : j < (rowOf b c).length := by omega
      exact xe_ix (xe_beh 0 ok (co'.lt c hc) rfl (xv 5)) (xv 4) (.inr rfl) (atI_nat (by rw [List.getElem?_map, getD_get hl]; rfl))
    have e1 : ns = imgS b cs1 j := asc_ext asc imgS_ok.asc fun m => by rw [imgS_mem ok co' hlt]; exact mem m
    rw [e1, ← nx]
    refine ws_drop 3 (ws_drop 4 (ws_nil ⟨_, ⟨rfl, ?_⟩, rfl⟩))
    rw [nx]
    exact imgS_ok
  · rintro cs' ⟨rfl, co'⟩
    rw [List.take_length]
    exact xs_ret (xe_frz (xe_lstOfS 1 B)) ⟨_, .da (.da (.da .nil)), hq⟩
theorem d_image (D : DK K "_law_image" s_l_image) : Def P w K mg bs 1 "_law_image" ["book", "codes", "row"] spImage := by
  refine def_ok X G D sc_l_image (fun f fd F => F.binds (ps := ["book", "codes", "row"]) fun _ _ _ _ _ _ us hl => match us, hl with | [_, _, _], _ => rfl) (fun as Ψ h => by obtain ⟨_, _, _, rfl, _⟩ := h; rfl) fun f cdv A fr s H E fx as Ψ us hsp hl => ?_
  obtain ⟨b, cs, r, rfl, ok, ix, co, hr, hq⟩ := hsp
  obtain ⟨v0, v1, v2, rfl⟩ := ar3 hl
  have nd := fx.nd
  show WSs _ _ [some (.da b.data), some (.da (.list (ilist cs))), some (.da (.tuple r)), none, none, none] _
  refine ws_forT fx r (fun d => d) (fun cs : List Nat => [some (.da b.data), some (.da (.list (ilist cs))), some (.da (.tuple r)), none, none, none]) (fun n cs' => cs' = image b cs (r.take n) ∧ CsOk b cs') cs (by rw [List.map_id']; exact xi_tup (xv 2)) ⟨rfl, co⟩ rfl ?_ ?_
  · rintro n d cs' hd ⟨rfl, co'⟩
    refine wg_name 3 nd ?_
    have hdm := hr d (List.mem_of_getElem? hd)
    obtain ⟨hlt, ⟨z, hz, he⟩, hno⟩ := dIx_spec ok hdm
    have nx := image_take (b := b) (cs := cs) hd
    generalize image b cs (r.take n) = cs1 at co' nx
    have hn60 := ok.n2
    have hcl := co'.len
    refine xs_set 4 nd (xe_indexN fx.u65 (xe_ix (xv 0) xe_int (.inr rfl) rfl) (xv 3) ix.sh (ix.si d hdm) (deeds_plain ok) (ok.dfn d hdm).plain hz he hno) ?_
    generalize hj : dIx b d = j at hlt nx
    show WSs _ _ [some (.da b.data), some (.da (.list (ilist cs1))), some (.da (.tuple r)), some (.da d), some (.da (.int (j : Nat))), none] _
    refine ws_set 1 nd (we_frz (we_sortedSet B fx (we_pure (xe_lcM [("code", 5)] (fun (c : Nat) Γ => Γ.set 5 (some (.da (.int c)))) cs1 (fun (c : Nat) => .int c) (fun c => .int (((rowOf b c).getD j 0 : Nat) : Int)) fx (R := fun c => .da (.int (((rowOf b c).getD j 0 : Nat) : Int))) (xi_lst (xv 1)) (sz1000 (by omega)) (fun c hc s H C cl fp => gc_name 5 nd rfl) (fun c hc s H C cl fp => ?e)) ⟨cs1.map fun c => (rowOf b c).getD j 0, ?_, by rw [List.length_map]; omega, fun ns asc mem len => ⟨_, .ll, ?_⟩⟩)))
    case e =>
      obtain ⟨_, g1, g2⟩ := beh_row ok (co'.lt c hc)
      have hl : j < (rowOf b c).length := by omega
      exact xe_ix (xe_beh 0 ok (co'.lt c hc) rfl (xv 5)) (xv 4) (.inr rfl) (atI_nat (by rw [List.getElem?_map, getD_get hl]; rfl))
    · have e0 : ilist (cs1.map fun c => (rowOf b c).getD j 0) = cs1.map fun c => .int (((rowOf b c).getD j 0 : Nat) : Int) := by
        show List.map _ (List.map _ _) = _
        rw [List.map_map]
        rfl
      rw [e0]
      exact .ll
    have e1 : ns = imgS b cs1 j := asc_ext asc imgS_ok.asc fun m => by rw [imgS_mem ok co' hlt, mem m, List.mem_map]
    rw [e1, ← nx]
    refine ws_drop 3 (ws_drop 4 (ws_nil ⟨_, ⟨rfl, ?_⟩, rfl⟩))
    rw [nx]
    exact imgS_ok
  · rintro cs' ⟨rfl, co'⟩
    rw [List.take_length]
    exact xs_ret (xv 1) ⟨_, .da (.da (.da .nil)), hq⟩
end
end Law

namespace Law
open PySem PySem.Spec PyProof.Rows L2 TL
/-! ### ordered pairs, all pairs, the pairs reached -/
def ordN (a b : Nat) : Pr := if a < b then (a, b) else (b, a)
def spOrd : SpD := fun as Ψ => ∃ a b : Nat, as = [.da (.int (a : Nat)), .da (.int (b : Nat))] ∧ Ψ (.da (pD (ordN a b))) as
def apairs (n : Nat) : List Pr := (List.range n).flatMap fun c => (List.range (n - (c + 1))).map fun i => (c, c + 1 + i)
def spAllP : SpD := fun as Ψ => ∃ n : Nat, as = [.da (.int (n : Nat))] ∧ n ≤ 60 ∧ Ψ (.da (.list ((apairs n).map pD))) as
theorem apairs_mem {n : Nat} {q : Pr} : q ∈ apairs n ↔ q.1 < q.2 ∧ q.2 < n := by
  unfold apairs
  rw [List.mem_flatMap]
  constructor
  · rintro ⟨c, hc, h⟩
    obtain ⟨i, hi, rfl⟩ := List.mem_map.mp h
    rw [List.mem_range] at hc hi
    exact ⟨show c < c + 1 + i by omega, show c + 1 + i < n by omega⟩
  · rintro ⟨h1, h2⟩
    exact ⟨q.1, List.mem_range.mpr (by omega), List.mem_map.mpr ⟨q.2 - (q.1 + 1), List.mem_range.mpr (by omega), Prod.ext rfl (show q.1 + 1 + (q.2 - (q.1 + 1)) = q.2 by omega)⟩⟩
theorem apairs_len {n : Nat} (h : n ≤ 60) : (apairs n).length ≤ 3600 := by
  unfold apairs
  rw [List.length_flatMap]
  have : ∀ xs : List Nat, (xs.map fun c => ((List.range (n - (c + 1))).map fun i => (c, c + 1 + i)).length).sum ≤ xs.length * 60 := fun xs => by
    induction xs with
    | nil => simp
    | cons x xs ih =>
      rw [List.map_cons, List.sum_cons, List.length_cons, List.length_map, List.length_range]
      omega
  have := this (List.range n)
  rw [List.length_range] at this
  omega
/-- the work list: what is left (the last first), what is met -/
def stepC (S : List Pr × List Pr) (p : Nat × Nat) : List Pr × List Pr := if ordN p.1 p.2 ∈ S.2 then S else (S.1 ++ [ordN p.1 p.2], S.2 ++ [ordN p.1 p.2])
def nxs (b : Bk) (q : Pr) : List (Nat × Nat) := (rowOf b q.1).zip (rowOf b q.2)
def closG (b : Bk) : Nat → List Pr × List Pr → List Pr
  | 0, S => S.2
  | k + 1, S => match S.1.getLast? with
    | none => S.2
    | some q => closG b k ((nxs b q).foldl stepC (S.1.dropLast, S.2))
def reached (b : Bk) (q : Pr) : List Pr := closG b (2 * (b.n * b.n) + 2) ([q], [q])
structure WkOk (b : Bk) (S : List Pr × List Pr) : Prop where
  met : PrOk b S.2
  lt : ∀ p ∈ S.1, p.1 < b.n ∧ p.2 < b.n
  few : S.1.length ≤ S.2.length
theorem ordN_lt {n a c : Nat} (ha : a < n) (hc : c < n) : (ordN a c).1 < n ∧ (ordN a c).2 < n := by
  unfold ordN
  split <;> exact ⟨by assumption, by assumption⟩
theorem stepC_ok {b : Bk} {S : List Pr × List Pr} (h : WkOk b S) {p : Nat × Nat} (h1 : p.1 < b.n) (h2 : p.2 < b.n) : WkOk b (stepC S p) ∧ 2 * (b.n * b.n - (stepC S p).2.length) + (stepC S p).1.length ≤ 2 * (b.n * b.n - S.2.length) + S.1.length := by
  unfold stepC
  have ho := ordN_lt h1 h2
  split
  · exact ⟨h, Nat.le_refl _⟩
  · rename_i hn
    have mo := h.met.one ho
    rw [if_neg hn] at mo
    have hl := pairs_len mo.nd mo.lt
    rw [List.length_append] at hl
    refine ⟨⟨mo, fun q hq => ?_, ?_⟩, ?_⟩
    · rcases List.mem_append.mp hq with z | z
      · exact h.lt q z
      · rw [List.mem_singleton.mp z]
        exact ho
    · rw [List.length_append, List.length_append]
      have := h.few
      simp
      omega
    · rw [List.length_append, List.length_append]
      simp at hl ⊢
      omega
theorem foldC_ok {b : Bk} : ∀ (ps : List (Nat × Nat)) {S : List Pr × List Pr}, WkOk b S → (∀ p ∈ ps, p.1 < b.n ∧ p.2 < b.n) → WkOk b (ps.foldl stepC S) ∧ 2 * (b.n * b.n - (ps.foldl stepC S).2.length) + (ps.foldl stepC S).1.length ≤ 2 * (b.n * b.n - S.2.length) + S.1.length
  | [], _, h, _ => ⟨h, Nat.le_refl _⟩
  | p :: ps, S, h, hp => by
    obtain ⟨g1, g2⟩ := stepC_ok h (hp p List.mem_cons_self).1 (hp p List.mem_cons_self).2
    obtain ⟨g3, g4⟩ := foldC_ok ps g1 fun q hq => hp q (List.mem_cons_of_mem _ hq)
    exact ⟨g3, Nat.le_trans g4 g2⟩
theorem nxs_lt {b : Bk} (ok : b.Ok) {q : Pr} (h1 : q.1 < b.n) (h2 : q.2 < b.n) : ∀ p ∈ nxs b q, p.1 < b.n ∧ p.2 < b.n := fun p hp => by
  obtain ⟨g1, g2⟩ := List.of_mem_zip (a := p.1) (b := p.2) hp
  exact ⟨(beh_row ok h1).2.2 _ g1, (beh_row ok h2).2.2 _ g2⟩
/-- what each turn knows: its fuel, what is left, what is met -/
structure CS (b : Bk) (R : List Pr) (q : Nat × List Pr × List Pr) : Prop where
  ok : WkOk b q.2
  go : closG b q.1 q.2 = R
  fuel : 2 * (b.n * b.n - q.2.2.length) + q.2.1.length < q.1
theorem getLast_q {α : Type} {xs : List α} (h : xs ≠ []) : xs.getLast? = some (xs.getLast h) := by
  have hp := List.length_pos_iff.mpr h
  rw [List.getLast?_eq_getElem?, List.getLast_eq_getElem, List.getElem?_eq_getElem (by omega)]
theorem CS.start {b : Bk} {q : Pr} (h : q.1 < b.n ∧ q.2 < b.n) : CS b (reached b q) (2 * (b.n * b.n) + 2, [q], [q]) :=
  ⟨⟨⟨by simp, fun p hp => by rw [List.mem_singleton.mp hp]; exact h⟩, fun p hp => by rw [List.mem_singleton.mp hp]; exact h, Nat.le_refl _⟩, rfl, by show 2 * (b.n * b.n - 1) + 1 < 2 * (b.n * b.n) + 2; omega⟩
theorem CS.next {b : Bk} (ok : b.Ok) {R : List Pr} {k : Nat} {L M : List Pr} (h : CS b R (k, L, M)) (hl : L ≠ []) : ∃ j, k = j + 1 ∧ (L.getLast hl).1 < b.n ∧ (L.getLast hl).2 < b.n ∧ WkOk b (L.dropLast, M) ∧ CS b R (j, (nxs b (L.getLast hl)).foldl stepC (L.dropLast, M)) := by
  have hf : 2 * (b.n * b.n - M.length) + L.length < k := h.fuel
  have hpos : 0 < L.length := List.length_pos_iff.mpr hl
  obtain ⟨h1, h2⟩ := h.ok.lt _ (List.getLast_mem hl)
  have w0 : WkOk b (L.dropLast, M) := ⟨h.ok.met, fun p hp => h.ok.lt p (List.dropLast_subset _ hp), by have : L.length ≤ M.length := h.ok.few; show L.dropLast.length ≤ M.length; rw [List.length_dropLast]; omega⟩
  cases k with
  | zero => exact absurd hf (Nat.not_lt_zero _)
  | succ j =>
    refine ⟨j, rfl, h1, h2, w0, ?_⟩
    obtain ⟨w1, w2⟩ := foldC_ok (nxs b (L.getLast hl)) w0 (nxs_lt ok h1 h2)
    refine ⟨w1, ?_, ?_⟩
    · have g : closG b (j + 1) (L, M) = R := h.go
      unfold closG at g
      simp only [getLast_q hl] at g
      exact g
    · show 2 * (b.n * b.n - ((nxs b (L.getLast hl)).foldl stepC (L.dropLast, M)).2.length) + ((nxs b (L.getLast hl)).foldl stepC (L.dropLast, M)).1.length < j
      have w2 : _ ≤ 2 * (b.n * b.n - M.length) + L.dropLast.length := w2
      rw [List.length_dropLast] at w2
      omega
theorem CS.done {b : Bk} {R : List Pr} {k : Nat} {M : List Pr} (h : CS b R (k, [], M)) : M = R := by
  have g := h.go
  cases k with
  | zero => exact g
  | succ j => exact g
section
variable {X : Cx} {a : Expr} {Γ Γ1 : Sl} {pos : Pos}
theorem xe_lst1 {d : PyData} (h : XE X a Γ (.da d) Γ1) (hs : starEach [a] X.env = (false, eval a X.env) :: starEach [] X.env := by rfl) : XE X (.List [a] pos) Γ (.ll [d]) Γ1 := fun _ hq => we_lst (wa_cons (h _ (wa_nil ⟨[d], rfl, by show 1 ≤ sizeLine; decide, hq⟩)) hs)
end
def lexD (ps : List Pr) : List PyData := sortD (ps.map pD)
def spReach1 : SpD := fun as Ψ => ∃ (b : Bk) (q : Pr), as = [.da b.data, .da (.int (q.1 : Nat)), .da (.int (q.2 : Nat))] ∧ b.Ok ∧ q.1 < b.n ∧ q.2 < b.n ∧ Ψ (.da (.tuple (lexD (reached b q)))) as
def spReach2 : SpD := fun as Ψ => ∃ (b : Bk) (q : Pr), as = [.da b.data, .da (pD q)] ∧ b.Ok ∧ q.1 < b.n ∧ q.2 < b.n ∧ Ψ (.da (.tuple (lexD (reached b q)))) as
theorem keys_met {M : List Pr} : ((metD M).map fun q => q.1.data) = M.map pD := by
  rw [List.map_map]
  exact List.map_congr_left fun q _ => pK_data q
theorem pD_alike (p q : Pr) : PySem.W.alike (pD p) (pD q) = true := by simp [pD, PySem.W.alike, PySem.W.alikeAll]
theorem pD_depth (q : Pr) : (pD q).depth ≤ 60 := by
  have : (pD q).depth ≤ 1 := depth_it (xs := [q.1, q.2])
  omega
theorem srt_pairs {M : List Pr} (h : M.length ≤ 1000000) : SrtOk (M.map pD) := by
  refine ⟨plainAll_map fun q _ => plain_it (xs := [q.1, q.2]), ?_, .inl fun d hd => ?_, by rw [List.length_map]; exact szl h, fun d hd => ?_⟩
  · rintro d hd d' hd'
    obtain ⟨p, _, rfl⟩ := List.mem_map.mp hd
    obtain ⟨q, _, rfl⟩ := List.mem_map.mp hd'
    exact pD_alike p q
  · obtain ⟨q, _, rfl⟩ := List.mem_map.mp hd
    exact ⟨_, _, rfl⟩
  · obtain ⟨q, _, rfl⟩ := List.mem_map.mp hd
    exact pD_depth q
section
variable {P : Program} {w : World} {K : PySem.W.Frag} {mg : Str → Option Value} {bs h : Heap} (X : K.In h) (G : h.Ns mainGlobals mg) (B : Blt mg)
include X G B
theorem d_ordered (D : DK K "ordered" s_ordered) : Def P w K mg bs 1 "ordered" ["one", "two"] spOrd := by
  refine def_ok X G D sc_ordered (fun f fd F => F.binds (ps := ["one", "two"]) fun _ _ _ _ _ _ us hl => match us, hl with | [_, _], _ => rfl) (fun as Ψ h => by obtain ⟨_, _, rfl, _⟩ := h; rfl) fun f cdv A fr s H E fx as Ψ us hsp hl => ?_
  obtain ⟨a, c, rfl, hq⟩ := hsp
  obtain ⟨v0, v1, rfl⟩ := ar2 hl
  show WSs _ _ [some (.da (.int (a : Nat))), some (.da (.int (c : Nat)))] _
  refine xs_ret (xe_castD (xe_ifExp (xt_lt (xv 0) (xv 1)) (fun _ => xe_tup2 (xv 0) (xv 1)) fun _ => xe_tup2 (xv 1) (xv 0)) ?_) ⟨_, .da (.da .nil), hq⟩
  unfold ordN
  by_cases hac : a < c
  · rw [if_pos hac, if_pos (decide_eq_true (by omega))]; rfl
  · rw [if_neg hac, if_neg (by simp; omega)]; rfl
theorem d_lpair (D : DK K "_law_pair" s_l_pair) : Def P w K mg bs 1 "_law_pair" ["one", "two"] spOrd := by
  refine def_ok X G D sc_l_pair (fun f fd F => F.binds (ps := ["one", "two"]) fun _ _ _ _ _ _ us hl => match us, hl with | [_, _], _ => rfl) (fun as Ψ h => by obtain ⟨_, _, rfl, _⟩ := h; rfl) fun f cdv A fr s H E fx as Ψ us hsp hl => ?_
  obtain ⟨a, c, rfl, hq⟩ := hsp
  obtain ⟨v0, v1, rfl⟩ := ar2 hl
  show WSs _ _ [some (.da (.int (a : Nat))), some (.da (.int (c : Nat)))] _
  refine xs_ret (xe_castD (xe_tup2 (xe_min2 B rfl (xv 0) (xv 1)) (xe_max2 B rfl (xv 0) (xv 1))) ?_) ⟨_, .da (.da .nil), hq⟩
  unfold ordN pD
  by_cases hac : a < c
  · rw [if_pos hac, if_neg (by omega), if_pos (by omega)]
  · rw [if_neg hac]
    by_cases e : (c : Int) < a
    · rw [if_pos e, if_neg (by omega)]
    · rw [if_neg e, if_neg (by omega), show a = c by omega]
theorem d_allP (D : DK K "all_pairs" s_all_pairs) : Def P w K mg bs 1 "all_pairs" ["many"] spAllP := by
  refine def_ok X G D sc_all_pairs (fun f fd F => F.binds (ps := ["many"]) fun _ _ _ _ _ _ us hl => match us, hl with | [_], _ => rfl) (fun as Ψ h => by obtain ⟨_, rfl, _⟩ := h; rfl) fun f cdv A fr s H E fx as Ψ us hsp hl => ?_
  obtain ⟨n, rfl, hn, hq⟩ := hsp
  obtain ⟨v0, rfl⟩ := ar1 hl
  have nd := fx.nd
  show WSs _ _ [some (.da (.int (n : Nat))), none, none] _
  have e : ((List.range n).flatMap fun c => ((List.range (n - (c + 1))).map fun i => c + 1 + i).map fun d => pD (c, d)) = (apairs n).map pD := by
    unfold apairs
    rw [List.map_flatMap]
    congr 1
    funext c
    rw [List.map_map, List.map_map]
    rfl
  have hlen : ((List.range n).flatMap fun c => ((List.range (n - (c + 1))).map fun i => c + 1 + i).map fun d => pD (c, d)).length < sizeLine := by
    rw [e, List.length_map]
    have := apairs_len hn
    exact szlt (by omega)
  rw [← e] at hq
  refine xs_ret (xe_frz (xe_lc2 [("c", 1), ("d", 2)] [2] (fun (c : Nat) => [some (.da (.int (n : Nat))), some (.da (.int (c : Nat))), none]) (fun (c d : Nat) => [some (.da (.int (n : Nat))), some (.da (.int (c : Nat))), some (.da (.int (d : Nat)))])
    (List.range n) (fun (c : Nat) => .int (c : Nat)) (fun c => (List.range (n - (c + 1))).map fun i => c + 1 + i) (fun d => .int (d : Nat)) (fun c d => pD (c, d)) fx (xi_rangeN B (xv 0) (by omega)) (fun c hc s H C cl fp => gc_name 1 nd rfl) (fun c hc s H C cl fp => ?_) (fun c hc d hd s H C cl fp => gc_name 2 nd rfl) (fun c hc d hd s H C cl fp => xe_tup2 (xv 1) (xv 2)) hlen)) ⟨_, .da .nil, hq⟩
  have hcn := List.mem_range.mp hc
  rw [List.map_map]
  exact xi_rangeMN (m := c + 1) (n := n) B (xe_cast (xe_add (xv 1) xe_int) (by omega)) (xv 0) (by omega) (by omega)
theorem d_pairsOf (D : DK K "pairs_of" s_pairs_of) (gO : Def P w K mg bs 1 "ordered" ["one", "two"] spOrd) : Def P w K mg bs 2 "pairs_of" ["book", "c", "d"] spReach1 := by
  refine def_ok X G D sc_pairs_of (fun f fd F => F.binds (ps := ["book", "c", "d"]) fun _ _ _ _ _ _ us hl => match us, hl with | [_, _, _], _ => rfl) (fun as Ψ h => by obtain ⟨_, _, rfl, _⟩ := h; rfl) fun f cdv A fr s H E fx as Ψ us hsp hl => ?_
  obtain ⟨b, q, rfl, ok, hc, hd, hq⟩ := hsp
  obtain ⟨v0, v1, v2, rfl⟩ := ar3 hl
  have nd := fx.nd
  have r1 := fx.room.mono (show 1 ≤ 1 by decide)
  show WSs _ _ [some (.da b.data), some (.da (.int (q.1 : Nat))), some (.da (.int (q.2 : Nat))), none, none, none, none, none] _
  refine xs_set 3 nd (xe_ndict1 fx.u16 (pK_ok q) (xe_castD (xe_tup2 (xv 1) (xv 2)) (pK_data q).symm) xe_bl) ?_
  refine xs_set 4 nd (xe_lst1 (xe_tup2 (xv 1) (xv 2))) ?_
  show WSs _ _ [some (.da b.data), some (.da (.int (q.1 : Nat))), some (.da (.int (q.2 : Nat))), some (.dm (metD [q])), some (.ll ([q].map pD)), none, none, none] _
  refine ws_whileT fx (fun x : Nat × List Pr × List Pr => [some (.da b.data), some (.da (.int (q.1 : Nat))), some (.da (.int (q.2 : Nat))), some (.dm (metD x.2.2)), some (.ll (x.2.1.map pD)), none, none, none]) (CS b (reached b q)) (fun x => x.1) (2 * (b.n * b.n) + 2, [q], [q]) (CS.start ⟨hc, hd⟩) rfl ?_
  rintro ⟨k, L, M⟩ cs
  refine wt_pure (xt_truS 4 (.sv .ll (.inl rfl))) ⟨fun ht => ?_, fun ht => ?_⟩
  · have hl : L ≠ [] := fun e => by rw [e] at ht; cases ht
    obtain ⟨j, rfl, l1, l2, w0, cn⟩ := cs.next ok hl
    have hl' : L.map pD ≠ [] := fun e => hl (List.map_eq_nil_iff.mp e)
    have eg : (L.map pD).getLast hl' = pD (L.getLast hl) := List.getLast_map ..
    have ed : (L.map pD).dropLast = L.dropLast.map pD := List.map_dropLast.symm
    refine ws_set 5 nd (we_pop 4 hl' ?_)
    rw [eg, ed]
    generalize hx : L.getLast hl = x at l1 l2 cn
    show WSs _ _ [some (.da b.data), some (.da (.int (q.1 : Nat))), some (.da (.int (q.2 : Nat))), some (.dm (metD M)), some (.ll (L.dropLast.map pD)), some (.da (pD x)), none, none] _
    refine ws_forT fx (nxs b x) (fun p => .tuple [.int (p.1 : Nat), .int (p.2 : Nat)]) (fun S : List Pr × List Pr => [some (.da b.data), some (.da (.int (q.1 : Nat))), some (.da (.int (q.2 : Nat))), some (.dm (metD S.2)), some (.ll (S.1.map pD)), some (.da (pD x)), none, none]) (fun m S => S = ((nxs b x).take m).foldl stepC (L.dropLast, M) ∧ WkOk b S) (L.dropLast, M)
      (xi_zipU (xs := rowOf b x.1) (ys := rowOf b x.2) (E := fun (n : Nat) => .int n) (E' := fun (n : Nat) => .int n) B (xe_beh 0 ok l1 rfl (xe_ix (xv 5) xe_int (.inr rfl) rfl)) (xe_beh 0 ok l2 rfl (xe_ix (xv 5) xe_int (.inr rfl) rfl))) ⟨rfl, w0⟩ rfl ?_ ?_
    · rintro m p S hp ⟨hS, wk⟩
      obtain ⟨p1, p2⟩ := nxs_lt ok l1 l2 p (List.mem_of_getElem? hp)
      refine wg_tup rfl (wgs_cons (wg_name 6 nd (wgs_cons (wg_name 7 nd (wgs_nil ?_)))))
      have next : ((nxs b x).take (m + 1)).foldl stepC (L.dropLast, M) = stepC S p := by
        rw [List.take_succ, hp, List.foldl_append, ← hS]
        rfl
      have wn := (stepC_ok wk p1 p2).1
      obtain ⟨S1, S2⟩ := S
      have z1 := wk.few
      have z2 := wk.met.small ok
      have z1 : S1.length ≤ S2.length := z1
      have z2 : S2.length ≤ 3600 := z2
      refine xs_if (xt_cast (xt_nninS 3 fx.u16 metD_ok (pK_ok (ordN p.1 p.2)) (fun Ψ hΨ => we_fnR gO r1 fx.gd (wr_da (xv 6) (wr_da (xv 7) (wr_nil ⟨_, _, rfl, p.1, p.2, rfl, by rw [pK_data] at hΨ; exact hΨ⟩))))) (by rw [kget_met])) (fun hc => ?_) fun hc => ?_
      · have hnm : ordN p.1 p.2 ∉ S2 := by simpa using hc
        have hst : stepC (S1, S2) p = (S1 ++ [ordN p.1 p.2], S2 ++ [ordN p.1 p.2]) := if_neg hnm
        rw [hst] at wn next
        refine ws_nput 3 fx.u16 (we_pure xe_bl ⟨_, pK (ordN p.1 p.2), _, metD S2, _, rfl, rfl, .dm, metD_ok, pK_ok _, by rw [List.length_map]; exact szlt (by omega), (fun Ψ hΨ => we_fnR gO r1 fx.gd (wr_da (xv 6) (wr_da (xv 7) (wr_nil ⟨_, _, rfl, p.1, p.2, rfl, by rw [pK_data] at hΨ; exact hΨ⟩)))), ?_⟩)
        rw [kput_met, if_neg hnm]
        refine ws_expr (we_append 4 (we_fnR gO r1 fx.gd (wr_da (xv 6) (wr_da (xv 7) (wr_nil ⟨_, _, rfl, p.1, p.2, rfl, _, _, _, _, rfl, rfl, .ll, by rw [List.length_map]; exact szlt (by omega), ws_nil (ws_drop 6 (ws_drop 7 (ws_nil ⟨_, ⟨next.symm, wn⟩, ?_⟩)))⟩)))))
        rw [List.map_append]
        rfl
      · have hm2 : ordN p.1 p.2 ∈ S2 := by simpa using hc
        have hst : stepC (S1, S2) p = (S1, S2) := if_pos hm2
        rw [hst] at next
        exact ws_nil (ws_drop 6 (ws_drop 7 (ws_nil ⟨_, ⟨next.symm, wk⟩, rfl⟩)))
    · rintro S ⟨hS, wk⟩
      rw [List.take_length] at hS
      subst hS
      exact ws_drop 5 (ws_nil ⟨(j, (nxs b x).foldl stepC (L.dropLast, M)), cn, Nat.lt_succ_self j, rfl⟩)
  · have hl : L = [] := by
      cases L with
      | nil => rfl
      | cons q L => cases ht
    subst hl
    have e := cs.done
    have z := cs.ok.met.small ok
    have z : M.length ≤ 3600 := z
    refine xs_ret (xe_tupL B (xe_sortedMS (ks := metD M) 3 B rfl fx.u70 (by rw [keys_met]; exact srt_pairs (by omega)))) ⟨_, .da (.da (.da .nil)), ?_⟩
    rw [keys_met]
    subst e
    exact hq
end
end Law

namespace Law
open PySem PySem.Spec PyProof.Rows L2 TL
section
variable {P : Program} {w : World} {K : PySem.W.Frag} {mg : Str → Option Value} {bs h : Heap} (X : K.In h) (G : h.Ns mainGlobals mg) (B : Blt mg)
include X G B
theorem d_lpairsFrom (D : DK K "_law_pairs_from" s_l_pairs_from) (gO : Def P w K mg bs 1 "_law_pair" ["one", "two"] spOrd) : Def P w K mg bs 2 "_law_pairs_from" ["book", "pair"] spReach2 := by
  refine def_ok X G D sc_l_pairs_from (fun f fd F => F.binds (ps := ["book", "pair"]) fun _ _ _ _ _ _ us hl => match us, hl with | [_, _], _ => rfl) (fun as Ψ h => by obtain ⟨_, _, rfl, _⟩ := h; rfl) fun f cdv A fr s H E fx as Ψ us hsp hl => ?_
  obtain ⟨b, q, rfl, ok, hc, hd, hq⟩ := hsp
  obtain ⟨v0, v1, rfl⟩ := ar2 hl
  have nd := fx.nd
  have r1 := fx.room.mono (show 1 ≤ 1 by decide)
  show WSs _ _ [some (.da b.data), some (.da (pD q)), none, none, none, none, none] _
  refine xs_set 2 nd (xe_ndict1 fx.u16 (pK_ok q) (xe_castD (xv 1) (pK_data q).symm) xe_bl) ?_
  refine xs_set 3 nd (xe_lst1 (xv 1)) ?_
  show WSs _ _ [some (.da b.data), some (.da (pD q)), some (.dm (metD [q])), some (.ll ([q].map pD)), none, none, none] _
  refine ws_whileT fx (fun x : Nat × List Pr × List Pr => [some (.da b.data), some (.da (pD q)), some (.dm (metD x.2.2)), some (.ll (x.2.1.map pD)), none, none, none]) (CS b (reached b q)) (fun x => x.1) (2 * (b.n * b.n) + 2, [q], [q]) (CS.start ⟨hc, hd⟩) rfl ?_
  rintro ⟨k, L, M⟩ cs
  refine wt_pure (xt_gt (xe_lenS 3 B) xe_int) ⟨fun ht => ?_, fun ht => ?_⟩
  · have hl : L ≠ [] := fun e => by rw [e] at ht; simp at ht
    obtain ⟨j, rfl, l1, l2, w0, cn⟩ := cs.next ok hl
    have hl' : L.map pD ≠ [] := fun e => hl (List.map_eq_nil_iff.mp e)
    have eg : (L.map pD).getLast hl' = pD (L.getLast hl) := List.getLast_map ..
    have ed : (L.map pD).dropLast = L.dropLast.map pD := List.map_dropLast.symm
    refine ws_set 4 nd (we_pop 3 hl' ?_)
    rw [eg, ed]
    generalize hx : L.getLast hl = x at l1 l2 cn
    show WSs _ _ [some (.da b.data), some (.da (pD q)), some (.dm (metD M)), some (.ll (L.dropLast.map pD)), some (.da (pD x)), none, none] _
    refine ws_forT fx (nxs b x) (fun p => .tuple [.int (p.1 : Nat), .int (p.2 : Nat)]) (fun S : List Pr × List Pr => [some (.da b.data), some (.da (pD q)), some (.dm (metD S.2)), some (.ll (S.1.map pD)), some (.da (pD x)), none, none]) (fun m S => S = ((nxs b x).take m).foldl stepC (L.dropLast, M) ∧ WkOk b S) (L.dropLast, M)
      (xi_zipU (xs := rowOf b x.1) (ys := rowOf b x.2) (E := fun (n : Nat) => .int n) (E' := fun (n : Nat) => .int n) B (xe_beh 0 ok l1 rfl (xe_ix (xv 4) xe_int (.inr rfl) rfl)) (xe_beh 0 ok l2 rfl (xe_ix (xv 4) xe_int (.inr rfl) rfl))) ⟨rfl, w0⟩ rfl ?_ ?_
    · rintro m p S hp ⟨hS, wk⟩
      obtain ⟨p1, p2⟩ := nxs_lt ok l1 l2 p (List.mem_of_getElem? hp)
      refine wg_tup rfl (wgs_cons (wg_name 5 nd (wgs_cons (wg_name 6 nd (wgs_nil ?_)))))
      have next : ((nxs b x).take (m + 1)).foldl stepC (L.dropLast, M) = stepC S p := by
        rw [List.take_succ, hp, List.foldl_append, ← hS]
        rfl
      have wn := (stepC_ok wk p1 p2).1
      obtain ⟨S1, S2⟩ := S
      have z1 := wk.few
      have z2 := wk.met.small ok
      have z1 : S1.length ≤ S2.length := z1
      have z2 : S2.length ≤ 3600 := z2
      refine xs_if (xt_cast (xt_nninS 2 fx.u16 metD_ok (pK_ok (ordN p.1 p.2)) (fun Ψ hΨ => we_fnR gO r1 fx.gd (wr_da (xv 5) (wr_da (xv 6) (wr_nil ⟨_, _, rfl, p.1, p.2, rfl, by rw [pK_data] at hΨ; exact hΨ⟩))))) (by rw [kget_met])) (fun hc => ?_) fun hc => ?_
      · have hnm : ordN p.1 p.2 ∉ S2 := by simpa using hc
        have hst : stepC (S1, S2) p = (S1 ++ [ordN p.1 p.2], S2 ++ [ordN p.1 p.2]) := if_neg hnm
        rw [hst] at wn next
        refine ws_nput 2 fx.u16 (we_pure xe_bl ⟨_, pK (ordN p.1 p.2), _, metD S2, _, rfl, rfl, .dm, metD_ok, pK_ok _, by rw [List.length_map]; exact szlt (by omega), (fun Ψ hΨ => we_fnR gO r1 fx.gd (wr_da (xv 5) (wr_da (xv 6) (wr_nil ⟨_, _, rfl, p.1, p.2, rfl, by rw [pK_data] at hΨ; exact hΨ⟩)))), ?_⟩)
        rw [kput_met, if_neg hnm]
        refine ws_expr (we_append 3 (we_fnR gO r1 fx.gd (wr_da (xv 5) (wr_da (xv 6) (wr_nil ⟨_, _, rfl, p.1, p.2, rfl, _, _, _, _, rfl, rfl, .ll, by rw [List.length_map]; exact szlt (by omega), ws_nil (ws_drop 5 (ws_drop 6 (ws_nil ⟨_, ⟨next.symm, wn⟩, ?_⟩)))⟩)))))
        rw [List.map_append]
        rfl
      · have hm2 : ordN p.1 p.2 ∈ S2 := by simpa using hc
        have hst : stepC (S1, S2) p = (S1, S2) := if_pos hm2
        rw [hst] at next
        exact ws_nil (ws_drop 5 (ws_drop 6 (ws_nil ⟨_, ⟨next.symm, wk⟩, rfl⟩)))
    · rintro S ⟨hS, wk⟩
      rw [List.take_length] at hS
      subst hS
      exact ws_drop 4 (ws_nil ⟨(j, (nxs b x).foldl stepC (L.dropLast, M)), cn, Nat.lt_succ_self j, rfl⟩)
  · have hl : L = [] := by
      cases L with
      | nil => rfl
      | cons q L => simp at ht
    subst hl
    have e := cs.done
    have z := cs.ok.met.small ok
    have z : M.length ≤ 3600 := z
    refine xs_ret (xe_tupL B (xe_sortedMS (ks := metD M) 2 B rfl fx.u70 (by rw [keys_met]; exact srt_pairs (by omega)))) ⟨_, .da (.da .nil), ?_⟩
    rw [keys_met]
    subst e
    exact hq
end
end Law

namespace Law
open PySem PySem.Spec PyProof.Rows L2 TL
/-! ### pairs that meet: the plain part -/
inductive Mt (b : Bk) : Pr → Prop
  | now {q p : Pr} : p ∈ nxs b q → p.1 = p.2 → Mt b q
  | next {q p : Pr} : p ∈ nxs b q → Mt b (ordN p.1 p.2) → Mt b q
abbrev BL := List (Pr × List Pr)
def getB (m : BL) (r : Pr) : List Pr := (kget m r).getD []
def addB (m : BL) (r q : Pr) : BL := kput m r (getB m r ++ [q])
abbrev dlP (m : BL) : List (NestedKey × List PyData) := m.map fun e => (pK e.1, e.2.map pD)
theorem dlP_keys {m : BL} {r : Pr} : pK r ∈ (dlP m).map Prod.fst ↔ r ∈ m.map (·.1) := by
  rw [List.map_map]
  constructor
  · intro h
    obtain ⟨e, he, e1⟩ := List.mem_map.mp h
    exact List.mem_map.mpr ⟨e, he, pK_inj _ _ e1⟩
  · intro h
    obtain ⟨e, he, e1⟩ := List.mem_map.mp h
    exact List.mem_map.mpr ⟨e, he, congrArg pK e1⟩
theorem addL_dlP {m : BL} (nd : (m.map (·.1)).Nodup) {r q : Pr} : addL (dlP m) (pK r) (pD q) = dlP (addB m r q) := by
  unfold addL addB kput
  by_cases h : r ∈ m.map (·.1)
  · rw [if_pos (dlP_keys.mpr h)]
    have h2 : (m.any fun e => decide (e.1 = r)) = true := by
      obtain ⟨e, he, e1⟩ := List.mem_map.mp h
      exact List.any_eq_true.mpr ⟨e, he, decide_eq_true e1⟩
    rw [if_pos h2, List.map_map]
    show _ = List.map _ (List.map _ m)
    rw [List.map_map]
    refine List.map_congr_left fun e he => ?_
    show (if pK e.1 = pK r then (pK e.1, e.2.map pD ++ [pD q]) else (pK e.1, e.2.map pD)) = (pK (if e.1 = r then (e.1, getB m r ++ [q]) else e).1, (if e.1 = r then (e.1, getB m r ++ [q]) else e).2.map pD)
    by_cases e1 : e.1 = r
    · rw [if_pos (congrArg pK e1), if_pos e1]
      have : getB m r = e.2 := by
        unfold getB
        rw [← e1, mem_kget nd (k := e.1) (v := e.2) he]
        rfl
      rw [this, List.map_append]
      rfl
    · rw [if_neg (fun z => e1 (pK_inj _ _ z)), if_neg e1]
  · have h1 : kget m r = none := by
      cases e1 : kget m r with
      | none => rfl
      | some l => exact absurd (List.mem_map.mpr ⟨_, kget_some_mem e1, rfl⟩) h
    rw [if_neg (fun z => h (dlP_keys.mp z))]
    have h2 : ¬ (m.any fun e => decide (e.1 = r)) = true := by rw [kget_any, h1]; simp
    rw [if_neg h2]
    show _ = List.map _ (m ++ _)
    rw [List.map_append]
    unfold getB
    rw [h1]
    rfl
theorem getB_add {m : BL} {r r' q x : Pr} : x ∈ getB (addB m r q) r' ↔ x ∈ getB m r' ∨ (x = q ∧ r' = r) := by
  unfold addB
  conv => lhs; unfold getB
  rw [kget_put]
  by_cases h : r' = r
  · rw [if_pos h, h]
    show x ∈ getB m r ++ [q] ↔ _
    rw [List.mem_append, List.mem_singleton]
    simp
  · rw [if_neg h]
    show x ∈ getB m r' ↔ _
    simp [h]
def stepM (q : Pr) (S : BL × List Pr) (p : Pr) : BL × List Pr := if p.1 = p.2 then (if q ∈ S.2 then S else (S.1, S.2 ++ [q])) else (addB S.1 (ordN p.1 p.2) q, S.2)
def stM (b : Bk) (S : BL × List Pr) (q : Pr) : BL × List Pr := (nxs b q).foldl (stepM q) S
def ph1 (b : Bk) : BL × List Pr := (apairs b.n).foldl (stM b) ([], [])
theorem stepM_sem {q : Pr} {S : BL × List Pr} {p : Pr} : (∀ r x, x ∈ getB (stepM q S p).1 r ↔ x ∈ getB S.1 r ∨ (x = q ∧ p.1 ≠ p.2 ∧ r = ordN p.1 p.2)) ∧ (∀ x, x ∈ (stepM q S p).2 ↔ x ∈ S.2 ∨ (x = q ∧ p.1 = p.2)) := by
  unfold stepM
  by_cases h : p.1 = p.2
  · rw [if_pos h]
    by_cases hq : q ∈ S.2
    · rw [if_pos hq]
      refine ⟨fun r x => by simp [h], fun x => ?_⟩
      constructor
      · exact .inl
      · rintro (z | ⟨rfl, _⟩)
        · exact z
        · exact hq
    · rw [if_neg hq]
      exact ⟨fun r x => by simp [h], fun x => by simp [h]⟩
  · rw [if_neg h]
    exact ⟨fun r x => by rw [getB_add]; simp [h], fun x => by simp [h]⟩
theorem foldM_sem {q : Pr} : ∀ (ps : List Pr) {S : BL × List Pr}, (∀ r x, x ∈ getB (ps.foldl (stepM q) S).1 r ↔ x ∈ getB S.1 r ∨ (x = q ∧ ∃ p ∈ ps, p.1 ≠ p.2 ∧ r = ordN p.1 p.2)) ∧ (∀ x, x ∈ (ps.foldl (stepM q) S).2 ↔ x ∈ S.2 ∨ (x = q ∧ ∃ p ∈ ps, p.1 = p.2))
  | [], S => ⟨fun r x => by simp, fun x => by simp⟩
  | p :: ps, S => by
    obtain ⟨g1, g2⟩ := stepM_sem (q := q) (S := S) (p := p)
    obtain ⟨g3, g4⟩ := foldM_sem ps (S := stepM q S p)
    refine ⟨fun r x => ?_, fun x => ?_⟩
    · rw [List.foldl_cons, g3, g1]
      simp only [List.mem_cons, exists_eq_or_imp]
      constructor
      · rintro ((z | ⟨z1, z2⟩) | ⟨z1, z2⟩)
        · exact .inl z
        · exact .inr ⟨z1, .inl z2⟩
        · exact .inr ⟨z1, .inr z2⟩
      · rintro (z | ⟨z1, z2 | z2⟩)
        · exact .inl (.inl z)
        · exact .inl (.inr ⟨z1, z2⟩)
        · exact .inr ⟨z1, z2⟩
    · rw [List.foldl_cons, g4, g2]
      simp only [List.mem_cons, exists_eq_or_imp]
      constructor
      · rintro ((z | ⟨z1, z2⟩) | ⟨z1, z2⟩)
        · exact .inl z
        · exact .inr ⟨z1, .inl z2⟩
        · exact .inr ⟨z1, .inr z2⟩
      · rintro (z | ⟨z1, z2 | z2⟩)
        · exact .inl (.inl z)
        · exact .inl (.inr ⟨z1, z2⟩)
        · exact .inr ⟨z1, z2⟩
theorem ph_sem {b : Bk} : ∀ (qs : List Pr) {S : BL × List Pr}, (∀ r x, x ∈ getB (qs.foldl (stM b) S).1 r ↔ x ∈ getB S.1 r ∨ (x ∈ qs ∧ ∃ p ∈ nxs b x, p.1 ≠ p.2 ∧ r = ordN p.1 p.2)) ∧ (∀ x, x ∈ (qs.foldl (stM b) S).2 ↔ x ∈ S.2 ∨ (x ∈ qs ∧ ∃ p ∈ nxs b x, p.1 = p.2))
  | [], S => ⟨fun r x => by simp, fun x => by simp⟩
  | q :: qs, S => by
    obtain ⟨g1, g2⟩ := foldM_sem (q := q) (nxs b q) (S := S)
    obtain ⟨g3, g4⟩ := ph_sem qs (S := stM b S q)
    refine ⟨fun r x => ?_, fun x => ?_⟩
    · rw [List.foldl_cons, g3]
      unfold stM
      rw [g1]
      constructor
      · rintro ((z | ⟨rfl, z2⟩) | ⟨z1, z2⟩)
        · exact .inl z
        · exact .inr ⟨List.mem_cons_self, z2⟩
        · exact .inr ⟨List.mem_cons_of_mem _ z1, z2⟩
      · rintro (z | ⟨z1, z2⟩)
        · exact .inl (.inl z)
        · rcases List.mem_cons.mp z1 with rfl | z1
          · exact .inl (.inr ⟨rfl, z2⟩)
          · exact .inr ⟨z1, z2⟩
    · rw [List.foldl_cons, g4]
      unfold stM
      rw [g2]
      constructor
      · rintro ((z | ⟨rfl, z2⟩) | ⟨z1, z2⟩)
        · exact .inl z
        · exact .inr ⟨List.mem_cons_self, z2⟩
        · exact .inr ⟨List.mem_cons_of_mem _ z1, z2⟩
      · rintro (z | ⟨z1, z2⟩)
        · exact .inl (.inl z)
        · rcases List.mem_cons.mp z1 with rfl | z1
          · exact .inl (.inr ⟨rfl, z2⟩)
          · exact .inr ⟨z1, z2⟩
theorem ph1_sem {b : Bk} : (∀ r x, x ∈ getB (ph1 b).1 r ↔ x ∈ apairs b.n ∧ ∃ p ∈ nxs b x, p.1 ≠ p.2 ∧ r = ordN p.1 p.2) ∧ (∀ x, x ∈ (ph1 b).2 ↔ x ∈ apairs b.n ∧ ∃ p ∈ nxs b x, p.1 = p.2) := by
  obtain ⟨g1, g2⟩ := ph_sem (b := b) (apairs b.n) (S := ([], []))
  refine ⟨fun r x => ?_, fun x => ?_⟩
  · unfold ph1
    rw [g1]
    simp [getB, kget_nil]
  · unfold ph1
    rw [g2]
    simp
/-- the state of the first part -/
structure BOk (b : Bk) (k : Nat) (S : BL × List Pr) : Prop where
  nd : (S.1.map (·.1)).Nodup
  lt : ∀ e ∈ S.1, e.1.1 < b.n ∧ e.1.2 < b.n
  few : ∀ e ∈ S.1, e.2.length ≤ k
  pr : PrOk b S.2
theorem BOk.mono {b : Bk} {k k' : Nat} {S : BL × List Pr} (h : BOk b k S) (hk : k ≤ k') : BOk b k' S := ⟨h.nd, h.lt, fun e he => Nat.le_trans (h.few e he) hk, h.pr⟩
theorem BOk.len {b : Bk} (ok : b.Ok) {k : Nat} {S : BL × List Pr} (h : BOk b k S) : S.1.length ≤ 3600 := by
  have := pairs_len h.nd fun p hp => by
    obtain ⟨q, hq, rfl⟩ := List.mem_map.mp hp
    exact h.lt q hq
  rw [List.length_map] at this
  exact Nat.le_trans this (nn_le ok)
theorem stepM_ok {b : Bk} {k : Nat} {S : BL × List Pr} (h : BOk b k S) {q p : Pr} (hq : q.1 < b.n ∧ q.2 < b.n) (hp : p.1 < b.n ∧ p.2 < b.n) : BOk b (k + 1) (stepM q S p) := by
  unfold stepM
  split
  · have := h.pr.one hq
    split
    · exact h.mono (Nat.le_succ _)
    · rename_i hn
      rw [if_neg hn] at this
      exact ⟨h.nd, h.lt, fun e he => Nat.le_succ_of_le (h.few e he), this⟩
  · refine ⟨kput_nodup h.nd, fun e he => ?_, fun e he => ?_, h.pr⟩
    · rcases kput_mem he with z | z
      · exact h.lt e z
      · rw [z]
        exact ordN_lt hp.1 hp.2
    · rcases kput_mem he with z | z
      · exact Nat.le_succ_of_le (h.few e z)
      · rw [z]
        show (getB S.1 _ ++ [q]).length ≤ k + 1
        rw [List.length_append]
        have : (getB S.1 (ordN p.1 p.2)).length ≤ k := by
          unfold getB
          cases e1 : kget S.1 (ordN p.1 p.2) with
          | none => exact Nat.zero_le _
          | some l => exact h.few _ (kget_some_mem e1)
        simp
        omega
theorem foldM_ok {b : Bk} {q : Pr} (hq : q.1 < b.n ∧ q.2 < b.n) : ∀ (ps : List Pr) {k : Nat} {S : BL × List Pr}, BOk b k S → (∀ p ∈ ps, p.1 < b.n ∧ p.2 < b.n) → BOk b (k + ps.length) (ps.foldl (stepM q) S)
  | [], _, _, h, _ => h
  | p :: ps, k, S, h, hp => by
    have := foldM_ok hq ps (stepM_ok h hq (hp p List.mem_cons_self)) fun x hx => hp x (List.mem_cons_of_mem _ hx)
    rw [List.length_cons, show k + (ps.length + 1) = k + 1 + ps.length by omega]
    exact this
theorem nxs_len {b : Bk} (ok : b.Ok) {q : Pr} (h1 : q.1 < b.n) : (nxs b q).length ≤ 8 := by
  unfold nxs
  rw [List.length_zip]
  have := (beh_row ok h1).2.1
  have := ok.dl
  omega
end Law

namespace Law
open PySem PySem.Spec PyProof.Rows L2 TL
/-! ### pairs that meet: the second part, the walk -/
structure WkM (b : Bk) (X : Pr → Prop) (S : List Pr × List Pr) : Prop where
  pr : PrOk b S.2
  ap : ∀ q ∈ S.2, q ∈ apairs b.n
  few : S.1.length ≤ S.2.length
  sub : ∀ q ∈ S.1, q ∈ S.2
  mt : ∀ q ∈ S.2, Mt b q
  base : ∀ q ∈ (ph1 b).2, q ∈ S.2
  clo : ∀ r ∈ S.2, r ∈ S.1 ∨ X r ∨ ∀ x ∈ getB (ph1 b).1 r, x ∈ S.2
def stepD (S : List Pr × List Pr) (y : Pr) : List Pr × List Pr := if y ∈ S.2 then S else (S.1 ++ [y], S.2 ++ [y])
abbrev msr (b : Bk) (S : List Pr × List Pr) : Nat := 2 * (b.n * b.n - S.2.length) + S.1.length
theorem apairs_lt {n : Nat} {q : Pr} (h : q ∈ apairs n) : q.1 < n ∧ q.2 < n := by
  have := apairs_mem.mp h
  omega
theorem stepD_ok {b : Bk} {X : Pr → Prop} {S : List Pr × List Pr} (h : WkM b X S) {y : Pr} (hy : y ∈ apairs b.n) (hm : Mt b y) : WkM b X (stepD S y) ∧ (∀ z, z ∈ (stepD S y).2 ↔ z ∈ S.2 ∨ z = y) ∧ msr b (stepD S y) ≤ msr b S := by
  unfold stepD
  by_cases hn : y ∈ S.2
  · rw [if_pos hn]
    exact ⟨h, fun z => ⟨.inl, fun q => q.elim id fun e => e ▸ hn⟩, Nat.le_refl _⟩
  · rw [if_neg hn]
    have po := h.pr.one (apairs_lt hy)
    rw [if_neg hn] at po
    have hl := pairs_len po.nd po.lt
    rw [List.length_append] at hl
    have iff_ : ∀ z, z ∈ S.2 ++ [y] ↔ z ∈ S.2 ∨ z = y := fun z => by rw [List.mem_append, List.mem_singleton]
    refine ⟨⟨po, fun q hq => ?_, ?_, fun q hq => ?_, fun q hq => ?_, fun q hq => (iff_ q).mpr (.inl (h.base q hq)), fun r hr => ?_⟩, iff_, ?_⟩
    · rcases (iff_ q).mp hq with z | rfl
      · exact h.ap q z
      · exact hy
    · have := h.few
      show (S.1 ++ [y]).length ≤ (S.2 ++ [y]).length
      rw [List.length_append, List.length_append]
      omega
    · rcases List.mem_append.mp hq with z | z
      · exact (iff_ q).mpr (.inl (h.sub q z))
      · exact (iff_ q).mpr (.inr (List.mem_singleton.mp z))
    · rcases (iff_ q).mp hq with z | rfl
      · exact h.mt q z
      · exact hm
    · rcases (iff_ r).mp hr with z | rfl
      · rcases h.clo r z with w | w | w
        · exact .inl (List.mem_append_left _ w)
        · exact .inr (.inl w)
        · exact .inr (.inr fun x hx => (iff_ x).mpr (.inl (w x hx)))
      · exact .inl (List.mem_append_right _ List.mem_cons_self)
    · show 2 * (b.n * b.n - (S.2 ++ [y]).length) + (S.1 ++ [y]).length ≤ 2 * (b.n * b.n - S.2.length) + S.1.length
      rw [List.length_append, List.length_append]
      simp at hl ⊢
      omega
theorem WkM.fin {b : Bk} (ok : b.Ok) {M : List Pr} (h : WkM b (fun _ => False) ([], M)) (q : Pr) : q ∈ M ↔ q ∈ apairs b.n ∧ Mt b q := by
  refine ⟨fun hq => ⟨h.ap q hq, h.mt q hq⟩, fun ⟨h1, h2⟩ => ?_⟩
  induction h2 with
  | @now q p hp e => exact h.base q (ph1_sem.2 q |>.mpr ⟨h1, p, hp, e⟩)
  | @next q p hp hm ih =>
    obtain ⟨l1, l2⟩ := nxs_lt ok (apairs_lt h1).1 (apairs_lt h1).2 p hp
    by_cases e : p.1 = p.2
    · exact h.base q (ph1_sem.2 q |>.mpr ⟨h1, p, hp, e⟩)
    · have hr : ordN p.1 p.2 ∈ apairs b.n := by
        rw [apairs_mem]
        unfold ordN
        split
        · exact ⟨by assumption, l2⟩
        · exact ⟨show p.2 < p.1 by omega, l1⟩
      rcases h.clo _ (ih ⟨hr, hm⟩ hr) with z | z | z
      · cases z
      · exact z.elim
      · exact z q ((ph1_sem.1 _ q).mpr ⟨h1, p, hp, e, rfl⟩)
/-- the start of the second part -/
theorem WkM.start {b : Bk} (h : PrOk b (ph1 b).2) : WkM b (fun _ => False) ((ph1 b).2, (ph1 b).2) :=
  ⟨h, fun q hq => ((ph1_sem.2 q).mp hq).1, Nat.le_refl _, fun q hq => hq, fun q hq => let ⟨_, p, hp, e⟩ := (ph1_sem.2 q).mp hq; .now hp e, fun q hq => hq, fun r hr => .inl hr⟩
theorem WkM.pop {b : Bk} {L M : List Pr} (h : WkM b (fun _ => False) (L, M)) (hl : L ≠ []) : WkM b (fun r => r = L.getLast hl) (L.dropLast, M) :=
  ⟨h.pr, h.ap, by have : L.length ≤ M.length := h.few; show L.dropLast.length ≤ M.length; rw [List.length_dropLast]; omega, fun q hq => h.sub q (List.dropLast_subset _ hq), h.mt, h.base, fun r hr => by
    rcases h.clo r hr with z | z | z
    · by_cases e : r = L.getLast hl
      · exact .inr (.inl e)
      · refine .inl ?_
        have z : r ∈ L := z
        rw [← List.dropLast_concat_getLast hl, List.mem_append, List.mem_singleton] at z
        exact z.elim id fun w => absurd w e
    · exact z.elim
    · exact .inr (.inr z)⟩
theorem WkM.push {b : Bk} {x : Pr} {S : List Pr × List Pr} (h : WkM b (fun r => r = x) S) (hx : ∀ y ∈ getB (ph1 b).1 x, y ∈ S.2) : WkM b (fun _ => False) S :=
  ⟨h.pr, h.ap, h.few, h.sub, h.mt, h.base, fun r hr => by
    rcases h.clo r hr with z | z | z
    · exact .inl z
    · exact .inr (.inr (z ▸ hx))
    · exact .inr (.inr z)⟩
theorem foldD_ok {b : Bk} {X : Pr → Prop} : ∀ (ys : List Pr) {S : List Pr × List Pr}, WkM b X S → (∀ y ∈ ys, y ∈ apairs b.n ∧ Mt b y) → WkM b X (ys.foldl stepD S) ∧ (∀ z, z ∈ (ys.foldl stepD S).2 ↔ z ∈ S.2 ∨ z ∈ ys) ∧ msr b (ys.foldl stepD S) ≤ msr b S
  | [], S, h, _ => ⟨h, fun z => by simp, Nat.le_refl _⟩
  | y :: ys, S, h, hy => by
    obtain ⟨g1, g2, g3⟩ := stepD_ok h (hy y List.mem_cons_self).1 (hy y List.mem_cons_self).2
    obtain ⟨g4, g5, g6⟩ := foldD_ok ys g1 fun x hx => hy x (List.mem_cons_of_mem _ hx)
    refine ⟨g4, fun z => ?_, Nat.le_trans g6 g3⟩
    rw [List.foldl_cons, g5, g2, List.mem_cons, or_assoc]
theorem kget_dl {m : BL} {r : Pr} : (kget (lstD (dlP m)) (pK r)).getD (.list []) = .list ((getB m r).map pD) := by
  have e : lstD (dlP m) = m.map fun p => (pK p.1, (fun l : List Pr => PyData.list (l.map pD)) p.2) := by
    show List.map _ (List.map _ m) = _
    rw [List.map_map]
    rfl
  rw [e, kget_map (f := pK) (g := fun l : List Pr => PyData.list (l.map pD)) pK_inj]
  unfold getB
  cases kget m r <;> rfl
theorem lst_ok {m : BL} : KsOk (lstD (dlP m)) := fun q hq => by
  obtain ⟨p, hp, rfl⟩ := List.mem_map.mp hq
  obtain ⟨e, _, rfl⟩ := List.mem_map.mp hp
  exact pK_ok _
def spKnown : SpD := fun as Ψ => ∃ b : Bk, as = [.da b.data] ∧ b.Ok ∧ ∀ M : List Pr, PrOk b M → (∀ q, q ∈ M ↔ q ∈ apairs b.n ∧ Mt b q) → Ψ (.dm (metD M)) as
section
variable {P : Program} {w : World} {K : PySem.W.Frag} {mg : Str → Option Value} {bs h : Heap} (X : K.In h) (G : h.Ns mainGlobals mg) (B : Blt mg)
include X G B
theorem d_known (D : DK K "meeting_pairs" s_meeting_pairs) (gA : Def P w K mg bs 1 "all_pairs" ["many"] spAllP) (gO : Def P w K mg bs 1 "ordered" ["one", "two"] spOrd) : Def P w K mg bs 2 "meeting_pairs" ["book"] spKnown := by
  refine def_ok X G D sc_meeting_pairs (fun f fd F => F.binds (ps := ["book"]) fun _ _ _ _ _ _ us hl => match us, hl with | [_], _ => rfl) (fun as Ψ h => by obtain ⟨_, rfl, _⟩ := h; rfl) fun f cdv A fr s H E fx as Ψ us hsp hl => ?_
  obtain ⟨b, rfl, ok, hq⟩ := hsp
  obtain ⟨v0, rfl⟩ := ar1 hl
  have nd := fx.nd
  have r1 := fx.room.mono (show 1 ≤ 1 by decide)
  show WSs _ _ [some (.da b.data), none, none, none, none, none, none, none, none] _
  refine ws_set 1 nd (we_conv dl_new (we_pure xe_dictM0 ⟨rfl, ?_⟩))
  refine xs_set 2 nd xe_dictM0 ?_
  refine xs_set 3 nd xe_lst0 ?_
  show WSs _ _ [some (.da b.data), some (.op (dlO ⟨P, w, K⟩ (dlP []))), some (.dm (metD [])), some (.ll (([] : List Pr).map pD)), none, none, none, none, none] _
  refine ws_forT fx (apairs b.n) pD (fun S : BL × List Pr => [some (.da b.data), some (.op (dlO ⟨P, w, K⟩ (dlP S.1))), some (.dm (metD S.2)), some (.ll (S.2.map pD)), none, none, none, none, none]) (fun n S => S = ((apairs b.n).take n).foldl (stM b) ([], []) ∧ BOk b (8 * n) S ∧ S.2.length ≤ 3600) ([], [])
    (xi_lst fun Ψ' hΨ => we_fnR gA r1 fx.gd (wr_da (xe_cast (xe_len B (ds := b.views) (xe_ix (xv 0) xe_int (.inr rfl) rfl) (.inr rfl)) (by rw [ok.vl])) (wr_nil ⟨_, _, rfl, b.n, rfl, ok.n2, hΨ⟩))) ⟨rfl, ⟨List.nodup_nil, by simp, by simp, ⟨List.nodup_nil, by simp⟩⟩, Nat.zero_le _⟩ rfl ?_ ?_
  · rintro n q S hqn ⟨hS, bo, _⟩
    have hqm := apairs_lt (List.mem_of_getElem? hqn)
    have hn : n < 3600 := by
      have h1 := (List.getElem?_eq_some_iff.mp hqn).1
      have := apairs_len ok.n2
      omega
    refine wg_tup rfl (wgs_cons (wg_name 4 nd (wgs_cons (wg_name 5 nd (wgs_nil ?_)))))
    show WSs _ _ [some (.da b.data), some (.op (dlO ⟨P, w, K⟩ (dlP S.1))), some (.dm (metD S.2)), some (.ll (S.2.map pD)), some (.da (.int (q.1 : Nat))), some (.da (.int (q.2 : Nat))), none, none, none] _
    refine ws_forT fx (nxs b q) (fun p => .tuple [.int (p.1 : Nat), .int (p.2 : Nat)]) (fun T : BL × List Pr => [some (.da b.data), some (.op (dlO ⟨P, w, K⟩ (dlP T.1))), some (.dm (metD T.2)), some (.ll (T.2.map pD)), some (.da (.int (q.1 : Nat))), some (.da (.int (q.2 : Nat))), none, none, none]) (fun m T => T = ((nxs b q).take m).foldl (stepM q) S ∧ BOk b (8 * n + m) T) S
      (xi_zipU (xs := rowOf b q.1) (ys := rowOf b q.2) (E := fun (n : Nat) => .int n) (E' := fun (n : Nat) => .int n) B (xe_beh 0 ok hqm.1 rfl (xv 4)) (xe_beh 0 ok hqm.2 rfl (xv 5))) ⟨rfl, bo⟩ rfl ?_ ?_
    · rintro m p T hp ⟨hT, bT⟩
      obtain ⟨p1, p2⟩ := nxs_lt ok hqm.1 hqm.2 p (List.mem_of_getElem? hp)
      have hm8 : m < 8 := by
        have h1 := (List.getElem?_eq_some_iff.mp hp).1
        have := nxs_len ok hqm.1 (q := q)
        omega
      refine wg_tup rfl (wgs_cons (wg_name 6 nd (wgs_cons (wg_name 7 nd (wgs_nil ?_)))))
      have next : ((nxs b q).take (m + 1)).foldl (stepM q) S = stepM q T p := by
        rw [List.take_succ, hp, List.foldl_append, ← hT]
        rfl
      have bn := stepM_ok bT hqm ⟨p1, p2⟩
      obtain ⟨T1, T2⟩ := T
      have z1 : T1.length ≤ 3600 := bT.len ok
      have z2 : T2.length ≤ 3600 := bT.pr.small ok
      show WSs _ _ [some (.da b.data), some (.op (dlO ⟨P, w, K⟩ (dlP T1))), some (.dm (metD T2)), some (.ll (T2.map pD)), some (.da (.int (q.1 : Nat))), some (.da (.int (q.2 : Nat))), some (.da (.int (p.1 : Nat))), some (.da (.int (p.2 : Nat))), none] _
      refine xs_if (xt_neI fx.u (xv 6) (xv 7)) (fun hc => ?_) fun hc => ?_
      · have hne : ¬ p.1 = p.2 := fun e => by rw [e] at hc; simp at hc
        have hst : stepM q (T1, T2) p = (addB T1 (ordN p.1 p.2) q, T2) := if_neg hne
        rw [hst] at bn next
        have nd1 : (T1.map (·.1)).Nodup := bT.nd
        refine ws_expr (we_setdefApp (ks := dlP T1) (k := pK (ordN p.1 p.2)) (d := pD q) 1 fx.u16 (fun Ψ hΨ => we_fnR gO r1 fx.gd (wr_da (xv 6) (wr_da (xv 7) (wr_nil ⟨_, _, rfl, p.1, p.2, rfl, by rw [pK_data] at hΨ; exact hΨ⟩)))) (xe_tup2 (xv 4) (xv 5)) (fun x hx => ?_) (pK_ok _) ?_ (by rw [List.length_map]; exact szlt (by omega)) (fun x hx => ?_) (ws_nil (ws_drop 6 (ws_drop 7 (ws_nil ⟨_, ⟨next.symm, bn⟩, ?_⟩)))))
        · obtain ⟨e, _, rfl⟩ := List.mem_map.mp hx
          exact (pK_ok e.1).d8
        · rw [List.map_map]
          have : (T1.map (·.1)).map pK = T1.map (Prod.fst ∘ fun e => (pK e.1, e.2.map pD)) := by rw [List.map_map]; rfl
          rw [← this]
          exact List.Pairwise.map pK (fun a c hac e => hac (pK_inj a c e)) nd1
        · obtain ⟨e, he, rfl⟩ := List.mem_map.mp hx
          have : e.2.length ≤ 8 * n + m := bT.few e he
          show (e.2.map pD).length < sizeLine
          rw [List.length_map]
          exact szlt (by omega)
        · rw [addL_dlP nd1]
          rfl
      · have he : p.1 = p.2 := by
          have := of_decide_eq_true (p := (p.1 : Int) = p.2) (by simpa using hc)
          omega
        refine xs_if (xt_cast (xt_nninS 2 fx.u16 metD_ok (pK_ok q) (xe_castD (xe_tup2 (xv 4) (xv 5)) (pK_data q).symm)) (by rw [kget_met])) (fun hc2 => ?_) fun hc2 => ?_
        · have hnm : q ∉ T2 := by simpa using hc2
          have hst : stepM q (T1, T2) p = (T1, T2 ++ [q]) := by
            unfold stepM
            rw [if_pos he]
            exact if_neg hnm
          rw [hst] at bn next
          refine ws_nput 2 fx.u16 (we_pure xe_bl ⟨_, pK q, _, metD T2, _, rfl, rfl, .dm, metD_ok, pK_ok _, by rw [List.length_map]; exact szlt (by omega), xe_castD (xe_tup2 (xv 4) (xv 5)) (pK_data q).symm, ?_⟩)
          rw [kput_met, if_neg hnm]
          refine ws_expr (we_append 3 (we_pure (xe_tup2 (xv 4) (xv 5)) ⟨_, _, _, _, rfl, rfl, .ll, by rw [List.length_map]; exact szlt (by omega), ws_nil (ws_nil (ws_drop 6 (ws_drop 7 (ws_nil ⟨_, ⟨next.symm, bn⟩, ?_⟩))))⟩))
          rw [List.map_append]
          rfl
        · have hm2 : q ∈ T2 := by simpa using hc2
          have hst : stepM q (T1, T2) p = (T1, T2) := by
            unfold stepM
            rw [if_pos he]
            exact if_pos hm2
          rw [hst] at bn next
          exact ws_nil (ws_nil (ws_drop 6 (ws_drop 7 (ws_nil ⟨_, ⟨next.symm, bn⟩, rfl⟩))))
    · rintro T ⟨hT, bT⟩
      rw [List.take_length] at hT
      have e : ((apairs b.n).take (n + 1)).foldl (stM b) ([], []) = T := by
        rw [List.take_succ, hqn, List.foldl_append, ← hS, hT]
        rfl
      have := nxs_len ok hqm.1 (q := q)
      refine ws_drop 4 (ws_drop 5 (ws_nil ⟨T, ⟨e.symm, bT.mono (by omega), bT.pr.small ok⟩, rfl⟩))
  · rintro S ⟨hS, bo, _⟩
    rw [List.take_length] at hS
    have hS : S = ph1 b := hS
    subst hS
    show WSs _ _ [some (.da b.data), some (.op (dlO ⟨P, w, K⟩ (dlP (ph1 b).1))), some (.dm (metD (ph1 b).2)), some (.ll ((ph1 b).2.map pD)), none, none, none, none, none] _
    refine ws_dlDm 1 ?_
    refine ws_whileT fx (fun S : List Pr × List Pr => [some (.da b.data), some (.dm (lstD (dlP (ph1 b).1))), some (.dm (metD S.2)), some (.ll (S.1.map pD)), none, none, none, none, none]) (WkM b fun _ => False) (msr b) ((ph1 b).2, (ph1 b).2) (WkM.start bo.pr) rfl ?_
    rintro ⟨L, M⟩ wk
    refine wt_pure (xt_truS 3 (.sv .ll (.inl rfl))) ⟨fun ht => ?_, fun ht => ?_⟩
    · have hl : L ≠ [] := fun e => by rw [e] at ht; cases ht
      have wp := wk.pop hl
      have hl' : L.map pD ≠ [] := fun e => hl (List.map_eq_nil_iff.mp e)
      have eg : (L.map pD).getLast hl' = pD (L.getLast hl) := List.getLast_map ..
      have ed : (L.map pD).dropLast = L.dropLast.map pD := List.map_dropLast.symm
      have mx : Mt b (L.getLast hl) := wk.mt _ (wk.sub _ (List.getLast_mem hl))
      have hlen : 0 < L.length := List.length_pos_iff.mpr hl
      generalize hx : L.getLast hl = x at wp mx eg
      have hys : ∀ y ∈ getB (ph1 b).1 x, y ∈ apairs b.n ∧ Mt b y := fun y hy => by
        obtain ⟨g1, p, hp, _, e⟩ := (ph1_sem.1 x y).mp hy
        exact ⟨g1, .next hp (e ▸ mx)⟩
      refine ws_forT fx (getB (ph1 b).1 x) pD (fun S : List Pr × List Pr => [some (.da b.data), some (.dm (lstD (dlP (ph1 b).1))), some (.dm (metD S.2)), some (.ll (S.1.map pD)), none, none, none, none, none]) (fun m S => S = ((getB (ph1 b).1 x).take m).foldl stepD (L.dropLast, M) ∧ WkM b (fun r => r = x) S) (L.dropLast, M)
        (xi_lst (xe_castD (xe_ngetD (k := pK x) (d := .list []) 1 fx.u16 lst_ok (pK_ok x) (fun Ψ' hΨ => we_pop 3 hl' (by rw [eg, ed]; rw [pK_data] at hΨ; exact hΨ)) (xe_frz xe_lst0)) kget_dl)) ⟨rfl, wp⟩ rfl ?_ ?_
      · rintro m y S hy ⟨hS, ws⟩
        obtain ⟨y1, y2⟩ := hys y (List.mem_of_getElem? hy)
        refine wg_name 8 nd ?_
        have next : ((getB (ph1 b).1 x).take (m + 1)).foldl stepD (L.dropLast, M) = stepD S y := by
          rw [List.take_succ, hy, List.foldl_append, ← hS]
          rfl
        have wn := (stepD_ok ws y1 y2).1
        obtain ⟨S1, S2⟩ := S
        have z1 : S1.length ≤ S2.length := ws.few
        have z2 : S2.length ≤ 3600 := ws.pr.small ok
        refine xs_if (xt_cast (xt_nninS 2 fx.u16 metD_ok (pK_ok y) (xe_castD (xv 8) (pK_data y).symm)) (by rw [kget_met])) (fun hc => ?_) fun hc => ?_
        · have hnm : y ∉ S2 := by simpa using hc
          have hst : stepD (S1, S2) y = (S1 ++ [y], S2 ++ [y]) := if_neg hnm
          rw [hst] at wn next
          refine ws_nput 2 fx.u16 (we_pure xe_bl ⟨_, pK y, _, metD S2, _, rfl, rfl, .dm, metD_ok, pK_ok _, by rw [List.length_map]; exact szlt (by omega), xe_castD (xv 8) (pK_data y).symm, ?_⟩)
          rw [kput_met, if_neg hnm]
          refine ws_expr (we_append 3 (we_pure (xv 8) ⟨_, _, _, _, rfl, rfl, .ll, by rw [List.length_map]; exact szlt (by show S1.length < _; omega), ws_nil (ws_drop 8 (ws_nil ⟨_, ⟨next.symm, wn⟩, ?_⟩))⟩))
          rw [List.map_append]
          rfl
        · have hm2 : y ∈ S2 := by simpa using hc
          have hst : stepD (S1, S2) y = (S1, S2) := if_pos hm2
          rw [hst] at next
          exact ws_nil (ws_drop 8 (ws_nil ⟨_, ⟨next.symm, ws⟩, rfl⟩))
      · rintro S ⟨hS, ws⟩
        rw [List.take_length] at hS
        obtain ⟨_, g2, g3⟩ := foldD_ok (getB (ph1 b).1 x) wp hys
        rw [← hS] at g2 g3
        refine ws_nil ⟨S, ws.push fun y hy => (g2 y).mpr (.inr hy), ?_, rfl⟩
        have : msr b (L.dropLast, M) < msr b (L, M) := by
          show 2 * (b.n * b.n - M.length) + L.dropLast.length < 2 * (b.n * b.n - M.length) + L.length
          rw [List.length_dropLast]
          omega
        omega
    · have hl : L = [] := by
        cases L with
        | nil => rfl
        | cons q L => cases ht
      subst hl
      exact xs_ret (xe_move 2) ⟨_, .da .nil, hq M wk.pr fun q => wk.fin ok q⟩
end
end Law

namespace Law
open PySem PySem.Spec PyProof.Rows L2 TL
/-! ### pairs that never meet -/
theorem eqv_pD (a q : Pr) : PyData.eqv (pD a) (pD q) = decide (a = q) := by
  rw [Bool.eq_iff_iff, decide_eq_true_eq]
  simp only [pD, PyData.eqv, PyData.eqvAll, Bool.and_true, Bool.and_eq_true, beq_iff_eq]
  constructor
  · rintro ⟨h1, h2⟩
    exact Prod.ext (Int.ofNat.inj h1) (Int.ofNat.inj h2)
  · rintro rfl
    exact ⟨rfl, rfl⟩
theorem any_pD {q : Pr} {M : List Pr} : ((M.map pD).any fun z => PyData.eqv z (pD q)) = decide (q ∈ M) := by
  rw [List.any_map, Bool.eq_iff_iff, decide_eq_true_eq, List.any_eq_true]
  constructor
  · rintro ⟨z, hz, e⟩
    have e : PyData.eqv (pD z) (pD q) = true := e
    rw [eqv_pD, decide_eq_true_eq] at e
    exact e ▸ hz
  · exact fun h => ⟨q, h, by show PyData.eqv (pD q) (pD q) = true; rw [eqv_pD]; simp⟩
theorem pD_plain (q : Pr) : (pD q).plain = true := plain_it (xs := [q.1, q.2])
theorem pDs_plain {M : List Pr} : PyData.plainAll (M.map pD) = true := plainAll_map fun q _ => pD_plain q
/-- all nexts of q stay in A -/
def stays (b : Bk) (A : List Pr) (q : Pr) : Bool := (nxs b q).all fun p => decide (ordN p.1 p.2 ∈ A)
structure AlOk (b : Bk) (A : List Pr) : Prop where
  pr : PrOk b A
  ap : ∀ q ∈ A, q ∈ apairs b.n
  all : ∀ q ∈ apairs b.n, ¬ Mt b q → q ∈ A
def goneA (b : Bk) (A : List Pr) : List Pr := A.filter fun q => !stays b A q
theorem AlOk.fin {b : Bk} {A : List Pr} (h : AlOk b A) (hg : goneA b A = []) (q : Pr) : q ∈ A ↔ q ∈ apairs b.n ∧ ¬ Mt b q := by
  have hs : ∀ q ∈ A, ∀ p ∈ nxs b q, ordN p.1 p.2 ∈ A := fun q hq p hp => by
    have := List.filter_eq_nil_iff.mp hg q hq
    simp only [Bool.not_eq_true', Bool.not_eq_false] at this
    exact of_decide_eq_true (List.all_eq_true.mp this p hp)
  refine ⟨fun hq => ⟨h.ap q hq, fun m => ?_⟩, fun ⟨h1, h2⟩ => h.all q h1 h2⟩
  induction m with
  | @now q p hp e =>
    have := (apairs_mem.mp (h.ap _ (hs q hq p hp))).1
    unfold ordN at this
    rw [if_neg (by omega)] at this
    have : p.2 < p.1 := this
    omega
  | @next q p hp _ ih => exact ih (hs q hq p hp)
theorem AlOk.less {b : Bk} (ok : b.Ok) {A : List Pr} (h : AlOk b A) : AlOk b (A.filter fun q => decide (q ∉ goneA b A)) := by
  refine ⟨⟨h.pr.nd.filter _, fun p hp => h.pr.lt p (List.mem_filter.mp hp).1⟩, fun q hq => h.ap q (List.mem_filter.mp hq).1, fun q hq hm => ?_⟩
  have hqA := h.all q hq hm
  refine List.mem_filter.mpr ⟨hqA, decide_eq_true fun hg => ?_⟩
  have := (List.mem_filter.mp hg).2
  simp only [Bool.not_eq_true'] at this
  have hst : stays b A q = true := List.all_eq_true.mpr fun p hp => decide_eq_true (h.all _ ?_ fun m => hm (.next hp m))
  · rw [hst] at this
    cases this
  · obtain ⟨l1, l2⟩ := nxs_lt ok (apairs_lt hq).1 (apairs_lt hq).2 p hp
    have e : p.1 ≠ p.2 := fun e => hm (.now hp e)
    rw [apairs_mem]
    unfold ordN
    split
    · exact ⟨by assumption, l2⟩
    · exact ⟨show p.2 < p.1 by omega, l1⟩
theorem AlOk.drop {b : Bk} {A : List Pr} (hg : goneA b A ≠ []) : (A.filter fun q => decide (q ∉ goneA b A)).length < A.length := by
  obtain ⟨q, hq⟩ := List.exists_mem_of_ne_nil _ hg
  refine List.length_filter_lt_length_iff_exists.mpr ⟨q, (List.mem_filter.mp hq).1, ?_⟩
  simp [hq]
theorem AlOk.len {b : Bk} (ok : b.Ok) {A : List Pr} (h : AlOk b A) : A.length < b.n * b.n := by
  have hn : (0, 0) ∉ A := fun z => by have := (apairs_mem.mp (h.ap _ z)).1; exact absurd this (Nat.lt_irrefl _)
  have po := h.pr.one (a := (0, 0)) ⟨ok.n1, ok.n1⟩
  rw [if_neg hn] at po
  have := pairs_len po.nd po.lt
  rw [List.length_append] at this
  exact this
def spApart : SpD := fun as Ψ => ∃ b : Bk, as = [.da b.data] ∧ b.Ok ∧ ∀ A : List Pr, PrOk b A → (∀ q, q ∈ A ↔ q ∈ apairs b.n ∧ ¬ Mt b q) → Ψ (.da (dnD (metD A))) as
section
variable {P : Program} {w : World} {K : PySem.W.Frag} {mg : Str → Option Value} {bs h : Heap} (X : K.In h) (G : h.Ns mainGlobals mg) (B : Blt mg)
include X G B
theorem d_apart (D : DK K "_law_apart_pairs" s_l_apart_pairs) (gO : Def P w K mg bs 1 "_law_pair" ["one", "two"] spOrd) : Def P w K mg bs 2 "_law_apart_pairs" ["book"] spApart := by
  refine def_ok X G D sc_l_apart_pairs (fun f fd F => F.binds (ps := ["book"]) fun _ _ _ _ _ _ us hl => match us, hl with | [_], _ => rfl) (fun as Ψ h => by obtain ⟨_, rfl, _⟩ := h; rfl) fun f cdv A fr s H E fx as Ψ us hsp hl => ?_
  obtain ⟨b, rfl, ok, hq⟩ := hsp
  obtain ⟨v0, rfl⟩ := ar1 hl
  have nd := fx.nd
  have r1 := fx.room.mono (show 1 ≤ 1 by decide)
  have hn60 := ok.n2
  have hnn := nn_le ok
  show WSs _ _ [some (.da b.data), none, none, none, none, none, none, none, none, none, none] _
  refine xs_set 1 nd (xe_cast (xe_len B (ds := b.views) (xe_ix (xv 0) xe_int (.inr rfl) rfl) (.inr rfl)) (by rw [ok.vl])) ?_
  refine xs_set 2 nd xe_dictM0 ?_
  show WSs _ _ [some (.da b.data), some (.da (.int (b.n : Nat))), some (.dm (metD [])), none, none, none, none, none, none, none, none] _
  refine ws_forT fx (List.range b.n) (fun (i : Nat) => .int i) (fun A : List Pr => [some (.da b.data), some (.da (.int (b.n : Nat))), some (.dm (metD A)), none, none, none, none, none, none, none, none]) (fun t A => PrOk b A ∧ ∀ q : Pr, q ∈ A ↔ q.1 < q.2 ∧ q.2 < t) [] (xi_rangeN B (xv 1) (by omega)) ⟨⟨List.nodup_nil, by simp⟩, fun q => by simp⟩ rfl ?_ ?_
  · rintro t x A0 hx ⟨po, hA⟩
    have htn := (List.getElem?_eq_some_iff.mp hx).1
    rw [List.length_range] at htn
    rw [List.getElem?_range htn] at hx
    cases hx
    refine wg_name 3 nd ?_
    refine ws_forT fx (List.range t) (fun (i : Nat) => .int i) (fun A : List Pr => [some (.da b.data), some (.da (.int (b.n : Nat))), some (.dm (metD A)), some (.da (.int (t : Nat))), none, none, none, none, none, none, none]) (fun u A => PrOk b A ∧ ∀ q : Pr, q ∈ A ↔ q.1 < q.2 ∧ (q.2 < t ∨ (q.2 = t ∧ q.1 < u))) A0 (xi_rangeN B (xv 3) (by omega)) ⟨po, fun q => by rw [hA]; simp⟩ rfl ?_ ?_
    · rintro u x A1 hx ⟨po1, hA1⟩
      have hut := (List.getElem?_eq_some_iff.mp hx).1
      rw [List.length_range] at hut
      rw [List.getElem?_range hut] at hx
      cases hx
      refine wg_name 4 nd ?_
      have z := po1.small ok
      have hnm : (u, t) ∉ A1 := fun hm => by
        have : _ ∧ (t < t ∨ (t = t ∧ u < u)) := (hA1 (u, t)).mp hm
        omega
      have po2 := po1.one (a := (u, t)) ⟨show u < b.n by omega, htn⟩
      rw [if_neg hnm] at po2
      refine ws_nput 2 fx.u16 (we_pure xe_bl ⟨_, pK (u, t), _, metD A1, _, rfl, rfl, .dm, metD_ok, pK_ok _, by rw [List.length_map]; exact szlt (by omega), xe_castD (xe_tup2 (xv 4) (xv 3)) (pK_data (u, t)).symm, ws_drop 4 (ws_nil ⟨A1 ++ [(u, t)], ⟨po2, fun q => ?_⟩, ?_⟩)⟩)
      · rw [List.mem_append, List.mem_singleton, hA1]
        constructor
        · rintro (⟨h1, h2⟩ | rfl)
          · exact ⟨h1, by omega⟩
          · exact ⟨hut, .inr ⟨rfl, Nat.lt_succ_self u⟩⟩
        · rintro ⟨h1, h2⟩
          by_cases e : q = (u, t)
          · exact .inr e
          · refine .inl ⟨h1, ?_⟩
            have : ¬ (q.1 = u ∧ q.2 = t) := fun ⟨e1, e2⟩ => e (Prod.ext e1 e2)
            omega
      · rw [kput_met, if_neg hnm]
        rfl
    · rintro A1 ⟨po1, hA1⟩
      rw [List.length_range] at hA1
      exact ws_drop 3 (ws_nil ⟨A1, ⟨po1, fun q => by rw [hA1]; omega⟩, rfl⟩)
  · rintro A0 ⟨po, hA⟩
    rw [List.length_range] at hA
    have al : AlOk b A0 := ⟨po, fun q hq => apairs_mem.mpr ((hA q).mp hq), fun q hq _ => (hA q).mpr (apairs_mem.mp hq)⟩
    refine ws_frzN 2 metD_ok ?_
    show WSs _ _ [some (.da b.data), some (.da (.int (b.n : Nat))), some (.da (dnD (metD A0))), none, none, none, none, none, none, none, none] _
    refine ws_forT fx (List.range (b.n * b.n)) (fun (i : Nat) => .int i) (fun A : List Pr => [some (.da b.data), some (.da (.int (b.n : Nat))), some (.da (dnD (metD A))), none, none, none, none, none, none, none, none]) (fun t A => AlOk b A ∧ A.length + t < b.n * b.n) A0
      (xi_rangeN B (xe_cast (xe_mul (i := (b.n : Int)) (j := (b.n : Int)) (.inr ⟨by omega, by omega⟩) (xv 1) (xv 1)) (by rw [Int.natCast_mul])) (by omega)) ⟨al, al.len ok⟩ rfl ?_ ?_
    · rintro t x A1 hx ⟨al1, hl1⟩
      refine wg_name 5 nd ?_
      refine ws_drop 5 ?_
      refine xs_set 6 nd xe_lst0 ?_
      have z := al1.pr.small ok
      show WSs _ _ [some (.da b.data), some (.da (.int (b.n : Nat))), some (.da (dnD (metD A1))), none, none, none, some (.ll (([] : List Pr).map pD)), none, none, none, none] _
      refine ws_forT fx A1 pD (fun g : List Pr => [some (.da b.data), some (.da (.int (b.n : Nat))), some (.da (dnD (metD A1))), none, none, none, some (.ll (g.map pD)), none, none, none, none]) (fun m g => g = (A1.take m).filter (fun q => !stays b A1 q) ∧ g.length ≤ m) [] (xi_keysM (xv 2)) ⟨rfl, Nat.le_refl _⟩ rfl ?_ ?_
      · rintro m q g hqm ⟨hg, hgl⟩
        have hmem := List.mem_of_getElem? hqm
        have hm := (List.getElem?_eq_some_iff.mp hqm).1
        have hqa := apairs_lt (al1.ap q hmem)
        refine wg_name 7 nd ?_
        show WSs _ _ [some (.da b.data), some (.da (.int (b.n : Nat))), some (.da (dnD (metD A1))), none, none, none, some (.ll (g.map pD)), some (.da (pD q)), none, none, none] _
        refine xs_setLcM [("one", 4), ("two", 3)] (fun (p : Nat × Nat) Γ => (Γ.set 4 (some (.da (.int (p.1 : Nat))))).set 3 (some (.da (.int (p.2 : Nat))))) (nxs b q) (fun p => .tuple [.int (p.1 : Nat), .int (p.2 : Nat)]) (fun p => pD (ordN p.1 p.2)) 8 fx (R := fun p => .da (pD (ordN p.1 p.2)))
          (xi_zipU (xs := rowOf b q.1) (ys := rowOf b q.2) (E := fun (n : Nat) => .int n) (E' := fun (n : Nat) => .int n) B (xe_beh 0 ok hqa.1 rfl (xe_ix (xv 7) xe_int (.inr rfl) rfl)) (xe_beh 0 ok hqa.2 rfl (xe_ix (xv 7) xe_int (.inr rfl) rfl))) (by have := nxs_len ok hqa.1 (q := q); exact szl (by omega)) (fun p hp s H C cl fp => gc_tup rfl (gsc_cons (gc_name 4 nd (gsc_cons (gc_name 3 nd (gsc_nil rfl))))))
          (fun p hp s H C cl fp Ψ' hΨ => we_fnR gO r1 fx.gd (wr_da (xv 4) (wr_da (xv 3) (wr_nil ⟨_, _, rfl, p.1, p.2, rfl, hΨ⟩)))) ?_
        have e1 : ((nxs b q).map fun p => pD (ordN p.1 p.2)) = ((nxs b q).map fun p => ordN p.1 p.2).map pD := by
          rw [List.map_map]
          rfl
        rw [e1]
        refine ws_frz 8 .ll ?_
        show WSs _ _ [some (.da b.data), some (.da (.int (b.n : Nat))), some (.da (dnD (metD A1))), none, none, none, some (.ll (g.map pD)), some (.da (pD q)), some (.da (.list (((nxs b q).map fun p => ordN p.1 p.2).map pD))), none, none] _
        have hall : (((nxs b q).map fun p => ordN p.1 p.2).all fun a => (kget (metD A1) (pK a)).isSome) = stays b A1 q := by
          rw [List.all_map]
          unfold stays
          congr 1
          funext p
          exact kget_met
        have next : (A1.take (m + 1)).filter (fun q => !stays b A1 q) = if stays b A1 q = true then g else g ++ [q] := by
          rw [List.take_succ, hqm, List.filter_append, ← hg]
          cases hs : stays b A1 q <;> simp [hs]
        refine xs_if (xt_not (xt_val (xe_castD (xe_allM (fun a => (kget (metD A1) (pK a)).isSome) ((nxs b q).map fun p => ordN p.1 p.2) B rfl (xe_lcM [("after", 10)] (fun (a : Pr) Γ => Γ.set 10 (some (.da (pD a)))) ((nxs b q).map fun p => ordN p.1 p.2) pD (fun a => .bool (kget (metD A1) (pK a)).isSome) fx (R := fun a => .da (.bool (kget (metD A1) (pK a)).isSome)) (xi_lst (xv 8)) (by rw [List.length_map]; have := nxs_len ok hqa.1 (q := q); exact szl (by omega)) (fun a ha s H C cl fp => gc_name 10 nd rfl) fun a ha s H C cl fp => xe_ninS 2 fx.blk.u16 metD_ok (pK_ok a) (xe_castD (xv 10) (pK_data a).symm))) (by rw [hall])))) (fun hc => ?_) fun hc => ?_
        · have hs : stays b A1 q = false := by simpa using hc
          rw [hs] at next
          refine ws_expr (we_append 6 (we_pure (xv 7) ⟨_, _, _, _, rfl, rfl, .ll, by rw [List.length_map]; exact szlt (by omega), ws_nil (ws_drop 7 (ws_drop 8 (ws_nil ⟨g ++ [q], ⟨next.symm, by rw [List.length_append]; simp; omega⟩, ?_⟩)))⟩))
          rw [List.map_append]
          rfl
        · have hs : stays b A1 q = true := by simpa using hc
          rw [hs] at next
          exact ws_nil (ws_drop 7 (ws_drop 8 (ws_nil ⟨g, ⟨next.symm, by omega⟩, rfl⟩)))
      · rintro g ⟨hg, hgl⟩
        rw [List.take_length] at hg
        have hg : g = goneA b A1 := hg
        refine xs_if (xt_eqI fx.u (xe_lenS 6 B) xe_int) (fun hc => ?_) fun hc => ws_nil ?_
        · have hnil : goneA b A1 = [] := by
            rw [← hg]
            rw [decide_eq_true_eq, List.length_map] at hc
            exact List.eq_nil_of_length_eq_zero (by omega)
          exact xs_ret (xv 2) ⟨_, .da .nil, hq A1 al1.pr fun q => al1.fin hnil q⟩
        · have hne : goneA b A1 ≠ [] := by
            rw [← hg]
            rw [decide_eq_false_iff_not, List.length_map] at hc
            exact fun e => hc (by rw [e]; rfl)
          subst hg
          refine xs_set 9 nd xe_dictM0 ?_
          show WSs _ _ [some (.da b.data), some (.da (.int (b.n : Nat))), some (.da (dnD (metD A1))), none, none, none, some (.ll ((goneA b A1).map pD)), none, none, some (.dm (metD [])), none] _
          refine ws_forT fx A1 pD (fun l : List Pr => [some (.da b.data), some (.da (.int (b.n : Nat))), some (.da (dnD (metD A1))), none, none, none, some (.ll ((goneA b A1).map pD)), none, none, some (.dm (metD l)), none]) (fun m l => l = (A1.take m).filter (fun q => decide (q ∉ goneA b A1)) ∧ l.length ≤ m) [] (xi_keysM (xv 2)) ⟨rfl, Nat.le_refl _⟩ rfl ?_ ?_
          · rintro m q l hqm ⟨hl, hll⟩
            have hm := (List.getElem?_eq_some_iff.mp hqm).1
            refine wg_name 7 nd ?_
            have next : (A1.take (m + 1)).filter (fun q => decide (q ∉ goneA b A1)) = if q ∈ goneA b A1 then l else l ++ [q] := by
              rw [List.take_succ, hqm, List.filter_append, ← hl]
              by_cases hs : q ∈ goneA b A1 <;> simp [hs]
            refine xs_if (xt_cast (xt_notInS 6 fx.u70 (xv 7) (pD_plain q) pDs_plain (pD_depth q)) (by rw [any_pD])) (fun hc => ?_) fun hc => ?_
            · have hnm : q ∉ goneA b A1 := by simpa using hc
              have hnl : q ∉ l := fun z => by
                rw [hl] at z
                have z1 := (List.mem_filter.mp z).1
                have z2 : (A1.take (m + 1)).Nodup := al1.pr.nd.sublist (List.take_sublist _ _)
                rw [List.take_succ, hqm] at z2
                exact (List.nodup_append.mp z2).2.2 q z1 q (by simp) rfl
              rw [if_neg hnm] at next
              refine ws_nput 9 fx.u16 (we_pure xe_bl ⟨_, pK q, _, metD l, _, rfl, rfl, .dm, metD_ok, pK_ok _, by rw [List.length_map]; exact szlt (by omega), xe_castD (xv 7) (pK_data q).symm, ws_nil (ws_drop 7 (ws_nil ⟨l ++ [q], ⟨next.symm, by rw [List.length_append]; simp; omega⟩, ?_⟩))⟩)
              rw [kput_met, if_neg hnl]
              rfl
            · have hm2 : q ∈ goneA b A1 := by simpa using hc
              rw [if_pos hm2] at next
              exact ws_nil (ws_drop 7 (ws_nil ⟨l, ⟨next.symm, by omega⟩, rfl⟩))
          · rintro l ⟨hl, _⟩
            rw [List.take_length] at hl
            subst hl
            refine ws_frzN 9 metD_ok ?_
            have := AlOk.drop hne
            exact xs_set 2 nd (xv 9) (ws_drop 6 (ws_drop 9 (ws_nil ⟨_, ⟨al1.less ok, by omega⟩, rfl⟩)))
    · rintro A1 ⟨_, hl⟩
      rw [List.length_range] at hl
      omega
end
end Law

namespace Law
open PySem PySem.Spec PyProof.Rows L2 TL
/-! ### plain: the walk level by level finds a row that leads two codes to one -/
inductive MtO (b : Bk) : Pr → Prop
  | eq {q : Pr} : q.1 = q.2 → MtO b q
  | next {q p : Pr} : p ∈ nxs b q → MtO b p → MtO b q
theorem nxs_swap {b : Bk} {q p : Pr} (h : p ∈ nxs b q) : (p.2, p.1) ∈ nxs b (q.2, q.1) := by
  obtain ⟨i, hi⟩ := List.mem_iff_getElem?.mp h
  obtain ⟨h1, h2⟩ := List.getElem?_zip_eq_some.mp hi
  exact List.mem_iff_getElem?.mpr ⟨i, List.getElem?_zip_eq_some.mpr ⟨h2, h1⟩⟩
theorem MtO.swap {b : Bk} {q : Pr} (h : MtO b q) : MtO b (q.2, q.1) := by
  induction h with
  | eq e => exact .eq e.symm
  | next hp _ ih => exact .next (nxs_swap hp) ih
theorem Mt.ord {b : Bk} {q : Pr} (h : Mt b q) : MtO b q := by
  induction h with
  | now hp e => exact .next hp (.eq e)
  | @next q p hp _ ih =>
    refine .next hp ?_
    unfold ordN at ih
    split at ih
    · exact ih
    · exact ih.swap
theorem z3_snd {b : Bk} (ok : b.Ok) {q : Pr} (h1 : q.1 < b.n) (h2 : q.2 < b.n) : (z3 b q).map (·.2) = nxs b q := by
  unfold z3 nxs
  refine List.map_snd_zip ?_
  rw [List.length_zip, (beh_row ok h1).2.1, (beh_row ok h2).2.1]
  omega
/-! keys -/
theorem kput_key {m : PL} {k a : Pr} {v : List PyData} : a ∈ (kput m k v).map (·.1) ↔ a ∈ m.map (·.1) ∨ a = k := by
  constructor
  · intro h
    obtain ⟨e, he, rfl⟩ := List.mem_map.mp h
    rcases kput_mem he with z | z
    · exact .inl (List.mem_map.mpr ⟨e, z, rfl⟩)
    · exact .inr (by rw [z])
  · intro h
    have : (kget (kput m k v) a).isSome = true := by
      rw [kget_put]
      split
      · rfl
      · rename_i hne
        obtain ⟨e, he, e1⟩ := List.mem_map.mp (h.resolve_right hne)
        have hs : (kget m a).isSome = (m.any fun q => decide (q.1 = a)) := kget_any.symm
        rw [hs]
        exact List.any_eq_true.mpr ⟨e, he, decide_eq_true e1⟩
    cases e : kget (kput m k v) a with
    | none => rw [e] at this; cases this
    | some r => exact List.mem_map.mpr ⟨_, kget_some_mem e, rfl⟩
theorem lowP_key {m : PL} {k a : Pr} {r : List PyData} : a ∈ (lowP m k r).map (·.1) ↔ a ∈ m.map (·.1) ∨ a = k := by
  unfold lowP
  split
  · exact kput_key
  · rename_i q e
    split
    · exact kput_key
    · refine ⟨.inl, fun h => h.elim id fun z => ?_⟩
      rw [z]
      exact List.mem_map.mpr ⟨_, kget_some_mem e, rfl⟩
theorem stepB_key {M : List Pr} {row : List PyData} {f : PL} {p : PyData × Nat × Nat} {a : Pr} : a ∈ (stepB M row f p).map (·.1) ↔ a ∈ f.map (·.1) ∨ (a = p.2 ∧ p.2 ∉ M) := by
  unfold stepB
  split
  · rename_i h
    exact ⟨.inl, fun z => z.elim id fun z => absurd h z.2⟩
  · rename_i h
    rw [lowP_key]
    exact ⟨fun z => z.imp id fun e => ⟨e, h⟩, fun z => z.imp id fun e => e.1⟩
theorem foldB_key {M : List Pr} {row : List PyData} {a : Pr} : ∀ (ps : List (PyData × Nat × Nat)) (f : PL), a ∈ (ps.foldl (stepB M row) f).map (·.1) ↔ a ∈ f.map (·.1) ∨ (a ∈ ps.map (·.2) ∧ a ∉ M)
  | [], f => by simp
  | p :: ps, f => by
    rw [List.foldl_cons, foldB_key ps, stepB_key, List.map_cons, List.mem_cons]
    constructor
    · rintro ((z | ⟨rfl, z⟩) | ⟨z1, z2⟩)
      · exact .inl z
      · exact .inr ⟨.inl rfl, z⟩
      · exact .inr ⟨.inr z1, z2⟩
    · rintro (z | ⟨rfl | z1, z2⟩)
      · exact .inl (.inl z)
      · exact .inl (.inr ⟨rfl, z2⟩)
      · exact .inr ⟨z1, z2⟩
theorem behind_key {b : Bk} (ok : b.Ok) {M : List Pr} {a : Pr} : ∀ (L f : PL), (∀ e ∈ L, e.1.1 < b.n ∧ e.1.2 < b.n) → (a ∈ (L.foldl (behR b M) f).map (·.1) ↔ a ∈ f.map (·.1) ∨ ((∃ e ∈ L, a ∈ nxs b e.1) ∧ a ∉ M))
  | [], f, _ => by simp
  | e :: L, f, h => by
    rw [List.foldl_cons, behind_key ok L _ fun x hx => h x (List.mem_cons_of_mem _ hx)]
    unfold behR
    rw [foldB_key, z3_snd ok (h e List.mem_cons_self).1 (h e List.mem_cons_self).2]
    simp only [List.mem_cons, exists_eq_or_imp]
    constructor
    · rintro ((z | ⟨z1, z2⟩) | ⟨z1, z2⟩)
      · exact .inl z
      · exact .inr ⟨.inl z1, z2⟩
      · exact .inr ⟨.inr z1, z2⟩
    · rintro (z | ⟨z1 | z1, z2⟩)
      · exact .inl (.inl z)
      · exact .inl (.inr ⟨z1, z2⟩)
      · exact .inr ⟨z1, z2⟩
theorem addM_mem {a : Pr} : ∀ {ks M : List Pr}, a ∈ addM M ks ↔ a ∈ M ∨ a ∈ ks
  | [], M => by simp [addM]
  | k :: ks, M => by
    show a ∈ addM (if k ∈ M then M else M ++ [k]) ks ↔ _
    rw [addM_mem (ks := ks), List.mem_cons]
    split
    · rename_i hk
      constructor
      · rintro (z | z)
        · exact .inl z
        · exact .inr (.inr z)
      · rintro (z | rfl | z)
        · exact .inl z
        · exact .inl hk
        · exact .inr z
    · rw [List.mem_append, List.mem_singleton, or_assoc]
theorem addM_len : ∀ {ks M : List Pr}, M.length ≤ (addM M ks).length
  | [], M => Nat.le_refl _
  | k :: ks, M => by
    refine Nat.le_trans ?_ (addM_len (ks := ks) (M := if k ∈ M then M else M ++ [k]))
    split
    · exact Nat.le_refl _
    · rw [List.length_append]; omega
theorem addM_more {ks M : List Pr} (hne : ks ≠ []) (hk : ∀ a ∈ ks, a ∉ M) : M.length < (addM M ks).length := by
  cases ks with
  | nil => exact absurd rfl hne
  | cons k ks =>
    have h := addM_len (ks := ks) (M := if k ∈ M then M else M ++ [k])
    rw [if_neg (hk k List.mem_cons_self), List.length_append] at h
    show M.length < (addM (if k ∈ M then M else M ++ [k]) ks).length
    rw [if_neg (hk k List.mem_cons_self)]
    exact Nat.lt_of_lt_of_le (Nat.lt_succ_self _) h
/-! where a row leads -/
def walkD (b : Bk) (c : Nat) (r : List PyData) : Nat := r.foldl (fun c d => (rowOf b c).getD (dIx b d) 0) c
theorem walkD_app {b : Bk} {c : Nat} {r : List PyData} {d : PyData} : walkD b c (r ++ [d]) = (rowOf b (walkD b c r)).getD (dIx b d) 0 := by
  unfold walkD
  rw [List.foldl_append]
  rfl
theorem dIx_at {b : Bk} (ok : b.Ok) (ix : b.Idx) {i : Nat} {d : PyData} (h : b.deeds[i]? = some d) : dIx b d = i := by
  have hd := List.mem_of_getElem? h
  obtain ⟨h1, ⟨z, hz, he⟩, hno⟩ := dIx_spec ok hd
  rcases Nat.lt_trichotomy (dIx b d) i with hlt | e | hgt
  · obtain ⟨hi, hi'⟩ := List.getElem?_eq_some_iff.mp h
    obtain ⟨hj, hj'⟩ := List.getElem?_eq_some_iff.mp hz
    have := List.pairwise_iff_getElem.mp ix.pw _ _ hj hi hlt
    rw [hj', hi', he] at this
    cases this
  · exact e
  · have := hno i d hgt h
    rw [eqv_self (ok.dfn d hd).plain] at this
    cases this
def LeadOk (b : Bk) (c d : Nat) (L : PL) : Prop := ∀ e ∈ L, walkD b c e.2 = e.1.1 ∧ walkD b d e.2 = e.1.2
theorem z3_at {b : Bk} (ok : b.Ok) (ix : b.Idx) {q : Pr} {p : PyData × Nat × Nat} (h : p ∈ z3 b q) : (rowOf b q.1).getD (dIx b p.1) 0 = p.2.1 ∧ (rowOf b q.2).getD (dIx b p.1) 0 = p.2.2 := by
  obtain ⟨i, hi⟩ := List.mem_iff_getElem?.mp h
  obtain ⟨h1, h2⟩ := List.getElem?_zip_eq_some.mp hi
  obtain ⟨h3, h4⟩ := List.getElem?_zip_eq_some.mp h2
  rw [dIx_at ok ix h1, List.getD_eq_getElem?_getD, List.getD_eq_getElem?_getD, h3, h4]
  exact ⟨rfl, rfl⟩
theorem lead_low {b : Bk} {c d : Nat} {f : PL} (h : LeadOk b c d f) {a : Pr} {r : List PyData} (hr : walkD b c r = a.1 ∧ walkD b d r = a.2) : LeadOk b c d (lowP f a r) := by
  have put : LeadOk b c d (kput f a r) := fun e he => (kput_mem he).elim (h e) fun z => by rw [z]; exact hr
  unfold lowP
  split
  · exact put
  · split
    · exact put
    · exact h
theorem lead_fold {b : Bk} (ok : b.Ok) (ix : b.Idx) {c d : Nat} {M : List Pr} {q : Pr × List PyData} (hq : walkD b c q.2 = q.1.1 ∧ walkD b d q.2 = q.1.2) : ∀ (ps : List (PyData × Nat × Nat)) (f : PL), (∀ p ∈ ps, p ∈ z3 b q.1) → LeadOk b c d f → LeadOk b c d (ps.foldl (stepB M q.2) f)
  | [], f, _, h => h
  | p :: ps, f, hp, h => by
    refine lead_fold ok ix hq ps _ (fun x hx => hp x (List.mem_cons_of_mem _ hx)) ?_
    unfold stepB
    split
    · exact h
    · obtain ⟨g1, g2⟩ := z3_at ok ix (hp p List.mem_cons_self)
      exact lead_low h ⟨by rw [walkD_app, hq.1, g1], by rw [walkD_app, hq.2, g2]⟩
theorem lead_behind {b : Bk} (ok : b.Ok) (ix : b.Idx) {c d : Nat} {M : List Pr} : ∀ (L f : PL), LeadOk b c d L → LeadOk b c d f → LeadOk b c d (L.foldl (behR b M) f)
  | [], f, _, h => h
  | q :: L, f, hL, h => lead_behind ok ix L _ (fun x hx => hL x (List.mem_cons_of_mem _ hx)) (lead_fold ok ix (hL q List.mem_cons_self) _ f (fun p hp => hp) h)
structure LvOk (b : Bk) (c d : Nat) (L : PL) (M : List Pr) : Prop where
  st : (c, d) ∈ M
  sub : ∀ e ∈ L, e.1 ∈ M
  exp : ∀ q ∈ M, (∃ e ∈ L, e.1 = q) ∨ (q.1 ≠ q.2 ∧ ∀ p ∈ nxs b q, p ∈ M)
  lead : LeadOk b c d L
theorem LvOk.dead {b : Bk} {c d : Nat} {M : List Pr} (h : LvOk b c d [] M) : ¬ MtO b (c, d) := by
  have : ∀ q, MtO b q → q ∉ M := fun q m => by
    induction m with
    | eq e =>
      intro hq
      rcases h.exp _ hq with ⟨_, z, _⟩ | ⟨z, _⟩
      · cases z
      · exact z e
    | next hp _ ih =>
      intro hq
      rcases h.exp _ hq with ⟨_, z, _⟩ | ⟨_, z⟩
      · cases z
      · exact ih (z _ hp)
  exact fun m => this _ m h.st
theorem LvOk.next {b : Bk} (ok : b.Ok) (ix : b.Idx) {c d k : Nat} {L : PL} {M : List Pr} (po : POk b k L) (h : LvOk b c d L M) (hr : rowsAt L = []) : LvOk b c d (behind b M L) (addM M ((behind b M L).map (·.1))) := by
  have keys : ∀ a : Pr, a ∈ (behind b M L).map (·.1) ↔ (∃ e ∈ L, a ∈ nxs b e.1) ∧ a ∉ M := fun a => by
    unfold behind
    rw [behind_key ok L [] po.lt]
    simp
  refine ⟨addM_mem.mpr (.inl h.st), fun e he => addM_mem.mpr (.inr (List.mem_map.mpr ⟨e, he, rfl⟩)), fun q hq => ?_, lead_behind ok ix L [] h.lead (by intro e he; cases he)⟩
  rcases addM_mem.mp hq with z | z
  · right
    rcases h.exp q z with ⟨e, he, rfl⟩ | ⟨w1, w2⟩
    · refine ⟨fun w => ?_, fun p hp => addM_mem.mpr ?_⟩
      · have : e.2 ∈ rowsAt L := List.mem_map.mpr ⟨e, List.mem_filter.mpr ⟨he, decide_eq_true w⟩, rfl⟩
        rw [hr] at this
        cases this
      · by_cases hm : p ∈ M
        · exact .inl hm
        · exact .inr ((keys p).mpr ⟨⟨e, he, hp⟩, hm⟩)
    · exact ⟨w1, fun p hp => addM_mem.mpr (.inl (w2 p hp))⟩
  · obtain ⟨e, he, rfl⟩ := List.mem_map.mp z
    exact .inl ⟨e, he, rfl⟩
theorem meet_go {b : Bk} (ok : b.Ok) (ix : b.Idx) {c d N : Nat} (m : MtO b (c, d)) : ∀ (k j : Nat) (L : PL) (M : List Pr), POk b j L → PrOk b M → LvOk b c d L M → b.n * b.n + 2 ≤ k + M.length → j + k ≤ N + 1 →
    ∃ s, meetGo b k L M = some (.tuple s) ∧ RowOk b N s ∧ walkD b c s = walkD b d s
  | 0, j, L, M, _, pr, _, hk, _ => by
    have := pairs_len pr.nd pr.lt
    omega
  | k + 1, j, L, M, po, pr, lv, hk, hj => by
    unfold meetGo
    by_cases hr : rowsAt L = []
    · rw [if_pos hr]
      have hL : L ≠ [] := fun e => by rw [e] at lv; exact lv.dead m
      rw [if_neg hL]
      have lv' := lv.next ok ix po hr
      have po' := behind_ok ok (M := M) po
      have hL' : behind b M L ≠ [] := fun e => by rw [e] at lv'; exact lv'.dead m
      have pr' : PrOk b (addM M ((behind b M L).map (·.1))) := pr.add fun a ha => by
        obtain ⟨q, hq, rfl⟩ := List.mem_map.mp ha
        exact po'.lt q hq
      have hml : M.length < (addM M ((behind b M L).map (·.1))).length := addM_more (fun e => hL' (List.map_eq_nil_iff.mp e)) fun a ha => by
        have := (behind_key ok (M := M) (a := a) L [] po.lt).mp ha
        simp only [List.map_nil, List.not_mem_nil, false_or] at this
        exact this.2
      exact meet_go ok ix m k (j + 1) _ _ po' pr' lv' (by omega) (by omega)
    · rw [if_neg hr]
      obtain ⟨x, xs, hx⟩ : ∃ x xs, rowsAt L = x :: xs := by
        cases e : rowsAt L with
        | nil => exact absurd e hr
        | cons x xs => exact ⟨x, xs, rfl⟩
      rw [hx]
      have hmem : minR (x :: xs) ∈ (x :: xs).map PyData.tuple := minD_mem
      obtain ⟨s, hs, e⟩ := List.mem_map.mp hmem
      rw [← e]
      rw [← hx] at hs
      have ro := rowsAt_mem po s hs
      obtain ⟨q, hq, rfl⟩ := List.mem_map.mp hs
      obtain ⟨hq1, hq2⟩ := List.mem_filter.mp hq
      obtain ⟨l1, l2⟩ := lv.lead q hq1
      exact ⟨_, rfl, ⟨Nat.le_trans ro.len (by omega), ro.mem⟩, by rw [l1, l2]; exact of_decide_eq_true hq2⟩
theorem meet_some {b : Bk} (ok : b.Ok) (ix : b.Idx) {c d : Nat} (hc : c < b.n) (hd : d < b.n) (m : Mt b (c, d)) : ∃ s, meetGo b (b.n * b.n + 1) [((c, d), [])] [(c, d)] = some (.tuple s) ∧ RowOk b (b.n * b.n) s ∧ walkD b c s = walkD b d s := by
  refine meet_go ok ix m.ord (b.n * b.n + 1) 0 _ _ ⟨by simp, fun p hp => ?_, fun p hp => ?_⟩ ⟨by simp, fun p hp => ?_⟩ ⟨List.mem_cons_self, fun e he => ?_, fun q hq => ?_, fun e he => ?_⟩ (by simp) (by omega)
  · rw [List.mem_singleton.mp hp]; exact ⟨hc, hd⟩
  · rw [List.mem_singleton.mp hp]; exact ⟨Nat.le_refl _, by simp⟩
  · rw [List.mem_singleton.mp hp]; exact ⟨hc, hd⟩
  · rw [List.mem_singleton.mp he]; exact List.mem_cons_self
  · exact .inl ⟨_, List.mem_cons_self, (List.mem_singleton.mp hq).symm⟩
  · rw [List.mem_singleton.mp he]; exact ⟨rfl, rfl⟩
end Law

namespace Law
open PySem PySem.Spec PyProof.Rows L2 TL
/-! ### plain: the due answer -/
theorem image_ok {b : Bk} : ∀ (r : List PyData) {cs : List Nat}, CsOk b cs → CsOk b (image b cs r)
  | [], _, h => h
  | d :: r, cs, _ => image_ok r (cs := imgS b cs (dIx b d)) imgS_ok
theorem image_mem {b : Bk} (ok : b.Ok) : ∀ (r : List PyData) {cs : List Nat}, CsOk b cs → (∀ d ∈ r, d ∈ b.deeds) → ∀ m, m ∈ image b cs r ↔ ∃ c ∈ cs, walkD b c r = m
  | [], cs, _, _, m => by
    show m ∈ cs ↔ ∃ c ∈ cs, c = m
    simp
  | d :: r, cs, h, hr, m => by
    show m ∈ image b (imgS b cs (dIx b d)) r ↔ ∃ c ∈ cs, walkD b ((rowOf b c).getD (dIx b d) 0) r = m
    rw [image_mem ok r imgS_ok (fun x hx => hr x (List.mem_cons_of_mem _ hx))]
    constructor
    · rintro ⟨c, hc, e⟩
      obtain ⟨c', hc', e'⟩ := (imgS_mem ok h (dIx_spec ok (hr d List.mem_cons_self)).1).mp hc
      exact ⟨c', hc', by rw [e']; exact e⟩
    · rintro ⟨c, hc, e⟩
      exact ⟨_, (imgS_mem ok h (dIx_spec ok (hr d List.mem_cons_self)).1).mpr ⟨c, hc, rfl⟩, e⟩
theorem image_less {b : Bk} (ok : b.Ok) {c d : Nat} {cs : List Nat} {s : List PyData} (h : CsOk b (c :: d :: cs)) (hs : ∀ x ∈ s, x ∈ b.deeds) (e : walkD b c s = walkD b d s) : (image b (c :: d :: cs) s).length ≤ cs.length + 1 := by
  have nd : (image b (c :: d :: cs) s).Nodup := (image_ok s h).asc.imp fun q => Nat.ne_of_lt q
  have sub : image b (c :: d :: cs) s ⊆ (c :: cs).map fun x => walkD b x s := fun m hm => by
    obtain ⟨x, hx, e1⟩ := (image_mem ok s h hs m).mp hm
    rcases List.mem_cons.mp hx with rfl | hx
    · exact List.mem_map.mpr ⟨_, List.mem_cons_self, e1⟩
    · rcases List.mem_cons.mp hx with rfl | hx
      · exact List.mem_map.mpr ⟨c, List.mem_cons_self, by show walkD b c s = m; rw [e]; exact e1⟩
      · exact List.mem_map.mpr ⟨x, List.mem_cons_of_mem _ hx, e1⟩
  have := List.Nodup.length_le_of_subset nd sub
  rwa [List.length_map] at this
def resGo (b : Bk) : Nat → List Nat → List PyData → Option (List PyData)
  | 0, _, _ => none
  | k + 1, cs, row => match cs with
    | c :: d :: cs => match meetGo b (b.n * b.n + 1) [((c, d), [])] [(c, d)] with
      | some (.tuple s) => resGo b k (image b (c :: d :: cs) s) (row ++ s)
      | _ => none
    | _ => some row
theorem pair_mt {b : Bk} (all : ∀ q ∈ apairs b.n, Mt b q) {c d : Nat} {cs : List Nat} (h : CsOk b (c :: d :: cs)) : c < b.n ∧ d < b.n ∧ Mt b (c, d) := by
  have h1 : c < d := (List.pairwise_cons.mp h.asc).1 d List.mem_cons_self
  have h2 := h.lt d (by simp)
  exact ⟨by omega, h2, all _ (apairs_mem.mpr ⟨h1, h2⟩)⟩
theorem RowOk.app {b : Bk} {k j : Nat} {r s : List PyData} (h : RowOk b k r) (h' : RowOk b j s) : RowOk b (k + j) (r ++ s) :=
  ⟨by rw [List.length_append]; have := h.len; have := h'.len; omega, fun d hd => (List.mem_append.mp hd).elim (h.mem d) (h'.mem d)⟩
theorem res_some {b : Bk} (ok : b.Ok) (ix : b.Idx) (all : ∀ q ∈ apairs b.n, Mt b q) : ∀ (k m : Nat) (cs : List Nat) (row : List PyData), CsOk b cs → RowOk b m row → cs.length ≤ k → 1 ≤ k → ∃ r, resGo b k cs row = some r ∧ RowOk b (m + b.n * b.n * (cs.length - 1)) r
  | k + 1, m, [], row, co, ro, hl, _ => ⟨row, rfl, ⟨Nat.le_trans ro.len (Nat.le_add_right _ _), ro.mem⟩⟩
  | k + 1, m, [c], row, co, ro, hl, _ => ⟨row, rfl, ⟨Nat.le_trans ro.len (Nat.le_add_right _ _), ro.mem⟩⟩
  | k + 1, m, c :: d :: cs, row, co, ro, hl, _ => by
    obtain ⟨h1, h2, h3⟩ := pair_mt all co
    obtain ⟨s, g1, g2, g3⟩ := meet_some ok ix h1 h2 h3
    unfold resGo
    simp only [g1]
    have hi := image_less ok co g2.mem g3
    simp only [List.length_cons] at hl
    obtain ⟨r, e1, e2⟩ := res_some ok ix all k (m + b.n * b.n) _ (row ++ s) (image_ok s co) (ro.app g2) (by omega) (by omega)
    refine ⟨r, e1, ⟨Nat.le_trans e2.len ?_, e2.mem⟩⟩
    have : b.n * b.n * ((image b (c :: d :: cs) s).length - 1) ≤ b.n * b.n * cs.length := Nat.mul_le_mul_left _ (by omega)
    simp only [List.length_cons, Nat.add_sub_cancel]
    rw [Nat.mul_add, Nat.mul_one]
    omega
inductive Due
  | nev (q : Pr)
  | res (r : List PyData)
noncomputable def apt (b : Bk) (q : Pr) : Bool := @decide (¬ Mt b q) (Classical.propDecidable _)
theorem apt_iff {b : Bk} {q : Pr} : apt b q = true ↔ ¬ Mt b q := by
  exact ⟨fun h => @of_decide_eq_true _ (Classical.propDecidable _) h, fun h => @decide_eq_true _ (Classical.propDecidable _) h⟩
noncomputable def dueOf (b : Bk) : Due := match (apairs b.n).find? (apt b) with
  | some q => .nev q
  | none => .res ((resGo b b.n (List.range b.n) []).getD [])
def dueD (b : Bk) : Due → PyData
  | .nev q => .tuple [.str "never", .int (q.1 : Nat), .int (q.2 : Nat), .tuple (lexD (reached b q))]
  | .res r => .tuple [.str "resets", .tuple r]
theorem due_never {b : Bk} {n : Nat} {q : Pr} (hq : (apairs b.n)[n]? = some q) (hm : ¬ Mt b q) (hb : ∀ m, m < n → ∀ p, (apairs b.n)[m]? = some p → Mt b p) : dueOf b = .nev q := by
  unfold dueOf
  have : (apairs b.n).find? (apt b) = some q := by
    rw [List.find?_eq_some_iff_getElem]
    obtain ⟨hl, e⟩ := List.getElem?_eq_some_iff.mp hq
    refine ⟨apt_iff.mpr hm, n, hl, e, fun j hj => ?_⟩
    have := hb j hj _ (List.getElem?_eq_getElem (by omega))
    rw [Bool.not_eq_true', Bool.eq_false_iff]
    exact fun z => apt_iff.mp z this
  rw [this]
theorem due_resets {b : Bk} (all : ∀ q ∈ apairs b.n, Mt b q) : dueOf b = .res ((resGo b b.n (List.range b.n) []).getD []) := by
  unfold dueOf
  have : (apairs b.n).find? (apt b) = none := by
    rw [List.find?_eq_none]
    intro q hq z
    exact apt_iff.mp z (all q hq)
  rw [this]
theorem apairs_asc {n : Nat} : (apairs n).Pairwise fun a c => a.1 < c.1 ∨ (a.1 = c.1 ∧ a.2 < c.2) := by
  unfold apairs
  rw [List.pairwise_flatMap]
  refine ⟨fun c _ => ?_, ?_⟩
  · rw [List.pairwise_map]
    exact List.pairwise_lt_range.imp fun {i j} h => .inr ⟨rfl, show c + 1 + i < c + 1 + j by omega⟩
  · refine List.pairwise_lt_range.imp fun {c d} h => ?_
    intro x hx y hy
    obtain ⟨i, _, rfl⟩ := List.mem_map.mp hx
    obtain ⟨j, _, rfl⟩ := List.mem_map.mp hy
    exact .inl h
theorem pD_lt {a c : Pr} : PySem.W.dataLt (pD a) (pD c) = decide (a.1 < c.1 ∨ (a.1 = c.1 ∧ a.2 < c.2)) := by
  unfold pD
  rw [PySem.W.dataLt_ii, Bool.eq_iff_iff, decide_eq_true_eq, decide_eq_true_eq]
  omega
/-- the least of the pairs that never meet is the first -/
theorem due_min {b : Bk} {A : List Pr} {d : PyData} {ds : List PyData} (hA : ∀ q, q ∈ A ↔ q ∈ apairs b.n ∧ ¬ Mt b q) (e : A.map pD = d :: ds) : ∃ q : Pr, minD d ds = pD q ∧ dueOf b = .nev q ∧ q.1 < q.2 ∧ q.2 < b.n := by
  obtain ⟨q0, hq0⟩ : ∃ q, q ∈ A := by
    cases A with
    | nil => cases e
    | cons q A => exact ⟨q, List.mem_cons_self⟩
  have hf : ∃ (q : Pr) (n : Nat), (apairs b.n)[n]? = some q ∧ ¬ Mt b q ∧ ∀ m, m < n → ∀ p, (apairs b.n)[m]? = some p → Mt b p := by
    cases hfd : (apairs b.n).find? (apt b) with
    | none =>
      have := List.find?_eq_none.mp hfd q0 ((hA q0).mp hq0).1
      exact absurd (apt_iff.mpr ((hA q0).mp hq0).2) this
    | some q =>
      obtain ⟨g1, n, hl, e1, g2⟩ := List.find?_eq_some_iff_getElem.mp hfd
      refine ⟨q, n, by rw [List.getElem?_eq_getElem hl, e1], apt_iff.mp g1, fun m hm p hp => ?_⟩
      have := g2 m hm
      rw [List.getElem?_eq_getElem (by omega)] at hp
      rw [Option.some.inj hp] at this
      rw [Bool.not_eq_true', Bool.eq_false_iff] at this
      exact Classical.not_not.mp fun z => this (apt_iff.mpr z)
  obtain ⟨q, n, hq, hm, hb⟩ := hf
  have hqa := List.mem_of_getElem? hq
  refine ⟨q, minD_is ?_ fun y hy hne => ?_, due_never hq hm hb, (apairs_mem.mp hqa).1, (apairs_mem.mp hqa).2⟩
  · rw [← e]
    exact List.mem_map.mpr ⟨q, (hA q).mpr ⟨hqa, hm⟩, rfl⟩
  · rw [← e] at hy
    obtain ⟨a, ha, rfl⟩ := List.mem_map.mp hy
    obtain ⟨h1, h2⟩ := (hA a).mp ha
    obtain ⟨i, hi⟩ := List.mem_iff_getElem?.mp h1
    have hlex : q.1 < a.1 ∨ (q.1 = a.1 ∧ q.2 < a.2) := by
      rcases Nat.lt_trichotomy i n with w | w | w
      · exact absurd (hb i w a hi) h2
      · rw [w, hq] at hi
        exact absurd (congrArg pD (Option.some.inj hi).symm) hne
      · obtain ⟨l1, e1⟩ := List.getElem?_eq_some_iff.mp hq
        obtain ⟨l2, e2⟩ := List.getElem?_eq_some_iff.mp hi
        have := List.pairwise_iff_getElem.mp (apairs_asc (n := b.n)) n i l1 l2 w
        rwa [e1, e2] at this
    rw [pD_lt, pD_lt]
    exact ⟨decide_eq_true hlex, decide_eq_false (by omega)⟩
end Law

namespace Law
open PySem PySem.Spec PyProof.Rows L2 TL
/-! ### reset_row, _law_due -/
theorem range_il {n : Nat} : rangeD 0 ((n : Nat) : Int).toNat = ilist (List.range n) := by
  unfold rangeD
  rw [Int.toNat_natCast]
  exact List.map_congr_left fun i _ => by rw [Int.zero_add]
theorem pairs_minOk {A : List Pr} : MinOk (A.map pD) := by
  refine ⟨pDs_plain, ⟨fun x hx y hy => ?_, fun x hx => ?_⟩, fun x hx => ?_⟩
  · obtain ⟨p, _, rfl⟩ := List.mem_map.mp hx
    obtain ⟨q, _, rfl⟩ := List.mem_map.mp hy
    exact pD_alike p q
  · obtain ⟨p, _, rfl⟩ := List.mem_map.mp hx
    simp [pD]
  · obtain ⟨p, _, rfl⟩ := List.mem_map.mp hx
    exact pD_depth p
theorem ix_code {cs : List Nat} {j : Nat} {c : Nat} (h : cs[j]? = some c) : atI (ilist cs) (j : Int) = some (.int (c : Nat)) := atI_nat (by rw [List.getElem?_map, h]; rfl)
def spDue : SpD := fun as Ψ => ∃ b : Bk, as = [.da b.data] ∧ b.Ok ∧ b.Idx ∧ Ψ (.da (dueD b (dueOf b))) as
structure RS (b : Bk) (R : List PyData) (k : Nat) (q : List Nat × List PyData) : Prop where
  co : CsOk b q.1
  ro : ∃ m, RowOk b m q.2 ∧ m + b.n * b.n * k ≤ b.n * b.n * b.n
  go : resGo b k q.1 q.2 = some R
  le : q.1.length ≤ k
  k1 : 1 ≤ k
theorem RS.start {b : Bk} (ok : b.Ok) (ix : b.Idx) (all : ∀ q ∈ apairs b.n, Mt b q) : RS b ((resGo b b.n (List.range b.n) []).getD []) b.n (List.range b.n, []) := by
  have ro : RowOk b 0 [] := ⟨Nat.le_refl _, by simp⟩
  obtain ⟨r, e, _⟩ := res_some ok ix all b.n 0 (List.range b.n) [] CsOk.all ro (by simp) ok.n1
  refine ⟨CsOk.all, ⟨0, ro, by omega⟩, ?_, by simp, ok.n1⟩
  show resGo b b.n (List.range b.n) [] = _
  rw [e]
  rfl
theorem RS.next {b : Bk} (ok : b.Ok) (ix : b.Idx) (all : ∀ q ∈ apairs b.n, Mt b q) {R : List PyData} {k c d : Nat} {cs : List Nat} {row : List PyData} (h : RS b R k (c :: d :: cs, row)) :
    c < b.n ∧ d < b.n ∧ ∃ s, meetGo b (b.n * b.n + 1) [((c, d), [])] [(c, d)] = some (.tuple s) ∧ (∀ x ∈ s, x ∈ b.deeds) ∧ row.length + s.length ≤ 1000000 ∧ ∃ j, k = j + 1 ∧ RS b R j (image b (c :: d :: cs) s, row ++ s) := by
  obtain ⟨h1, h2, h3⟩ := pair_mt all h.co
  obtain ⟨s, g1, g2, g3⟩ := meet_some ok ix h1 h2 h3
  obtain ⟨m, ro, hm⟩ := h.ro
  have ro : RowOk b m row := ro
  have hl : (c :: d :: cs).length ≤ k := h.le
  simp only [List.length_cons] at hl
  obtain ⟨j, rfl⟩ : ∃ j, k = j + 1 := ⟨k - 1, by omega⟩
  have hnn := nn_le ok
  have hn3 : b.n * b.n * b.n ≤ 3600 * 60 := Nat.mul_le_mul hnn ok.n2
  have z1 := ro.len
  have z2 := g2.len
  have hm : m + b.n * b.n * (j + 1) ≤ b.n * b.n * b.n := hm
  rw [Nat.mul_add, Nat.mul_one] at hm
  refine ⟨h1, h2, s, g1, g2.mem, by omega, j, rfl, ⟨image_ok s h.co, ⟨m + b.n * b.n, ro.app g2, by omega⟩, ?_, ?_, by omega⟩⟩
  · have := h.go
    unfold resGo at this
    simp only [g1] at this
    exact this
  · have := image_less ok h.co g2.mem g3
    show (image b (c :: d :: cs) s).length ≤ j
    omega
theorem RS.done {b : Bk} {R : List PyData} {k : Nat} {cs : List Nat} {row : List PyData} (h : RS b R k (cs, row)) (hl : cs.length ≤ 1) : R = row := by
  have g := h.go
  have h1 := h.k1
  obtain ⟨j, rfl⟩ : ∃ j, k = j + 1 := ⟨k - 1, by omega⟩
  match cs, hl with
  | [], _ => exact (Option.some.inj g).symm
  | [c], _ => exact (Option.some.inj g).symm
section
variable {P : Program} {w : World} {K : PySem.W.Frag} {mg : Str → Option Value} {bs h : Heap} (X : K.In h) (G : h.Ns mainGlobals mg) (B : Blt mg)
include X G B
theorem d_resetRow (D : DK K "reset_row" s_reset_row) (gK : Def P w K mg bs 2 "meeting_pairs" ["book"] spKnown) (gA : Def P w K mg bs 1 "all_pairs" ["many"] spAllP) (gR : Def P w K mg bs 2 "pairs_of" ["book", "c", "d"] spReach1) (gM : Def P w K mg bs 3 "meeting" ["book", "c", "d"] spMeet) (gC : Def P w K mg bs 1 "codes_behind" ["book", "codes", "row"] spImage) :
    Def P w K mg bs 4 "reset_row" ["book"] spDue := by
  refine def_ok X G D sc_reset_row (fun f fd F => F.binds (ps := ["book"]) fun _ _ _ _ _ _ us hl => match us, hl with | [_], _ => rfl) (fun as Ψ h => by obtain ⟨_, rfl, _⟩ := h; rfl) fun f cdv A fr s H E fx as Ψ us hsp hl => ?_
  obtain ⟨b, rfl, ok, ix, hq⟩ := hsp
  obtain ⟨v0, rfl⟩ := ar1 hl
  have nd := fx.nd
  have r1 := fx.room.mono (show 1 ≤ 3 by decide)
  have r2 := fx.room.mono (show 2 ≤ 3 by decide)
  have r3 := fx.room.mono (show 3 ≤ 3 by decide)
  have hn60 := ok.n2
  show WSs _ _ [some (.da b.data), none, none, none, none, none, none] _
  refine ws_set 1 nd (we_fnR gK r2 fx.gd (wr_da (xv 0) (wr_nil ⟨_, _, rfl, b, rfl, ok, fun M po hM => ?_⟩)))
  show WSs _ _ [some (.da b.data), some (.dm (metD M)), none, none, none, none, none] _
  refine ws_forT fx (apairs b.n) pD (fun _ : Unit => [some (.da b.data), some (.dm (metD M)), none, none, none, none, none]) (fun n _ => ∀ m, m < n → ∀ p, (apairs b.n)[m]? = some p → Mt b p) ()
    (xi_lst fun Ψ' hΨ => we_fnR gA r1 fx.gd (wr_da (xe_cast (xe_len B (ds := b.views) (xe_ix (xv 0) xe_int (.inr rfl) rfl) (.inr rfl)) (by rw [ok.vl])) (wr_nil ⟨_, _, rfl, b.n, rfl, ok.n2, hΨ⟩))) (by intro m hm; omega) rfl ?_ ?_
  · rintro n q _ hqn hb
    have hqa := apairs_lt (List.mem_of_getElem? hqn)
    refine wg_tup rfl (wgs_cons (wg_name 2 nd (wgs_cons (wg_name 3 nd (wgs_nil ?_)))))
    show WSs _ _ [some (.da b.data), some (.dm (metD M)), some (.da (.int (q.1 : Nat))), some (.da (.int (q.2 : Nat))), none, none, none] _
    refine xs_if (xt_cast (xt_nninS 1 fx.u16 metD_ok (pK_ok q) (xe_castD (xe_tup2 (xv 2) (xv 3)) (pK_data q).symm)) (by rw [kget_met])) (fun hc => ?_) fun hc => ws_nil ?_
    · have hnm : q ∉ M := by simpa using hc
      have hnt : ¬ Mt b q := fun m => hnm ((hM q).mpr ⟨List.mem_of_getElem? hqn, m⟩)
      rw [due_never hqn hnt hb] at hq
      exact xs_ret (xe_tup4 xe_str (xv 2) (xv 3) fun Ψ' hΨ => we_fnR gR r2 fx.gd (wr_da (xv 0) (wr_da (xv 2) (wr_da (xv 3) (wr_nil ⟨_, _, rfl, b, q, rfl, ok, hqa.1, hqa.2, hΨ⟩))))) ⟨_, .da .nil, hq⟩
    · have hm : q ∈ M := by simpa using hc
      refine ws_drop 2 (ws_drop 3 (ws_nil ⟨(), fun m hmn p hp => ?_, rfl⟩))
      rcases Nat.lt_succ_iff_lt_or_eq.mp hmn with z | rfl
      · exact hb m z p hp
      · rw [hqn] at hp
        rw [← Option.some.inj hp]
        exact ((hM q).mp hm).2
  · rintro _ hb
    have all : ∀ q ∈ apairs b.n, Mt b q := fun q hq => by
      obtain ⟨i, hi⟩ := List.mem_iff_getElem?.mp hq
      exact hb i (List.getElem?_eq_some_iff.mp hi).1 q hi
    rw [due_resets all] at hq
    have st := RS.start ok ix all
    generalize (resGo b b.n (List.range b.n) []).getD [] = R at hq st
    refine xs_set 4 nd (xe_frz (xe_listRg1 B rfl (xe_cast (xe_len B (ds := b.views) (xe_ix (xv 0) xe_int (.inr rfl) rfl) (.inr rfl)) (by rw [ok.vl])) (by omega) (by omega))) ?_
    rw [range_il]
    refine xs_set 5 nd xe_tup0 ?_
    show WSs _ _ [some (.da b.data), some (.dm (metD M)), none, none, some (.da (.list (ilist (List.range b.n)))), some (.da (.tuple [])), none] _
    refine ws_whileT fx (fun q : Nat × List Nat × List PyData => [some (.da b.data), some (.dm (metD M)), none, none, some (.da (.list (ilist q.2.1))), some (.da (.tuple q.2.2)), none]) (fun q => RS b R q.1 q.2) (fun q => q.1) (b.n, List.range b.n, []) st rfl ?_
    rintro ⟨k, cs, row⟩ rs
    refine wt_pure (xt_gt (xe_len B (xv 4) (.inl rfl)) xe_int) ⟨fun ht => ?_, fun ht => ?_⟩
    · rw [decide_eq_true_eq, List.length_map] at ht
      have ht : 1 < cs.length := by have ht : (1 : Int) < (cs.length : Int) := ht; omega
      match cs, rs, ht with
      | [], _, ht => exact absurd ht (by simp)
      | [c], _, ht => exact absurd ht (by simp)
      | c :: d :: cs, rs, _ =>
        obtain ⟨h1, h2, s', g1, g2, g3, j, rfl, rn⟩ := rs.next ok ix all
        have co : CsOk b (c :: d :: cs) := rs.co
        refine ws_set 6 nd (we_fnR gM r3 fx.gd (wr_da (xv 0) (wr_da (xe_ix (xv 4) xe_int (.inl rfl) (ix_code (j := 0) rfl)) (wr_da (xe_ix (xv 4) xe_int (.inl rfl) (ix_code (j := 1) rfl)) (wr_nil ⟨_, _, rfl, b, c, d, .tuple s', rfl, ok, h1, h2, g1, ?_⟩)))))
        refine ws_set 4 nd (we_fnR gC r1 fx.gd (wr_da (xv 0) (wr_da (xv 4) (wr_da (xv 6) (wr_nil ⟨_, _, rfl, b, c :: d :: cs, s', rfl, ok, ix, co, g2, ?_⟩)))))
        refine xs_set 5 nd (xe_catT (ds := row) (es' := s') (szl g3) (xv 5) (xv 6)) (ws_drop 6 (ws_nil ⟨(j, image b (c :: d :: cs) s', row ++ s'), rn, Nat.lt_succ_self j, rfl⟩))
    · rw [decide_eq_false_iff_not, List.length_map] at ht
      have ht : ¬ (1 : Int) < (cs.length : Int) := ht
      have hR := rs.done (by omega)
      subst hR
      exact xs_ret (xe_tup2 xe_str (xv 5)) ⟨_, .da .nil, hq⟩
theorem d_ldue (D : DK K "_law_due" s_l_due) (gA : Def P w K mg bs 2 "_law_apart_pairs" ["book"] spApart) (gR : Def P w K mg bs 2 "_law_pairs_from" ["book", "pair"] spReach2) (gM : Def P w K mg bs 2 "_law_meeting" ["book", "c", "d"] spMeet) (gC : Def P w K mg bs 1 "_law_image" ["book", "codes", "row"] spImage) :
    Def P w K mg bs 3 "_law_due" ["book"] spDue := by
  refine def_ok X G D sc_l_due (fun f fd F => F.binds (ps := ["book"]) fun _ _ _ _ _ _ us hl => match us, hl with | [_], _ => rfl) (fun as Ψ h => by obtain ⟨_, rfl, _⟩ := h; rfl) fun f cdv A fr s H E fx as Ψ us hsp hl => ?_
  obtain ⟨b, rfl, ok, ix, hq⟩ := hsp
  obtain ⟨v0, rfl⟩ := ar1 hl
  have nd := fx.nd
  have r1 := fx.room.mono (show 1 ≤ 2 by decide)
  have r2 := fx.room.mono (show 2 ≤ 2 by decide)
  have hn60 := ok.n2
  show WSs _ _ [some (.da b.data), none, none, none, none, none, none] _
  refine ws_set 1 nd (we_fnR gA r2 fx.gd (wr_da (xv 0) (wr_nil ⟨_, _, rfl, b, rfl, ok, fun A po hA => ?_⟩)))
  show WSs _ _ [some (.da b.data), some (.da (dnD (metD A))), none, none, none, none, none] _
  refine xs_if (xt_gt (xe_lenNS 1 B metD_ok) xe_int) (fun hc => ?_) fun hc => ws_nil ?_
  · rw [decide_eq_true_eq, List.length_map] at hc
    obtain ⟨d, ds, e⟩ : ∃ d ds, A.map pD = d :: ds := by
      cases A with
      | nil => exact absurd hc (by decide)
      | cons a A => exact ⟨_, _, rfl⟩
    obtain ⟨q, e1, e2, l1, l2⟩ := due_min hA e
    have mo : MinOk (d :: ds) := e ▸ pairs_minOk (A := A)
    refine xs_set 2 nd (xe_minNS (ks := metD A) 1 B metD_ok rfl fx.u70 (keys_met.trans e) mo) ?_
    rw [e1]
    rw [e2] at hq
    show WSs _ _ [some (.da b.data), some (.da (dnD (metD A))), some (.da (pD q)), none, none, none, none] _
    exact xs_ret (xe_tup4 xe_str (xe_ix (xv 2) xe_int (.inr rfl) rfl) (xe_ix (xv 2) xe_int (.inr rfl) rfl) fun Ψ' hΨ => we_fnR gR r2 fx.gd (wr_da (xv 0) (wr_da (xv 2) (wr_nil ⟨_, _, rfl, b, q, rfl, ok, by omega, l2, hΨ⟩)))) ⟨_, .da .nil, hq⟩
  · have all : ∀ q ∈ apairs b.n, Mt b q := fun q hq' => Classical.not_not.mp fun z => by
      have hm := (hA q).mpr ⟨hq', z⟩
      have := List.length_pos_of_mem hm
      rw [decide_eq_false_iff_not, List.length_map] at hc
      omega
    rw [due_resets all] at hq
    have st := RS.start ok ix all
    generalize (resGo b b.n (List.range b.n) []).getD [] = R at hq st
    refine xs_set 3 nd (xe_frz (xe_listRg1 B rfl (xe_cast (xe_len B (ds := b.views) (xe_ix (xv 0) xe_int (.inr rfl) rfl) (.inr rfl)) (by rw [ok.vl])) (by omega) (by omega))) ?_
    rw [range_il]
    refine xs_set 4 nd xe_tup0 ?_
    show WSs _ _ [some (.da b.data), some (.da (dnD (metD A))), none, some (.da (.list (ilist (List.range b.n)))), some (.da (.tuple [])), none, none] _
    have h1 := ok.n1
    refine ws_forT fx (List.range b.n) (fun (i : Nat) => .int i) (fun q : List Nat × List PyData => [some (.da b.data), some (.da (dnD (metD A))), none, some (.da (.list (ilist q.1))), some (.da (.tuple q.2)), none, none]) (fun t q => ∃ k, RS b R k q ∧ (k + t = b.n ∨ q.1.length ≤ 1)) (List.range b.n, []) (xi_rangeN B (xe_cast (xe_len B (ds := b.views) (xe_ix (xv 0) xe_int (.inr rfl) rfl) (.inr rfl)) (by rw [ok.vl])) (by omega)) ⟨b.n, st, .inl rfl⟩ rfl ?_ ?_
    · rintro t x ⟨cs, row⟩ hx ⟨k, rs, hk⟩
      refine wg_name 5 nd ?_
      refine ws_drop 5 ?_
      show WSs _ _ [some (.da b.data), some (.da (dnD (metD A))), none, some (.da (.list (ilist cs))), some (.da (.tuple row)), none, none] _
      refine xs_if (xt_gt (xe_len B (xv 3) (.inl rfl)) xe_int) (fun ht => ?_) fun ht => ?_
      · rw [decide_eq_true_eq, List.length_map] at ht
        have ht : 1 < cs.length := by have ht : (1 : Int) < (cs.length : Int) := ht; omega
        match cs, rs, ht, hk with
        | [], _, ht, _ => exact absurd ht (by simp)
        | [c], _, ht, _ => exact absurd ht (by simp)
        | c :: d :: cs, rs, _, hk =>
          obtain ⟨h1, h2, s', g1, g2, g3, j, rfl, rn⟩ := rs.next ok ix all
          have co : CsOk b (c :: d :: cs) := rs.co
          have hk : j + 1 + t = b.n := hk.resolve_right (by simp)
          refine ws_set 6 nd (we_fnR gM r2 fx.gd (wr_da (xv 0) (wr_da (xe_ix (xv 3) xe_int (.inl rfl) (ix_code (j := 0) rfl)) (wr_da (xe_ix (xv 3) xe_int (.inl rfl) (ix_code (j := 1) rfl)) (wr_nil ⟨_, _, rfl, b, c, d, .tuple s', rfl, ok, h1, h2, g1, ?_⟩)))))
          refine ws_set 3 nd (we_fnR gC r1 fx.gd (wr_da (xv 0) (wr_da (xv 3) (wr_da (xv 6) (wr_nil ⟨_, _, rfl, b, c :: d :: cs, s', rfl, ok, ix, co, g2, ?_⟩)))))
          refine xs_set 4 nd (xe_catT (ds := row) (es' := s') (szl g3) (xv 4) (xv 6)) (ws_nil (ws_drop 6 (ws_nil ⟨(image b (c :: d :: cs) s', row ++ s'), ⟨j, rn, .inl (by omega)⟩, rfl⟩)))
      · rw [decide_eq_false_iff_not, List.length_map] at ht
        exact ws_nil (ws_nil ⟨(cs, row), ⟨k, rs, .inr (by show cs.length ≤ 1; omega)⟩, rfl⟩)
    · rintro ⟨cs, row⟩ ⟨k, rs, hk⟩
      rw [List.length_range] at hk
      have k1 := rs.k1
      have hR := rs.done (hk.elim (fun z => by omega) id)
      subst hR
      exact xs_ret (xe_tup2 xe_str (xv 4)) ⟨_, .da .nil, hq⟩
end
end Law

namespace Law
open PySem PySem.Spec PyProof.Rows L2 TL
/-! ### papers judged -/
def eP (q : Pr) : PyData := eD q.1 q.2
theorem eqv_eP (a q : Pr) : PyData.eqv (eP a) (eP q) = decide (a = q) := by
  rw [Bool.eq_iff_iff, decide_eq_true_eq]
  simp only [eP, eD, PyData.eqv, PyData.eqvAll, Bool.and_true, Bool.and_eq_true, beq_iff_eq]
  constructor
  · rintro ⟨h1, h2⟩
    exact Prod.ext (Int.ofNat.inj h1) (Int.ofNat.inj h2)
  · rintro rfl
    exact ⟨rfl, rfl⟩
theorem eP_plain (q : Pr) : (eP q).plain = true := by simp [eP, eD, PyData.plain, PyData.plainAll]
theorem eP_depth (q : Pr) : (eP q).depth ≤ 60 := by simp [eP, eD, PyData.depth, PyData.depthAll]
def Bk.ED (b : Bk) : Prop := ∃ vps : List Pr, b.deeds = vps.map eP
def Bk.has (b : Bk) (q : Pr) : Bool := b.deeds.any fun z => PyData.eqv z (eP q)
theorem has_iff {b : Bk} (h : b.ED) {q : Pr} : b.has q = true ↔ eP q ∈ b.deeds := by
  obtain ⟨vps, e⟩ := h
  unfold Bk.has
  rw [e, List.any_map, List.any_eq_true]
  constructor
  · rintro ⟨z, hz, e⟩
    have e : PyData.eqv (eP z) (eP q) = true := e
    rw [eqv_eP, decide_eq_true_eq] at e
    exact List.mem_map.mpr ⟨z, hz, by rw [e]⟩
  · intro h
    obtain ⟨z, hz, e⟩ := List.mem_map.mp h
    refine ⟨z, hz, ?_⟩
    show PyData.eqv (eP z) (eP q) = true
    rw [e, eqv_eP]
    simp
inductive Pap
  | res (r : List Pr)
  | nev (x y : Nat) (ps : List Pr)
  | oth
def papD : Pap → PyData
  | .res r => .tuple [.str "resets", .tuple (r.map eP)]
  | .nev x y ps => .tuple [.str "never", .int (x : Nat), .int (y : Nat), .tuple (ps.map pD)]
  | .oth => .tuple [.str "reset", .tuple []]
def takes (b : Bk) : Pap → Bool
  | .res r => r.all b.has && decide ((image b (List.range b.n) (r.map eP)).length = 1)
  | .nev x y ps => decide ((x, y) ∈ ps) && ps.all fun q => decide (q.1 < q.2 ∧ q.2 < b.n) && stays b ps q
  | .oth => false
def Pap.few : Pap → Prop
  | .res r => r.length ≤ 1000000
  | .nev _ _ ps => ps.length ≤ 100000
  | .oth => True
def spTakes : SpD := fun as Ψ => ∃ (b : Bk) (p : Pap), as = [.da b.data, .da (papD p)] ∧ b.Ok ∧ b.Idx ∧ b.ED ∧ p.few ∧ Ψ (.da (.bool (takes b p))) as
def spStay : SpD := fun as Ψ => ∃ (b : Bk) (M : List Pr) (q : Pr), as = [.da b.data, .da (dnD (metD M)), .da (pD q)] ∧ b.Ok ∧ q.1 < b.n ∧ q.2 < b.n ∧ Ψ (.da (.bool (stays b M q))) as
theorem stays_ext {b : Bk} {A C : List Pr} (h : ∀ q, q ∈ A ↔ q ∈ C) (q : Pr) : stays b A q = stays b C q := by
  unfold stays
  congr 1
  funext p
  rw [Bool.eq_iff_iff, decide_eq_true_eq, decide_eq_true_eq]
  exact h _
theorem all_ext {A C : List Pr} {f g : Pr → Bool} (h : ∀ q, q ∈ A ↔ q ∈ C) (hf : ∀ q, f q = g q) : A.all f = C.all g := by
  rw [Bool.eq_iff_iff, List.all_eq_true, List.all_eq_true]
  exact ⟨fun z q hq => hf q ▸ z q ((h q).mpr hq), fun z q hq => (hf q).symm ▸ z q ((h q).mp hq)⟩
section
variable {P : Program} {w : World} {K : PySem.W.Frag} {mg : Str → Option Value} {bs h : Heap} (X : K.In h) (G : h.Ns mainGlobals mg) (B : Blt mg)
include X G B
theorem d_stays (D : DK K "stays_apart" s_stays_apart) (gO : Def P w K mg bs 1 "ordered" ["one", "two"] spOrd) : Def P w K mg bs 2 "stays_apart" ["book", "known", "pair"] spStay := by
  refine def_ok X G D sc_stays_apart (fun f fd F => F.binds (ps := ["book", "known", "pair"]) fun _ _ _ _ _ _ us hl => match us, hl with | [_, _, _], _ => rfl) (fun as Ψ h => by obtain ⟨_, _, _, rfl, _⟩ := h; rfl) fun f cdv A fr s H E fx as Ψ us hsp hl => ?_
  obtain ⟨b, M, q, rfl, ok, l1, l2, hq⟩ := hsp
  obtain ⟨v0, v1, v2, rfl⟩ := ar3 hl
  have nd := fx.nd
  have r1 := fx.room.mono (show 1 ≤ 1 by decide)
  show WSs _ _ [some (.da b.data), some (.da (dnD (metD M))), some (.da (pD q)), none, none] _
  refine ws_forT fx (nxs b q) (fun p => .tuple [.int (p.1 : Nat), .int (p.2 : Nat)]) (fun _ : Unit => [some (.da b.data), some (.da (dnD (metD M))), some (.da (pD q)), none, none]) (fun m _ => ∀ p ∈ (nxs b q).take m, ordN p.1 p.2 ∈ M) ()
    (xi_zipU (xs := rowOf b q.1) (ys := rowOf b q.2) (E := fun (n : Nat) => .int n) (E' := fun (n : Nat) => .int n) B (xe_beh 0 ok l1 rfl (xe_ix (xv 2) xe_int (.inr rfl) rfl)) (xe_beh 0 ok l2 rfl (xe_ix (xv 2) xe_int (.inr rfl) rfl))) (by simp) rfl ?_ ?_
  · rintro m p _ hp hb
    refine wg_tup rfl (wgs_cons (wg_name 3 nd (wgs_cons (wg_name 4 nd (wgs_nil ?_)))))
    show WSs _ _ [some (.da b.data), some (.da (dnD (metD M))), some (.da (pD q)), some (.da (.int (p.1 : Nat))), some (.da (.int (p.2 : Nat)))] _
    refine xs_if (xt_cast (xt_nninS 1 fx.u16 metD_ok (pK_ok (ordN p.1 p.2)) (fun Ψ hΨ => we_fnR gO r1 fx.gd (wr_da (xv 3) (wr_da (xv 4) (wr_nil ⟨_, _, rfl, p.1, p.2, rfl, by rw [pK_data] at hΨ; exact hΨ⟩))))) (by rw [kget_met])) (fun hc => ?_) fun hc => ws_nil ?_
    · have hnm : ordN p.1 p.2 ∉ M := by simpa using hc
      have e : stays b M q = false := by
        rw [Bool.eq_false_iff]
        intro z
        exact hnm (of_decide_eq_true (List.all_eq_true.mp z p (List.mem_of_getElem? hp)))
      rw [e] at hq
      exact xs_ret xe_bl ⟨_, .da (.da (.da .nil)), hq⟩
    · have hm : ordN p.1 p.2 ∈ M := by simpa using hc
      refine ws_drop 3 (ws_drop 4 (ws_nil ⟨(), fun x hx => ?_, rfl⟩))
      rw [List.take_succ, hp, List.mem_append] at hx
      rcases hx with z | z
      · exact hb x z
      · rw [List.mem_singleton.mp z]
        exact hm
  · rintro _ hb
    rw [List.take_length] at hb
    have e : stays b M q = true := List.all_eq_true.mpr fun p hp => decide_eq_true (hb p hp)
    rw [e] at hq
    exact xs_ret xe_bl ⟨_, .da (.da (.da .nil)), hq⟩
end
end Law

namespace Law
open PySem PySem.Spec PyProof.Rows L2 TL
theorem image_all {b : Bk} (ed : b.ED) {r : List Pr} (h : r.all b.has = true) : ∀ d ∈ r.map eP, d ∈ b.deeds := fun d hd => by
  obtain ⟨q, hq, rfl⟩ := List.mem_map.mp hd
  exact (has_iff ed).mp (List.all_eq_true.mp h q hq)
theorem eqv_str (x y : Str) : PyData.eqv (.str x) (.str y) = (x == y) := rfl
section
variable {P : Program} {w : World} {K : PySem.W.Frag} {mg : Str → Option Value} {bs h : Heap} (X : K.In h) (G : h.Ns mainGlobals mg) (B : Blt mg)
include X G B
theorem d_judge (D : DK K "judge_reset" s_judge_reset) (gC : Def P w K mg bs 1 "codes_behind" ["book", "codes", "row"] spImage) (gS : Def P w K mg bs 2 "stays_apart" ["book", "known", "pair"] spStay) : Def P w K mg bs 3 "judge_reset" ["book", "told"] spTakes := by
  refine def_ok X G D sc_judge_reset (fun f fd F => F.binds (ps := ["book", "told"]) fun _ _ _ _ _ _ us hl => match us, hl with | [_, _], _ => rfl) (fun as Ψ h => by obtain ⟨_, _, rfl, _⟩ := h; rfl) fun f cdv A fr s H E fx as Ψ us hsp hl => ?_
  obtain ⟨b, p, rfl, ok, ix, ed, few, hq⟩ := hsp
  obtain ⟨v0, v1, rfl⟩ := ar2 hl
  have nd := fx.nd
  have r1 := fx.room.mono (show 1 ≤ 2 by decide)
  have r2 := fx.room.mono (show 2 ≤ 2 by decide)
  have hn60 := ok.n2
  show WSs _ _ [some (.da b.data), some (.da (papD p)), none, none, none, none, none, none] _
  refine xs_set 2 nd (xe_cast (xe_len B (ds := b.views) (xe_ix (xv 0) xe_int (.inr rfl) rfl) (.inr rfl)) (by rw [ok.vl])) ?_
  cases p with
  | res r =>
    show WSs _ _ [some (.da b.data), some (.da (.tuple [.str "resets", .tuple (r.map eP)])), some (.da (.int (b.n : Nat))), none, none, none, none, none] _
    refine xs_if (xt_eqP fx.u (xe_ix (xv 1) xe_int (.inr rfl) rfl) xe_str) (fun _ => ?_) fun hc => by cases hc
    refine xs_if (xt_not (xt_val (xe_allM b.has r B rfl (xe_lcM [("deed", 6)] (fun (q : Pr) Γ => Γ.set 6 (some (.da (eP q)))) r eP (fun q => .bool (b.has q)) fx (R := fun q => .da (.bool (b.has q))) (xi_tup (xe_ix (xv 1) xe_int (.inr rfl) rfl)) (szl few) (fun q hq s H C cl fp => gc_name 6 nd rfl) fun q hq s H C cl fp => xe_inV fx.blk.u70 (xv 6) (xe_tn (xe_ix (xv 0) xe_int (.inr rfl) rfl)) (eP_plain q) (deeds_plain ok) (eP_depth q))))) (fun hc => ?_) fun hc => ws_nil ?_
    · have hf : r.all b.has = false := by simpa using hc
      have e : takes b (.res r) = false := by
        show (r.all b.has && _) = false
        rw [hf]
        rfl
      rw [e] at hq
      exact xs_ret xe_bl ⟨_, .da (.da .nil), hq⟩
    · have hf : r.all b.has = true := by simpa using hc
      have e : takes b (.res r) = decide (((ilist (image b (List.range b.n) (r.map eP))).length : Int) = 1) := by
        show (r.all b.has && _) = _
        rw [hf, Bool.true_and, List.length_map, Bool.eq_iff_iff, decide_eq_true_eq, decide_eq_true_eq]
        omega
      rw [e] at hq
      exact xs_ret (xe_eqI fx.u (xe_len (Γ1 := [some (.da b.data), some (.da (.tuple [.str "resets", .tuple (r.map eP)])), some (.da (.int (b.n : Nat))), none, none, none, none, none]) B (ds := ilist (image b (List.range b.n) (r.map eP))) (d := .list (ilist (image b (List.range b.n) (r.map eP)))) (fun Ψ' hΨ => we_fnR gC r1 fx.gd (wr_da (xv 0) (wr_da (xe_castD (d' := .list (ilist (List.range b.n))) (xe_frz (xe_listRg1 B rfl (xv 2) (by omega) (by omega))) (by rw [range_il])) (wr_da (xe_ix (xv 1) xe_int (.inr rfl) rfl) (wr_nil ⟨_, _, rfl, b, List.range b.n, r.map eP, rfl, ok, ix, CsOk.all, image_all ed hf, hΨ⟩))))) (.inl rfl)) xe_int) ⟨_, .da (.da .nil), hq⟩
  | oth =>
    show WSs _ _ [some (.da b.data), some (.da (.tuple [.str "reset", .tuple []])), some (.da (.int (b.n : Nat))), none, none, none, none, none] _
    refine xs_if (xt_eqP fx.u (xe_ix (xv 1) xe_int (.inr rfl) rfl) xe_str) (fun hc => by cases hc) fun _ => ws_nil ?_
    refine xs_if (xt_neP fx.u (xe_ix (xv 1) xe_int (.inr rfl) rfl) xe_str) (fun _ => ?_) fun hc => by cases hc
    exact xs_ret xe_bl ⟨_, .da (.da .nil), hq⟩
  | nev x y ps =>
    show WSs _ _ [some (.da b.data), some (.da (.tuple [.str "never", .int (x : Nat), .int (y : Nat), .tuple (ps.map pD)])), some (.da (.int (b.n : Nat))), none, none, none, none, none] _
    refine xs_if (xt_eqP fx.u (xe_ix (xv 1) xe_int (.inr rfl) rfl) xe_str) (fun hc => by cases hc) fun _ => ws_nil ?_
    refine xs_if (xt_neP fx.u (xe_ix (xv 1) xe_int (.inr rfl) rfl) xe_str) (fun hc => by cases hc) fun _ => ws_nil ?_
    refine xs_set 3 nd xe_dictM0 ?_
    have few : ps.length ≤ 100000 := few
    show WSs _ _ [some (.da b.data), some (.da (.tuple [.str "never", .int (x : Nat), .int (y : Nat), .tuple (ps.map pD)])), some (.da (.int (b.n : Nat))), some (.dm (metD [])), none, none, none, none] _
    refine ws_forT fx ps pD (fun M : List Pr => [some (.da b.data), some (.da (.tuple [.str "never", .int (x : Nat), .int (y : Nat), .tuple (ps.map pD)])), some (.da (.int (b.n : Nat))), some (.dm (metD M)), none, none, none, none]) (fun n M => M = addM [] (ps.take n) ∧ M.length ≤ n ∧ ∀ q ∈ ps.take n, q.1 < q.2 ∧ q.2 < b.n) [] (xi_tup (xe_ix (xv 1) xe_int (.inr rfl) rfl)) ⟨rfl, Nat.le_refl _, by simp⟩ rfl ?_ ?_
    · rintro n q M hqn ⟨hM, hl, hb⟩
      have hn := (List.getElem?_eq_some_iff.mp hqn).1
      refine wg_tup rfl (wgs_cons (wg_name 4 nd (wgs_cons (wg_name 5 nd (wgs_nil ?_)))))
      show WSs _ _ [some (.da b.data), some (.da (.tuple [.str "never", .int (x : Nat), .int (y : Nat), .tuple (ps.map pD)])), some (.da (.int (b.n : Nat))), some (.dm (metD M)), some (.da (.int (q.1 : Nat))), some (.da (.int (q.2 : Nat))), none, none] _
      refine xs_if (xt_not (xt_le_lt_lt xe_int (xv 4) (xv 5) (xv 2))) (fun hc => ?_) fun hc => ws_nil ?_
      · have hbad : ¬ (q.1 < q.2 ∧ q.2 < b.n) := fun ⟨h1, h2⟩ => by
          rw [decide_eq_true (by omega : (0 : Int) ≤ (q.1 : Nat)), decide_eq_true (by omega : ((q.1 : Nat) : Int) < (q.2 : Nat)), decide_eq_true (by omega : ((q.2 : Nat) : Int) < (b.n : Nat))] at hc
          cases hc
        have e : takes b (.nev x y ps) = false := by
          show (_ && ps.all _) = false
          have : (ps.all fun q => decide (q.1 < q.2 ∧ q.2 < b.n) && stays b ps q) = false := by
            rw [Bool.eq_false_iff]
            intro z
            have := List.all_eq_true.mp z q (List.mem_of_getElem? hqn)
            rw [Bool.and_eq_true, decide_eq_true_eq] at this
            exact hbad this.1
          rw [this, Bool.and_false]
        rw [e] at hq
        exact xs_ret xe_bl ⟨_, .da (.da .nil), hq⟩
      · have hgood : q.1 < q.2 ∧ q.2 < b.n := by
          have hc : (!(decide ((0 : Int) ≤ (q.1 : Nat)) && (decide (((q.1 : Nat) : Int) < (q.2 : Nat)) && decide (((q.2 : Nat) : Int) < (b.n : Nat))))) = false := hc
          simp only [Bool.not_eq_false', Bool.and_eq_true, decide_eq_true_eq] at hc
          omega
        have nx : addM [] (ps.take (n + 1)) = if q ∈ M then M else M ++ [q] := by
          rw [List.take_succ, hqn]
          unfold addM at hM ⊢
          rw [List.foldl_append, ← hM]
          rfl
        refine ws_nput 3 fx.u16 (we_pure xe_bl ⟨_, pK q, _, metD M, _, rfl, rfl, .dm, metD_ok, pK_ok _, by rw [List.length_map]; exact szlt (by omega), xe_castD (xe_tup2 (xv 4) (xv 5)) (pK_data q).symm, ws_drop 4 (ws_drop 5 (ws_nil ⟨_, ⟨nx.symm, ?_, fun z hz => ?_⟩, ?_⟩))⟩)
        · split
          · omega
          · rw [List.length_append]; simp; omega
        · rw [List.take_succ, hqn, List.mem_append] at hz
          rcases hz with w | w
          · exact hb z w
          · rw [List.mem_singleton.mp w]
            exact hgood
        · rw [kput_met]
          rfl
    · rintro M ⟨hM, hl, hb⟩
      rw [List.take_length] at hM hb
      have hmem : ∀ q, q ∈ M ↔ q ∈ ps := fun q => by rw [hM, addM_mem]; simp
      refine ws_frzN 3 metD_ok ?_
      have e : takes b (.nev x y ps) = ((kget (metD M) (pK (x, y))).isSome && M.all fun q => stays b M q) := by
        show (decide ((x, y) ∈ ps) && ps.all _) = _
        have h1 : (ps.all fun q => decide (q.1 < q.2 ∧ q.2 < b.n) && stays b ps q) = M.all fun q => stays b M q := by
          rw [Bool.eq_iff_iff, List.all_eq_true, List.all_eq_true]
          constructor
          · intro z q hq
            have := z q ((hmem q).mp hq)
            rw [Bool.and_eq_true] at this
            rw [stays_ext hmem]
            exact this.2
          · intro z q hq
            rw [Bool.and_eq_true]
            exact ⟨decide_eq_true (hb q hq), by rw [← stays_ext hmem]; exact z q ((hmem q).mpr hq)⟩
        rw [h1, kget_met]
        congr 1
        exact decide_eq_decide.mpr (hmem (x, y)).symm
      rw [e] at hq
      exact xs_ret (xe_andB (xe_ninS 3 fx.u16 metD_ok (pK_ok (x, y)) (xe_castD (xe_tup2 (xe_ix (xv 1) xe_int (.inr rfl) rfl) (xe_ix (xv 1) xe_int (.inr rfl) rfl)) (pK_data (x, y)).symm)) (fun _ => xe_allM (fun q => stays b M q) M B rfl (xe_lcM [("pair", 7)] (fun (q : Pr) Γ => Γ.set 7 (some (.da (pD q)))) M pD (fun q => .bool (stays b M q)) fx (R := fun q => .da (.bool (stays b M q))) (xi_keysM (xv 3)) (szl (by omega)) (fun q hq s H C cl fp => gc_name 7 nd rfl) (fun q hq s H C cl fp Ψ' hΨ => we_fnR gS r2 fx.gd (wr_da (xv 0) (wr_da (xv 3) (wr_da (xv 7) (wr_nil ⟨_, _, rfl, b, M, q, rfl, ok, by have := hb q ((hmem q).mp hq); omega, (hb q ((hmem q).mp hq)).2, hΨ⟩)))))))) ⟨_, .da (.da .nil), hq⟩
end
end Law

namespace Law
open PySem PySem.Spec PyProof.Rows L2 TL
section
variable {P : Program} {w : World} {K : PySem.W.Frag} {mg : Str → Option Value} {bs h : Heap} (X : K.In h) (G : h.Ns mainGlobals mg) (B : Blt mg)
include X G B
theorem d_takes (D : DK K "_law_takes" s_l_takes) (gC : Def P w K mg bs 1 "_law_image" ["book", "codes", "row"] spImage) (gO : Def P w K mg bs 1 "_law_pair" ["one", "two"] spOrd) : Def P w K mg bs 2 "_law_takes" ["book", "told"] spTakes := by
  refine def_ok X G D sc_l_takes (fun f fd F => F.binds (ps := ["book", "told"]) fun _ _ _ _ _ _ us hl => match us, hl with | [_, _], _ => rfl) (fun as Ψ h => by obtain ⟨_, _, rfl, _⟩ := h; rfl) fun f cdv A fr s H E fx as Ψ us hsp hl => ?_
  obtain ⟨b, p, rfl, ok, ix, ed, few, hq⟩ := hsp
  obtain ⟨v0, v1, rfl⟩ := ar2 hl
  have nd := fx.nd
  have r1 := fx.room.mono (show 1 ≤ 1 by decide)
  have hn60 := ok.n2
  show WSs _ _ [some (.da b.data), some (.da (papD p)), none, none, none, none, none] _
  refine xs_set 2 nd (xe_cast (xe_len B (ds := b.views) (xe_ix (xv 0) xe_int (.inr rfl) rfl) (.inr rfl)) (by rw [ok.vl])) ?_
  cases p with
  | res r =>
    show WSs _ _ [some (.da b.data), some (.da (.tuple [.str "resets", .tuple (r.map eP)])), some (.da (.int (b.n : Nat))), none, none, none, none] _
    refine xs_if (xt_eqP fx.u (xe_ix (xv 1) xe_int (.inr rfl) rfl) xe_str) (fun _ => ?_) fun hc => by cases hc
    refine xs_if (xt_not (xt_val (xe_allM b.has r B rfl (xe_lcM [("deed", 4)] (fun (q : Pr) Γ => Γ.set 4 (some (.da (eP q)))) r eP (fun q => .bool (b.has q)) fx (R := fun q => .da (.bool (b.has q))) (xi_tup (xe_ix (xv 1) xe_int (.inr rfl) rfl)) (szl few) (fun q hq s H C cl fp => gc_name 4 nd rfl) fun q hq s H C cl fp => xe_inV fx.blk.u70 (xv 4) (xe_tn (xe_ix (xv 0) xe_int (.inr rfl) rfl)) (eP_plain q) (deeds_plain ok) (eP_depth q))))) (fun hc => ?_) fun hc => ws_nil ?_
    · have hf : r.all b.has = false := by simpa using hc
      have e : takes b (.res r) = false := by
        show (r.all b.has && _) = false
        rw [hf]
        rfl
      rw [e] at hq
      exact xs_ret xe_bl ⟨_, .da (.da .nil), hq⟩
    · have hf : r.all b.has = true := by simpa using hc
      have e : takes b (.res r) = decide (((ilist (image b (List.range b.n) (r.map eP))).length : Int) = 1) := by
        show (r.all b.has && _) = _
        rw [hf, Bool.true_and, List.length_map, Bool.eq_iff_iff, decide_eq_true_eq, decide_eq_true_eq]
        omega
      rw [e] at hq
      exact xs_ret (xe_eqI fx.u (xe_len (Γ1 := [some (.da b.data), some (.da (.tuple [.str "resets", .tuple (r.map eP)])), some (.da (.int (b.n : Nat))), none, none, none, none]) B (ds := ilist (image b (List.range b.n) (r.map eP))) (d := .list (ilist (image b (List.range b.n) (r.map eP)))) (fun Ψ' hΨ => we_fnR gC r1 fx.gd (wr_da (xv 0) (wr_da (xe_castD (d' := .list (ilist (List.range b.n))) (xe_frz (xe_listRg1 B rfl (xv 2) (by omega) (by omega))) (by rw [range_il])) (wr_da (xe_ix (xv 1) xe_int (.inr rfl) rfl) (wr_nil ⟨_, _, rfl, b, List.range b.n, r.map eP, rfl, ok, ix, CsOk.all, image_all ed hf, hΨ⟩))))) (.inl rfl)) xe_int) ⟨_, .da (.da .nil), hq⟩
  | oth =>
    show WSs _ _ [some (.da b.data), some (.da (.tuple [.str "reset", .tuple []])), some (.da (.int (b.n : Nat))), none, none, none, none] _
    refine xs_if (xt_eqP fx.u (xe_ix (xv 1) xe_int (.inr rfl) rfl) xe_str) (fun hc => by cases hc) fun _ => ws_nil ?_
    refine xs_if (xt_or2 (k := true) (k2 := true) (xt_cast (xt_neP fx.u (xe_ix (xv 1) xe_int (.inr rfl) rfl) xe_str) rfl) (fun q => by cases q)) (fun _ => ?_) fun q => by cases q
    exact xs_ret xe_bl ⟨_, .da (.da .nil), hq⟩
  | nev x y ps =>
    have few : ps.length ≤ 100000 := few
    show WSs _ _ [some (.da b.data), some (.da (.tuple [.str "never", .int (x : Nat), .int (y : Nat), .tuple (ps.map pD)])), some (.da (.int (b.n : Nat))), none, none, none, none] _
    refine xs_if (xt_eqP fx.u (xe_ix (xv 1) xe_int (.inr rfl) rfl) xe_str) (fun hc => by cases hc) fun _ => ws_nil ?_
    refine xs_if (xt_or2 (k := false) (k2 := !decide ((x, y) ∈ ps)) (xt_cast (xt_neP fx.u (xe_ix (xv 1) xe_int (.inr rfl) rfl) xe_str) rfl) (fun _ => xt_cast (xt_notInV fx.u70 (xe_tup2 (xe_ix (xv 1) xe_int (.inr rfl) rfl) (xe_ix (xv 1) xe_int (.inr rfl) rfl)) (xe_ix (xv 1) xe_int (.inr rfl) rfl) (pD_plain (x, y)) pDs_plain (pD_depth (x, y))) (by rw [← any_pD]; rfl))) (fun hc => ?_) fun hc => ws_nil ?_
    · have hnm : (x, y) ∉ ps := by simpa using hc
      have e : takes b (.nev x y ps) = false := by
        show (decide ((x, y) ∈ ps) && _) = false
        rw [decide_eq_false hnm]
        rfl
      rw [e] at hq
      exact xs_ret xe_bl ⟨_, .da (.da .nil), hq⟩
    have hxy : (x, y) ∈ ps := by simpa using hc
    have bad : ∀ q ∈ ps, ¬ ((q.1 < q.2 ∧ q.2 < b.n) ∧ stays b ps q = true) → takes b (.nev x y ps) = false := fun q hqm hb => by
      show (_ && ps.all _) = false
      have : (ps.all fun q => decide (q.1 < q.2 ∧ q.2 < b.n) && stays b ps q) = false := by
        rw [Bool.eq_false_iff]
        intro z
        have := List.all_eq_true.mp z q hqm
        rw [Bool.and_eq_true, decide_eq_true_eq] at this
        exact hb this
      rw [this, Bool.and_false]
    refine ws_forT fx ps pD (fun _ : Unit => [some (.da b.data), some (.da (.tuple [.str "never", .int (x : Nat), .int (y : Nat), .tuple (ps.map pD)])), some (.da (.int (b.n : Nat))), none, none, none, none]) (fun n _ => ∀ q ∈ ps.take n, (q.1 < q.2 ∧ q.2 < b.n) ∧ stays b ps q = true) () (xi_tup (xe_ix (xv 1) xe_int (.inr rfl) rfl)) (by simp) rfl ?_ ?_
    · rintro n q _ hqn hb
      have hqm := List.mem_of_getElem? hqn
      refine wg_name 3 nd ?_
      show WSs _ _ [some (.da b.data), some (.da (.tuple [.str "never", .int (x : Nat), .int (y : Nat), .tuple (ps.map pD)])), some (.da (.int (b.n : Nat))), some (.da (pD q)), none, none, none] _
      refine xs_if (xt_not (xt_le_lt_lt (j := (q.1 : Nat)) (k := (q.2 : Nat)) xe_int (xe_ix (xv 3) xe_int (.inr rfl) rfl) (xe_ix (xv 3) xe_int (.inr rfl) rfl) (xv 2))) (fun hc => ?_) fun hc => ws_nil ?_
      · have hbad : ¬ (q.1 < q.2 ∧ q.2 < b.n) := fun ⟨h1, h2⟩ => by
          rw [decide_eq_true (by omega : (0 : Int) ≤ (q.1 : Nat)), decide_eq_true (by omega : ((q.1 : Nat) : Int) < (q.2 : Nat)), decide_eq_true (by omega : ((q.2 : Nat) : Int) < (b.n : Nat))] at hc
          cases hc
        rw [bad q hqm fun z => hbad z.1] at hq
        exact xs_ret xe_bl ⟨_, .da (.da .nil), hq⟩
      · have hgood : q.1 < q.2 ∧ q.2 < b.n := by
          have hc : (!(decide ((0 : Int) ≤ (q.1 : Nat)) && (decide (((q.1 : Nat) : Int) < (q.2 : Nat)) && decide (((q.2 : Nat) : Int) < (b.n : Nat))))) = false := hc
          simp only [Bool.not_eq_false', Bool.and_eq_true, decide_eq_true_eq] at hc
          omega
        have l1 : q.1 < b.n := by omega
        have hall : ((nxs b q).all fun p => (ps.map pD).any fun z => PyData.eqv z (pD (ordN p.1 p.2))) = stays b ps q := by
          unfold stays
          congr 1
          funext p
          exact any_pD
        refine xs_if (xt_not (xt_val (xe_castD (xe_allM (fun p : Nat × Nat => (ps.map pD).any fun z => PyData.eqv z (pD (ordN p.1 p.2))) (nxs b q) B rfl (xe_lcM [("one", 5), ("two", 6)] (fun (p : Nat × Nat) Γ => (Γ.set 5 (some (.da (.int (p.1 : Nat))))).set 6 (some (.da (.int (p.2 : Nat))))) (nxs b q) (fun p => .tuple [.int (p.1 : Nat), .int (p.2 : Nat)]) (fun p => .bool ((ps.map pD).any fun z => PyData.eqv z (pD (ordN p.1 p.2)))) fx (R := fun p => .da (.bool ((ps.map pD).any fun z => PyData.eqv z (pD (ordN p.1 p.2)))))
          (xi_zipU (xs := rowOf b q.1) (ys := rowOf b q.2) (E := fun (n : Nat) => .int n) (E' := fun (n : Nat) => .int n) B (xe_beh 0 ok l1 rfl (xe_ix (xv 3) xe_int (.inr rfl) rfl)) (xe_beh 0 ok hgood.2 rfl (xe_ix (xv 3) xe_int (.inr rfl) rfl))) (by have := nxs_len ok l1 (q := q); exact szl (by omega)) (fun p hp s H C cl fp => gc_tup rfl (gsc_cons (gc_name 5 nd (gsc_cons (gc_name 6 nd (gsc_nil rfl))))))
          (fun p hp s H C cl fp => xe_inV fx.blk.u70 (fun Ψ' hΨ => we_fnR gO r1 fx.gd (wr_da (xv 5) (wr_da (xv 6) (wr_nil ⟨_, _, rfl, p.1, p.2, rfl, hΨ⟩)))) (xe_ix (xv 1) xe_int (.inr rfl) rfl) (pD_plain _) pDs_plain (pD_depth _)))) (by rw [hall])))) (fun hc => ?_) fun hc => ws_nil ?_
        · have hs : stays b ps q = false := by simpa using hc
          rw [bad q hqm fun z => by rw [hs] at z; cases z.2] at hq
          exact xs_ret xe_bl ⟨_, .da (.da .nil), hq⟩
        · have hs : stays b ps q = true := by simpa using hc
          refine ws_drop 3 (ws_nil ⟨(), fun z hz => ?_, rfl⟩)
          rw [List.take_succ, hqn, List.mem_append] at hz
          rcases hz with w | w
          · exact hb z w
          · rw [List.mem_singleton.mp w]
            exact ⟨hgood, hs⟩
    · rintro _ hb
      rw [List.take_length] at hb
      have e : takes b (.nev x y ps) = true := by
        show (decide ((x, y) ∈ ps) && ps.all _) = true
        rw [decide_eq_true hxy, Bool.true_and, List.all_eq_true]
        intro q hq
        rw [Bool.and_eq_true]
        exact ⟨decide_eq_true (hb q hq).1, (hb q hq).2⟩
      rw [e] at hq
      exact xs_ret xe_bl ⟨_, .da (.da .nil), hq⟩
end
end Law

namespace Law
open PySem PySem.Spec PyProof.Rows L2 TL
/-! ### the papers -/
section
variable {X : Cx} {a b : Expr} {Γ Γ1 : Sl} {Ψ : OD → Sl → Prop} {pos : Pos}
theorem we_catT (h : WE X a Γ fun x Γ1 => ∃ ds, x = .da (.tuple ds) ∧ WE X b Γ1 fun y Γ2 => ∃ es', y = .da (.tuple es') ∧ ds.length + es'.length ≤ sizeLine ∧ Ψ (.da (.tuple (ds ++ es'))) Γ2) : WE X (.BinOp a .Add b pos) Γ Ψ :=
  we_bin op_catA (h.mono fun x Γ1 ⟨ds, e1, h2⟩ => by
    subst e1
    exact h2.mono fun y Γ2 ⟨es', e2, hl, hq⟩ => by
      subst e2
      exact ⟨_, op2_catT hl, hq⟩)
end
theorem cut_map {α : Type} {f : α → PyData} {xs : List α} {lo hi : Option Int} : ∃ ys : List α, TL.cutD (xs.map f) lo hi = ys.map f ∧ ys.length ≤ xs.length := by
  unfold TL.cutD
  rw [← List.map_drop, ← List.map_take]
  exact ⟨_, rfl, by rw [List.length_take, List.length_drop]; omega⟩
def DueP : Pap → Prop
  | .res r => r.length ≤ 300000
  | .nev _ _ ps => 0 < ps.length ∧ ps.length ≤ 3600
  | .oth => False
theorem DueP.few {p : Pap} (h : DueP p) : p.few := by
  cases p with
  | res r => exact Nat.le_trans h (by decide)
  | nev x y ps => exact Nat.le_trans h.2 (by decide)
  | oth => trivial
theorem lexD_map {b : Bk} {q : Pr} : ∃ ps : List Pr, lexD (reached b q) = ps.map pD ∧ ps.length = (reached b q).length ∧ ∀ p ∈ ps, p ∈ reached b q := ⟨_, sortD_map (E := pD), List.length_mergeSort .., fun p hp => (List.mergeSort_perm ..).subset hp⟩
theorem stepC_len : ∀ (ps : List (Nat × Nat)) (S : List Pr × List Pr), S.2.length ≤ (ps.foldl stepC S).2.length
  | [], S => Nat.le_refl _
  | p :: ps, S => by
    refine Nat.le_trans ?_ (stepC_len ps _)
    unfold stepC
    split
    · exact Nat.le_refl _
    · rw [List.length_append]; omega
theorem reached_go {b : Bk} (ok : b.Ok) {R : List Pr} : ∀ (k : Nat) (S : List Pr × List Pr), CS b R (k, S) → 0 < S.2.length → PrOk b R ∧ 0 < R.length
  | 0, S, h, _ => absurd h.fuel (Nat.not_lt_zero _)
  | k + 1, (L, M), h, h0 => by
    by_cases hl : L = []
    · subst hl
      rw [← h.done]
      exact ⟨h.ok.met, h0⟩
    · obtain ⟨j, e, _, _, _, cn⟩ := h.next ok hl
      obtain rfl : k = j := by omega
      exact reached_go ok k _ cn (Nat.lt_of_lt_of_le h0 (stepC_len _ (L.dropLast, M)))
theorem reached_ok {b : Bk} (ok : b.Ok) {q : Pr} (h : q.1 < b.n ∧ q.2 < b.n) : PrOk b (reached b q) ∧ 0 < (reached b q).length := reached_go ok _ _ (CS.start h) (Nat.lt_succ_self 0)
theorem reached_len {b : Bk} (ok : b.Ok) {q : Pr} (h : q.1 < b.n ∧ q.2 < b.n) : 0 < (reached b q).length ∧ (reached b q).length ≤ 3600 := ⟨(reached_ok ok h).2, (reached_ok ok h).1.small ok⟩
def spPick (T : TC) : SpD := fun as Ψ => ∃ ds : List PyData, as = [.op (dw T), .da (.tuple ds)] ∧ 0 < ds.length ∧ ds.length ≤ sizeLine ∧ ∀ d ∈ ds, Ψ (.da d) as
def spPapers (T : TC) : SpD := fun as Ψ => ∃ (b : Bk) (p p2 : Pap), as = [.op (dw T), .da b.data, .da (papD p), .da (papD p2)] ∧ b.Ok ∧ b.ED ∧ 0 < b.deeds.length ∧ DueP p ∧ p2.few ∧ ∀ L : List Pap, (∀ x ∈ L, x.few) → Ψ (.da (.list (L.map papD))) as
section
variable {P : Program} {w : World} {K : PySem.W.Frag} {mg : Str → Option Value} {bs h : Heap} (X : K.In h) (G : h.Ns mainGlobals mg) (B : Blt mg)
include X G B
theorem d_pick (D : DK K "_law_pick" s_l_pick) (gD : Def P w K mg bs 2 "_law_draw" ["d", "many"] (spDraw ⟨P, w, K⟩)) : Def P w K mg bs 3 "_law_pick" ["d", "row"] (spPick ⟨P, w, K⟩) := by
  refine def_ok X G D sc_l_pick (fun f fd F => F.binds (ps := ["d", "row"]) fun _ _ _ _ _ _ us hl => match us, hl with | [_, _], _ => rfl) (fun as Ψ h => by obtain ⟨_, rfl, _⟩ := h; rfl) fun f cdv A fr s H E fx as Ψ us hsp hl => ?_
  obtain ⟨ds, rfl, h0, hz, hq⟩ := hsp
  obtain ⟨v0, v1, rfl⟩ := ar2 hl
  show WSs _ _ [some (.pin v0 (.op (dw ⟨P, w, K⟩))), some (.da (.tuple ds))] _
  refine ws_ret (we_ix (we_pure (xv 1) ⟨_, ds, rfl, .inr rfl, we_draw 0 gD (fx.room.mono (by decide)) fx.gd (xe_lenS 1 B) (by omega) (by rw [sizeLine_eq] at hz; omega) fun r r0 r1 => ?_⟩))
  obtain ⟨r, rfl⟩ := Int.eq_ofNat_of_zero_le r0
  have hr : r < ds.length := by omega
  exact ⟨_, _, rfl, atI_nat (List.getElem?_eq_getElem hr), _, .own (.da .nil), hq _ (List.getElem_mem hr)⟩
theorem d_papers (D : DK K "_law_papers" s_l_papers) (gD : Def P w K mg bs 2 "_law_draw" ["d", "many"] (spDraw ⟨P, w, K⟩)) (gP : Def P w K mg bs 3 "_law_pick" ["d", "row"] (spPick ⟨P, w, K⟩)) (gR : Def P w K mg bs 2 "_law_pairs_from" ["book", "pair"] spReach2) :
    Def P w K mg bs 4 "_law_papers" ["d", "book", "due", "other"] (spPapers ⟨P, w, K⟩) := by
  refine def_ok X G D sc_l_papers (fun f fd F => F.binds (ps := ["d", "book", "due", "other"]) fun _ _ _ _ _ _ us hl => match us, hl with | [_, _, _, _], _ => rfl) (fun as Ψ h => by obtain ⟨_, _, _, rfl, _⟩ := h; rfl) fun f cdv A fr s H E fx as Ψ us hsp hl => ?_
  obtain ⟨b, p, p2, rfl, ok, ed, hd, dp, few2, hq⟩ := hsp
  obtain ⟨v0, v1, v2, v3, rfl⟩ := ar4 hl
  have nd := fx.nd
  have r2 := fx.room.mono (show 2 ≤ 3 by decide)
  have r3 := fx.room.mono (show 3 ≤ 3 by decide)
  have hn60 := ok.n2
  have hn1 := ok.n1
  have hdl := ok.dl
  show WSs _ _ [some (.pin v0 (.op (dw ⟨P, w, K⟩))), some (.da b.data), some (.da (papD p)), some (.da (papD p2)), none, none, none] _
  refine xs_set 4 nd (xe_cast (xe_len B (ds := b.views) (xe_ix (xv 1) xe_int (.inr rfl) rfl) (.inr rfl)) (by rw [ok.vl])) ?_
  show WSs _ _ [some (.pin v0 (.op (dw ⟨P, w, K⟩))), some (.da b.data), some (.da (papD p)), some (.da (papD p2)), some (.da (.int (b.n : Nat))), none, none] _
  obtain ⟨ps0, e0, l0, _⟩ := lexD_map (b := b) (q := (0, b.n - 1))
  have rl0 := reached_len ok (q := (0, b.n - 1)) ⟨by omega, by show b.n - 1 < b.n; omega⟩
  have hsub : ((b.n : Nat) : Int) - 1 = ((b.n - 1 : Nat) : Int) := by omega
  refine ws_set 5 nd (we_lst (wa_cons (we_pure (xv 2) (wa_cons (we_pure (xv 3) (wa_cons (we_pure (xe_castD (d' := papD (.nev 0 (b.n - 1) ps0)) (xe_tup4 xe_str xe_int (xe_sub (xv 4) xe_int) fun Ψ' hΨ => we_fnR gR r2 fx.gd (wr_da (xv 1) (wr_da (xe_tup2 (xe_castD (d' := .int ((0 : Nat) : Int)) xe_int rfl) (xe_cast (j := ((b.n - 1 : Nat) : Int)) (xe_sub (xv 4) xe_int) hsub)) (wr_nil ⟨_, _, rfl, b, (0, b.n - 1), rfl, ok, by show 0 < b.n; omega, by show b.n - 1 < b.n; omega, hΨ⟩)))) ?e0) (wa_cons (we_pure (xe_tup2 xe_str xe_tup0) (wa_cons (we_pure (xe_tup2 xe_str xe_tup0) (wa_nil ⟨[papD p, papD p2, papD (.nev 0 (b.n - 1) ps0), papD (.res []), papD .oth], rfl, by show 5 ≤ sizeLine; decide, ?_⟩))))))))))))
  case e0 =>
    rw [e0, hsub]
    rfl
  have few0 : ∀ x ∈ [p, p2, .nev 0 (b.n - 1) ps0, .res [], .oth], x.few := fun x hx => by
    simp only [List.mem_cons, List.not_mem_nil, or_false] at hx
    rcases hx with rfl | rfl | rfl | rfl | rfl
    · exact dp.few
    · exact few2
    · show ps0.length ≤ 100000
      omega
    · exact Nat.zero_le _
    · trivial
  have lst0 : [papD p, papD p2, papD (.nev 0 (b.n - 1) ps0), papD (.res []), papD .oth] = [p, p2, .nev 0 (b.n - 1) ps0, .res [], .oth].map papD := rfl
  rw [lst0]
  have ll0 : [p, p2, .nev 0 (b.n - 1) ps0, .res [], .oth].length ≤ 5 := Nat.le_refl _
  revert few0 ll0
  generalize [p, p2, .nev 0 (b.n - 1) ps0, .res [], .oth] = L0
  intro few0 ll0
  clear lst0
  have lapp : ∀ {L : List Pap} {x : Pap}, (∀ z ∈ L, z.few) → x.few → ∀ z ∈ L ++ [x], z.few := fun h hx z hz => (List.mem_append.mp hz).elim (h z) fun q => by rw [List.mem_singleton.mp q]; exact hx
  have mapp : ∀ {L : List Pap} {x : Pap}, L.map papD ++ [papD x] = (L ++ [x]).map papD := by intro L x; rw [List.map_append]; rfl
  cases p with
  | oth => exact dp.elim
  | res r =>
    have dp : r.length ≤ 300000 := dp
    show WSs _ _ [some (.pin v0 (.op (dw ⟨P, w, K⟩))), some (.da b.data), some (.da (.tuple [.str "resets", .tuple (r.map eP)])), some (.da (papD p2)), some (.da (.int (b.n : Nat))), some (.ll (L0.map papD)), none] _
    refine xs_if (xt_eqP fx.u (xe_ix (xv 2) xe_int (.inr rfl) rfl) xe_str) (fun _ => ?_) fun hc => by cases hc
    refine ws_expr (we_append 5 (we_tup (wa_cons (we_pure xe_str (wa_cons (we_catT (we_pure (xe_ix (xv 2) xe_int (.inr rfl) rfl) ⟨_, rfl, we_tup (wa_cons (we_fnR gP r3 fx.gd (wr_ref 0 (wr_da (xe_tn (xe_ix (xv 1) xe_int (.inr rfl) rfl)) (wr_nil ⟨_, _, rfl, b.deeds, rfl, hd, szl (by omega), fun d hdm => ?_⟩)))))⟩)))))))
    obtain ⟨vps, ev⟩ := ed
    have hdm' := hdm
    rw [ev] at hdm'
    obtain ⟨q, hqv, rfl⟩ := List.mem_map.mp hdm'
    refine wa_nil ⟨[eP q], rfl, by show 1 ≤ sizeLine; decide, _, rfl, by rw [List.length_map]; exact szl (by show _ + 1 ≤ _; omega), wa_nil ⟨[.str "resets", .tuple (r.map eP ++ [eP q])], rfl, by show 2 ≤ sizeLine; decide, _, _, _, _, rfl, rfl, .ll, by rw [List.length_map]; exact szlt (by omega), ?_⟩⟩
    have e1 : PyData.tuple [.str "resets", .tuple (r.map eP ++ [eP q])] = papD (.res (r ++ [q])) := by
      show _ = PyData.tuple [.str "resets", .tuple ((r ++ [q]).map eP)]
      rw [List.map_append]
      rfl
    rw [e1, mapp]
    have few1 := lapp (x := .res (r ++ [q])) few0 (by show (r ++ [q]).length ≤ 1000000; rw [List.length_append]; simp; omega)
    obtain ⟨rc, ec, lc⟩ := cut_map (f := eP) (xs := r) (lo := none) (hi := some (-1))
    refine ws_expr (we_append 5 (we_pure (xe_castD (d' := papD (.res rc)) (xe_tup2 xe_str (xe_sliceT (xe_ix (xv 2) xe_int (.inr rfl) rfl) .none (.some (xe_neg xe_int)))) (by rw [ec]; rfl)) ⟨_, _, _, _, rfl, rfl, .ll, by rw [List.length_map, List.length_append]; exact szlt (by show _ + 1 < _; omega), ?_⟩))
    rw [mapp]
    have few2' := lapp (x := .res rc) few1 (by show rc.length ≤ 1000000; omega)
    refine ws_expr (we_append 5 (we_pure (xe_castD (d' := papD (.res (r ++ [(9, 0)]))) (xe_tup2 xe_str (xe_catT (ds := r.map eP) (es' := [eP (9, 0)]) (by rw [List.length_map]; exact szl (by show _ + 1 ≤ _; omega)) (xe_ix (xv 2) xe_int (.inr rfl) rfl) (xe_tup1 (xe_tup2 xe_int (xe_tup2 xe_int xe_tup0))))) (by show _ = PyData.tuple [.str "resets", .tuple ((r ++ [(9, 0)]).map eP)]; rw [List.map_append]; rfl)) ⟨_, _, _, _, rfl, rfl, .ll, by rw [List.length_map, List.length_append, List.length_append]; exact szlt (by show _ + 1 + 1 < _; omega), ?_⟩))
    rw [mapp]
    have few3 := lapp (x := .res (r ++ [(9, 0)])) few2' (by show (r ++ [(9, 0)]).length ≤ 1000000; rw [List.length_append]; simp; omega)
    exact xs_ret (xe_frz (xe_move 5)) ⟨_, .own (.da (.da (.da .nil))), hq _ few3⟩
  | nev x y ps =>
    obtain ⟨dp1, dp2⟩ : 0 < ps.length ∧ ps.length ≤ 3600 := dp
    show WSs _ _ [some (.pin v0 (.op (dw ⟨P, w, K⟩))), some (.da b.data), some (.da (.tuple [.str "never", .int (x : Nat), .int (y : Nat), .tuple (ps.map pD)])), some (.da (papD p2)), some (.da (.int (b.n : Nat))), some (.ll (L0.map papD)), none] _
    refine xs_if (xt_eqP fx.u (xe_ix (xv 2) xe_int (.inr rfl) rfl) xe_str) (fun hc => by cases hc) fun _ => ws_nil ?_
    refine ws_set 6 nd (we_draw 0 gD r2 fx.gd (xe_len B (ds := ps.map pD) (xe_ix (xv 2) xe_int (.inr rfl) rfl) (.inr rfl)) (by rw [List.length_map]; omega) (by rw [List.length_map]; omega) fun pl p0 p1 => ?_)
    rw [List.length_map] at p1
    obtain ⟨pl, rfl⟩ := Int.eq_ofNat_of_zero_le p0
    have hpl : pl < ps.length := by omega
    show WSs _ _ [some (.pin v0 (.op (dw ⟨P, w, K⟩))), some (.da b.data), some (.da (.tuple [.str "never", .int (x : Nat), .int (y : Nat), .tuple (ps.map pD)])), some (.da (papD p2)), some (.da (.int (b.n : Nat))), some (.ll (L0.map papD)), some (.da (.int (pl : Nat)))] _
    have c1 : TL.cutD (ps.map pD) none (some (pl : Int)) = (ps.take pl).map pD := by rw [cutD_to, List.map_take]
    have c2 : TL.cutD (ps.map pD) (some ((pl + 1 : Nat) : Int)) none = (ps.drop (pl + 1)).map pD := by rw [cutD_from, List.map_drop]
    have t1 : (ps.take pl).length ≤ ps.length := List.length_take_le' ..
    have t2 : (ps.drop (pl + 1)).length ≤ ps.length := by rw [List.length_drop]; omega
    have at1 : atI (ps.map pD) (pl : Int) = some (pD ps[pl]) := atI_nat (by rw [List.getElem?_map, List.getElem?_eq_getElem hpl]; rfl)
    refine ws_expr (we_append 5 (we_pure (xe_castD (d' := papD (.nev x y (ps.take pl ++ ps.drop (pl + 1)))) (xe_tup4 xe_str (xe_ix (xv 2) xe_int (.inr rfl) rfl) (xe_ix (xv 2) xe_int (.inr rfl) rfl) (xe_catT (ds := TL.cutD (ps.map pD) none (some (pl : Int))) (es' := TL.cutD (ps.map pD) (some ((pl + 1 : Nat) : Int)) none) (by rw [c1, c2, List.length_map, List.length_map]; exact szl (by omega)) (xe_sliceT (xe_ix (xv 2) xe_int (.inr rfl) rfl) .none (.some (xv 6))) (xe_sliceT (xe_ix (xv 2) xe_int (.inr rfl) rfl) (.some (xe_cast (xe_add (xv 6) xe_int) (by omega))) .none)))
      (by rw [c1, c2, ← List.map_append]; rfl)) ⟨_, _, _, _, rfl, rfl, .ll, by rw [List.length_map]; exact szlt (by omega), ?_⟩))
    rw [mapp]
    have few1 := lapp (x := .nev x y (ps.take pl ++ ps.drop (pl + 1))) few0 (by show (ps.take pl ++ ps.drop (pl + 1)).length ≤ 100000; rw [List.length_append]; omega)
    refine ws_expr (we_append 5 (we_pure (xe_castD (d' := papD (.nev x y (ps ++ [ps[pl]]))) (xe_tup4 xe_str (xe_ix (xv 2) xe_int (.inr rfl) rfl) (xe_ix (xv 2) xe_int (.inr rfl) rfl) (xe_catT (ds := ps.map pD) (es' := [pD ps[pl]]) (by rw [List.length_map]; exact szl (by show _ + 1 ≤ _; omega)) (xe_ix (xv 2) xe_int (.inr rfl) rfl) (xe_tup1 (xe_ix (xe_ix (xv 2) xe_int (.inr rfl) rfl) (xv 6) (.inr rfl) at1))))
      (by show _ = PyData.tuple [.str "never", _, _, .tuple ((ps ++ [ps[pl]]).map pD)]; rw [List.map_append]; rfl)) ⟨_, _, _, _, rfl, rfl, .ll, by rw [List.length_map, List.length_append]; exact szlt (by show _ + 1 < _; omega), ?_⟩))
    rw [mapp]
    have few2' := lapp (x := .nev x y (ps ++ [ps[pl]])) few1 (by show (ps ++ [ps[pl]]).length ≤ 100000; rw [List.length_append]; simp; omega)
    refine ws_expr (we_append 5 (we_pure (xe_castD (d' := papD (.nev x y (ps ++ [(0, b.n)]))) (xe_tup4 xe_str (xe_ix (xv 2) xe_int (.inr rfl) rfl) (xe_ix (xv 2) xe_int (.inr rfl) rfl) (xe_catT (ds := ps.map pD) (es' := [pD (0, b.n)]) (by rw [List.length_map]; exact szl (by show _ + 1 ≤ _; omega)) (xe_ix (xv 2) xe_int (.inr rfl) rfl) (xe_tup1 (xe_castD (d' := pD (0, b.n)) (xe_tup2 xe_int (xv 4)) rfl))))
      (by show _ = PyData.tuple [.str "never", _, _, .tuple ((ps ++ [(0, b.n)]).map pD)]; rw [List.map_append]; rfl)) ⟨_, _, _, _, rfl, rfl, .ll, by rw [List.length_map, List.length_append, List.length_append]; exact szlt (by show _ + 1 + 1 < _; omega), ?_⟩))
    rw [mapp]
    have few3 := lapp (x := .nev x y (ps ++ [(0, b.n)])) few2' (by show (ps ++ [(0, b.n)]).length ≤ 100000; rw [List.length_append]; simp; omega)
    refine ws_expr (we_append 5 (we_pure (xe_castD (d' := papD (.nev y x ps)) (xe_tup4 xe_str (xe_ix (xv 2) xe_int (.inr rfl) rfl) (xe_ix (xv 2) xe_int (.inr rfl) rfl) (xe_ix (xv 2) xe_int (.inr rfl) rfl)) rfl) ⟨_, _, _, _, rfl, rfl, .ll, by rw [List.length_map, List.length_append, List.length_append, List.length_append]; exact szlt (by show _ + 1 + 1 + 1 < _; omega), ?_⟩))
    rw [mapp]
    have few4 := lapp (x := .nev y x ps) few3 (by show ps.length ≤ 100000; omega)
    exact xs_ret (xe_frz (xe_move 5)) ⟨_, .own (.da (.da (.da .nil))), hq _ few4⟩
end
end Law

namespace Law
open PySem PySem.Spec PyProof.Rows L2 TL
/-! ### the law -/
theorem fine_ed {b : Bk} {ct : Nat} (h : b.Fine ct) : b.ED := by
  obtain ⟨vps, e, _⟩ := h.dd
  exact ⟨vps, e⟩
theorem eP_lay (q : Pr) : (eP q).canLay0 = true := by simp [eP, eD, PyData.canLay0, PyData.canLayAll0]
theorem eP_shaped (q : Pr) : SeqAt.shaped (eP q) = true := by
  unfold SeqAt.shaped
  rw [eP_lay, Bool.true_and, decide_eq_true_eq]
  have := eP_depth q
  omega
theorem eP_depth2 (q : Pr) : (eP q).depth ≤ 10 := by simp [eP, eD, PyData.depth, PyData.depthAll]
theorem lay_all : ∀ vps : List Pr, PyData.canLayAll0 (vps.map eP) = true
  | [] => rfl
  | q :: vps => by simp [PyData.canLayAll0, eP_lay, lay_all vps]
section
variable {X : Cx} {it tg : Expr} {Γ : Sl}
theorem wi_lst {Ψi : List PyData → Sl → Prop} (h : WE X it Γ fun r Γ1 => ∃ ds, r = .da (.list ds) ∧ Ψi ds Γ1) : WI X tg it Γ Ψi := fun I H σ F en R k => ⟨_, pi_list wpE_ok, h I H σ F en _ (by
  rintro _ Γ1 I1 H1 v F1 ⟨ds, rfl, hq⟩ st1 en1
  obtain ⟨B, G, rfl, oo, en2, up⟩ := en1.pop
  cases oo with
  | da hd => cases hd with
    | lst q r => exact ⟨_, rfl, ⟨_, en2.sub.seq q⟩, k ds _ I1 H1 _ _ hq st1 en2 (isit_list q r)⟩)⟩
end
theorem fine_idx {b : Bk} {ct : Nat} (h : b.Fine ct) : b.Idx := by
  obtain ⟨vps, e, _, pw⟩ := h.dd
  have e : b.deeds = vps.map eP := e
  refine ⟨?_, fun d hd => ?_, ?_⟩
  · rw [e]
    unfold SeqAt.shaped
    have h1 := lay_all vps
    have h2 : PyData.depthAll (vps.map eP) ≤ 10 := depthAll_map fun q _ => eP_depth2 q
    have h3 : (PyData.list (vps.map eP)).depth ≤ 64 := by
      unfold PyData.depth
      omega
    simp only [PyData.canLay0, h1, Bool.true_and, decide_eq_true_eq]
    exact h3
  · rw [e] at hd
    obtain ⟨q, _, rfl⟩ := List.mem_map.mp hd
    exact eP_shaped q
  · rw [e, List.pairwise_map]
    refine pw.imp fun {a c} hac => ?_
    rw [eqv_eP, decide_eq_false_iff_not]
    rintro rfl
    rcases hac with z | ⟨_, z⟩ <;> exact absurd z (Nat.lt_irrefl _)
theorem due_cases {b : Bk} (ok : b.Ok) (ix : b.Idx) : (∃ q : Pr, dueOf b = .nev q ∧ q.1 < b.n ∧ q.2 < b.n) ∨ (∃ R, dueOf b = .res R ∧ RowOk b (b.n * b.n * (b.n - 1)) R) := by
  cases hfd : (apairs b.n).find? (apt b) with
  | some q =>
    have hq := apairs_lt (List.mem_of_find?_eq_some hfd)
    refine .inl ⟨q, ?_, hq⟩
    unfold dueOf
    rw [hfd]
  | none =>
    have all : ∀ q ∈ apairs b.n, Mt b q := fun q hq => Classical.not_not.mp fun z => List.find?_eq_none.mp hfd q hq (apt_iff.mpr z)
    obtain ⟨r, e, ro⟩ := res_some ok ix all b.n 0 (List.range b.n) [] CsOk.all ⟨Nat.le_refl _, by simp⟩ (by simp) ok.n1
    refine .inr ⟨r, ?_, ?_⟩
    · rw [due_resets all, e]
      rfl
    · rw [List.length_range, Nat.zero_add] at ro
      exact ro
theorem rows_eP {b : Bk} (ed : b.ED) : ∀ {R : List PyData}, (∀ d ∈ R, d ∈ b.deeds) → ∃ vs : List Pr, R = vs.map eP
  | [], _ => ⟨[], rfl⟩
  | d :: R, h => by
    obtain ⟨vps, e⟩ := ed
    have hd := h d List.mem_cons_self
    rw [e] at hd
    obtain ⟨q, _, rfl⟩ := List.mem_map.mp hd
    obtain ⟨vs, rfl⟩ := rows_eP ⟨vps, e⟩ fun x hx => h x (List.mem_cons_of_mem _ hx)
    exact ⟨q :: vs, rfl⟩
theorem due_pap {b : Bk} (ok : b.Ok) (ix : b.Idx) (ed : b.ED) : ∃ p, dueD b (dueOf b) = papD p ∧ DueP p := by
  rcases due_cases ok ix with ⟨q, e, hq⟩ | ⟨R, e, ro⟩
  · obtain ⟨ps, e1, l1, _⟩ := lexD_map (b := b) (q := q)
    have := reached_len ok hq
    refine ⟨.nev q.1 q.2 ps, ?_, by show 0 < ps.length ∧ ps.length ≤ 3600; omega⟩
    rw [e]
    show PyData.tuple _ = PyData.tuple _
    rw [e1]
  · obtain ⟨vs, rfl⟩ := rows_eP ed ro.mem
    refine ⟨.res vs, by rw [e]; rfl, ?_⟩
    have h1 := ro.len
    rw [List.length_map] at h1
    have h2 : b.n * b.n * (b.n - 1) ≤ 3600 * 60 := Nat.mul_le_mul (nn_le ok) (by have := ok.n2; omega)
    show vs.length ≤ 300000
    omega
theorem Fn.pair {n w1 w2 : Nat} {a c : PyData} (h1 : Fn n w1 a) (h2 : Fn n w2 c) : Fn (n + 1) (w1 + w2 + 2) (.tuple [a, c]) := by
  refine ⟨by simp [PyData.plain, PyData.plainAll, h1.plain, h2.plain], by simp [PyData.showable, PyData.showableAll, h1.shows, h2.shows], by simp [PyData.hasDict, PyData.hasDictAll, h1.nodict, h2.nodict], ?_, by simp [PyData.leavesShort, PyData.leavesShortAll, h1.short, h2.short], ?_⟩
  · simp only [PyData.depth, PyData.depthAll]
    have := h1.depth
    have := h2.depth
    omega
  · simp only [PyData.weight, PyData.weightAll]
    have := h1.weight
    have := h2.weight
    omega
theorem fn_resets {n w : Nat} (hw : 6 ≤ w) : Fn n w (.str "resets") := ⟨rfl, by decide +kernel, rfl, Nat.zero_le _, by decide +kernel, Nat.le_trans (by decide +kernel) hw⟩
theorem fn_never {n w : Nat} (hw : 6 ≤ w) : Fn n w (.str "never") := ⟨rfl, by decide +kernel, rfl, Nat.zero_le _, by decide +kernel, Nat.le_trans (by decide +kernel) hw⟩
theorem due_fn {b : Bk} (ok : b.Ok) (ix : b.Idx) (h16 : b.n ≤ 16) : Fn 60 (2 ^ 20) (dueD b (dueOf b)) := by
  have hn1 := ok.n1
  rcases due_cases ok ix with ⟨q, e, hq⟩ | ⟨R, e, ro⟩
  · rw [e]
    obtain ⟨ps, e1, l1, m1⟩ := lexD_map (b := b) (q := q)
    have ro := (reached_ok ok hq).1
    have hl : ps.length ≤ 256 := by
      rw [l1]
      exact Nat.le_trans (pairs_len ro.nd ro.lt) (Nat.mul_le_mul h16 h16)
    have f1 : Fn 2 20000 (.tuple (ps.map pD)) := Fn.tup (n := 1) (w := 76) (fun d hd => by
      obtain ⟨p, hp, rfl⟩ := List.mem_map.mp hd
      obtain ⟨h1, h2⟩ := ro.lt p (m1 p hp)
      exact (Fn.pair (n := 0) (w1 := 37) (w2 := 37) (Fn.int (by omega) (Nat.le_refl _)) (Fn.int (by omega) (Nat.le_refl _))).mono (by decide) (by decide)) (by rw [List.length_map]; omega)
    show Fn 60 (2 ^ 20) (.tuple [.str "never", .int (q.1 : Nat), .int (q.2 : Nat), .tuple (lexD (reached b q))])
    rw [e1]
    refine (Fn.tup (n := 2) (w := 20000) (W := 100000) (fun d hd => ?_) (by show 4 * 20001 ≤ 100000; decide)).mono (by decide) (by decide)
    simp only [List.mem_cons, List.not_mem_nil, or_false] at hd
    rcases hd with rfl | rfl | rfl | rfl
    · exact fn_never (by decide)
    · exact Fn.int (by omega) (by decide)
    · exact Fn.int (by omega) (by decide)
    · exact f1
  · rw [e]
    have hk : b.n * b.n * (b.n - 1) ≤ 256 * 15 := Nat.mul_le_mul (Nat.mul_le_mul h16 h16) (by omega)
    have f1 := row_fn ok ro
    refine (Fn.pair (n := 4) (fn_resets (w := 8) (by decide)) f1).mono (by decide) ?_
    omega
section
variable {P : Program} {w : World} {K : PySem.W.Frag} {mg : Str → Option Value} {bs h : Heap} (X : K.In h) (G : h.Ns mainGlobals mg) (B : Blt mg)
include X G B
theorem d_law (gB : Def P w K mg bs 1 "_law_begin" ["script"] (spBegin ⟨P, w, K⟩)) (gF : Def P w K mg bs 4 "_law_free_book" ["d", "most"] (spFree ⟨P, w, K⟩)) (gR : Def P w K mg bs 3 "_law_rare" ["d", "many"] (spRare ⟨P, w, K⟩)) (gE : Def P w K mg bs 1 "_law_same" ["told", "due"] spSame)
    (gU : Def P w K mg bs 3 "_law_due" ["book"] spDue) (gZ : Def P w K mg bs 4 "reset_row" ["book"] spDue) (gP : Def P w K mg bs 4 "_law_papers" ["d", "book", "due", "other"] (spPapers ⟨P, w, K⟩)) (gJ : Def P w K mg bs 3 "judge_reset" ["book", "told"] spTakes) (gT : Def P w K mg bs 2 "_law_takes" ["book", "told"] spTakes) :
    ∀ f fd, Fun K "law" "law" s_law f fd → FnG P w K mg bs CX0 5 f fd ["script"] (mkSp ⟨P, w, K⟩ spLaw) := by
  refine fn_def sc_law (fun as Ψ h => by obtain ⟨_, rfl, _⟩ := h; rfl) fun f cdv A fr s H E fx as Ψ us hsp hl => ?_
  obtain ⟨ns, rfl, hns, hq⟩ := hsp
  obtain ⟨v0, rfl⟩ := ar1 hl
  show WSs _ _ [some (.da (.list (ns.map .int))), none, none, none, none, none, none] _
  have nd := fx.nd
  have r1 := fx.room.mono (show 1 ≤ 4 by decide)
  have r2 := fx.room.mono (show 2 ≤ 4 by decide)
  have r3 := fx.room.mono (show 3 ≤ 4 by decide)
  refine ws_set 1 nd (we_fnR gB r1 fx.gd (wr_da (xv 0) (wr_nil ⟨_, _, rfl, ns, rfl, ?_⟩)))
  show WSs _ _ [some (.da (.list (ns.map .int))), some (.op (dw ⟨P, w, K⟩)), none, none, none, none, none] _
  refine ws_set 2 nd (we_frz (we_lst (wa_cons (we_fnR gF fx.room fx.gd (wr_ref 1 (wr_cons (WE.mono (Ψ := fun r Γ1 => ∃ m : Nat, 1 ≤ m ∧ m ≤ 16 ∧ r = .da (.int m) ∧ Γ1 = [some (.da (.list (ns.map .int))), some (.op (dw ⟨P, w, K⟩)), none, none, none, none, none]) (we_ifExp (wt_val (we_rare 1 gR r3 fx.gd xe_int (by decide) (by decide) fun r => ⟨r, rfl, fun _ => ?ra, fun _ => ?rb⟩))) fun r Γ1 qq => ?rz)))))))
  case ra => exact we_pure xe_int ⟨16, by decide, by decide, rfl, rfl⟩
  case rb => exact we_pure xe_int ⟨9, by decide, by decide, rfl, rfl⟩
  case rz =>
    obtain ⟨m, m1, m2, rfl, rfl⟩ := qq
    refine wr_nil ⟨_, _, rfl, m, rfl, m1, by omega, fun b ct ok fi bm => ?_⟩
    show WA _ _ [some (.da (.list (ns.map .int))), some (.op (dw ⟨P, w, K⟩)), none, none, none, none, none] _
    refine wa_cons (we_fnR gF fx.room fx.gd (wr_ref 1 (wr_da xe_int (wr_nil ⟨_, _, rfl, 6, rfl, by decide, by decide, fun b2 ct2 ok2 fi2 bm2 => wa_nil ⟨[b, b2].map Bk.data, rfl, by show 2 ≤ sizeLine; decide, _, .ll, ?_⟩⟩))))
    have bks : ∀ x ∈ [b, b2], x.Ok ∧ x.Idx ∧ x.ED ∧ 0 < x.deeds.length ∧ x.n ≤ 16 := fun x hx => by
      simp only [List.mem_cons, List.not_mem_nil, or_false] at hx
      rcases hx with rfl | rfl
      · exact ⟨ok, fine_idx fi, fine_ed fi, fi.dn, by omega⟩
      · exact ⟨ok2, fine_idx fi2, fine_ed fi2, fi2.dn, by omega⟩
    show WSs _ _ [some (.da (.list (ns.map .int))), some (.op (dw ⟨P, w, K⟩)), some (.da (.list ([b, b2].map Bk.data))), none, none, none, none] _
    refine xs_setLcM [("book", 6)] (fun (b : Bk) Γ => Γ.set 6 (some (.da b.data))) [b, b2] Bk.data (fun b => dueD b (dueOf b)) 3 fx (R := fun b => .da (dueD b (dueOf b))) (xi_lst (xv 2)) (by show 2 ≤ sizeLine; decide) (fun x hx s H C cl fp => gc_name 6 nd rfl) (fun x hx s H C cl fp Ψ' hΨ => we_fnR gU r3 fx.gd (wr_da (xv 6) (wr_nil ⟨_, _, rfl, x, rfl, (bks x hx).1, (bks x hx).2.1, hΨ⟩))) ?_
    refine ws_frz 3 .ll ?_
    show WSs _ _ [some (.da (.list (ns.map .int))), some (.op (dw ⟨P, w, K⟩)), some (.da (.list [b.data, b2.data])), some (.da (.list [dueD b (dueOf b), dueD b2 (dueOf b2)])), none, none, none] _
    refine ws_forT fx [0, 1, 0] (fun (n : Nat) => .int n) (fun (_ : Unit) => [some (.da (.list (ns.map .int))), some (.op (dw ⟨P, w, K⟩)), some (.da (.list [b.data, b2.data])), some (.da (.list [dueD b (dueOf b), dueD b2 (dueOf b2)])), none, none, none]) (fun _ _ => True) () (xi_lst (fun Ψ hq => we_frz (we_lst (wa_cons (we_pure xe_int (wa_cons (we_pure xe_int (wa_cons (we_pure xe_int (wa_nil ⟨[.int 0, .int 1, .int 0], rfl, by show 3 ≤ sizeLine; decide, _, .ll, hq⟩)))))))))) trivial rfl (fun _ x _ hx _ => ?turn) fun _ _ => ?fin
    case fin => exact xs_ret xe_bl ⟨_, .da .nil, hq _⟩
    case turn =>
      obtain ⟨bx, bo, hbx, hbo, hat, hdu, hot⟩ : ∃ bx bo : Bk, bx ∈ [b, b2] ∧ bo ∈ [b, b2] ∧ atI [b.data, b2.data] (x : Int) = some bx.data ∧ atI [dueD b (dueOf b), dueD b2 (dueOf b2)] (x : Int) = some (dueD bx (dueOf bx)) ∧ atI [dueD b (dueOf b), dueD b2 (dueOf b2)] (1 - (x : Int)) = some (dueD bo (dueOf bo)) := by
        have hm := List.mem_of_getElem? hx
        simp only [List.mem_cons, List.not_mem_nil, or_false] at hm
        rcases hm with rfl | rfl | rfl
        · exact ⟨b, b2, by simp, by simp, rfl, rfl, rfl⟩
        · exact ⟨b2, b, by simp, by simp, rfl, rfl, rfl⟩
        · exact ⟨b, b2, by simp, by simp, rfl, rfl, rfl⟩
      obtain ⟨okx, ixx, edx, dnx, n16⟩ := bks bx hbx
      obtain ⟨oko, ixo, edo, _, _⟩ := bks bo hbo
      have FN := due_fn okx ixx n16
      obtain ⟨p, ep, dp⟩ := due_pap okx ixx edx
      obtain ⟨p2, ep2, dp2⟩ := due_pap oko ixo edo
      refine wg_name 4 nd ?_
      show WSs _ _ [some (.da (.list (ns.map .int))), some (.op (dw ⟨P, w, K⟩)), some (.da (.list [b.data, b2.data])), some (.da (.list [dueD b (dueOf b), dueD b2 (dueOf b2)])), some (.da (.int x)), none, none] _
      refine xs_if (xt_not (xt_val (k := true) (fun Ψ hq => we_fnR gE r1 fx.gd (wr_da (fun Ψ' hΨ => we_fnR gZ fx.room fx.gd (wr_da (xe_ix (xv 2) (xv 4) (.inl rfl) hat) (wr_nil ⟨_, _, rfl, bx, rfl, okx, ixx, hΨ⟩))) (wr_da (xe_ix (xv 3) (xv 4) (.inl rfl) hdu) (wr_nil ⟨_, _, rfl, _, rfl, FN, hq⟩)))))) (fun he => by cases he) fun _ => ws_nil ?_
      refine ws_forW fx papD (fun L : List Pap => ∀ q ∈ L, q.few) (fun _ : Unit => [some (.da (.list (ns.map .int))), some (.op (dw ⟨P, w, K⟩)), some (.da (.list [b.data, b2.data])), some (.da (.list [dueD b (dueOf b), dueD b2 (dueOf b2)])), some (.da (.int x)), none, none]) (fun _ _ _ => True)
        (wi_lst (we_fnR gP fx.room fx.gd (wr_ref 1 (wr_da (xe_ix (xv 2) (xv 4) (.inl rfl) hat) (wr_da (xe_castD (xe_ix (xv 3) (xv 4) (.inl rfl) hdu) ep) (wr_da (xe_castD (xe_ix (xv 3) (xe_sub xe_int (xv 4)) (.inl rfl) hot) ep2) (wr_nil ⟨_, _, rfl, bx, p, p2, rfl, okx, edx, dnx, dp, dp2.few, fun L hL => ⟨_, rfl, L, (), hL, rfl, trivial, rfl⟩⟩))))))) ?_ ?_
      · rintro L n q _ hL hqn _
        have fq := hL q (List.mem_of_getElem? hqn)
        refine wg_name 5 nd ?_
        show WSs _ _ [some (.da (.list (ns.map .int))), some (.op (dw ⟨P, w, K⟩)), some (.da (.list [b.data, b2.data])), some (.da (.list [dueD b (dueOf b), dueD b2 (dueOf b2)])), some (.da (.int x)), some (.da (papD q)), none] _
        refine xs_if (xt_not (xt_val (k := true) (fun Ψ hq => we_fnR gE r1 fx.gd (wr_da (fun Ψ' hΨ => we_fnR gJ r3 fx.gd (wr_da (xe_ix (xv 2) (xv 4) (.inl rfl) hat) (wr_da (xv 5) (wr_nil ⟨_, _, rfl, bx, q, rfl, okx, ixx, edx, fq, hΨ⟩)))) (wr_da (fun Ψ' hΨ => we_fnR gT r2 fx.gd (wr_da (xe_ix (xv 2) (xv 4) (.inl rfl) hat) (wr_da (xv 5) (wr_nil ⟨_, _, rfl, bx, q, rfl, okx, ixx, edx, fq, hΨ⟩)))) (wr_nil ⟨_, _, rfl, _, rfl, Fn.bool, hq⟩)))))) (fun he => by cases he) fun _ => ws_nil (ws_drop 5 (ws_nil ⟨(), trivial, rfl⟩))
      · rintro L _ hL _
        exact ws_drop 4 (ws_nil ⟨(), trivial, rfl⟩)
end
end Law

namespace Law
open PySem PySem.Spec PyProof.Rows L2 TL
/-! ### all together -/
theorem all_mk {P : Program} {w : World} {K : PySem.W.Frag} {h : Heap} {mg : Str → Option Value} {fa : Addr} (X : K.In h) (G : h.Ns mainGlobals mg) (hfa : mg "law" = some (.ref fa)) (Dbegin : DK K "_law_begin" s_l_begin) (Dmix : DK K "_law_mix" s_l_mix) (Ddraw : DK K "_law_draw" s_l_draw) (Drare : DK K "_law_rare" s_l_rare) (Dsame : DK K "_law_same" s_l_same) (Dmarked : DK K "_law_marked" s_l_marked) (Drefined : DK K "_law_refined" s_l_refined) (Dtargets : DK K "_law_targets" s_l_targets) (Dfree : DK K "_law_free_book" s_l_free_book) (Dkeep : DK K "keep_least" s_keep_least) (Dlower : DK K "_law_lower" s_l_lower) (DallP : DK K "all_pairs" s_all_pairs) (Dordered : DK K "ordered" s_ordered) (Dlpair : DK K "_law_pair" s_l_pair) (Dbehind : DK K "pairs_behind" s_pairs_behind) (Dmeeting : DK K "meeting" s_meeting) (Dlmeeting : DK K "_law_meeting" s_l_meeting) (DbehindC : DK K "codes_behind" s_codes_behind) (Dimage : DK K "_law_image" s_l_image) (DpairsOf : DK K "pairs_of" s_pairs_of) (DlpairsFrom : DK K "_law_pairs_from" s_l_pairs_from) (Dknown : DK K "meeting_pairs" s_meeting_pairs) (Dapart : DK K "_law_apart_pairs" s_l_apart_pairs) (DresetRow : DK K "reset_row" s_reset_row) (Dldue : DK K "_law_due" s_l_due) (Dstays : DK K "stays_apart" s_stays_apart) (Djudge : DK K "judge_reset" s_judge_reset) (Dtakes : DK K "_law_takes" s_l_takes) (Dpick : DK K "_law_pick" s_l_pick) (Dpapers : DK K "_law_papers" s_l_papers) (Dlaw : DK K "law" s_law)
  (z : ∀ nm ∈ (["len", "int", "abs", "divmod", "list", "tuple", "range", "zip", "enumerate", "reversed", "sorted", "min", "max", "sum", "all", "any", "set", "repr", "str", "isinstance", "bool", "dict"] : List Str), NoG K nm) :
    ∃ fd : FuncData, (∀ (s : Shared) (v : Value), BindsTo s fd ⟨[v], []⟩ [("script", v)]) ∧ ∀ base : Heap, K.In base → base.Ns mainGlobals mg → FnG P w K mg base CX0 10 fa fd ["script"] (mkSp ⟨P, w, K⟩ spLaw) := by
  have B := blt_mk X G z
  obtain ⟨f, fd, F, a⟩ := Dlaw
  have e : fa = f := by
    have := hfa.symm.trans (PySem.W.mg_of X G a)
    injection this with this
    injection this
  subst e
  refine ⟨fd, fun s v => ?_, fun bs _ _ => ?_⟩
  · obtain ⟨oc, od, kV, doc, pm, an, cdv, ct, osl, rfl, lk, hcd⟩ := F.ex
    exact .of_eq rfl
  · skip
    have gbegin := d_begin (P := P) (w := w) (bs := bs) X G B Dbegin 
    have gmix := d_mix (P := P) (w := w) (bs := bs) X G B Dmix 
    have gdraw := d_draw (P := P) (w := w) (bs := bs) X G B Ddraw gmix
    have grare := d_rare (P := P) (w := w) (bs := bs) X G B Drare gdraw
    have gsame := d_same (P := P) (w := w) (bs := bs) X G B Dsame 
    have gmarked := d_marked (P := P) (w := w) (bs := bs) X G B Dmarked 
    have grefined := d_refined (P := P) (w := w) (bs := bs) X G B Drefined gmarked
    have gtargets := d_targets (P := P) (w := w) (bs := bs) X G B Dtargets gdraw
    have gfree := d_free (P := P) (w := w) (bs := bs) X G B Dfree gdraw gtargets grefined
    have gkeep := d_keep (P := P) (w := w) (bs := bs) X G B Dkeep 
    have glower := d_lower (P := P) (w := w) (bs := bs) X G B Dlower 
    have gallP := d_allP (P := P) (w := w) (bs := bs) X G B DallP 
    have gordered := d_ordered (P := P) (w := w) (bs := bs) X G B Dordered 
    have glpair := d_lpair (P := P) (w := w) (bs := bs) X G B Dlpair 
    have gbehind := d_behind (P := P) (w := w) (bs := bs) X G B Dbehind gkeep
    have gmeeting := d_meeting (P := P) (w := w) (bs := bs) X G B Dmeeting gbehind
    have glmeeting := d_lmeeting (P := P) (w := w) (bs := bs) X G B Dlmeeting glower
    have gbehindC := d_behindC (P := P) (w := w) (bs := bs) X G B DbehindC 
    have gimage := d_image (P := P) (w := w) (bs := bs) X G B Dimage 
    have gpairsOf := d_pairsOf (P := P) (w := w) (bs := bs) X G B DpairsOf gordered
    have glpairsFrom := d_lpairsFrom (P := P) (w := w) (bs := bs) X G B DlpairsFrom glpair
    have gknown := d_known (P := P) (w := w) (bs := bs) X G B Dknown gallP gordered
    have gapart := d_apart (P := P) (w := w) (bs := bs) X G B Dapart glpair
    have gresetRow := d_resetRow (P := P) (w := w) (bs := bs) X G B DresetRow gknown gallP gpairsOf gmeeting gbehindC
    have gldue := d_ldue (P := P) (w := w) (bs := bs) X G B Dldue gapart glpairsFrom glmeeting gimage
    have gstays := d_stays (P := P) (w := w) (bs := bs) X G B Dstays gordered
    have gjudge := d_judge (P := P) (w := w) (bs := bs) X G B Djudge gbehindC gstays
    have gtakes := d_takes (P := P) (w := w) (bs := bs) X G B Dtakes gimage glpair
    have gpick := d_pick (P := P) (w := w) (bs := bs) X G B Dpick gdraw
    have gpapers := d_papers (P := P) (w := w) (bs := bs) X G B Dpapers gdraw gpick glpairsFrom
    have glaw := d_law (P := P) (w := w) (bs := bs) X G B gbegin gfree grare gsame gldue gresetRow gpapers gjudge gtakes
    exact (glaw _ _ F).mono (by decide)
end Law

open PySem PySem.W PyProof.Rows
set_option maxRecDepth 100000 in
set_option maxHeartbeats 0 in
theorem PySem.Challenge.cw_tellgarner_k04_whole_resets_holds : PySem.Challenge.rw_tellgarner_k04_whole_resets.Holds := by
  w_on; o_law; k_head; (case hw => w_witness2)
  k_fill
  refine TL.walkG (l := PySem.Challenge.rw_tellgarner_k04_whole_resets) (n := 63) (k := 10) rfl (by decide) rfl ⟨rfl, by decide, by decide⟩ (fun w h Y => PySem.W.kIn_of Y) ?F
  case F =>
    intro w mg fa h KX G hmg
    refine' Law.all_mk KX G hmg (TL.dk_mk ?a0 ?l0 ?c0 ?k0) (TL.dk_mk ?a1 ?l1 ?c1 ?k1) (TL.dk_mk ?a2 ?l2 ?c2 ?k2) (TL.dk_mk ?a3 ?l3 ?c3 ?k3) (TL.dk_mk ?a4 ?l4 ?c4 ?k4) (TL.dk_mk ?a5 ?l5 ?c5 ?k5) (TL.dk_mk ?a6 ?l6 ?c6 ?k6) (TL.dk_mk ?a7 ?l7 ?c7 ?k7) (TL.dk_mk ?a8 ?l8 ?c8 ?k8) (TL.dk_mk ?a9 ?l9 ?c9 ?k9) (TL.dk_mk ?a10 ?l10 ?c10 ?k10) (TL.dk_mk ?a11 ?l11 ?c11 ?k11) (TL.dk_mk ?a12 ?l12 ?c12 ?k12) (TL.dk_mk ?a13 ?l13 ?c13 ?k13) (TL.dk_mk ?a14 ?l14 ?c14 ?k14) (TL.dk_mk ?a15 ?l15 ?c15 ?k15) (TL.dk_mk ?a16 ?l16 ?c16 ?k16) (TL.dk_mk ?a17 ?l17 ?c17 ?k17) (TL.dk_mk ?a18 ?l18 ?c18 ?k18) (TL.dk_mk ?a19 ?l19 ?c19 ?k19) (TL.dk_mk ?a20 ?l20 ?c20 ?k20) (TL.dk_mk ?a21 ?l21 ?c21 ?k21) (TL.dk_mk ?a22 ?l22 ?c22 ?k22) (TL.dk_mk ?a23 ?l23 ?c23 ?k23) (TL.dk_mk ?a24 ?l24 ?c24 ?k24) (TL.dk_mk ?a25 ?l25 ?c25 ?k25) (TL.dk_mk ?a26 ?l26 ?c26 ?k26) (TL.dk_mk ?a27 ?l27 ?c27 ?k27) (TL.dk_mk ?a28 ?l28 ?c28 ?k28) (TL.dk_mk ?a29 ?l29 ?c29 ?k29) (TL.dk_mk ?a30 ?l30 ?c30 ?k30) ?z
    (case a0 => k_is); (case l0 => k_is); (case c0 => k_is); (case k0 => k_is)
    (case a1 => k_is); (case l1 => k_is); (case c1 => k_is); (case k1 => k_is)
    (case a2 => k_is); (case l2 => k_is); (case c2 => k_is); (case k2 => k_is)
    (case a3 => k_is); (case l3 => k_is); (case c3 => k_is); (case k3 => k_is)
    (case a4 => k_is); (case l4 => k_is); (case c4 => k_is); (case k4 => k_is)
    (case a5 => k_is); (case l5 => k_is); (case c5 => k_is); (case k5 => k_is)
    (case a6 => k_is); (case l6 => k_is); (case c6 => k_is); (case k6 => k_is)
    (case a7 => k_is); (case l7 => k_is); (case c7 => k_is); (case k7 => k_is)
    (case a8 => k_is); (case l8 => k_is); (case c8 => k_is); (case k8 => k_is)
    (case a9 => k_is); (case l9 => k_is); (case c9 => k_is); (case k9 => k_is)
    (case a10 => k_is); (case l10 => k_is); (case c10 => k_is); (case k10 => k_is)
    (case a11 => k_is); (case l11 => k_is); (case c11 => k_is); (case k11 => k_is)
    (case a12 => k_is); (case l12 => k_is); (case c12 => k_is); (case k12 => k_is)
    (case a13 => k_is); (case l13 => k_is); (case c13 => k_is); (case k13 => k_is)
    (case a14 => k_is); (case l14 => k_is); (case c14 => k_is); (case k14 => k_is)
    (case a15 => k_is); (case l15 => k_is); (case c15 => k_is); (case k15 => k_is)
    (case a16 => k_is); (case l16 => k_is); (case c16 => k_is); (case k16 => k_is)
    (case a17 => k_is); (case l17 => k_is); (case c17 => k_is); (case k17 => k_is)
    (case a18 => k_is); (case l18 => k_is); (case c18 => k_is); (case k18 => k_is)
    (case a19 => k_is); (case l19 => k_is); (case c19 => k_is); (case k19 => k_is)
    (case a20 => k_is); (case l20 => k_is); (case c20 => k_is); (case k20 => k_is)
    (case a21 => k_is); (case l21 => k_is); (case c21 => k_is); (case k21 => k_is)
    (case a22 => k_is); (case l22 => k_is); (case c22 => k_is); (case k22 => k_is)
    (case a23 => k_is); (case l23 => k_is); (case c23 => k_is); (case k23 => k_is)
    (case a24 => k_is); (case l24 => k_is); (case c24 => k_is); (case k24 => k_is)
    (case a25 => k_is); (case l25 => k_is); (case c25 => k_is); (case k25 => k_is)
    (case a26 => k_is); (case l26 => k_is); (case c26 => k_is); (case k26 => k_is)
    (case a27 => k_is); (case l27 => k_is); (case c27 => k_is); (case k27 => k_is)
    (case a28 => k_is); (case l28 => k_is); (case c28 => k_is); (case k28 => k_is)
    (case a29 => k_is); (case l29 => k_is); (case c29 => k_is); (case k29 => k_is)
    (case a30 => k_is); (case l30 => k_is); (case c30 => k_is); (case k30 => k_is)
    case z =>
      intro nm hn
      simp only [List.mem_cons, List.not_mem_nil, or_false] at hn
      rcases hn with rfl | rfl | rfl | rfl | rfl | rfl | rfl | rfl | rfl | rfl | rfl | rfl | rfl | rfl | rfl | rfl | rfl | rfl | rfl | rfl | rfl | rfl <;> (unfold TL.NoG; k_is)
