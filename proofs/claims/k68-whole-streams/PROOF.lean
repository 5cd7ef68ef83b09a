import PyProof.Rows.All
import Wide.All
import OpenK.AllK
import Wide.FinOn
import HandS.ForMost
import KE.KDictKeyed
import HandS.TupAny
import HandS.WideBits
import HandS.Zip
import HandS.Rev
import HandS.Flow
import KE.SortData
import KE.DataEq
import PyProof.ReprRoads
import PyProof.CallFns
import HandS.Walk
import HandS.More
import HandS.ListItems
import HandS.Conv
import HandS.Deep
import HandS.TupLen
import PyProof.FitsInt
import HandS.RevTup
import HandS.DictTup
import KE.KDictDisplayH
import HandS.IsInst
import PySem.Challenge.RW_tellgarner_k68_whole_streams
import KE.BitLaws
set_option Elab.async false
set_option linter.all false
set_option maxRecDepth 100000
set_option maxHeartbeats 4000000
/-! TL0: immutable data (Rp), owned trees (Own), the frame's slots (EnvL, EnvF), steps of the heap. -/
namespace TL
open PySem L2

structure TC where
  P : Program
  w : World
  K : PySem.W.Frag

/-- a dict with nested keys: keys, the keys' addresses, values -/
abbrev NKV := List (NestedKey × Addr × V)
def NPair (p : NestedKey × Addr × V) (q : NestedKey × Addr × Value) : Prop := p.1 = q.1 ∧ p.2.1 = q.2.1 ∧ RelV p.2.2 q.2.2
def DnOk (T : TC) (p : Addr) (kvs : NKV) (h : Heap) : Prop :=
  kvs.length ≤ sizeLine ∧ (p == sysModules) = false ∧ ∃ xs : List (NestedKey × Addr × Value), Paired NPair kvs xs ∧
    ∃ o es ep, h.get? p = some o ∧ o.ExactDict ∧ o.data = .dict es ep ∧ es.toList = xs.map (entryOfKey (nestedKind T.P T.w)) ∧ (xs.map (·.1)).Nodup
def DN (T : TC) (p : Addr) (kvs : NKV) : HO := .ext (DnOk T p kvs)

def keyD : Key → PyData
  | .inl i => .int i
  | .inr s => .str s

/-! ### immutable data -/
mutual
inductive Rp (T : TC) (I : Hp) : V → PyData → Prop
  | non : Rp T I .non .none
  | bl (b : Bool) : Rp T I (.bl b) (.bool b)
  | int (i : Int) : Rp T I (.int i) (.int i)
  | str (x : Str) : Rp T I (.str x) (.str x)
  | lst {a : Addr} {vs : List V} {ds : List PyData} : SqL T.K I a vs → RpL T I vs ds → Rp T I (.ref a) (.list ds)
  | tup {a : Addr} {vs : List V} {ds : List PyData} : SqT T.K I a vs → RpL T I vs ds → Rp T I (.ref a) (.tuple ds)
  | dk {a : Addr} {ob : Obj} {kvs : List (Key × V)} {ds : List (PyData × PyData)} : I a = some (.frz ob (.dK kvs)) → ds.map Prod.fst = kvs.map (fun p => keyD p.1) → RpL T I (kvs.map Prod.snd) (ds.map Prod.snd) → Rp T I (.ref a) (.dict ds)
  | dn {a : Addr} {ob : Obj} {kvs : NKV} {ds : List (PyData × PyData)} : I a = some (.frz ob (DN T a kvs)) → ds.map Prod.fst = kvs.map (fun p => p.1.data) → RpL T I (kvs.map fun p => V.ref p.2.1) (ds.map Prod.fst) → RpL T I (kvs.map fun p => p.2.2) (ds.map Prod.snd) → (∃ p ∈ kvs, ∀ k : Key, p.1.data ≠ keyD k) → Rp T I (.ref a) (.dict ds)
inductive RpL (T : TC) (I : Hp) : List V → List PyData → Prop
  | nil : RpL T I [] []
  | cons {v : V} {vs : List V} {d : PyData} {ds : List PyData} : Rp T I v d → RpL T I vs ds → RpL T I (v :: vs) (d :: ds)
end

theorem sqT_mono {K : PySem.W.Frag} {H H' : Hp} {a : Addr} {xs : List V} (e : Same H H') (h : SqT K H a xs) : SqT K H' a xs := by
  rcases h with (h | ⟨o, h⟩) | h
  · exact .inl (.inl (e _ _ h))
  · exact .inl (.inr ⟨o, e _ _ h⟩)
  · exact .inr h

mutual
theorem Rp.mono {T : TC} {I I' : Hp} (e : Same I I') : ∀ {v : V} {d : PyData}, Rp T I v d → Rp T I' v d
  | _, _, .non => .non
  | _, _, .bl b => .bl b
  | _, _, .int i => .int i
  | _, _, .str x => .str x
  | _, _, .lst h r => .lst (e.seq h) (RpL.mono e r)
  | _, _, .tup h r => .tup (sqT_mono e h) (RpL.mono e r)
  | _, _, .dk h k r => .dk (e _ _ h) k (RpL.mono e r)
  | _, _, .dn h k r s n => .dn (e _ _ h) k (RpL.mono e r) (RpL.mono e s) n
theorem RpL.mono {T : TC} {I I' : Hp} (e : Same I I') : ∀ {vs : List V} {ds : List PyData}, RpL T I vs ds → RpL T I' vs ds
  | _, _, .nil => .nil
  | _, _, .cons h r => .cons (Rp.mono e h) (RpL.mono e r)
end
theorem RpL.length {T : TC} {I : Hp} : ∀ {vs : List V} {ds : List PyData}, RpL T I vs ds → vs.length = ds.length
  | _, _, .nil => rfl
  | _, _, .cons _ r => by rw [List.length_cons, List.length_cons, RpL.length r]
theorem RpL.get {T : TC} {I : Hp} : ∀ {vs : List V} {ds : List PyData} {i : Nat} {d : PyData}, RpL T I vs ds → ds[i]? = some d → ∃ v, vs[i]? = some v ∧ Rp T I v d
  | _, _, i, d, .nil, e => by simp at e
  | _, _, 0, d, .cons h _, e => by
    simp at e
    subst e
    exact ⟨_, rfl, h⟩
  | _, _, i + 1, d, .cons _ r, e => by
    obtain ⟨v, h1, h2⟩ := RpL.get (i := i) r (by simpa using e)
    exact ⟨v, by simpa using h1, h2⟩
theorem RpL.get' {T : TC} {I : Hp} : ∀ {vs : List V} {ds : List PyData} {i : Nat} {v : V}, RpL T I vs ds → vs[i]? = some v → ∃ d, ds[i]? = some d ∧ Rp T I v d
  | _, _, i, d, .nil, e => by simp at e
  | _, _, 0, d, .cons h _, e => by
    simp at e
    subst e
    exact ⟨_, rfl, h⟩
  | _, _, i + 1, d, .cons _ r, e => by
    obtain ⟨v, h1, h2⟩ := RpL.get' (i := i) r (by simpa using e)
    exact ⟨v, by simpa using h1, h2⟩
theorem RpL.append {T : TC} {I : Hp} : ∀ {vs ws : List V} {ds es : List PyData}, RpL T I vs ds → RpL T I ws es → RpL T I (vs ++ ws) (ds ++ es)
  | _, _, _, _, .nil, s => s
  | _, _, _, _, .cons h r, s => .cons h (RpL.append r s)
theorem RpL.take {T : TC} {I : Hp} : ∀ {vs : List V} {ds : List PyData} (n : Nat), RpL T I vs ds → RpL T I (vs.take n) (ds.take n)
  | _, _, 0, _ => .nil
  | _, _, _ + 1, .nil => .nil
  | _, _, n + 1, .cons h r => .cons h (RpL.take n r)
theorem RpL.drop {T : TC} {I : Hp} : ∀ {vs : List V} {ds : List PyData} (n : Nat), RpL T I vs ds → RpL T I (vs.drop n) (ds.drop n)
  | _, _, 0, r => r
  | _, _, _ + 1, .nil => .nil
  | _, _, n + 1, .cons _ r => RpL.drop n r
theorem RpL.set {T : TC} {I : Hp} {v : V} {d : PyData} (h : Rp T I v d) : ∀ {vs : List V} {ds : List PyData} (i : Nat), RpL T I vs ds → RpL T I (vs.set i v) (ds.set i d)
  | _, _, _, .nil => .nil
  | _, _, 0, .cons _ r => .cons h r
  | _, _, i + 1, .cons q r => .cons q (RpL.set h i r)
theorem RpL.rev {T : TC} {I : Hp} : ∀ {vs : List V} {ds : List PyData}, RpL T I vs ds → RpL T I vs.reverse ds.reverse
  | _, _, .nil => .nil
  | _, _, .cons h r => by
    rw [List.reverse_cons, List.reverse_cons]
    exact RpL.append (RpL.rev r) (.cons h .nil)

/-! ### owned trees -/
/-- an opaque owned object -/
structure OP where
  φ : Hp → HO → Prop
  mono : ∀ {I I' : Hp} {o : HO}, Same I I' → φ I o → φ I' o

inductive OD where
  /-- immutable data -/
  | da (d : PyData)
  /-- an own list of data -/
  | ll (ds : List PyData)
  /-- an own dict of data, keys ints and texts; keys tuples -/
  | dd (kvs : List (Key × PyData))
  | dm (kvs : List (NestedKey × PyData))
  /-- an own list of own things -/
  | ls (xs : List OD)
  /-- an instance: its class, its attributes -/
  | ob (C : Addr) (fs : List (Str × OD))
  | op (R : OP)
  /-- the same, the value itself known -/
  | pin (v : V) (x : OD)

mutual
inductive Own (T : TC) (I H : Hp) : V → OD → List Addr → Prop
  | da {v : V} {d : PyData} : Rp T I v d → Own T I H v (.da d) []
  | ll {p : Addr} {vs : List V} {ds : List PyData} : H p = some (.lst vs) → I p = none → RpL T I vs ds → Own T I H (.ref p) (.ll ds) [p]
  | dd {p : Addr} {kvs : List (Key × V)} {ds : List (Key × PyData)} : H p = some (.dK kvs) → I p = none → kvs.map Prod.fst = ds.map Prod.fst → RpL T I (kvs.map Prod.snd) (ds.map Prod.snd) → Own T I H (.ref p) (.dd ds) [p]
  | dm {p : Addr} {kvs : NKV} {ds : List (NestedKey × PyData)} : H p = some (DN T p kvs) → I p = none → kvs.map Prod.fst = ds.map Prod.fst → RpL T I (kvs.map fun p => V.ref p.2.1) (ds.map fun q => q.1.data) → RpL T I (kvs.map fun p => p.2.2) (ds.map Prod.snd) → Own T I H (.ref p) (.dm ds) [p]
  | ls {p : Addr} {vs : List V} {xs : List OD} {F : List Addr} : H p = some (.lst vs) → I p = none → OwnL T I H vs xs F → Own T I H (.ref p) (.ls xs) (p :: F)
  | ob {p C dx : Addr} {fv : List (Str × V)} {fs : List (Str × OD)} {F : List Addr} : H p = some (.ins C dx fv) → I p = none → fv.map Prod.fst = fs.map Prod.fst → OwnL T I H (fv.map Prod.snd) (fs.map Prod.snd) F → Own T I H (.ref p) (.ob C fs) (p :: F)
  | op {p : Addr} {o : HO} {R : OP} : H p = some o → I p = none → R.φ I o → Own T I H (.ref p) (.op R) [p]
  | pin {v : V} {x : OD} {F : List Addr} : Own T I H v x F → Own T I H v (.pin v x) F
inductive OwnL (T : TC) (I H : Hp) : List V → List OD → List Addr → Prop
  | nil : OwnL T I H [] [] []
  | cons {v : V} {vs : List V} {x : OD} {xs : List OD} {F G : List Addr} : Own T I H v x F → OwnL T I H vs xs G → OwnL T I H (v :: vs) (x :: xs) (F ++ G)
end

mutual
theorem Own.cells {T : TC} {I H : Hp} : ∀ {v : V} {x : OD} {F : List Addr}, Own T I H v x F → ∀ b ∈ F, (∃ o, H b = some o) ∧ I b = none
  | _, _, _, .da _, b, hb => by cases hb
  | _, _, _, .ll h i _, b, hb => by
    rw [List.mem_singleton] at hb
    subst hb
    exact ⟨⟨_, h⟩, i⟩
  | _, _, _, .dd h i _ _, b, hb => by
    rw [List.mem_singleton] at hb
    subst hb
    exact ⟨⟨_, h⟩, i⟩
  | _, _, _, .dm h i _ _ _, b, hb => by
    rw [List.mem_singleton] at hb
    subst hb
    exact ⟨⟨_, h⟩, i⟩
  | _, _, _, .ls h i r, b, hb => by
    rcases List.mem_cons.mp hb with e | hb
    · subst e
      exact ⟨⟨_, h⟩, i⟩
    · exact OwnL.cells r b hb
  | _, _, _, .ob h i _ r, b, hb => by
    rcases List.mem_cons.mp hb with e | hb
    · subst e
      exact ⟨⟨_, h⟩, i⟩
    · exact OwnL.cells r b hb
  | _, _, _, .op h i _, b, hb => by
    rw [List.mem_singleton] at hb
    subst hb
    exact ⟨⟨_, h⟩, i⟩
  | _, _, _, .pin r, b, hb => Own.cells r b hb
theorem OwnL.cells {T : TC} {I H : Hp} : ∀ {vs : List V} {xs : List OD} {F : List Addr}, OwnL T I H vs xs F → ∀ b ∈ F, (∃ o, H b = some o) ∧ I b = none
  | _, _, _, .nil, b, hb => by cases hb
  | _, _, _, .cons h r, b, hb => by
    rcases List.mem_append.mp hb with hb | hb
    · exact Own.cells h b hb
    · exact OwnL.cells r b hb
end

mutual
theorem Own.frame {T : TC} {I H I' H' : Hp} (e : Same I I') : ∀ {v : V} {x : OD} {F : List Addr}, Own T I H v x F → (∀ b ∈ F, H' b = H b ∧ I' b = none) → Own T I' H' v x F
  | _, _, _, .da r, _ => .da (r.mono e)
  | _, _, _, .ll h _ r, k => .ll ((k _ (List.mem_singleton.mpr rfl)).1.trans h) (k _ (List.mem_singleton.mpr rfl)).2 (r.mono e)
  | _, _, _, .dd h _ a r, k => .dd ((k _ (List.mem_singleton.mpr rfl)).1.trans h) (k _ (List.mem_singleton.mpr rfl)).2 a (r.mono e)
  | _, _, _, .dm h _ a r s, k => .dm ((k _ (List.mem_singleton.mpr rfl)).1.trans h) (k _ (List.mem_singleton.mpr rfl)).2 a (r.mono e) (s.mono e)
  | _, _, _, .ls h _ r, k => .ls ((k _ List.mem_cons_self).1.trans h) (k _ List.mem_cons_self).2 (OwnL.frame e r fun b hb => k b (List.mem_cons_of_mem _ hb))
  | _, _, _, .ob h _ a r, k => .ob ((k _ List.mem_cons_self).1.trans h) (k _ List.mem_cons_self).2 a (OwnL.frame e r fun b hb => k b (List.mem_cons_of_mem _ hb))
  | _, _, _, .op (R := R) h _ r, k => .op ((k _ (List.mem_singleton.mpr rfl)).1.trans h) (k _ (List.mem_singleton.mpr rfl)).2 (R.mono e r)
  | _, _, _, .pin r, k => .pin (Own.frame e r k)
theorem OwnL.frame {T : TC} {I H I' H' : Hp} (e : Same I I') : ∀ {vs : List V} {xs : List OD} {F : List Addr}, OwnL T I H vs xs F → (∀ b ∈ F, H' b = H b ∧ I' b = none) → OwnL T I' H' vs xs F
  | _, _, _, .nil, _ => .nil
  | _, _, _, .cons h r, k => .cons (Own.frame e h fun b hb => k b (List.mem_append_left _ hb)) (OwnL.frame e r fun b hb => k b (List.mem_append_right _ hb))
end
theorem OwnL.length {T : TC} {I H : Hp} : ∀ {vs : List V} {xs : List OD} {F : List Addr}, OwnL T I H vs xs F → vs.length = xs.length
  | _, _, _, .nil => rfl
  | _, _, _, .cons _ r => by rw [List.length_cons, List.length_cons, OwnL.length r]

/-! ### the frame's slots -/
inductive EnvL (T : TC) (I H : Hp) : St → List (Option OD) → List Addr → Prop
  | nil : EnvL T I H [] [] []
  | skip {o : Option V} {σ : St} {Γ : List (Option OD)} {F : List Addr} : EnvL T I H σ Γ F → EnvL T I H (o :: σ) (none :: Γ) F
  | cons {v : V} {σ : St} {x : OD} {Γ : List (Option OD)} {F G : List Addr} : Own T I H v x F → EnvL T I H σ Γ G → EnvL T I H (some v :: σ) (some x :: Γ) (F ++ G)

section
variable {T : TC} {I H I' H' : Hp}
theorem EnvL.cells : ∀ {σ : St} {Γ : List (Option OD)} {F : List Addr}, EnvL T I H σ Γ F → ∀ b ∈ F, (∃ o, H b = some o) ∧ I b = none
  | _, _, _, .nil, b, hb => by cases hb
  | _, _, _, .skip r, b, hb => EnvL.cells r b hb
  | _, _, _, .cons h r, b, hb => by
    rcases List.mem_append.mp hb with hb | hb
    · exact h.cells b hb
    · exact EnvL.cells r b hb
theorem EnvL.frame (e : Same I I') : ∀ {σ : St} {Γ : List (Option OD)} {F : List Addr}, EnvL T I H σ Γ F → (∀ b ∈ F, H' b = H b ∧ I' b = none) → EnvL T I' H' σ Γ F
  | _, _, _, .nil, _ => .nil
  | _, _, _, .skip r, k => .skip (EnvL.frame e r k)
  | _, _, _, .cons h r, k => .cons (h.frame e fun b hb => k b (List.mem_append_left _ hb)) (EnvL.frame e r fun b hb => k b (List.mem_append_right _ hb))
theorem EnvL.length : ∀ {σ : St} {Γ : List (Option OD)} {F : List Addr}, EnvL T I H σ Γ F → σ.length = Γ.length
  | _, _, _, .nil => rfl
  | _, _, _, .skip r => by rw [List.length_cons, List.length_cons, EnvL.length r]
  | _, _, _, .cons _ r => by rw [List.length_cons, List.length_cons, EnvL.length r]

/-- the i-th slot: what it holds, and how it is put anew -/
theorem EnvL.at : ∀ {σ : St} {Γ : List (Option OD)} {F : List Addr} {i : Nat} {x : OD}, EnvL T I H σ Γ F → Γ[i]? = some (some x) → ∃ v A B C, σ[i]? = some (some v) ∧ F = A ++ (B ++ C) ∧ Own T I H v x B ∧ EnvL T I H σ (Γ.set i none) (A ++ C)
  | _, _, _, i, x, .nil, e => by simp at e
  | _, _, _, 0, x, .skip r, e => by simp at e
  | _, _, _, 0, x, .cons (F := F) (G := G) h r, e => by
    simp at e
    subst e
    exact ⟨_, [], F, G, rfl, rfl, h, .skip r⟩
  | _, _, _, i + 1, x, .skip r, e => by
    obtain ⟨v, A, B, C, h1, h2, h3, h4⟩ := EnvL.at (i := i) r (by simpa using e)
    exact ⟨v, A, B, C, by simpa using h1, h2, h3, .skip h4⟩
  | _, _, _, i + 1, x, .cons (F := F) (G := G) h r, e => by
    obtain ⟨v, A, B, C, h1, h2, h3, h4⟩ := EnvL.at (i := i) r (by simpa using e)
    exact ⟨v, F ++ A, B, C, by simpa using h1, by rw [h2, List.append_assoc], h3, by rw [List.append_assoc]; exact .cons h h4⟩
/-- any slot is put anew, or forgotten -/
theorem EnvL.put : ∀ {σ : St} {Γ : List (Option OD)} {F : List Addr} {i : Nat}, EnvL T I H σ Γ F → i < Γ.length → ∃ A B C, F = A ++ (B ++ C) ∧
    (∀ {I' H' : Hp} {v' : V} {y : OD} {B' : List Addr}, Same I I' → (∀ b ∈ A ++ C, H' b = H b ∧ I' b = none) → Own T I' H' v' y B' → EnvL T I' H' (σ.set i (some v')) (Γ.set i (some y)) (A ++ (B' ++ C))) ∧
    (∀ o : Option V, EnvL T I H (σ.set i o) (Γ.set i none) (A ++ C)) ∧ EnvL T I H σ (Γ.set i none) (A ++ C)
  | _, _, _, i, .nil, e => by simp at e
  | _, _, _, 0, .skip (F := F) r, e => ⟨[], [], F, rfl, fun s k o => (by rw [List.nil_append]; exact .cons o (r.frame s fun b hb => k b hb)), fun o => .skip r, .skip r⟩
  | _, _, _, 0, .cons (F := F) (G := G) h r, e => ⟨[], F, G, rfl, fun s k o => (by rw [List.nil_append]; exact .cons o (r.frame s fun b hb => k b hb)), fun o => .skip r, .skip r⟩
  | _, _, _, i + 1, .skip r, e => by
    obtain ⟨A, B, C, h2, h4, h5, h6⟩ := EnvL.put (i := i) r (by simpa using e)
    exact ⟨A, B, C, h2, fun s k o => .skip (h4 s k o), fun o => .skip (h5 o), .skip h6⟩
  | _, _, _, i + 1, .cons (F := F) (G := G) h r, e => by
    obtain ⟨A, B, C, h2, h4, h5, h6⟩ := EnvL.put (i := i) r (by simpa using e)
    refine ⟨F ++ A, B, C, by rw [h2, List.append_assoc], fun s k o => ?_, fun o => ?_, ?_⟩
    · rw [List.append_assoc]
      exact .cons (h.frame s fun b hb => k b (List.mem_append_left _ (List.mem_append_left _ hb))) (h4 s (fun b hb => k b (by
        rcases List.mem_append.mp hb with hb | hb
        · exact List.mem_append_left _ (List.mem_append_right _ hb)
        · exact List.mem_append_right _ hb)) o)
    · rw [List.append_assoc]
      exact .cons h (h5 o)
    · rw [List.append_assoc]
      exact .cons h h6
end

/-- the frame's slots, their own things apart from one another, the frozen heap within the heap -/
structure EnvF (T : TC) (I H : Hp) (σ : St) (Γ : List (Option OD)) (F : List Addr) : Prop where
  env : EnvL T I H σ Γ F
  nd : F.Nodup
  sub : Same I H
/-- from (I, H) to (I', H'): what is frozen stays, what is another's stays -/
structure Step (I H : Hp) (F : List Addr) (I' H' : Hp) (F' : List Addr) : Prop where
  inc : Same I I'
  oth : ∀ b o, H b = some o → I b = none → b ∉ F → H' b = some o ∧ I' b = none ∧ b ∉ F'
theorem Step.refl {I H : Hp} {F : List Addr} : Step I H F I H F := ⟨Same.refl _, fun _ _ h i n => ⟨h, i, n⟩⟩
theorem Step.trans {I H I1 H1 I2 H2 : Hp} {F F1 F2 : List Addr} (a : Step I H F I1 H1 F1) (b : Step I1 H1 F1 I2 H2 F2) : Step I H F I2 H2 F2 :=
  ⟨a.inc.trans b.inc, fun c o h i n => let ⟨h1, i1, n1⟩ := a.oth c o h i n; b.oth c o h1 i1 n1⟩
theorem Step.less {I H : Hp} {F F' : List Addr} (h : ∀ b ∈ F', b ∈ F) : Step I H F I H F' := ⟨Same.refl _, fun b _ e i n => ⟨e, i, fun q => n (h b q)⟩⟩

/-- an own thing taken out of its slot -/
theorem EnvF.take {T : TC} {I H : Hp} {σ : St} {Γ : List (Option OD)} {F : List Addr} {i : Nat} {x : OD} (en : EnvF T I H σ Γ F) (hx : Γ[i]? = some (some x)) :
    ∃ v B G, σ[i]? = some (some v) ∧ Own T I H v x B ∧ EnvF T I H σ (Γ.set i none) G ∧ (B ++ G).Nodup ∧ ∀ b, b ∈ F ↔ b ∈ B ∨ b ∈ G := by
  obtain ⟨v, A, B, C, h1, rfl, h3, h4⟩ := en.env.at hx
  have p : (A ++ (B ++ C)).Perm (B ++ (A ++ C)) := by
    rw [← List.append_assoc, ← List.append_assoc]
    exact List.perm_append_comm.append_right C
  have nd := p.nodup_iff.mp en.nd
  exact ⟨v, B, A ++ C, h1, h3, ⟨h4, (List.nodup_append.mp nd).2.1, en.sub⟩, nd, fun b => by rw [p.mem_iff, List.mem_append]⟩
theorem Step.of_mem {I H I' H' : Hp} {F F' G G' : List Addr} (st : Step I H F I' H' F') (h : ∀ b ∈ F, b ∈ G) (h' : ∀ b ∈ G', b ∈ F') : Step I H G I' H' G' :=
  ⟨st.inc, fun b o e i n => let ⟨h1, h2, h3⟩ := st.oth b o e i (fun q => n (h b q)); ⟨h1, h2, fun q => h3 (h' b q)⟩⟩
end TL

/-! TL1: the judgements WE, WT, WA, WSs over slots. -/
namespace TL
open PySem L2

abbrev _root_.L2.Cx.tc (X : Cx) : TC := ⟨X.prog, X.w, X.K⟩
abbrev Sl := List (Option OD)

/-! ### the canonical readings -/
def wpE (X : Cx) (e : Expr) : TE := fun σ H Q => ∃ t, PE X e t ∧ t σ H Q
def wpT (X : Cx) (e : Expr) : TT := fun σ H Q => ∃ t, PT X e t ∧ t σ H Q
def wpW (X : Cx) (e : Expr) : TT := fun σ H Q => ∃ t, PW X e t ∧ t σ H Q
def wpA (X : Cx) (es : List Expr) : TA := fun σ H Q => ∃ t, PA X es t ∧ t σ H Q
def wpSs (X : Cx) (ss : List Stmt) : TS := fun D σ H => ∃ t, PSs X ss t ∧ t D σ H
def wpOp (X : Cx) (f : Value → Value → Sem Value) : R2 := fun x y H Q => ∃ r, OpR X f r ∧ r x y H Q
def wpCall (X : Cx) (f : Value) : List V → Hp → VK → Prop := fun vs H Q => ∃ r, CallR X f r ∧ r vs H Q
section
variable {X : Cx}
theorem wpE_ok {e : Expr} : PE X e (wpE X e) := ⟨fun pins s σ H Q I ⟨_, h, q⟩ => h.run pins s σ H Q I q⟩
theorem wpT_ok {e : Expr} : PT X e (wpT X e) := ⟨fun pins s σ H Q I ⟨_, h, q⟩ => h.run pins s σ H Q I q⟩
theorem wpW_ok {e : Expr} : PW X e (wpW X e) := ⟨fun wh pins s σ H Q I ⟨_, h, q⟩ => h.run wh pins s σ H Q I q⟩
theorem wpA_ok {es : List Expr} : PA X es (wpA X es) := ⟨fun pos pins s σ H Q I ⟨_, h, q⟩ => h.run pos pins s σ H Q I q⟩
theorem wpSs_ok {ss : List Stmt} : PSs X ss (wpSs X ss) := ⟨fun pins s σ H D I ⟨_, h, q⟩ => h.run pins s σ H D I q⟩
theorem wpOp_ok {f : Value → Value → Sem Value} : OpR X f (wpOp X f) := fun pins s σ H x y v u Q I rx ry ⟨_, h, q⟩ => h pins s σ H x y v u Q I rx ry q
theorem wpCall_ok {f : Value} : CallR X f (wpCall X f) := fun pins s σ H xs us Q I r ⟨_, h, q⟩ => h pins s σ H xs us Q I r q
end

/-! ### the judgements -/
def WE (X : Cx) (e : Expr) (Γ : Sl) (Ψ : OD → Sl → Prop) : Prop := ∀ (I H : Hp) (σ : St) (F : List Addr), EnvF X.tc I H σ Γ F → ∀ Q : VK,
  (∀ (r : OD) (Γ' : Sl) (I' H' : Hp) (v : V) (F' : List Addr), Ψ r Γ' → Step I H F I' H' F' → EnvF X.tc I' H' (some v :: σ) (some r :: Γ') F' → Q v H') → wpE X e σ H Q
def WT (X : Cx) (e : Expr) (Γ : Sl) (Ψ : Bool → Sl → Prop) : Prop := ∀ (I H : Hp) (σ : St) (F : List Addr), EnvF X.tc I H σ Γ F → ∀ Q : Bool → Hp → Prop,
  (∀ (b : Bool) (Γ' : Sl) (I' H' : Hp) (F' : List Addr), Ψ b Γ' → Step I H F I' H' F' → EnvF X.tc I' H' σ Γ' F' → Q b H') → wpT X e σ H Q
def WW (X : Cx) (e : Expr) (Γ : Sl) (Ψ : Bool → Sl → Prop) : Prop := ∀ (I H : Hp) (σ : St) (F : List Addr), EnvF X.tc I H σ Γ F → ∀ Q : Bool → Hp → Prop,
  (∀ (b : Bool) (Γ' : Sl) (I' H' : Hp) (F' : List Addr), Ψ b Γ' → Step I H F I' H' F' → EnvF X.tc I' H' σ Γ' F' → Q b H') → wpW X e σ H Q
/-- which values are those of slots -/
def RefsOk (refs : List (Option Nat)) (vs : List V) (σ : St) : Prop := ∀ (k i : Nat), refs[k]? = some (some i) → ∃ v, vs[k]? = some v ∧ σ[i]? = some (some v)
def WA (X : Cx) (es : List Expr) (Γ : Sl) (Ψ : List OD → List (Option Nat) → Sl → Prop) : Prop := ∀ (I H : Hp) (σ : St) (F : List Addr), EnvF X.tc I H σ Γ F → ∀ Q : List V → Hp → Prop,
  (∀ (rs : List OD) (refs : List (Option Nat)) (Γ' : Sl) (I' H' : Hp) (vs : List V) (F' : List Addr), Ψ rs refs Γ' → vs.length = rs.length → refs.length = rs.length → RefsOk refs vs σ → Step I H F I' H' F' →
    EnvF X.tc I' H' (vs.map some ++ σ) (rs.map some ++ Γ') F' → Q vs H') → wpA X es σ H Q
/-- one answer -/
def XE (X : Cx) (e : Expr) (Γ : Sl) (r : OD) (Γ' : Sl) : Prop := ∀ Ψ : OD → Sl → Prop, Ψ r Γ' → WE X e Γ Ψ
def XT (X : Cx) (e : Expr) (Γ : Sl) (b : Bool) (Γ' : Sl) : Prop := ∀ Ψ : Bool → Sl → Prop, Ψ b Γ' → WT X e Γ Ψ
def XW (X : Cx) (e : Expr) (Γ : Sl) (b : Bool) (Γ' : Sl) : Prop := ∀ Ψ : Bool → Sl → Prop, Ψ b Γ' → WW X e Γ Ψ
def XA (X : Cx) (es : List Expr) (Γ : Sl) (rs : List OD) (refs : List (Option Nat)) (Γ' : Sl) : Prop := ∀ Ψ : List OD → List (Option Nat) → Sl → Prop, Ψ rs refs Γ' → WA X es Γ Ψ

section
variable {T : TC} {I H I' H' : Hp} {σ σ' : St} {Γ Γ' : Sl} {F F' G G' : List Addr} {v : V} {r : OD}
/-- the value on top taken off, and laid on again behind a step of the rest -/
theorem EnvF.pop (h : EnvF T I H (some v :: σ) (some r :: Γ) F) : ∃ B G, F = B ++ G ∧ Own T I H v r B ∧ EnvF T I H σ Γ G ∧
    ∀ {I' H' : Hp} {σ' : St} {Γ' : Sl} {G' : List Addr}, Step I H G I' H' G' → EnvF T I' H' σ' Γ' G' → EnvF T I' H' (some v :: σ') (some r :: Γ') (B ++ G') ∧ Step I H F I' H' (B ++ G') ∧ Own T I' H' v r B := by
  obtain ⟨e, nd, sub⟩ := h
  cases e with
  | cons o e =>
    rename_i B G
    have hd := List.nodup_append.mp nd
    refine ⟨B, G, rfl, o, ⟨e, hd.2.1, sub⟩, fun {I' H' σ' Γ' G'} st en => ?_⟩
    have kp : ∀ b ∈ B, H' b = H b ∧ I' b = none ∧ b ∉ G' := fun b hb => by
      obtain ⟨⟨ob, h1⟩, h2⟩ := o.cells b hb
      obtain ⟨h3, h4, h5⟩ := st.oth b ob h1 h2 fun q => hd.2.2 b hb b q rfl
      exact ⟨h3.trans h1.symm, h4, h5⟩
    have o' := o.frame (H' := H') st.inc fun b hb => ⟨(kp b hb).1, (kp b hb).2.1⟩
    refine ⟨⟨.cons o' en.env, List.nodup_append.mpr ⟨hd.1, en.nd, fun a ha b hb q => ?_⟩, en.sub⟩, ⟨st.inc, fun b ob h1 h2 n => ?_⟩, o'⟩
    · subst q
      exact (kp a ha).2.2 hb
    · rw [List.mem_append, not_or] at n
      obtain ⟨h3, h4, h5⟩ := st.oth b ob h1 h2 n.2
      exact ⟨h3, h4, fun q => (List.mem_append.mp q).elim n.1 h5⟩
/-- the value on top used up by an operation: B its own things, B' the answer's -/
theorem EnvF.use {B : List Addr} {y : OD} {u : V} (e : EnvF T I H σ Γ G) (nd : (B ++ G).Nodup) (st : Step I H B I' H' F') (o : Own T I' H' u y F') (ndF : F'.Nodup) (sub : Same I' H') :
    EnvF T I' H' (some u :: σ) (some y :: Γ) (F' ++ G) ∧ Step I H (B ++ G) I' H' (F' ++ G) := by
  have hd := List.nodup_append.mp nd
  have kp : ∀ b ∈ G, H' b = H b ∧ I' b = none ∧ b ∉ F' := fun b hb => by
    obtain ⟨⟨ob, h1⟩, h2⟩ := e.env.cells b hb
    obtain ⟨h3, h4, h5⟩ := st.oth b ob h1 h2 fun q => hd.2.2 b q b hb rfl
    exact ⟨h3.trans h1.symm, h4, h5⟩
  refine ⟨⟨.cons o (e.env.frame st.inc fun b hb => ⟨(kp b hb).1, (kp b hb).2.1⟩), List.nodup_append.mpr ⟨ndF, hd.2.1, fun a ha b hb q => ?_⟩, sub⟩, st.inc, fun b ob h1 h2 n => ?_⟩
  · subst q
    exact (kp a hb).2.2 ha
  · rw [List.mem_append, not_or] at n
    obtain ⟨h3, h4, h5⟩ := st.oth b ob h1 h2 n.1
    exact ⟨h3, h4, fun q => (List.mem_append.mp q).elim h5 n.2⟩
/-- nothing changes but that a new or no own thing is on top -/
theorem EnvF.da {d : PyData} (e : EnvF T I H σ Γ F) (h : Rp T I v d) : EnvF T I H (some v :: σ) (some (.da d) :: Γ) F := ⟨.cons (F := []) (.da h) e.env, e.nd, e.sub⟩
theorem EnvF.grow (e : EnvF T I H σ Γ F) (st : Step I H [] I' H' []) (sub : Same I' H') : EnvF T I' H' σ Γ F ∧ Step I H F I' H' F := by
  have kp : ∀ b ∈ F, H' b = H b ∧ I' b = none := fun b hb => by
    obtain ⟨⟨ob, h1⟩, h2⟩ := e.env.cells b hb
    obtain ⟨h3, h4, _⟩ := st.oth b ob h1 h2 (by simp)
    exact ⟨h3.trans h1.symm, h4⟩
  exact ⟨⟨e.env.frame st.inc kp, e.nd, sub⟩, st.inc, fun b ob h1 h2 n => ⟨(st.oth b ob h1 h2 (by simp)).1, (st.oth b ob h1 h2 (by simp)).2.1, n⟩⟩
end

section
variable {X : Cx} {e a b o : Expr} {es : List Expr} {Γ Γ' Γ1 Γ2 : Sl} {Ψ : OD → Sl → Prop} {Φt : Bool → Sl → Prop} {pos : Pos} {r x y z : OD} {c c' : Bool}
theorem XE.we (h : XE X e Γ r Γ') (hq : Ψ r Γ') : WE X e Γ Ψ := h Ψ hq
theorem WE.mono {Ψ' : OD → Sl → Prop} (h : WE X e Γ Ψ) (hq : ∀ r Γ', Ψ r Γ' → Ψ' r Γ') : WE X e Γ Ψ' := fun I H σ F en Q k => h I H σ F en Q fun r Γ' I' H' v F' q => k r Γ' I' H' v F' (hq _ _ q)
theorem WT.mono {Ψ' : Bool → Sl → Prop} (h : WT X e Γ Φt) (hq : ∀ r Γ', Φt r Γ' → Ψ' r Γ') : WT X e Γ Ψ' := fun I H σ F en Q k => h I H σ F en Q fun r Γ' I' H' F' q => k r Γ' I' H' F' (hq _ _ q)
theorem XE.of (h : ∀ Ψ : OD → Sl → Prop, Ψ r Γ' → WE X e Γ Ψ) : XE X e Γ r Γ' := h

/-! ### constants, names -/
theorem we_const {d : PyData} {v : V} (hr : ∀ I, Rp X.tc I v d) (h : PE X e (tC v)) (hq : Ψ (.da d) Γ) : WE X e Γ Ψ := fun I H σ F en Q k =>
  ⟨_, h, k _ _ I H v F hq .refl (en.da (hr I))⟩
theorem xe_int {i : Int} {j : Nat} : XE X (.Constant (.int i) j pos) Γ (.da (.int i)) Γ := fun _ hq => we_const (fun _ => .int i) pe_int hq
theorem xe_bl {i : Bool} {j : Nat} : XE X (.Constant (.bool i) j pos) Γ (.da (.bool i)) Γ := fun _ hq => we_const (fun _ => .bl i) pe_bl hq
theorem xe_non {j : Nat} : XE X (.Constant .none j pos) Γ (.da .none) Γ := fun _ hq => we_const (fun _ => .non) pe_non hq
theorem xe_str {i : Str} {j : Nat} : XE X (.Constant (.str i) j pos) Γ (.da (.str i)) Γ := fun _ hq => we_const (fun _ => .str i) pe_str hq
/-- a slot that holds data -/
theorem xe_var {i : Nat} {n : Str} {d : PyData} (hN : X.N[i]? = some n) (hv : Vis X.env.scope n) (hd : Γ[i]? = some (some (.da d))) (h1 : (n == ("__debug__" : Str)) = false := by decide) (h2 : (n == ("__classdict__" : Str)) = false := by decide) :
    XE X (.Name n pos) Γ (.da d) Γ := fun Ψ hq I H σ F en Q k => by
  obtain ⟨v, A, B, C, h3, h4, h5, _⟩ := en.env.at hd
  cases h5 with
  | da h6 => exact ⟨_, pe_var hN hv h1 h2, v, h3, k _ _ I H v F hq .refl (en.da h6)⟩
theorem xv (i : Nat) {n : Str} {d : PyData} (hd : Γ[i]? = some (some (.da d)) := by rfl) (hN : X.N[i]? = some n := by rfl) (hv : Vis X.env.scope n := by first | exact Or.inl rfl | exact Or.inr (Or.inl rfl) | exact Or.inr (Or.inr rfl))
    (h1 : (n == ("__debug__" : Str)) = false := by decide) (h2 : (n == ("__classdict__" : Str)) = false := by decide) : XE X (.Name n pos) Γ (.da d) Γ := xe_var hN hv hd h1 h2

/-! ### operations on two values -/
/-- what an operation by values makes of own things -/
def Op2 (T : TC) (f : R2) (x y z : OD) : Prop := ∀ (I H : Hp) (v u : V) (B : List Addr), OwnL T I H [v, u] [x, y] B → B.Nodup → Same I H → ∀ Q : VK,
  (∀ (I' H' : Hp) (w : V) (B' : List Addr), Step I H B I' H' B' → Own T I' H' w z B' → B'.Nodup → Same I' H' → Q w H') → f v u H Q
/-- .. where both are data and nothing is laid -/
theorem Op2.pure {T : TC} {f : R2} {d e g : PyData} (h : ∀ (I H : Hp) (v u : V), Rp T I v d → Rp T I u e → Same I H → ∀ Q : VK, (∀ w, Rp T I w g → Q w H) → f v u H Q) : Op2 T f (.da d) (.da e) (.da g) := by
  intro I H v u B o nd sub Q k
  cases o with
  | cons o1 o2 =>
    cases o1 with
    | da h1 =>
      cases o2 with
      | cons o2 o3 =>
        cases o2 with
        | da h2 =>
          cases o3
          exact h I H v u h1 h2 sub Q fun w hw => k I H w [] Step.refl (.da hw) List.nodup_nil sub
theorem two_core {wr : R2} (h : WE X a Γ fun x Γ1 => WE X b Γ1 fun y Γ2 => ∃ z, Op2 X.tc wr x y z ∧ Ψ z Γ2) (I H : Hp) (σ : St) (F : List Addr) (en : EnvF X.tc I H σ Γ F) (Q : VK)
    (k : ∀ (r : OD) (Γ' : Sl) (I' H' : Hp) (v : V) (F' : List Addr), Ψ r Γ' → Step I H F I' H' F' → EnvF X.tc I' H' (some v :: σ) (some r :: Γ') F' → Q v H') : tOp wr (wpE X a) (wpE X b) σ H Q := by
  refine h I H σ F en _ fun x Γ1 I1 H1 v F1 h1 st1 en1 => ?_
  obtain ⟨B, G, rfl, o1, en1', up⟩ := en1.pop
  refine h1 I1 H1 σ G en1' _ fun y Γ2 I2 H2 u F2 h2 st2 en2 => ?_
  obtain ⟨z, op, hq⟩ := h2
  obtain ⟨en3, st3, o1'⟩ := up st2 en2
  have st13 := st1.trans st3
  obtain ⟨B2, G2, rfl, o2, en2', _⟩ := en2.pop
  have ndA : ((B ++ B2) ++ G2).Nodup := by rw [List.append_assoc]; exact en3.nd
  have ol : OwnL X.tc I2 H2 [v, u] [x, y] (B ++ B2) := by
    have q := OwnL.cons o1' (OwnL.cons o2 OwnL.nil)
    rwa [List.append_nil] at q
  refine op I2 H2 v u (B ++ B2) ol (List.nodup_append.mp ndA).1 en2.sub _ fun I' H' w B' st o nd sub => ?_
  obtain ⟨en5, st5⟩ := en2'.use ndA st o nd sub
  exact k z Γ2 I' H' w _ hq (st13.trans (by rw [← List.append_assoc]; exact st5)) en5
end
end TL

/-! TL2: defs: contracts that know that no repr runs around (FnG), the def's rule, calls. -/
namespace TL
open PySem PySem.Spec PyProof.Rows L2

/-- as L2.FnOk, where no guard runs -/
structure FnG (P : Program) (w : World) (K : PySem.W.Frag) (mg : Str → Option Value) (bs : Heap) (CX : CXT) (k : Nat) (f : Addr) (fd : FuncData) (ps : List Str) (sp : Sp) : Prop where
  arity : ∀ vs H Q E, sp vs H Q E → vs.length = ps.length
  go : ∀ (A : Around) (fr : List PySem.Env) (s : Shared) (H : Hp) (ar : Args) (us : List Value) (vs : List V) (Q : VK) (E : XK), Room k A → A.guards = some [] → Env0 P w K mg bs A fr s H →
    BindsTo s fd ar (ps.zip us) → Vals vs us → sp vs H Q E → codeAny (model P w) A (.call (.ref f) ar) (CR CX fr P w H s Q E) s
section
variable {P : Program} {w : World} {K : PySem.W.Frag} {mg : Str → Option Value} {bs : Heap} {CX : CXT} {j k : Nat} {f : Addr} {fd : FuncData} {ps : List Str} {sp : Sp}
theorem FnG.mono (F : FnG P w K mg bs CX j f fd ps sp) (h : j ≤ k) : FnG P w K mg bs CX k f fd ps sp :=
  ⟨F.arity, fun A fr s H ar us vs Q E r => F.go A fr s H ar us vs Q E (r.mono h)⟩
/-- a def of the text, by its body -/
theorem fnG_of {x qual : Str} {st : Stmt} {N : List Str} (F : Fun K x qual st f fd) (S : FnScope N ps (defScope st)) (ln : ∀ vs H Q E, sp vs H Q E → vs.length = ps.length)
    (hb : ∀ (cdv : Value) (A : Around) (fr : List PySem.Env) (s : Shared) (H : Hp) (vs : List V) (Q : VK) (E : XK), Room k (A.deeper (envOfC qual (defScope st) s.heap.objs.size f cdv)) → A.guards = some [] → sp vs H Q E →
      wpSs (cxOf CX P w K mg bs N qual (defScope st) f cdv A fr s H E) (defBody st) { nx := fun _ H' => Q .non H', rt := Q } (L2.start N vs) H) : FnG P w K mg bs CX (k + 1) f fd ps sp := by
  obtain ⟨oc, od, kV, doc, pm, an, cdv, ct, osl, rfl, lk, hcd⟩ := F.ex
  refine ⟨ln, fun A fr s H ar us vs Q E hr hg e0 hbd r hsp => ?_⟩
  have hl : vs.length = ps.length := ln _ _ _ _ hsp
  have KX : K.In s.heap := e0.mod.kin.keeps fun b o e => (e0.bs b o e).1
  have kinds : ∀ y ∈ ps.zip us, (defScope st).names.lookup y.1 = some .local ∨ ((defScope st).names.lookup y.1 = some .cell ∧ ((cellsFrom (s.heap.objs.size + 1) (defScope st).names []).lookup y.1).isSome = true) := by
    rintro ⟨n, v⟩ hy
    cases S.par n (List.of_mem_zip hy).1 with
    | inl q => exact .inl q
    | inr q => exact .inr ⟨q, PySem.W.cellsFrom_some _ _ _ (.inl q)⟩
  refine codeAny_call_function hr.depth (KX _ _ lk) rfl S.co S.gen rfl (PySem.W.codeRec_of KX hcd) (hbd _ _ _ _ ?_)
  refine wpAny_newFunctionEnv_cells S.kind kinds fun en hen s1 x => ?_
  subst hen
  refine ⟨(e0.mod.nolimit.keeps fun b o e => (e0.bs b o e).1).keeps x.toInCall.keep, codeAny_func ?_⟩
  have I := inv_start (CX := CX) (E := E) S hr.hd e0 hl r x
  refine wpAny_mono (wpSs_ok.run [] s1 (L2.start N vs) H _ I (hb cdv A fr s H vs Q E (hr.deeper _) hg hsp)) (fun fl s' hs => ?_) fun e s' hs => hs
  cases fl with
  | ret u => exact match hs with | ⟨v, _, H', J, rv, q⟩ => ⟨v, H', J.os, J.bare, J.base, J.hok, rv, q⟩
  | next => exact match hs with | ⟨_, H', J, q⟩ => ⟨V.non, H', J.os, J.bare, J.base, J.hok, rfl, q⟩
  | brk => exact match hs with | ⟨_, _, _, q⟩ => False.elim q
  | cont => exact match hs with | ⟨_, _, _, q⟩ => False.elim q
end

section
variable {X : Cx} {CX : CXT} {k : Nat} {f C : Addr} {fd : FuncData} {ps : List Str} {sp : Sp} {E : XK} {x m : Str} {p pos apos : Pos} {e o : Expr} {es : List Expr} {ta : TE} {t : TA}
theorem runG {pins : List (Addr × Obj)} {σ : L2.St} {H : Hp} {s : Shared} {Q : VK} {us : List Value} {vs : List V} (F : FnG X.prog X.w X.K X.mg X.base CX k f fd ps sp) (hr : Room k X.A) (hg : X.A.guards = some []) (hb : Binds X.K fd ps [])
    (hx : Passes CX X E) (I : Inv X pins σ H s) (r : Vals vs us) (h : sp vs H Q E) : wpAny (model X.prog X.w) X.A (call (.ref f) us) (EP X pins σ Q) X.xe s := by
  have hl : (us ++ ([] : List Value)).length = ps.length := by rw [List.append_nil, ← r.length]; exact F.arity _ _ _ _ h
  have hbd := hb s us I.kIn hl
  rw [List.append_nil] at hbd
  refine wpAny_call (codeAny_mono (F.go X.A X.stack s H ⟨us, []⟩ us vs Q E hr hg I.env0 hbd r h) ?_)
  rintro (e | fl) s' hq
  · exact hx pins σ H s e s' I hq
  · cases fl with
    | ret u => exact I.after hq
    | next => cases hq
    | brk => cases hq
    | cont => cases hq
theorem pe_callG (F : FnG X.prog X.w X.K X.mg X.base CX k f fd ps sp) (hr : Room k X.A) (hgd : X.A.guards = some []) (hg : Gl X x) (hm : X.mg x = some (.ref f)) (hk : PySem.W.keepIn X.K (.ref f) = true) (hb : Binds X.K fd ps [])
    (hx : Passes CX X E) (ha : PA X (e :: es) t) (hdb : (x == ("__debug__" : Str)) = false := by decide) (he : starEach (e :: es) X.env = (false, eval e X.env) :: starEach es X.env := by rfl)
    (hpl : (backTo pos (starEach es X.env)).any (·.1) = false := by rfl) : PE X (.Call (.Name x p) (e :: es) [] pos) (tCall sp [] E t) := by
  constructor
  intro pins s σ H Q I h
  refine wpAny_Call_Name_kw (ld_glob I hg hm ?_ hdb)
  refine PySem.W.callWith_K (h₀ := X.base) I.ok.mod.kin hk ?_ he hpl
  refine thn (ha.run pos pins s σ H _ I h) ?_
  rintro us s1 ⟨vs, H1, I1, r, q⟩
  rw [List.append_nil] at q
  exact ⟨I1.kIn, runG F hr hgd hb hx I1 r q⟩
theorem pe_callG0 (F : FnG X.prog X.w X.K X.mg X.base CX k f fd ps sp) (hr : Room k X.A) (hgd : X.A.guards = some []) (hg : Gl X x) (hm : X.mg x = some (.ref f)) (hk : PySem.W.keepIn X.K (.ref f) = true) (hb : Binds X.K fd ps [])
    (hx : Passes CX X E) (hdb : (x == ("__debug__" : Str)) = false := by decide) : PE X (.Call (.Name x p) [] [] pos) (tCall sp [] E tNil) := by
  constructor
  intro pins s σ H Q I h
  have h : sp ([] ++ []) H Q E := h
  exact wpAny_Call_Name_kw (ld_glob I hg hm (PySem.W.callWith_K0 I.kIn hk (runG (us := []) F hr hgd hb hx I .nil h)) hdb)
end

/-! ### contracts over owned things -/
/-- what a def is worth: from its arguments, what it answers and what it leaves of them -/
abbrev SpD := List OD → (OD → List OD → Prop) → Prop
def mkSp (T : TC) (sp : SpD) : Sp := fun vs H Q _ => ∃ (I : Hp) (as : List OD) (F : List Addr) (Ψ : OD → List OD → Prop), OwnL T I H vs as F ∧ F.Nodup ∧ Same I H ∧ sp as Ψ ∧
  ∀ (r : OD) (as' : List OD) (I' H' : Hp) (v : V) (F' : List Addr), Ψ r as' → Step I H F I' H' F' → OwnL T I' H' (v :: vs) (r :: as') F' → F'.Nodup → Same I' H' → Q v H'
/-- the parameters' slots at the entry: data, or an own thing whose value is known -/
def pinned (x : OD) (v : V) : OD := match x with
  | .da d => .da d
  | y => .pin v y
def start0 (N : List Str) (as : List OD) (vs : List V) : Sl := (List.zipWith (fun x v => some (pinned x v)) as vs) ++ List.replicate (N.length - as.length) none
inductive Back : List OD → List V → Sl → List OD → Prop
  | nil {Γ : Sl} : Back [] [] Γ []
  | da {d : PyData} {as as' : List OD} {v : V} {vs : List V} {o : Option OD} {Γ : Sl} : Back as vs Γ as' → Back (.da d :: as) (v :: vs) (o :: Γ) (.da d :: as')
  | own {x y : OD} {as as' : List OD} {v : V} {vs : List V} {Γ : Sl} : Back as vs Γ as' → Back (x :: as) (v :: vs) (some (.pin v y) :: Γ) (y :: as')

/-! ### outcomes of statements -/
inductive Out where
  | nx (Γ : Sl) | rt (r : OD) (Γ : Sl) | bk (Γ : Sl) | ct (Γ : Sl)
structure EndsOk (T : TC) (I H : Hp) (F : List Addr) (Φ : Out → Prop) (D : Ends) : Prop where
  nx : ∀ {Γ' : Sl} {I' H' : Hp} {σ' : L2.St} {F' : List Addr}, Φ (.nx Γ') → Step I H F I' H' F' → EnvF T I' H' σ' Γ' F' → D.nx σ' H'
  rt : ∀ {r : OD} {Γ' : Sl} {I' H' : Hp} {σ' : L2.St} {v : V} {F' : List Addr}, Φ (.rt r Γ') → Step I H F I' H' F' → EnvF T I' H' (some v :: σ') (some r :: Γ') F' → D.rt v H'
  bk : ∀ {Γ' : Sl} {I' H' : Hp} {σ' : L2.St} {F' : List Addr}, Φ (.bk Γ') → Step I H F I' H' F' → EnvF T I' H' σ' Γ' F' → D.bk σ' H'
  ct : ∀ {Γ' : Sl} {I' H' : Hp} {σ' : L2.St} {F' : List Addr}, Φ (.ct Γ') → Step I H F I' H' F' → EnvF T I' H' σ' Γ' F' → D.ct σ' H'
theorem EndsOk.step {T : TC} {I H I1 H1 : Hp} {F F1 : List Addr} {Φ : Out → Prop} {D : Ends} (k : EndsOk T I H F Φ D) (st : Step I H F I1 H1 F1) : EndsOk T I1 H1 F1 Φ D :=
  ⟨fun a b c => k.nx a (st.trans b) c, fun a b c => k.rt a (st.trans b) c, fun a b c => k.bk a (st.trans b) c, fun a b c => k.ct a (st.trans b) c⟩
def WSs (X : Cx) (ss : List Stmt) (Γ : Sl) (Φ : Out → Prop) : Prop := ∀ (I H : Hp) (σ : L2.St) (F : List Addr), EnvF X.tc I H σ Γ F → ∀ D : Ends, EndsOk X.tc I H F Φ D → wpSs X ss D σ H
theorem WSs.mono {X : Cx} {ss : List Stmt} {Γ : Sl} {Φ Φ' : Out → Prop} (h : WSs X ss Γ Φ) (k : ∀ o, Φ o → Φ' o) : WSs X ss Γ Φ' := fun I H σ F en D e =>
  h I H σ F en D ⟨fun a => e.nx (k _ a), fun a => e.rt (k _ a), fun a => e.bk (k _ a), fun a => e.ct (k _ a)⟩
/-- what a def's body is to come to -/
def fnΦ (as : List OD) (vs : List V) (Ψ : OD → List OD → Prop) : Out → Prop
  | .rt r Γ => ∃ as', Back as vs Γ as' ∧ Ψ r as'
  | .nx Γ => ∃ as', Back as vs Γ as' ∧ Ψ (.da .none) as'
  | _ => False

section
variable {T : TC} {I H I' H' : Hp}
theorem env_none : ∀ n : Nat, EnvL T I H (List.replicate n none) (List.replicate n none) []
  | 0 => .nil
  | n + 1 => .skip (env_none n)
theorem own_pinned {x : OD} {v : V} {F : List Addr} (h : Own T I H v x F) : Own T I H v (pinned x v) F := by
  cases h with
  | da h => exact .da h
  | ll a b c => exact .pin (.ll a b c)
  | dd a b c d => exact .pin (.dd a b c d)
  | dm a b c d e => exact .pin (.dm a b c d e)
  | ls a b c => exact .pin (.ls a b c)
  | ob a b c d => exact .pin (.ob a b c d)
  | op a b c => exact .pin (.op a b c)
  | pin a => exact .pin (.pin a)
theorem env_start {N : List Str} : ∀ {as : List OD} {vs : List V} {F : List Addr}, OwnL T I H vs as F → ∀ n : Nat, EnvL T I H (vs.map some ++ List.replicate n none) (List.zipWith (fun x v => some (pinned x v)) as vs ++ List.replicate n none) F
  | _, _, _, .nil, n => env_none n
  | _, _, _, .cons h r, n => .cons (own_pinned h) (env_start (N := N) r n)
/-- the arguments behind the body -/
theorem env_back : ∀ {as : List OD} {vs : List V} {Γ : Sl} {as' : List OD}, Back as vs Γ as' → ∀ {σ : L2.St} {F F0 : List Addr}, OwnL T I H vs as F0 → Same I I' → EnvL T I' H' σ Γ F → ∃ G, OwnL T I' H' vs as' G ∧ G.Sublist F
  | _, _, _, _, .nil, _, F, _, _, _, _ => ⟨[], .nil, List.nil_sublist _⟩
  | _, _, _, _, .da b, σ, F, _, .cons h r, e, en => by
    cases h with
    | da hd =>
      cases en with
      | skip en =>
        obtain ⟨G, o, s⟩ := env_back b r e en
        exact ⟨G, .cons (F := []) (.da (hd.mono e)) o, s⟩
      | cons _ en =>
        obtain ⟨G, o, s⟩ := env_back b r e en
        exact ⟨G, .cons (F := []) (.da (hd.mono e)) o, s.trans (List.sublist_append_right _ _)⟩
  | _, _, _, _, .own b, σ, F, _, .cons _ r, e, en => by
    cases en with
    | cons h en =>
      obtain ⟨G, o, s⟩ := env_back b r e en
      cases h with
      | pin h => exact ⟨_, .cons h o, (List.Sublist.refl _).append s⟩
end
theorem step_sub {I H I' H' : Hp} {F F' G : List Addr} (st : Step I H F I' H' F') (s : ∀ b ∈ G, b ∈ F') : Step I H F I' H' G :=
  ⟨st.inc, fun b o e i n => let ⟨h1, h2, h3⟩ := st.oth b o e i n; ⟨h1, h2, fun q => h3 (s b q)⟩⟩

section
variable {P : Program} {w : World} {K : PySem.W.Frag} {mg : Str → Option Value} {bs : Heap} {k : Nat} {f : Addr} {fd : FuncData} {ps : List Str}
/-- THE RULE for a def: its body over slots -/
theorem fn_ok {x qual : Str} {st : Stmt} {N : List Str} {sp : SpD} (F : Fun K x qual st f fd) (S : FnScope N ps (defScope st)) (ln : ∀ as Ψ, sp as Ψ → as.length = ps.length)
    (hb : ∀ (X : Cx) (cdv : Value) (A : Around) (fr : List PySem.Env) (s : Shared) (H : Hp) (E : XK), X = (cxOf CX0 P w K mg bs N qual (defScope st) f cdv A fr s H E).nox → Room k X.A → X.A.guards = some [] →
      ∀ (as : List OD) (Ψ : OD → List OD → Prop) (vs : List V), sp as Ψ → vs.length = as.length → WSs (cxOf CX0 P w K mg bs N qual (defScope st) f cdv A fr s H E).nox (defBody st) (start0 N as vs) (fnΦ as vs Ψ)) :
    FnG P w K mg bs CX0 (k + 1) f fd ps (mkSp ⟨P, w, K⟩ sp) := by
  refine fnG_of F S (fun vs H Q E h => ?_) fun cdv A fr s H vs Q E hr hg h => ?_
  · obtain ⟨I, as, F, Ψ, o, _, _, q, _⟩ := h
    rw [o.length, ln as Ψ q]
  · obtain ⟨I, as, F, Ψ, o, nd, sub, q, kk⟩ := h
    have en : EnvF (⟨P, w, K⟩ : TC) I H (L2.start N vs) (start0 N as vs) F := ⟨by unfold L2.start start0; rw [o.length]; exact env_start (N := N) o _, nd, sub⟩
    have main := hb _ cdv A fr s H E rfl hr hg as Ψ vs q o.length I H (L2.start N vs) F en { nx := fun _ H' => Q .non H', rt := Q } ?_
    · obtain ⟨t, ht, hq⟩ := main
      exact ⟨t, ht.nox, hq⟩
    · refine ⟨fun a st en => ?_, fun a st en => ?_, fun a => a.elim, fun a => a.elim⟩
      · obtain ⟨as', b, hΨ⟩ := a
        obtain ⟨G, o', sl⟩ := env_back b o st.inc en.env
        exact kk _ as' _ _ .non ([] ++ G) hΨ (step_sub st fun b hb => sl.subset hb) (.cons (.da .non) o') (en.nd.sublist sl) en.sub
      · obtain ⟨as', b, hΨ⟩ := a
        obtain ⟨B, G, rfl, ov, en', _⟩ := en.pop
        obtain ⟨G', o', sl⟩ := env_back b o st.inc en'.env
        have sl' : (B ++ G').Sublist (B ++ G) := (List.Sublist.refl B).append sl
        exact kk _ as' _ _ _ (B ++ G') hΨ (step_sub st fun b hb => sl'.subset hb) (.cons ov o') (en.nd.sublist sl') en.sub
end
end TL

/-! TL3: expressions by rules: ints, comparisons, tests, displays, subscripts, calls; small statements. -/
namespace TL
open PySem PySem.Spec PyProof.Rows L2

section
variable {X : Cx} {e a b c o : Expr} {es : List Expr} {Γ Γ' Γ1 Γ2 : Sl} {Ψ : OD → Sl → Prop} {Φt : Bool → Sl → Prop} {pos : Pos} {r x y z : OD} {k k' : Bool} {wr : R2}

/-! ### operations -/
theorem we_bin {op : Operator} (ho : OpR X (binaryOp op) wr) (h : WE X a Γ fun x Γ1 => WE X b Γ1 fun y Γ2 => ∃ z, Op2 X.tc wr x y z ∧ Ψ z Γ2) : WE X (.BinOp a op b pos) Γ Ψ := fun I H σ F en Q k => ⟨_, pe_op ho wpE_ok wpE_ok, two_core h I H σ F en Q k⟩
theorem xe_bin {op : Operator} (ho : OpR X (binaryOp op) wr) (q : Op2 X.tc wr x y z) (ha : XE X a Γ x Γ1) (hb : XE X b Γ1 y Γ2) : XE X (.BinOp a op b pos) Γ z Γ2 := fun _ hq => we_bin ho (ha _ (hb _ ⟨z, q, hq⟩))
theorem o2_I0 {T : TC} {g : Int → Int → V} {i j : Int} {d : PyData} (hg : ∀ I, Rp T I (g i j) d) : Op2 T (rI0 g) (.da (.int i)) (.da (.int j)) (.da d) := Op2.pure fun I H v u hv hu _ Q k => by
  cases hv
  cases hu
  exact ⟨i, j, rfl, rfl, k _ (hg I)⟩
theorem o2_I {T : TC} {C : Int → Int → Prop} {g : Int → Int → V} {i j : Int} {d : PyData} (hc : C i j) (hg : ∀ I, Rp T I (g i j) d) : Op2 T (rI C g) (.da (.int i)) (.da (.int j)) (.da d) := Op2.pure fun I H v u hv hu _ Q k => by
  cases hv
  cases hu
  exact ⟨i, j, rfl, rfl, hc, k _ (hg I)⟩
section
variable {i j : Int}
theorem xe_add (ha : XE X a Γ (.da (.int i)) Γ1) (hb : XE X b Γ1 (.da (.int j)) Γ2) : XE X (.BinOp a .Add b pos) Γ (.da (.int (i + j))) Γ2 := xe_bin op_add (o2_I0 fun _ => .int _) ha hb
theorem xe_sub (ha : XE X a Γ (.da (.int i)) Γ1) (hb : XE X b Γ1 (.da (.int j)) Γ2) : XE X (.BinOp a .Sub b pos) Γ (.da (.int (i - j))) Γ2 := xe_bin op_sub (o2_I0 fun _ => .int _) ha hb
theorem xe_mul (hc : CMul i j) (ha : XE X a Γ (.da (.int i)) Γ1) (hb : XE X b Γ1 (.da (.int j)) Γ2) : XE X (.BinOp a .Mult b pos) Γ (.da (.int (i * j))) Γ2 := xe_bin op_mul (o2_I hc fun _ => .int _) ha hb
theorem xe_mod (hc : 0 < j) (ha : XE X a Γ (.da (.int i)) Γ1) (hb : XE X b Γ1 (.da (.int j)) Γ2) : XE X (.BinOp a .Mod b pos) Γ (.da (.int (i % j))) Γ2 := xe_bin op_mod (o2_I (C := fun _ j => 0 < j) hc fun _ => .int _) ha hb
theorem xe_fdiv (hc : CDiv i j) (ha : XE X a Γ (.da (.int i)) Γ1) (hb : XE X b Γ1 (.da (.int j)) Γ2) : XE X (.BinOp a .FloorDiv b pos) Γ (.da (.int (i / j))) Γ2 := xe_bin op_fdiv (o2_I hc fun _ => .int _) ha hb
theorem xe_shr (hc : 0 ≤ j) (ha : XE X a Γ (.da (.int i)) Γ1) (hb : XE X b Γ1 (.da (.int j)) Γ2) : XE X (.BinOp a .RShift b pos) Γ (.da (.int (i / 2 ^ j.toNat))) Γ2 := xe_bin op_shr (o2_I (C := fun _ j => 0 ≤ j) hc fun _ => .int _) ha hb
theorem xe_shl (hc : CPow i j) (ha : XE X a Γ (.da (.int i)) Γ1) (hb : XE X b Γ1 (.da (.int j)) Γ2) : XE X (.BinOp a .LShift b pos) Γ (.da (.int (i * 2 ^ j.toNat))) Γ2 := xe_bin op_shl (o2_I hc fun _ => .int _) ha hb
theorem xe_pow (hc : CPow i j) (ha : XE X a Γ (.da (.int i)) Γ1) (hb : XE X b Γ1 (.da (.int j)) Γ2) : XE X (.BinOp a .Pow b pos) Γ (.da (.int (i ^ j.toNat))) Γ2 := xe_bin op_pow (o2_I hc fun _ => .int _) ha hb
theorem xe_xor (ha : XE X a Γ (.da (.int i)) Γ1) (hb : XE X b Γ1 (.da (.int j)) Γ2) : XE X (.BinOp a .BitXor b pos) Γ (.da (.int (Builtin.bitXor i j))) Γ2 := xe_bin op_xor (o2_I0 fun _ => .int _) ha hb
theorem xe_band (ha : XE X a Γ (.da (.int i)) Γ1) (hb : XE X b Γ1 (.da (.int j)) Γ2) : XE X (.BinOp a .BitAnd b pos) Γ (.da (.int (Builtin.bitAnd i j))) Γ2 := xe_bin op_and (o2_I0 fun _ => .int _) ha hb
theorem xe_bor (ha : XE X a Γ (.da (.int i)) Γ1) (hb : XE X b Γ1 (.da (.int j)) Γ2) : XE X (.BinOp a .BitOr b pos) Γ (.da (.int (Builtin.bitOr i j))) Γ2 := xe_bin op_or (o2_I0 fun _ => .int _) ha hb
theorem we_un {op : UnaryOp} {ru : V → Hp → VK → Prop} {d d' : PyData} (ho : UnR X (unaryOp op) ru) (q : ∀ (I H : Hp) (v : V) (Q : VK), Rp X.tc I v d → (∀ u, Rp X.tc I u d' → Q u H) → ru v H Q) (ha : XE X a Γ (.da d) Γ1) : XE X (.UnaryOp op a pos) Γ (.da d') Γ1 := by
  intro Ψ hq I H σ F en Q k
  refine ⟨_, pe_un ho wpE_ok, ha (fun r Γ' => r = .da d ∧ Γ' = Γ1) ⟨rfl, rfl⟩ I H σ F en _ ?_⟩
  rintro _ _ I' H' v F' ⟨rfl, rfl⟩ st en'
  obtain ⟨B, G, rfl, o, en2, up⟩ := en'.pop
  cases o with
  | da h => exact q I' H' v Q h fun u hu => k _ _ I' H' u _ hq st (en2.da hu)
theorem xe_neg (ha : XE X a Γ (.da (.int i)) Γ1) : XE X (.UnaryOp .USub a pos) Γ (.da (.int (-i))) Γ1 := we_un un_neg (fun I H v Q h k => by
  cases h
  exact ⟨i, rfl, k _ (.int _)⟩) ha
end

/-! ### comparisons -/
theorem we_cmp {op : CmpOp} (ho : OpR X (compareOp op) wr) (hm : behindInMarks op b = false) (h : WE X a Γ fun x Γ1 => WE X b Γ1 fun y Γ2 => ∃ z, Op2 X.tc wr x y z ∧ Ψ z Γ2) : WE X (.Compare a [op] [b] pos) Γ Ψ := fun I H σ F en Q k => ⟨_, pe_cmpR ho wpE_ok wpE_ok hm, two_core h I H σ F en Q k⟩
theorem xe_cmp {op : CmpOp} (ho : OpR X (compareOp op) wr) (hm : behindInMarks op b = false) (q : Op2 X.tc wr x y z) (ha : XE X a Γ x Γ1) (hb : XE X b Γ1 y Γ2) : XE X (.Compare a [op] [b] pos) Γ z Γ2 := fun _ hq => we_cmp ho hm (ha _ (hb _ ⟨z, q, hq⟩))
/-- the end of a test by value -/
theorem test_end {I H : Hp} {σ : L2.St} {F : List Addr} {Q : Bool → Hp → Prop} (k : ∀ (b : Bool) (Γ' : Sl) (I' H' : Hp) (F' : List Addr), Φt b Γ' → Step I H F I' H' F' → EnvF X.tc I' H' σ Γ' F' → Q b H') :
    ∀ (r : OD) (Γ' : Sl) (I' H' : Hp) (v : V) (F' : List Addr), (∃ k, r = .da (.bool k) ∧ Φt k Γ') → Step I H F I' H' F' → EnvF X.tc I' H' (some v :: σ) (some r :: Γ') F' → ∃ k, v = .bl k ∧ Q k H' := by
  rintro r Γ' I' H' v F' ⟨kk, rfl, hq⟩ st en'
  obtain ⟨B, G, rfl, o, en2, up⟩ := en'.pop
  cases o with
  | da hh =>
    cases hh
    exact ⟨kk, rfl, k kk Γ' I' H' _ hq st en2⟩
theorem wt_cmp {op : CmpOp} (ho : OpR X (compareOp op) wr) (hm : behindInMarks op b = false) (h : WE X a Γ fun x Γ1 => WE X b Γ1 fun y Γ2 => ∃ k, Op2 X.tc wr x y (.da (.bool k)) ∧ Φt k Γ2) : WT X (.Compare a [op] [b] pos) Γ Φt :=
  fun I H σ F en Q k => ⟨_, pt_cmpR ho wpE_ok wpE_ok hm, two_core (h.mono fun x Γ1 h1 => h1.mono fun y Γ2 ⟨k, q1, q2⟩ => ⟨_, q1, k, rfl, q2⟩) I H σ F en _ (test_end k)⟩
theorem xt_cmp {op : CmpOp} (ho : OpR X (compareOp op) wr) (hm : behindInMarks op b = false) (q : Op2 X.tc wr x y (.da (.bool k))) (ha : XE X a Γ x Γ1) (hb : XE X b Γ1 y Γ2) : XT X (.Compare a [op] [b] pos) Γ k Γ2 := fun _ hq => wt_cmp ho hm (ha _ (hb _ ⟨k, q, hq⟩))
/-- an expression that answers a truth value, as a test -/
theorem wt_val (h : WE X e Γ fun r Γ1 => ∃ k, r = .da (.bool k) ∧ Φt k Γ1) (he : ∀ whole, isTrue e X.env whole = (do let v ← whole; standAt e.pos; holding [v] (truthy v)) := by intro _; rfl) : WT X e Γ Φt :=
  fun I H σ F en Q k => ⟨_, pt_val wpE_ok he, h I H σ F en _ (test_end k)⟩
theorem xt_val (h : XE X e Γ (.da (.bool k)) Γ1) (he : ∀ whole, isTrue e X.env whole = (do let v ← whole; standAt e.pos; holding [v] (truthy v)) := by intro _; rfl) : XT X e Γ k Γ1 := fun _ hq => wt_val (h _ ⟨k, rfl, hq⟩) he
section
variable {i j : Int}
theorem o2_bl {T : TC} {g : Int → Int → Bool} : Op2 T (rI0 fun i j => .bl (g i j)) (.da (.int i)) (.da (.int j)) (.da (.bool (g i j))) := o2_I0 fun _ => .bl _
theorem xt_lt (ha : XE X a Γ (.da (.int i)) Γ1) (hb : XE X b Γ1 (.da (.int j)) Γ2) : XT X (.Compare a [.Lt] [b] pos) Γ (decide (i < j)) Γ2 := xt_cmp op_lt (nomark _) o2_bl ha hb
theorem xt_le (ha : XE X a Γ (.da (.int i)) Γ1) (hb : XE X b Γ1 (.da (.int j)) Γ2) : XT X (.Compare a [.LtE] [b] pos) Γ (decide (i ≤ j)) Γ2 := xt_cmp op_le (nomark _) o2_bl ha hb
theorem xt_gt (ha : XE X a Γ (.da (.int i)) Γ1) (hb : XE X b Γ1 (.da (.int j)) Γ2) : XT X (.Compare a [.Gt] [b] pos) Γ (decide (j < i)) Γ2 := xt_cmp op_gt (nomark _) o2_bl ha hb
theorem xt_ge (ha : XE X a Γ (.da (.int i)) Γ1) (hb : XE X b Γ1 (.da (.int j)) Γ2) : XT X (.Compare a [.GtE] [b] pos) Γ (decide (j ≤ i)) Γ2 := xt_cmp op_ge (nomark _) o2_bl ha hb
end
end
end TL

/-! TL4: arguments, calls, displays, freezing, statements. -/
namespace TL
open PySem PySem.Spec PyProof.Rows L2

section
variable {T : TC} {I H I' H' : Hp} {σ σ' : L2.St} {Γ Γ' : Sl} {F F' G G' B : List Addr} {v : V} {r : OD}
theorem EnvF.popL : ∀ {vs : List V} {rs : List OD} {F : List Addr}, EnvF T I H (vs.map some ++ σ) (rs.map some ++ Γ) F → vs.length = rs.length → ∃ B G, F = B ++ G ∧ OwnL T I H vs rs B ∧ EnvF T I H σ Γ G
  | [], [], F, en, _ => ⟨[], F, rfl, .nil, en⟩
  | v :: vs, r :: rs, F, en, hl => by
    obtain ⟨B, G, rfl, o, en', _⟩ := EnvF.pop (v := v) (r := r) (σ := vs.map some ++ σ) (Γ := rs.map some ++ Γ) en
    obtain ⟨B2, G2, rfl, o2, en2⟩ := EnvF.popL en' (by simpa using hl)
    exact ⟨B ++ B2, G2, by rw [List.append_assoc], .cons o o2, en2⟩
  | [], _ :: _, _, _, hl => by simp at hl
  | _ :: _, [], _, _, hl => by simp at hl
theorem nd_mid {α : Type} {A B C D : List α} (h : (D ++ (A ++ (B ++ C))).Nodup) : (A ++ (D ++ C)).Nodup := by
  have p : (A ++ (D ++ C)).Perm (D ++ (A ++ C)) := by
    rw [← List.append_assoc, ← List.append_assoc]
    exact List.perm_append_comm.append_right C
  refine p.nodup_iff.mpr (h.sublist ?_)
  exact (List.Sublist.refl D).append ((List.Sublist.refl A).append (List.sublist_append_right B C))
/-- an own thing comes into a slot whose value it is -/
theorem EnvF.into {i : Nat} {x : OD} (en : EnvF T I H σ Γ G) (hi : σ[i]? = some (some v)) (o : Own T I H v x B) (nd : (B ++ G).Nodup) : ∃ F', EnvF T I H σ (Γ.set i (some x)) F' ∧ F'.Nodup ∧ ∀ b ∈ F', b ∈ B ∨ b ∈ G := by
  have hl : i < Γ.length := by
    rw [← en.env.length]
    exact (List.getElem?_eq_some_iff.mp hi).1
  obtain ⟨A, B0, C, rfl, k, _, _⟩ := en.env.put hl
  have q := k (Same.refl I) (H' := H) (v' := v) (y := x) (B' := B) (fun b hb => ⟨rfl, (en.env.cells b (by
    rcases List.mem_append.mp hb with hb | hb
    · exact List.mem_append_left _ hb
    · exact List.mem_append_right _ (List.mem_append_right _ hb))).2⟩) o
  have e : σ.set i (some v) = σ := by
    have hs := (List.getElem?_eq_some_iff.mp hi)
    obtain ⟨h1, h2⟩ := hs
    rw [← h2]
    exact List.set_getElem_self h1
  rw [e] at q
  refine ⟨_, ⟨q, nd_mid nd, en.sub⟩, nd_mid nd, fun b hb => ?_⟩
  rcases List.mem_append.mp hb with hb | hb
  · exact .inr (List.mem_append_left _ hb)
  · rcases List.mem_append.mp hb with hb | hb
    · exact .inl hb
    · exact .inr (List.mem_append_right _ (List.mem_append_right _ hb))
end

def putBack : List (Option Nat) → List OD → Sl → Sl
  | some i :: refs, a :: as, Γ => putBack refs as (Γ.set i (some a))
  | none :: refs, _ :: as, Γ => putBack refs as Γ
  | _, _, Γ => Γ
theorem RefsOk.tail {o : Option Nat} {refs : List (Option Nat)} {v : V} {vs : List V} {σ : L2.St} (h : RefsOk (o :: refs) (v :: vs) σ) : RefsOk refs vs σ := fun k i e => by
  obtain ⟨u, h1, h2⟩ := h (k + 1) i (by simpa using e)
  exact ⟨u, by simpa using h1, h2⟩
theorem RefsOk.none {refs : List (Option Nat)} {v : V} {vs : List V} {σ : L2.St} (h : RefsOk refs vs σ) : RefsOk (Option.none :: refs) (v :: vs) σ := fun k i e => by
  cases k with
  | zero => simp at e
  | succ k => exact h k i (by simpa using e)
theorem RefsOk.some {j : Nat} {refs : List (Option Nat)} {v : V} {vs : List V} {σ : L2.St} (hj : σ[j]? = some (some v)) (h : RefsOk refs vs σ) : RefsOk (Option.some j :: refs) (v :: vs) σ := fun k i e => by
  cases k with
  | zero =>
    simp at e
    subst e
    exact ⟨v, rfl, hj⟩
  | succ k => exact h k i (by simpa using e)
theorem putBack_env {T : TC} {I H : Hp} {σ : L2.St} : ∀ {refs : List (Option Nat)} {as : List OD} {vs : List V} {B : List Addr} {Γ : Sl} {G : List Addr}, OwnL T I H vs as B → RefsOk refs vs σ → EnvF T I H σ Γ G → (B ++ G).Nodup →
    ∃ F', EnvF T I H σ (putBack refs as Γ) F' ∧ ∀ b ∈ F', b ∈ B ∨ b ∈ G
  | [], as, _, B, Γ, G, _, _, en, _ => by cases as <;> exact ⟨G, en, fun b hb => .inr hb⟩
  | some i :: refs, [], _, _, Γ, G, .nil, _, en, _ => ⟨G, en, fun b hb => .inr hb⟩
  | none :: refs, [], _, _, Γ, G, .nil, _, en, _ => ⟨G, en, fun b hb => .inr hb⟩
  | none :: refs, a :: as, _, _, Γ, G, .cons (F := B1) (G := B2) o os, hr, en, nd => by
    have nd' : (B2 ++ G).Nodup := by
      rw [List.append_assoc] at nd
      exact (List.nodup_append.mp nd).2.1
    obtain ⟨F', en', k⟩ := putBack_env os hr.tail en nd'
    exact ⟨F', en', fun b hb => (k b hb).imp (List.mem_append_right _) id⟩
  | some i :: refs, a :: as, _, _, Γ, G, .cons (F := B1) (G := B2) (v := v) o os, hr, en, nd => by
    have hi : σ[i]? = some (some v) := by
      obtain ⟨u, h1, h2⟩ := hr 0 i rfl
      simp at h1
      subst h1
      exact h2
    rw [List.append_assoc] at nd
    have nd1 : (B1 ++ G).Nodup := nd.sublist ((List.Sublist.refl B1).append (List.sublist_append_right B2 G))
    obtain ⟨F1, en1, nF, k1⟩ := en.into hi o nd1
    have nd2 : (B2 ++ F1).Nodup := by
      have h := List.nodup_append.mp nd
      have h2 := List.nodup_append.mp h.2.1
      refine List.nodup_append.mpr ⟨h2.1, nF, fun x hx y hy q => ?_⟩
      subst q
      rcases k1 x hy with z | z
      · exact h.2.2 x z x (List.mem_append_left _ hx) rfl
      · exact h2.2.2 x hx x z rfl
    obtain ⟨F', en', k⟩ := putBack_env os hr.tail en1 nd2
    refine ⟨F', en', fun b hb => ?_⟩
    rcases k b hb with z | z
    · exact .inl (List.mem_append_right _ z)
    · rcases k1 b z with z | z
      · exact .inl (List.mem_append_left _ z)
      · exact .inr z

section
variable {X : Cx} {e a b c o : Expr} {es : List Expr} {Γ Γ' Γ1 Γ2 : Sl} {Ψ : OD → Sl → Prop} {Ψa : List OD → List (Option Nat) → Sl → Prop} {Φt : Bool → Sl → Prop} {pos p : Pos} {r x y z : OD} {k k' : Bool} {nm : Str}

/-! ### arguments -/
theorem wa_nil (h : Ψa [] [] Γ) : WA X [] Γ Ψa := fun I H σ F en Q k => ⟨_, pa_nil, k [] [] Γ I H [] F h rfl rfl (fun k i e => by simp at e) .refl en⟩
theorem wa_cons (h : WE X e Γ fun r Γ1 => WA X es Γ1 fun rs refs Γ2 => Ψa (r :: rs) (none :: refs) Γ2) (hs : starEach (e :: es) X.env = (false, eval e X.env) :: starEach es X.env := by rfl) : WA X (e :: es) Γ Ψa := by
  intro I H σ F en Q k
  refine ⟨_, pa_cons wpE_ok wpA_ok hs, h I H σ F en _ fun x Γ1 I1 H1 v F1 h1 st1 en1 => ?_⟩
  obtain ⟨B, G, rfl, o1, en1', up⟩ := en1.pop
  refine h1 I1 H1 σ G en1' _ fun rs refs Γ2 I2 H2 vs F2 h2 l1 l2 rk st2 en2 => ?_
  obtain ⟨en3, st3, _⟩ := up st2 en2
  exact k (x :: rs) (none :: refs) Γ2 I2 H2 (v :: vs) _ h2 (by simp [l1]) (by simp [l2]) rk.none (st1.trans st3) en3
/-- an own thing that stands in a slot, handed over -/
theorem wa_ref (i : Nat) {x : OD} (h : WA X es (Γ.set i none) fun rs refs Γ2 => Ψa (x :: rs) (some i :: refs) Γ2) (hx : Γ[i]? = some (some x) := by rfl) (hN : X.N[i]? = some nm := by rfl)
    (hv : Vis X.env.scope nm := by first | exact Or.inl rfl | exact Or.inr (Or.inl rfl) | exact Or.inr (Or.inr rfl)) (h1 : (nm == ("__debug__" : Str)) = false := by decide) (h2 : (nm == ("__classdict__" : Str)) = false := by decide)
    (hs : starEach (.Name nm p :: es) X.env = (false, eval (.Name nm p) X.env) :: starEach es X.env := by rfl) : WA X (.Name nm p :: es) Γ Ψa := by
  intro I H σ F en Q k
  obtain ⟨v, B, G, e1, o, en', nd, mem⟩ := en.take hx
  refine ⟨_, pa_cons (pe_var hN hv h1 h2) wpA_ok hs, v, e1, ?_⟩
  have en1 : EnvF X.tc I H (some v :: σ) (some x :: Γ.set i none) (B ++ G) := ⟨.cons o en'.env, nd, en.sub⟩
  have st1 : Step I H F I H (B ++ G) := Step.less fun b hb => (mem b).mpr (List.mem_append.mp hb)
  obtain ⟨B', G', e2, o1, en1', up⟩ := en1.pop
  refine h I H σ G' en1' _ fun rs refs Γ2 I2 H2 vs F2 h2 l1 l2 rk st2 en2 => ?_
  obtain ⟨en3, st3, _⟩ := up st2 en2
  exact k (x :: rs) (some i :: refs) Γ2 I2 H2 (v :: vs) _ h2 (by simp [l1]) (by simp [l2]) (rk.some e1) (st1.trans st3) en3
end
end TL

/-! TL5: calls of built-ins and of defs, displays, freezing, small statements. -/
namespace TL
open PySem PySem.Spec PyProof.Rows L2

/-- what a call by values makes of own things -/
def OpL (T : TC) (f : List V → Hp → VK → Prop) (rs : List OD) (z : OD) : Prop := ∀ (I H : Hp) (vs : List V) (B : List Addr), OwnL T I H vs rs B → B.Nodup → Same I H → ∀ Q : VK,
  (∀ (I' H' : Hp) (w : V) (B' : List Addr), Step I H B I' H' B' → Own T I' H' w z B' → B'.Nodup → Same I' H' → Q w H') → f vs H Q
theorem upd_sub {I H : Hp} {a : Addr} {o : HO} (s : Same I H) (h : H a = none) : Same I (upd H a o) := fun b u e => by rw [upd_ne (ne_of_none (s b u e) h)]; exact s b u e
theorem upd_up {H : Hp} {a : Addr} {o : HO} (h : H a = none) : Same H (upd H a o) := fun b u e => by rw [upd_ne (ne_of_none e h)]; exact e
theorem upd_both {I H : Hp} {a : Addr} {o : HO} (s : Same I H) : Same (upd I a o) (upd H a o) := fun b u e => by
  by_cases hb : b = a
  · subst hb
    rw [upd_same] at e ⊢
    exact e
  · rw [upd_ne hb] at e ⊢
    exact s b u e
/-- a new frozen thing -/
theorem step_frz {I H : Hp} {F : List Addr} {a : Addr} {o : HO} (s : Same I H) (h : H a = none) : Step I H F (upd I a o) (upd H a o) F :=
  ⟨upd_up (s.free h), fun b u e i n => by
    have hb : b ≠ a := ne_of_none e h
    exact ⟨by rw [upd_ne hb]; exact e, by rw [upd_ne hb]; exact i, n⟩⟩
/-- a new own thing -/
theorem step_new {I H : Hp} {F : List Addr} {a : Addr} {o : HO} (h : H a = none) : Step I H F I (upd H a o) (a :: F) :=
  ⟨Same.refl I, fun b u e i n => by
    have hb : b ≠ a := ne_of_none e h
    exact ⟨by rw [upd_ne hb]; exact e, i, fun q => (List.mem_cons.mp q).elim hb n⟩⟩
/-- an own thing changed -/
theorem step_upd {I H : Hp} {F : List Addr} {a : Addr} {o : HO} (h : a ∈ F) : Step I H F I (upd H a o) F :=
  ⟨Same.refl I, fun b u e i n => by
    have hb : b ≠ a := fun q => n (q ▸ h)
    exact ⟨by rw [upd_ne hb]; exact e, i, n⟩⟩
theorem ownL_da {T : TC} {I H : Hp} : ∀ {ds : List PyData} {vs : List V} {B : List Addr}, OwnL T I H vs (ds.map OD.da) B → B = [] ∧ RpL T I vs ds
  | [], _, _, .nil => ⟨rfl, .nil⟩
  | d :: ds, _, _, .cons (.da h) r => by
    obtain ⟨rfl, q⟩ := ownL_da r
    exact ⟨rfl, .cons h q⟩

section
variable {X : Cx} {e a b c o : Expr} {es : List Expr} {Γ Γ' Γ1 Γ2 : Sl} {Ψ : OD → Sl → Prop} {Ψa : List OD → List (Option Nat) → Sl → Prop} {Φt : Bool → Sl → Prop} {pos p : Pos} {r x y z : OD} {k k' : Bool} {nm : Str}
variable {wl : List V → Hp → VK → Prop} {id : String}

/-- the end of a call by values -/
theorem call_end {I H I1 H1 : Hp} {σ : L2.St} {F F1 : List Addr} {Q : VK} {rs : List OD} {vs : List V} (op : OpL X.tc wl rs z) (hq : Ψ z Γ1) (l1 : vs.length = rs.length) (st1 : Step I H F I1 H1 F1) (en1 : EnvF X.tc I1 H1 (vs.map some ++ σ) (rs.map some ++ Γ1) F1)
    (k : ∀ (r : OD) (Γ' : Sl) (I' H' : Hp) (v : V) (F' : List Addr), Ψ r Γ' → Step I H F I' H' F' → EnvF X.tc I' H' (some v :: σ) (some r :: Γ') F' → Q v H') : wl vs H1 Q := by
  obtain ⟨B, G, rfl, ol, en2⟩ := en1.popL l1
  refine op I1 H1 vs B ol (List.nodup_append.mp en1.nd).1 en1.sub Q fun I2 H2 w B2 st2 o2 nd2 sub2 => ?_
  obtain ⟨en3, st3⟩ := en2.use en1.nd st2 o2 nd2 sub2
  exact k z Γ1 I2 H2 w _ hq (st1.trans st3) en3
theorem we_callB (hc : CallR X (.builtin id) wl) (hg : Gl X nm) (hm : X.mg nm = none) (hv : bootBuiltins nm = some (.builtin id)) (h : WA X (e :: es) Γ fun rs _ Γ1 => ∃ z, OpL X.tc wl rs z ∧ Ψ z Γ1)
    (hn : nm ≠ "__name__" := by decide) (hdb : (nm == ("__debug__" : Str)) = false := by decide) (he : starEach (e :: es) X.env = (false, eval e X.env) :: starEach es X.env := by rfl) (hpl : (backTo pos (starEach es X.env)).any (·.1) = false := by rfl) :
    WE X (.Call (.Name nm p) (e :: es) [] pos) Γ Ψ := fun I H σ F en Q k => ⟨_, pe_callB hc hg hm hv wpA_ok hn hdb he hpl, h I H σ F en _ fun _ _ _ _ _ _ _ h1 l1 _ _ st en1 => let ⟨_, op, hq⟩ := h1; call_end op hq l1 st en1 k⟩
theorem we_callTy {Ty : String} (hc : CallR X (.type Ty) wl) (hg : Gl X nm) (hm : X.mg nm = none) (hv : bootBuiltins nm = some (.type Ty)) (h : WA X (e :: es) Γ fun rs _ Γ1 => ∃ z, OpL X.tc wl rs z ∧ Ψ z Γ1)
    (hn : nm ≠ "__name__" := by decide) (hdb : (nm == ("__debug__" : Str)) = false := by decide) (he : starEach (e :: es) X.env = (false, eval e X.env) :: starEach es X.env := by rfl) (hpl : (backTo pos (starEach es X.env)).any (·.1) = false := by rfl) :
    WE X (.Call (.Name nm p) (e :: es) [] pos) Γ Ψ := fun I H σ F en Q k => ⟨_, pe_callTy hc hg hm hv wpA_ok hn hdb he hpl, h I H σ F en _ fun _ _ _ _ _ _ _ h1 l1 _ _ st en1 => let ⟨_, op, hq⟩ := h1; call_end op hq l1 st en1 k⟩
/-- one argument of one answer -/
theorem xe_callB1 (hc : CallR X (.builtin id) wl) (q : OpL X.tc wl [x] z) (hg : Gl X nm) (hm : X.mg nm = none) (hv : bootBuiltins nm = some (.builtin id)) (h : XE X e Γ x Γ1)
    (hn : nm ≠ "__name__" := by decide) (hdb : (nm == ("__debug__" : Str)) = false := by decide) (he : starEach [e] X.env = (false, eval e X.env) :: starEach [] X.env := by rfl) (hpl : (backTo pos (starEach [] X.env)).any (·.1) = false := by rfl) :
    XE X (.Call (.Name nm p) [e] [] pos) Γ z Γ1 := fun _ hq => we_callB hc hg hm hv (wa_cons (h _ (wa_nil ⟨z, q, hq⟩)) he) hn hdb he hpl
theorem xe_callB2 (hc : CallR X (.builtin id) wl) (q : OpL X.tc wl [x, y] z) (hg : Gl X nm) (hm : X.mg nm = none) (hv : bootBuiltins nm = some (.builtin id)) (h : XE X a Γ x Γ1) (h2 : XE X b Γ1 y Γ2)
    (hn : nm ≠ "__name__" := by decide) (hdb : (nm == ("__debug__" : Str)) = false := by decide) (he : starEach [a, b] X.env = (false, eval a X.env) :: starEach [b] X.env := by rfl) (he2 : starEach [b] X.env = (false, eval b X.env) :: starEach [] X.env := by rfl) (hpl : (backTo pos (starEach [b] X.env)).any (·.1) = false := by rfl) :
    XE X (.Call (.Name nm p) [a, b] [] pos) Γ z Γ2 := fun _ hq => we_callB hc hg hm hv (wa_cons (h _ (wa_cons (h2 _ (wa_nil ⟨z, q, hq⟩)) he2)) he) hn hdb he hpl
theorem xe_callTy1 {Ty : String} (hc : CallR X (.type Ty) wl) (q : OpL X.tc wl [x] z) (hg : Gl X nm) (hm : X.mg nm = none) (hv : bootBuiltins nm = some (.type Ty)) (h : XE X e Γ x Γ1)
    (hn : nm ≠ "__name__" := by decide) (hdb : (nm == ("__debug__" : Str)) = false := by decide) (he : starEach [e] X.env = (false, eval e X.env) :: starEach [] X.env := by rfl) (hpl : (backTo pos (starEach [] X.env)).any (·.1) = false := by rfl) :
    XE X (.Call (.Name nm p) [e] [] pos) Γ z Γ1 := fun _ hq => we_callTy hc hg hm hv (wa_cons (h _ (wa_nil ⟨z, q, hq⟩)) he) hn hdb he hpl

/-! ### calls of defs -/
theorem call_fin {sp : SpD} {I H I1 H1 : Hp} {σ : L2.St} {F F1 : List Addr} {Q : VK} {rs : List OD} {refs : List (Option Nat)} {vs : List V} (h1 : sp rs fun r as' => Ψ r (putBack refs as' Γ1)) (l1 : vs.length = rs.length) (rk : RefsOk refs vs σ)
    (st1 : Step I H F I1 H1 F1) (en1 : EnvF X.tc I1 H1 (vs.map some ++ σ) (rs.map some ++ Γ1) F1)
    (k : ∀ (r : OD) (Γ' : Sl) (I' H' : Hp) (v : V) (F' : List Addr), Ψ r Γ' → Step I H F I' H' F' → EnvF X.tc I' H' (some v :: σ) (some r :: Γ') F' → Q v H') : mkSp X.tc sp vs H1 Q E0 := by
  obtain ⟨B, G, rfl, ol, en2⟩ := en1.popL l1
  have hd := List.nodup_append.mp en1.nd
  refine ⟨I1, rs, B, _, ol, hd.1, en1.sub, h1, fun r as' I2 H2 v B2 hΨ st2 o2 nd2 sub2 => ?_⟩
  have kp : ∀ b ∈ G, H2 b = H1 b ∧ I2 b = none ∧ b ∉ B2 := fun b hb => by
    obtain ⟨⟨ob, h3⟩, h4⟩ := en2.env.cells b hb
    obtain ⟨h5, h6, h7⟩ := st2.oth b ob h3 h4 fun q => hd.2.2 b q b hb rfl
    exact ⟨h5.trans h3.symm, h6, h7⟩
  have en3 : EnvF X.tc I2 H2 σ Γ1 G := ⟨en2.env.frame st2.inc fun b hb => ⟨(kp b hb).1, (kp b hb).2.1⟩, hd.2.1, sub2⟩
  cases o2 with
  | cons orr oas =>
    rename_i Br Ba
    have ndB := List.nodup_append.mp nd2
    have nd4 : (Ba ++ G).Nodup := List.nodup_append.mpr ⟨ndB.2.1, hd.2.1, fun x hx y hy q => by
      subst q
      exact (kp x hy).2.2 (List.mem_append_right _ hx)⟩
    obtain ⟨F', en5, mem⟩ := putBack_env oas rk en3 nd4
    refine k r _ I2 H2 v (Br ++ F') hΨ (st1.trans ⟨st2.inc, fun b ob e i n => ?_⟩) ⟨.cons orr en5.env, List.nodup_append.mpr ⟨ndB.1, en5.nd, fun x hx y hy q => ?_⟩, sub2⟩
    · rw [List.mem_append, not_or] at n
      obtain ⟨h3, h4, h5⟩ := st2.oth b ob e i n.1
      rw [List.mem_append, not_or] at h5
      exact ⟨h3, h4, fun q => (List.mem_append.mp q).elim h5.1 fun q => (mem b q).elim h5.2 n.2⟩
    · subst q
      rcases mem x hy with z | z
      · exact ndB.2.2 x hx x z rfl
      · exact (kp x z).2.2 (List.mem_append_left _ hx)
variable {kk : Nat} {f : Addr} {fd : FuncData} {ps : List Str} {sp : SpD}
theorem we_call (G : FnG X.prog X.w X.K X.mg X.base CX0 kk f fd ps (mkSp X.tc sp)) (hr : Room kk X.A) (hgd : X.A.guards = some []) (hg : Gl X nm) (hm : X.mg nm = some (.ref f)) (hk : PySem.W.keepIn X.K (.ref f) = true) (hb : Binds X.K fd ps [])
    (h : WA X (e :: es) Γ fun rs refs Γ1 => sp rs fun r as' => Ψ r (putBack refs as' Γ1)) (hdb : (nm == ("__debug__" : Str)) = false := by decide) (he : starEach (e :: es) X.env = (false, eval e X.env) :: starEach es X.env := by rfl)
    (hpl : (backTo pos (starEach es X.env)).any (·.1) = false := by rfl) : WE X (.Call (.Name nm p) (e :: es) [] pos) Γ Ψ := fun I H σ F en Q k =>
  ⟨_, pe_callG G hr hgd hg hm hk hb pass0 wpA_ok hdb he hpl, h I H σ F en _ fun rs refs Γ1 I1 H1 vs F1 h1 l1 l2 rk st en1 => by rw [List.append_nil]; exact call_fin h1 l1 rk st en1 k⟩
theorem we_call0 (G : FnG X.prog X.w X.K X.mg X.base CX0 kk f fd ps (mkSp X.tc sp)) (hr : Room kk X.A) (hgd : X.A.guards = some []) (hg : Gl X nm) (hm : X.mg nm = some (.ref f)) (hk : PySem.W.keepIn X.K (.ref f) = true) (hb : Binds X.K fd ps [])
    (h : sp [] fun r _ => Ψ r Γ) (hdb : (nm == ("__debug__" : Str)) = false := by decide) : WE X (.Call (.Name nm p) [] [] pos) Γ Ψ := fun I H σ F en Q k =>
  ⟨_, pe_callG0 G hr hgd hg hm hk hb pass0 hdb, call_fin (vs := []) (rs := []) (refs := []) (Γ1 := Γ) (by
    have e : (fun (r : OD) (as' : List OD) => Ψ r (putBack [] as' Γ)) = fun r _ => Ψ r Γ := by
      funext r as'
      cases as' <;> rfl
    rw [e]
    exact h) rfl (fun k i e => by simp at e) .refl en k⟩

/-! ### displays -/
/-- an operation that lays one frozen tuple -/
theorem opl_tup {T : TC} {ds : List PyData} (hl : ds.length ≤ sizeLine) : OpL T (fun xs H Q => xs.length ≤ sizeLine ∧ ∀ p, H p = none → Q (.ref p) (upd H p (.tup xs))) (ds.map .da) (.da (.tuple ds)) := by
  intro I H vs B o nd sub Q k
  obtain ⟨rfl, r⟩ := ownL_da o
  refine ⟨by rw [r.length]; exact hl, fun p hp => k (upd I p (.tup vs)) _ _ [] (step_frz sub hp) (.da (.tup (SqT.of upd_same) (r.mono (upd_up (sub.free hp))))) List.nodup_nil (upd_both sub)⟩
theorem opl_lst {T : TC} {ds : List PyData} (hl : ds.length ≤ sizeLine) : OpL T (fun xs H Q => xs.length ≤ sizeLine ∧ ∀ p, H p = none → Q (.ref p) (upd H p (.lst xs))) (ds.map .da) (.ll ds) := by
  intro I H vs B o nd sub Q k
  obtain ⟨rfl, r⟩ := ownL_da o
  exact ⟨by rw [r.length]; exact hl, fun p hp => k I _ _ [p] (step_new hp) (.ll upd_same (sub.free hp) r) (by simp) (upd_sub sub hp)⟩
theorem opl_ls {T : TC} {xs : List OD} (hl : xs.length ≤ sizeLine) : OpL T (fun xs H Q => xs.length ≤ sizeLine ∧ ∀ p, H p = none → Q (.ref p) (upd H p (.lst xs))) xs (.ls xs) := by
  intro I H vs B o nd sub Q k
  refine ⟨by rw [o.length]; exact hl, fun p hp => k I _ _ (p :: B) (step_new hp) (.ls upd_same (sub.free hp) (o.frame (Same.refl I) fun b hb => ?_)) (List.nodup_cons.mpr ⟨fun hb => ?_, nd⟩) (upd_sub sub hp)⟩
  · obtain ⟨⟨ob, h1⟩, h2⟩ := o.cells b hb
    exact ⟨upd_ne (ne_of_none h1 hp), h2⟩
  · obtain ⟨⟨ob, h1⟩, _⟩ := o.cells p hb
    rw [hp] at h1
    cases h1
theorem we_tup {x1} (h : WA X es Γ fun rs _ Γ1 => ∃ ds, rs = ds.map .da ∧ ds.length ≤ sizeLine ∧ Ψ (.da (.tuple ds)) Γ1) : WE X (.Tuple es x1 pos) Γ Ψ := fun I H σ F en Q k =>
  ⟨_, pe_tup wpA_ok, h I H σ F en _ fun _ _ _ _ _ _ _ h1 l1 _ _ st en1 => by
    obtain ⟨ds, rfl, hl, hq⟩ := h1
    exact call_end (opl_tup hl) hq l1 st en1 k⟩
theorem we_lst (h : WA X es Γ fun rs _ Γ1 => ∃ ds, rs = ds.map .da ∧ ds.length ≤ sizeLine ∧ Ψ (.ll ds) Γ1) : WE X (.List es pos) Γ Ψ := fun I H σ F en Q k =>
  ⟨_, pe_lst wpA_ok, h I H σ F en _ fun _ _ _ _ _ _ _ h1 l1 _ _ st en1 => by
    obtain ⟨ds, rfl, hl, hq⟩ := h1
    exact call_end (opl_lst hl) hq l1 st en1 k⟩
theorem we_ls (h : WA X es Γ fun rs _ Γ1 => rs.length ≤ sizeLine ∧ Ψ (.ls rs) Γ1) : WE X (.List es pos) Γ Ψ := fun I H σ F en Q k =>
  ⟨_, pe_lst wpA_ok, h I H σ F en _ fun _ _ _ _ _ _ _ h1 l1 _ _ st en1 => by
    obtain ⟨hl, hq⟩ := h1
    exact call_end (opl_ls hl) hq l1 st en1 k⟩
/-- data, one after another -/
inductive XD (X : Cx) : List Expr → Sl → List PyData → Sl → Prop
  | nil {Γ : Sl} : XD X [] Γ [] Γ
  | cons {e : Expr} {es : List Expr} {Γ Γ1 Γ2 : Sl} {d : PyData} {ds : List PyData} : XE X e Γ (.da d) Γ1 → XD X es Γ1 ds Γ2 → XD X (e :: es) Γ (d :: ds) Γ2
theorem XD.wa {ds : List PyData} (h : XD X es Γ ds Γ1) : ∀ {Ψa : List OD → List (Option Nat) → Sl → Prop}, (∀ refs, Ψa (ds.map .da) refs Γ1) → (hs : ∀ (e : Expr) (r : List Expr), (e :: r) <:+ es → starEach (e :: r) X.env = (false, eval e X.env) :: starEach r X.env) → WA X es Γ Ψa := by
  induction h with
  | nil => exact fun hq _ => wa_nil (hq [])
  | cons h r ih => exact fun hq hs => wa_cons (h _ (ih (fun refs => hq (none :: refs)) fun e r q => hs e r (q.trans (List.suffix_cons _ _)))) (hs _ _ (List.suffix_refl _))
theorem xe_tup1 {d : PyData} {x1} (h : XE X a Γ (.da d) Γ1) (hs : starEach [a] X.env = (false, eval a X.env) :: starEach [] X.env := by rfl) : XE X (.Tuple [a] x1 pos) Γ (.da (.tuple [d])) Γ1 :=
  fun _ hq => we_tup (wa_cons (h _ (wa_nil ⟨[d], rfl, by show 1 ≤ sizeLine; decide, hq⟩)) hs)
theorem xe_tup2 {d d' : PyData} {x1} (h : XE X a Γ (.da d) Γ1) (h2 : XE X b Γ1 (.da d') Γ2) (hs : starEach [a, b] X.env = (false, eval a X.env) :: starEach [b] X.env := by rfl) (hs2 : starEach [b] X.env = (false, eval b X.env) :: starEach [] X.env := by rfl) :
    XE X (.Tuple [a, b] x1 pos) Γ (.da (.tuple [d, d'])) Γ2 := fun _ hq => we_tup (wa_cons (h _ (wa_cons (h2 _ (wa_nil ⟨[d, d'], rfl, by show 2 ≤ sizeLine; decide, hq⟩)) hs2)) hs)
theorem xe_tup0 {x1} : XE X (.Tuple [] x1 pos) Γ (.da (.tuple [])) Γ := fun _ hq => we_tup (wa_nil ⟨[], rfl, Nat.zero_le _, hq⟩)
theorem xe_lst0 : XE X (.List [] pos) Γ (.ll []) Γ := fun _ hq => we_lst (wa_nil ⟨[], rfl, Nat.zero_le _, hq⟩)

/-! ### freezing -/
mutual
inductive Frz : OD → PyData → Prop
  | da {d : PyData} : Frz (.da d) d
  | ll {ds : List PyData} : Frz (.ll ds) (.list ds)
  | ls {xs : List OD} {ds : List PyData} : FrzL xs ds → Frz (.ls xs) (.list ds)
inductive FrzL : List OD → List PyData → Prop
  | nil : FrzL [] []
  | cons {x : OD} {xs : List OD} {d : PyData} {ds : List PyData} : Frz x d → FrzL xs ds → FrzL (x :: xs) (d :: ds)
end
mutual
theorem Frz.rp {T : TC} {I I' H : Hp} (s : Same I I') : ∀ {x : OD} {d : PyData} {v : V} {B : List Addr}, Frz x d → Own T I H v x B → (∀ b ∈ B, I' b = H b) → Rp T I' v d
  | _, _, _, _, .da, .da h, _ => h.mono s
  | _, _, _, _, .ll, .ll h _ r, k => .lst (SqL.of ((k _ (List.mem_singleton.mpr rfl)).trans h)) (r.mono s)
  | _, _, _, _, .ls f, .ls h _ r, k => .lst (SqL.of ((k _ List.mem_cons_self).trans h)) (FrzL.rp s f r fun b hb => k b (List.mem_cons_of_mem _ hb))
theorem FrzL.rp {T : TC} {I I' H : Hp} (s : Same I I') : ∀ {xs : List OD} {ds : List PyData} {vs : List V} {B : List Addr}, FrzL xs ds → OwnL T I H vs xs B → (∀ b ∈ B, I' b = H b) → RpL T I' vs ds
  | _, _, _, _, .nil, .nil, _ => .nil
  | _, _, _, _, .cons f g, .cons o r, k => .cons (f.rp s o fun b hb => k b (List.mem_append_left _ hb)) (FrzL.rp s g r fun b hb => k b (List.mem_append_right _ hb))
end
/-- the frozen heap with the cells B frozen too -/
def frzH (I H : Hp) (B : List Addr) : Hp := fun b => if b ∈ B then H b else I b
theorem frzH_inc {I H : Hp} {B : List Addr} (h : ∀ b ∈ B, I b = none) : Same I (frzH I H B) := fun b o e => by
  unfold frzH
  by_cases hb : b ∈ B
  · rw [h b hb] at e
    cases e
  · rw [if_neg hb]
    exact e
theorem frzH_sub {I H : Hp} {B : List Addr} (s : Same I H) : Same (frzH I H B) H := fun b o e => by
  unfold frzH at e
  by_cases hb : b ∈ B
  · rw [if_pos hb] at e
    exact e
  · rw [if_neg hb] at e
    exact s b o e
theorem frzH_out {I H : Hp} {B : List Addr} {b : Addr} (hb : b ∉ B) : frzH I H B b = I b := if_neg hb
theorem frzH_in {I H : Hp} {B : List Addr} {b : Addr} (hb : b ∈ B) : frzH I H B b = H b := if_pos hb
/-- the value on top frozen -/
theorem EnvF.frz {T : TC} {I H : Hp} {σ : L2.St} {v : V} {d : PyData} {F : List Addr} (en : EnvF T I H (some v :: σ) (some x :: Γ) F) (f : Frz x d) : ∃ I' F', Step I H F I' H F' ∧ EnvF T I' H (some v :: σ) (some (.da d) :: Γ) F' := by
  obtain ⟨B, G, rfl, o, en', _⟩ := en.pop
  have hd := List.nodup_append.mp en.nd
  have c0 : ∀ b ∈ B, I b = none := fun b hb => (o.cells b hb).2
  have inc := frzH_inc (H := H) c0
  have nG : ∀ b ∈ G, frzH I H B b = none := fun b hb => by
    rw [frzH_out fun q => hd.2.2 b q b hb rfl]
    exact (en'.env.cells b hb).2
  refine ⟨frzH I H B, G, ⟨inc, fun b ob h1 h2 n => ?_⟩, ?_⟩
  · rw [List.mem_append, not_or] at n
    exact ⟨h1, by rw [frzH_out n.1]; exact h2, n.2⟩
  · have e2 : EnvF T (frzH I H B) H σ Γ G := ⟨en'.env.frame inc fun b hb => ⟨rfl, nG b hb⟩, hd.2.1, frzH_sub en.sub⟩
    exact e2.da (f.rp inc o fun b hb => frzH_in hb)
theorem we_frz (h : WE X e Γ fun r Γ1 => ∃ d, Frz r d ∧ Ψ (.da d) Γ1) : WE X e Γ Ψ := fun I H σ F en Q k => h I H σ F en Q fun r Γ1 I1 H1 v F1 ⟨d, f, hq⟩ st en1 => by
  obtain ⟨I2, F2, st2, en2⟩ := en1.frz f
  exact k _ Γ1 I2 H1 v F2 hq (st.trans st2) en2
theorem xe_frz {ds : List PyData} (h : XE X e Γ (.ll ds) Γ1) : XE X e Γ (.da (.list ds)) Γ1 := fun _ hq => we_frz (h _ ⟨_, .ll, hq⟩)
/-- an own thing read out of its slot -/
theorem xe_move (i : Nat) {x : OD} (hx : Γ[i]? = some (some x) := by rfl) (hN : X.N[i]? = some nm := by rfl) (hv : Vis X.env.scope nm := by first | exact Or.inl rfl | exact Or.inr (Or.inl rfl) | exact Or.inr (Or.inr rfl))
    (h1 : (nm == ("__debug__" : Str)) = false := by decide) (h2 : (nm == ("__classdict__" : Str)) = false := by decide) : XE X (.Name nm p) Γ x (Γ.set i none) := fun Ψ hq I H σ F en Q k => by
  obtain ⟨v, B, G, e1, o, en', nd, mem⟩ := en.take hx
  exact ⟨_, pe_var hN hv h1 h2, v, e1, k x _ I H v (B ++ G) hq (Step.less fun b hb => (mem b).mpr (List.mem_append.mp hb)) ⟨.cons o en'.env, nd, en.sub⟩⟩
/-- an own list in a slot, read as frozen from now on -/
theorem EnvF.frzAt {T : TC} {I H : Hp} {σ : L2.St} {i : Nat} {d : PyData} {F : List Addr} (en : EnvF T I H σ Γ F) (hx : Γ[i]? = some (some x)) (f : Frz x d) : ∃ I' F', Step I H F I' H F' ∧ EnvF T I' H σ (Γ.set i (some (.da d))) F' := by
  obtain ⟨v, B, G, e1, o, en', nd, mem⟩ := en.take hx
  have en1 : EnvF T I H (some v :: σ) (some x :: Γ.set i none) (B ++ G) := ⟨.cons o en'.env, nd, en.sub⟩
  obtain ⟨I', F', st, en2⟩ := en1.frz f
  obtain ⟨B2, G2, rfl, o2, en3, _⟩ := en2.pop
  cases o2 with
  | da h =>
    obtain ⟨F3, en4, nd4, m4⟩ := en3.into (B := []) (x := .da d) e1 (.da h) en3.nd
    rw [List.set_set] at en4
    exact ⟨I', F3, st.of_mem (fun b hb => (mem b).mpr (List.mem_append.mp hb)) fun b hb => (m4 b hb).elim (fun q => absurd q (by simp)) id, en4⟩
end
end TL

/-! TL6: statements. -/
namespace TL
open PySem PySem.Spec PyProof.Rows L2

section
variable {X : Cx} {e a b c o : Expr} {es : List Expr} {ss rest A B : List Stmt} {st : Stmt} {Γ Γ' Γ1 Γ2 : Sl} {Ψ : OD → Sl → Prop} {Φ : Out → Prop} {Φt : Bool → Sl → Prop} {pos p : Pos} {r x y z : OD} {k k' : Bool} {nm : Str}

/-- from the block's rest -/
theorem seq_rest {I H : Hp} {F : List Addr} {D : Ends} {t : TS} {σ : L2.St} (h : PS X st t) (q : t { D with nx := wpSs X rest D } σ H) : wpSs X (st :: rest) D σ H := ⟨_, pss_cons h wpSs_ok, q⟩
theorem ws_nil (h : Φ (.nx Γ)) : WSs X [] Γ Φ := fun I H σ F en D e => ⟨_, pss_nil, e.nx h .refl en⟩
theorem ws_pass (h : WSs X rest Γ Φ) : WSs X (.Pass pos :: rest) Γ Φ := fun I H σ F en D e => ⟨_, pss_cons ps_pass wpSs_ok, h I H σ F en D e⟩
theorem ws_break (h : Φ (.bk Γ)) : WSs X (.Break pos :: rest) Γ Φ := fun I H σ F en D e => ⟨_, pss_cons ps_break wpSs_ok, e.bk h .refl en⟩
theorem ws_continue (h : Φ (.ct Γ)) : WSs X (.Continue pos :: rest) Γ Φ := fun I H σ F en D e => ⟨_, pss_cons ps_continue wpSs_ok, e.ct h .refl en⟩
theorem ws_expr (h : WE X e Γ fun _ Γ1 => WSs X rest Γ1 Φ) (hs : swapsWith e none pos.line X.env = pure false := by rfl) : WSs X (.Expr e pos :: rest) Γ Φ := fun I H σ F en D ek =>
  ⟨_, pss_cons (ps_expr wpE_ok hs) wpSs_ok, h I H σ F en _ fun r Γ1 I1 H1 v F1 h1 st1 en1 => by
    obtain ⟨B, G, rfl, o1, en2, _⟩ := en1.pop
    have st2 : Step I H F I1 H1 G := step_sub st1 fun b hb => List.mem_append_right _ hb
    exact h1 I1 H1 σ G en2 D (ek.step st2)⟩
theorem ws_ret (h : WE X e Γ fun r Γ1 => Φ (.rt r Γ1)) : WSs X (.Return (some e) pos :: rest) Γ Φ := fun I H σ F en D ek =>
  ⟨_, pss_cons (ps_ret wpE_ok) wpSs_ok, h I H σ F en _ fun r Γ1 I1 H1 v F1 h1 st1 en1 => ek.rt h1 st1 en1⟩
theorem ws_retN (h : Φ (.rt (.da .none) Γ)) : WSs X (.Return none pos :: rest) Γ Φ := fun I H σ F en D ek =>
  ⟨_, pss_cons ps_retN wpSs_ok, ek.rt h .refl (en.da .non)⟩
theorem xs_ret (h : XE X e Γ r Γ1) (q : Φ (.rt r Γ1)) : WSs X (.Return (some e) pos :: rest) Γ Φ := ws_ret (h _ q)

/-! ### names stored -/
theorem EnvF.store {T : TC} {I H : Hp} {σ : L2.St} {i : Nat} {v : V} {F : List Addr} (en : EnvF T I H (some v :: σ) (some r :: Γ) F) (hi : i < Γ.length) : ∃ F', EnvF T I H (σ.set i (some v)) (Γ.set i (some r)) F' ∧ ∀ b ∈ F', b ∈ F := by
  obtain ⟨B, G, rfl, o, en', _⟩ := en.pop
  obtain ⟨A, B0, C, rfl, kk, _, _⟩ := en'.env.put hi
  have q := kk (Same.refl I) (H' := H) (v' := v) (y := r) (B' := B) (fun b hb => ⟨rfl, (en'.env.cells b (by
    rcases List.mem_append.mp hb with hb | hb
    · exact List.mem_append_left _ hb
    · exact List.mem_append_right _ (List.mem_append_right _ hb))).2⟩) o
  refine ⟨_, ⟨q, nd_mid en.nd, en.sub⟩, fun b hb => ?_⟩
  rcases List.mem_append.mp hb with hb | hb
  · exact List.mem_append_right _ (List.mem_append_left _ hb)
  · rcases List.mem_append.mp hb with hb | hb
    · exact List.mem_append_left _ hb
    · exact List.mem_append_right _ (List.mem_append_right _ (List.mem_append_right _ hb))
theorem EnvF.len_eq {T : TC} {I H : Hp} {σ : L2.St} {F F1 : List Addr} {I1 H1 : Hp} (en : EnvF T I H σ Γ F) (en1 : EnvF T I1 H1 σ Γ1 F1) : Γ1.length = Γ.length := en1.env.length.symm.trans en.env.length
theorem EnvF.len_eq1 {T : TC} {I H : Hp} {σ : L2.St} {v : V} {F F1 : List Addr} {I1 H1 : Hp} (en : EnvF T I H σ Γ F) (en1 : EnvF T I1 H1 (some v :: σ) (some r :: Γ1) F1) : Γ1.length = Γ.length := by
  have q := en1.env.length
  have q2 := en.env.length
  simp at q
  omega
theorem ws_set (i : Nat) (hN : X.N.Nodup) (h : WE X e Γ fun r Γ1 => WSs X rest (Γ1.set i (some r)) Φ) (hi : X.N[i]? = some nm := by rfl) (hx : Loc X.env.scope nm := by first | exact Or.inl rfl | exact Or.inr rfl)
    (hl : Nat.blt i Γ.length = true := by rfl) (hs : swapsWith e (some (.Name nm p)) pos.line X.env = pure false := by rfl) (hf : X.fn nm = true ∨ X.env.scope.names.lookup nm = some .local := by first | exact .inl rfl | exact .inr rfl) : WSs X (.Assign [.Name nm p] e pos :: rest) Γ Φ :=
  fun I H σ F en D ek => ⟨_, pss_cons (ps_set hN hi hx wpE_ok hs hf) wpSs_ok, h I H σ F en _ fun r Γ1 I1 H1 v F1 h1 st1 en1 => by
    have hl1 : i < Γ1.length := by rw [en.len_eq1 en1]; exact Nat.le_of_ble_eq_true hl
    obtain ⟨F2, en2, m2⟩ := en1.store hl1
    exact h1 I1 H1 _ F2 en2 D (ek.step (step_sub st1 m2))⟩
theorem xs_set (i : Nat) (hN : X.N.Nodup) (h : XE X e Γ r Γ1) (q : WSs X rest (Γ1.set i (some r)) Φ) (hi : X.N[i]? = some nm := by rfl) (hx : Loc X.env.scope nm := by first | exact Or.inl rfl | exact Or.inr rfl)
    (hl : Nat.blt i Γ.length = true := by rfl) (hs : swapsWith e (some (.Name nm p)) pos.line X.env = pure false := by rfl) (hf : X.fn nm = true ∨ X.env.scope.names.lookup nm = some .local := by first | exact .inl rfl | exact .inr rfl) : WSs X (.Assign [.Name nm p] e pos :: rest) Γ Φ :=
  ws_set i hN (h _ q) hi hx hl hs hf

/-! ### if -/
/-- what a branch is to come to: its end goes on with the rest -/
def thn2 (X : Cx) (rest : List Stmt) (Φ : Out → Prop) : Out → Prop
  | .nx Γ => WSs X rest Γ Φ
  | o => Φ o
theorem ends_thn {I H : Hp} {F : List Addr} {D : Ends} (ek : EndsOk X.tc I H F Φ D) : EndsOk X.tc I H F (thn2 X rest Φ) { D with nx := wpSs X rest D } :=
  ⟨fun a st en => a _ _ _ _ en D (ek.step st), fun a st en => ek.rt a st en, fun a st en => ek.bk a st en, fun a st en => ek.ct a st en⟩
theorem ws_if (h : WT X c Γ fun k Γ1 => (k = true → WSs X A Γ1 (thn2 X rest Φ)) ∧ (k = false → WSs X B Γ1 (thn2 X rest Φ))) : WSs X (.If c A B pos :: rest) Γ Φ := fun I H σ F en D ek =>
  ⟨_, pss_cons (ps_if wpT_ok wpSs_ok wpSs_ok) wpSs_ok, h I H σ F en _ fun k Γ1 I1 H1 F1 h1 st1 en1 => by
    have ek1 := ends_thn (rest := rest) (ek.step st1)
    cases k with
    | true => exact h1.1 rfl I1 H1 σ F1 en1 _ ek1
    | false => exact h1.2 rfl I1 H1 σ F1 en1 _ ek1⟩
theorem xs_if (h : XT X c Γ k Γ1) (h1 : k = true → WSs X A Γ1 (thn2 X rest Φ)) (h2 : k = false → WSs X B Γ1 (thn2 X rest Φ)) : WSs X (.If c A B pos :: rest) Γ Φ := ws_if (h _ ⟨h1, h2⟩)

/-! ### ghost steps -/
theorem ws_frz (i : Nat) {d : PyData} (f : Frz x d) (h : WSs X ss (Γ.set i (some (.da d))) Φ) (hx : Γ[i]? = some (some x) := by rfl) : WSs X ss Γ Φ := fun I H σ F en D ek => by
  obtain ⟨I', F', st, en'⟩ := en.frzAt hx f
  exact h I' H σ F' en' D (ek.step st)
theorem ws_drop (i : Nat) (h : WSs X ss (Γ.set i none) Φ) : WSs X ss Γ Φ := fun I H σ F en D ek => by
  by_cases hi : i < Γ.length
  · obtain ⟨A, B, C, rfl, _, _, h6⟩ := en.env.put hi
    have sl : (A ++ C).Sublist (A ++ (B ++ C)) := (List.Sublist.refl A).append (List.sublist_append_right B C)
    exact h I H σ _ ⟨h6, en.nd.sublist sl, en.sub⟩ D (ek.step (Step.less fun b hb => sl.subset hb))
  · have e : Γ.set i none = Γ := by rw [List.set_eq_of_length_le (by omega)]
    rw [e] at h
    exact h I H σ F en D ek
/-- a slot seen otherwise -/
theorem ws_conv (i : Nat) (cv : ∀ (I H : Hp) (v : V) (B : List Addr), Own X.tc I H v x B → Own X.tc I H v y B) (h : WSs X ss (Γ.set i (some y)) Φ) (hx : Γ[i]? = some (some x) := by rfl) : WSs X ss Γ Φ := fun I H σ F en D ek => by
  obtain ⟨v, B, G, e1, o, en', nd, mem⟩ := en.take hx
  obtain ⟨F', en2, nd2, m2⟩ := en'.into e1 (cv _ _ _ _ o) nd
  rw [List.set_set] at en2
  exact h I H σ F' en2 D (ek.step (Step.less fun b hb => (mem b).mpr (m2 b hb)))

/-! ### loops over data -/
/-- J gives ds, one after another, while the frozen heap is at least I -/
structure IsIt (T : TC) (J : It) (ds : List PyData) (I : Hp) : Prop where
  go : ∀ (i : Nat) (I' H : Hp), Same I I' → Same I' H → i < ds.length → J.go i H
  stop : ∀ (I' H : Hp), Same I I' → Same I' H → J.stop ds.length H
  yld : ∀ (i : Nat) (I' H : Hp) (v : V) (H' : Hp), Same I I' → Same I' H → i < ds.length → J.yld i H v H' → ∃ I'' d, ds[i]? = some d ∧ Step I' H [] I'' H' [] ∧ Same I'' H' ∧ Rp T I'' v d
def wpI (X : Cx) (tg it : Expr) : TI := fun σ H R => ∃ t, PI X tg it t ∧ t σ H R
theorem wpI_ok {tg it : Expr} : PI X tg it (wpI X tg it) := ⟨fun pins s σ H Q I ⟨_, h, q⟩ => h.run pins s σ H Q I q⟩
def WI (X : Cx) (tg it : Expr) (Γ : Sl) (Ψ : List PyData → Sl → Prop) : Prop := ∀ (I H : Hp) (σ : L2.St) (F : List Addr), EnvF X.tc I H σ Γ F → ∀ R : It → Hp → Prop,
  (∀ (ds : List PyData) (Γ' : Sl) (I' H' : Hp) (F' : List Addr) (J : It), Ψ ds Γ' → Step I H F I' H' F' → EnvF X.tc I' H' σ Γ' F' → IsIt X.tc J ds I' → R J H') → wpI X tg it σ H R
def XI (X : Cx) (tg it : Expr) (Γ : Sl) (ds : List PyData) (Γ' : Sl) : Prop := ∀ Ψ : List PyData → Sl → Prop, Ψ ds Γ' → WI X tg it Γ Ψ
/-- targets: a name, a tuple of targets -/
def wpG (X : Cx) (tg : Expr) : TG := fun v σ H Q => ∃ t, PG X tg t ∧ t v σ H Q
theorem wpG_ok {tg : Expr} : PG X tg (wpG X tg) := ⟨fun pins s σ H v u Q I r ⟨_, h, q⟩ => h.run pins s σ H v u Q I r q⟩
def WG (X : Cx) (tg : Expr) (r : OD) (Γ : Sl) (Ψ : Sl → Prop) : Prop := ∀ (I H : Hp) (σ : L2.St) (F : List Addr) (v : V), EnvF X.tc I H (some v :: σ) (some r :: Γ) F → ∀ Q : L2.St → Hp → Prop,
  (∀ (Γ' : Sl) (I' H' : Hp) (σ' : L2.St) (F' : List Addr), Ψ Γ' → Step I H F I' H' F' → EnvF X.tc I' H' σ' Γ' F' → Q σ' H') → wpG X tg v σ H Q
theorem wg_name (i : Nat) {Ψ : Sl → Prop} (hN : X.N.Nodup) (h : Ψ (Γ.set i (some r))) (hi : X.N[i]? = some nm := by rfl) (hx : Loc X.env.scope nm := by first | exact Or.inl rfl | exact Or.inr rfl) (hl : Nat.blt i Γ.length = true := by rfl)
    (hf : X.fn nm = true ∨ X.env.scope.names.lookup nm = some .local := by first | exact .inl rfl | exact .inr rfl) : WG X (.Name nm p) r Γ Ψ := fun I H σ F v en Q k => by
  obtain ⟨F2, en2, m2⟩ := en.store (Nat.le_of_ble_eq_true hl)
  exact ⟨_, pg_name hN hi hx hf, k _ I H _ F2 h (Step.less m2) en2⟩
def loopΦ (J : Sl → Prop) (Φ : Out → Prop) : Out → Prop
  | .nx Γ => J Γ
  | .ct Γ => J Γ
  | .bk Γ => Φ (.nx Γ)
  | .rt r Γ => Φ (.rt r Γ)
theorem ws_for {tg it : Expr} {body : List Stmt} (J : List PyData → Nat → Sl → Prop) (hp : PassesOwn (model X.prog X.w) X.A X.env X.xe) (hc : X.calm = true)
    (hi : WI X tg it Γ fun ds Γ1 => J ds 0 Γ1 ∧ (∀ (n : Nat) (d : PyData) (Γ2 : Sl), ds[n]? = some d → J ds n Γ2 → WG X tg (.da d) Γ2 fun Γ3 => WSs X body Γ3 (loopΦ (J ds (n + 1)) (thn2 X rest Φ))) ∧ ∀ Γ2, J ds ds.length Γ2 → WSs X rest Γ2 Φ)
    (hs : ∀ x, foldedSetIterable it X.env x = pure x := by intro _; rfl) : WSs X (.For tg it body [] pos :: rest) Γ Φ := by
  intro I H σ F en D ek
  refine ⟨_, pss_cons (ps_for hp hc wpI_ok wpG_ok wpSs_ok hs) wpSs_ok, hi I H σ F en _ fun ds Γ1 I1 H1 F1 Jt h1 st1 en1 isit => ?_⟩
  obtain ⟨j0, turn, fin⟩ := h1
  refine ⟨fun n m σ' H' => m = ds.length - n ∧ n ≤ ds.length ∧ ∃ Γ2 I2 F2, J ds n Γ2 ∧ Step I1 H1 F1 I2 H' F2 ∧ EnvF X.tc I2 H' σ' Γ2 F2, ⟨_, rfl, Nat.zero_le _, Γ1, I1, F1, j0, .refl, en1⟩, ?_⟩
  rintro n m σ2 H2 ⟨rfl, hn, Γ2, I2, F2, jn, st2, en2⟩
  by_cases hlt : n < ds.length
  · refine .inr ⟨isit.go n I2 H2 st2.inc en2.sub hlt, fun σ' H' => ∃ Γ3 I3 F3, J ds (n + 1) Γ3 ∧ Step I1 H1 F1 I3 H' F3 ∧ EnvF X.tc I3 H' σ' Γ3 F3, fun σ' H' ⟨Γ3, I3, F3, j3, st3, en3⟩ => ⟨ds.length - (n + 1), by omega, rfl, hlt, Γ3, I3, F3, j3, st3, en3⟩, fun v H3 hy => ?_⟩
    obtain ⟨I3, d, hd, st3, sub3, hr⟩ := isit.yld n I2 H2 v H3 st2.inc en2.sub hlt hy
    obtain ⟨en3, st3'⟩ := en2.grow st3 sub3
    refine turn n d Γ2 hd jn I3 H3 σ2 F2 v (en3.da hr) _ fun Γ4 I4 H4 σ4 F4 h4 st4 en4 => ?_
    have st14 := (st2.trans st3').trans st4
    refine h4 I4 H4 σ4 F4 en4 _ ⟨fun a st en => ?_, fun a st en => ?_, fun a st en => ?_, fun a st en => ?_⟩
    · exact ⟨_, _, _, a, st14.trans st, en⟩
    · exact ek.rt a (st1.trans (st14.trans st)) en
    · exact a _ _ _ _ en D (ek.step (st1.trans (st14.trans st)))
    · exact ⟨_, _, _, a, st14.trans st, en⟩
  · have e : n = ds.length := by omega
    subst e
    exact .inl ⟨isit.stop I2 H2 st2.inc en2.sub, fin Γ2 jn I2 H2 σ2 F2 en2 D (ek.step (st1.trans st2))⟩

/-! ### while -/
theorem ws_while {body : List Stmt} (J : Sl → Prop) (μ : Sl → Nat) (hp : PassesOwn (model X.prog X.w) X.A X.env X.xe) (h0 : J Γ)
    (turn : ∀ Γ2, J Γ2 → WT X c Γ2 fun k Γ3 => (k = true → WSs X body Γ3 (loopΦ (fun Γ4 => J Γ4 ∧ μ Γ4 < μ Γ2) (thn2 X rest Φ))) ∧ (k = false → WSs X rest Γ3 Φ)) : WSs X (.While c body [] pos :: rest) Γ Φ := by
  intro I H σ F en D ek
  refine ⟨_, pss_cons (ps_while hp wpT_ok wpSs_ok) wpSs_ok, fun m σ' H' => ∃ Γ2 I2 F2, J Γ2 ∧ m = μ Γ2 ∧ Step I H F I2 H' F2 ∧ EnvF X.tc I2 H' σ' Γ2 F2, ⟨_, Γ, I, F, h0, rfl, .refl, en⟩, ?_⟩
  rintro m σ2 H2 ⟨Γ2, I2, F2, j2, rfl, st2, en2⟩
  refine turn Γ2 j2 I2 H2 σ2 F2 en2 _ fun k Γ3 I3 H3 F3 h3 st3 en3 => ?_
  cases k with
  | true =>
    refine ⟨fun σ' H' => ∃ Γ4 I4 F4, J Γ4 ∧ μ Γ4 < μ Γ2 ∧ Step I H F I4 H' F4 ∧ EnvF X.tc I4 H' σ' Γ4 F4, fun σ' H' ⟨Γ4, I4, F4, j4, lt, st4, en4⟩ => ⟨_, lt, Γ4, I4, F4, j4, rfl, st4, en4⟩, ?_⟩
    have st13 := st2.trans st3
    refine h3.1 rfl I3 H3 σ2 F3 en3 _ ⟨fun a st en => ?_, fun a st en => ?_, fun a st en => ?_, fun a st en => ?_⟩
    · exact ⟨_, _, _, a.1, a.2, st13.trans st, en⟩
    · exact ek.rt a (st13.trans st) en
    · exact a _ _ _ _ en D (ek.step (st13.trans st))
    · exact ⟨_, _, _, a.1, a.2, st13.trans st, en⟩
  | false => exact h3.2 rfl I3 H3 σ2 F3 en3 D (ek.step (st2.trans st3))
end
end TL

/-! TL7: own lists in slots: index, store, append, pop, len; built-ins by values. -/
namespace TL
open PySem PySem.Spec PyProof.Rows L2

/-- an own list of data, its value known or not -/
inductive VLL : OD → List PyData → (List PyData → OD) → Prop
  | ll {ds : List PyData} : VLL (.ll ds) ds .ll
  | pin {v : V} {ds : List PyData} : VLL (.pin v (.ll ds)) ds fun ds => .pin v (.ll ds)
theorem VLL.own {T : TC} {I H : Hp} {v : V} {B : List Addr} {x : OD} {ds : List PyData} {mk : List PyData → OD} (h : VLL x ds mk) (o : Own T I H v x B) :
    ∃ p vs, v = .ref p ∧ B = [p] ∧ H p = some (.lst vs) ∧ I p = none ∧ RpL T I vs ds ∧ ∀ (H' : Hp) (vs' : List V) (ds' : List PyData), H' p = some (.lst vs') → RpL T I vs' ds' → Own T I H' v (mk ds') [p] := by
  cases h with
  | ll => cases o with
    | ll h1 h2 h3 => exact ⟨_, _, rfl, rfl, h1, h2, h3, fun H' vs' ds' e r => .ll e h2 r⟩
  | pin => cases o with
    | pin o => cases o with
      | ll h1 h2 h3 => exact ⟨_, _, rfl, rfl, h1, h2, h3, fun H' vs' ds' e r => .pin (.ll e h2 r)⟩
section
variable {T : TC} {I H : Hp} {σ : L2.St} {Γ : Sl} {F : List Addr} {i : Nat} {x : OD} {ds : List PyData} {mk : List PyData → OD}
/-- the list in the i-th slot, and how it is changed -/
theorem EnvF.ll (en : EnvF T I H σ Γ F) (hx : Γ[i]? = some (some x)) (hv : VLL x ds mk) : ∃ p vs, σ[i]? = some (some (.ref p)) ∧ H p = some (.lst vs) ∧ RpL T I vs ds ∧
    ∀ (vs' : List V) (ds' : List PyData), RpL T I vs' ds' → ∃ F', EnvF T I (upd H p (.lst vs')) σ (Γ.set i (some (mk ds'))) F' ∧ Step I H F I (upd H p (.lst vs')) F' := by
  obtain ⟨v, B, G, e1, o, en', nd, mem⟩ := en.take hx
  obtain ⟨p, vs, rfl, rfl, h1, h2, h3, h4⟩ := hv.own o
  refine ⟨p, vs, e1, h1, h3, fun vs' ds' r => ?_⟩
  have np : p ∉ G := (List.nodup_cons.mp (show (p :: G).Nodup from nd)).1
  have en2 : EnvF T I (upd H p (.lst vs')) σ (Γ.set i none) G := ⟨en'.env.frame (Same.refl I) fun b hb => ⟨upd_ne fun q => np (q ▸ hb), (en'.env.cells b hb).2⟩, en'.nd, fun b u e => by
    rw [upd_ne fun q => by
      subst q
      rw [h2] at e
      cases e]
    exact en.sub b u e⟩
  obtain ⟨F', en3, nd3, m3⟩ := en2.into e1 (h4 _ vs' ds' upd_same r) nd
  rw [List.set_set] at en3
  exact ⟨F', en3, (step_upd (F := F) ((mem p).mpr (.inl (List.mem_singleton.mpr rfl)))).of_mem (fun b hb => hb) fun b hb => (mem b).mpr (m3 b hb)⟩
end

section
variable {X : Cx} {e a b c o : Expr} {es : List Expr} {rest : List Stmt} {Γ Γ' Γ1 Γ2 : Sl} {Ψ : OD → Sl → Prop} {Φ : Out → Prop} {Φt : Bool → Sl → Prop} {pos p apos : Pos} {r x y z : OD} {k k' : Bool} {nm : Str} {ds : List PyData} {mk : List PyData → OD} {d : PyData}

theorem atI_rp {T : TC} {I : Hp} {vs : List V} {ds : List PyData} {j : Int} {d : PyData} (r : RpL T I vs ds) (h : atI ds j = some d) : ∃ v, atI vs j = some v ∧ Rp T I v d := by
  unfold atI at h ⊢
  rw [← r.length] at h
  cases e : ixN vs.length j with
  | none =>
    rw [e] at h
    cases h
  | some n =>
    rw [e] at h
    exact r.get h
/-- xs[j], xs an own list in the i-th slot -/
theorem xe_ixll (i : Nat) {j : Int} (hb : XE X b Γ (.da (.int j)) Γ1) (hx : Γ[i]? = some (some x) := by rfl) (hx1 : Γ1[i]? = some (some x) := by rfl) (hv : VLL x ds mk := by first | exact .ll | exact .pin) (hd : atI ds j = some d := by rfl)
    (hs : PlainIx b := by exact fun _ _ => rfl) (hN : X.N[i]? = some nm := by rfl) (hvs : Vis X.env.scope nm := by first | exact Or.inl rfl | exact Or.inr (Or.inl rfl) | exact Or.inr (Or.inr rfl)) (h1 : (nm == ("__debug__" : Str)) = false := by decide) (h2 : (nm == ("__classdict__" : Str)) = false := by decide) :
    XE X (.Subscript (.Name nm p) b pos) Γ (.da d) Γ1 := fun Ψ hq I H σ F en Q kk => by
  obtain ⟨q, vs, e1, _, _, _⟩ := en.ll hx hv
  refine ⟨_, pe_ix ix_list (pe_var hN hvs h1 h2) wpE_ok hs, _, e1, hb (fun r Γ' => r = .da (.int j) ∧ Γ' = Γ1) ⟨rfl, rfl⟩ I H σ F en _ ?_⟩
  rintro _ _ I1 H1 u F1 ⟨rfl, rfl⟩ st1 en1
  obtain ⟨B, G, rfl, oo, en2, up⟩ := en1.pop
  cases oo with
  | da hh =>
    cases hh
    obtain ⟨q', vs', e1', h3, h4, _⟩ := en2.ll hx1 hv
    rw [e1] at e1'
    cases e1'
    obtain ⟨w, hw, rw'⟩ := atI_rp h4 hd
    exact ⟨q, vs', j, w, rfl, rfl, SqL.of h3, hw, kk _ _ I1 H1 w _ hq st1 (en2.da rw')⟩
/-- xs[j] = e -/
theorem ws_setll (i : Nat) {j : Int} {n : Nat} (h : WE X e Γ fun r Γ1 => ∃ d x ds mk, r = .da d ∧ Γ1[i]? = some (some x) ∧ VLL x ds mk ∧ ixN ds.length j = some n ∧ XE X b Γ1 (.da (.int j)) Γ1 ∧ WSs X rest (Γ1.set i (some (mk (ds.set n d)))) Φ)
    (hN : X.N[i]? = some nm := by rfl) (hvs : Vis X.env.scope nm := by first | exact Or.inl rfl | exact Or.inr (Or.inl rfl) | exact Or.inr (Or.inr rfl)) (h1 : (nm == ("__debug__" : Str)) = false := by decide) (h2 : (nm == ("__classdict__" : Str)) = false := by decide)
    (hs : swapsWithSole [.Subscript (.Name nm p) b pos] e apos.line X.env = pure false := by rfl) (hw : swappedStores [.Subscript (.Name nm p) b pos] e X.env = pure none := by rfl)
    (h5 : (assignEach [.Subscript (.Name nm p) b pos] X.env).map (·.2) = [assign (.Subscript (.Name nm p) b pos) X.env] := by rfl)
    (ha : ∀ v, assign (.Subscript (.Name nm p) b pos) X.env v = (do
      let ov ← holding [v] (eval (.Name nm p) X.env)
      let iv ← holding [v, ov] (eval b X.env)
      standAt pos
      holding [v, ov, iv] (setItem ov iv v)
      release [v, ov, iv] []) := by intro _; rfl) : WSs X (.Assign [.Subscript (.Name nm p) b pos] e apos :: rest) Γ Φ := fun I H σ F en D ek => by
  refine ⟨_, pss_cons (ps_asg wpE_ok (pg_sub (pe_var hN hvs h1 h2) wpE_ok set_list ha) hs hw h5) wpSs_ok, h I H σ F en _ ?_⟩
  rintro r Γ1 I1 H1 v F1 ⟨d, x, ds, mk, rfl, hx, hv, hj, hb, hq⟩ st1 en1
  obtain ⟨B, G, rfl, oo, en2, up⟩ := en1.pop
  cases oo with
  | da hd =>
    obtain ⟨q, vs, e1, _, _, _⟩ := en2.ll hx hv
    refine ⟨_, e1, hb (fun r Γ' => r = .da (.int j) ∧ Γ' = Γ1) ⟨rfl, rfl⟩ I1 H1 σ G en2 _ ?_⟩
    rintro _ _ I2 H2 u F2 ⟨rfl, rfl⟩ st2 en3
    obtain ⟨B2, G2, rfl, oo2, en4, _⟩ := en3.pop
    cases oo2 with
    | da hh =>
      cases hh
      obtain ⟨q', vs', e1', h3, h4, h6⟩ := en4.ll hx hv
      rw [e1] at e1'
      cases e1'
      obtain ⟨F5, en5, st5⟩ := h6 (vs'.set n v) (ds.set n d) (RpL.set (hd.mono st2.inc) n h4)
      exact ⟨q, vs', j, n, rfl, rfl, h3, by rw [h4.length]; exact hj, hq I2 _ σ F5 en5 D (ek.step ((st1.trans st2).trans st5))⟩
/-- xs.append(e) -/
theorem we_append (i : Nat) (h : WE X e Γ fun r Γ1 => ∃ d x ds mk, r = .da d ∧ Γ1[i]? = some (some x) ∧ VLL x ds mk ∧ ds.length < sizeLine ∧ Ψ (.da .none) (Γ1.set i (some (mk (ds ++ [d])))))
    (hx : Γ[i]? = some (some x) := by rfl) (hv : VLL x ds mk := by first | exact .ll | exact .pin) (hN : X.N[i]? = some nm := by rfl) (hvs : Vis X.env.scope nm := by first | exact Or.inl rfl | exact Or.inr (Or.inl rfl) | exact Or.inr (Or.inr rfl)) (h1 : (nm == ("__debug__" : Str)) = false := by decide) (h2 : (nm == ("__classdict__" : Str)) = false := by decide)
    (hst : starEach [e] X.env = (false, eval e X.env) :: starEach [] X.env := by rfl)
    (hb : attributeBase (.Name nm p) "append" X.env (eval (.Name nm p) X.env) = eval (.Name nm p) X.env := by rfl)
    (hfew : ((backTo pos (starEach [e] X.env)).all (fun x => !x.1) && (backToKw pos (keywordEach [] X.env)).all (fun x => x.1.isSome)
      && decide (([e] : List Expr).length + ([] : List Keyword).length + (if ([] : List Keyword).isEmpty then 0 else 1) < 30)) = true := by rfl) (hline : (apos.endLine == pos.line) = true := by rfl) (hs2 : (backTo pos (starEach [] X.env)).any (·.1) = false := by rfl) :
    WE X (.Call (.Attribute (.Name nm p) "append" apos) [e] [] pos) Γ Ψ := fun I H σ F en Q kk => by
  refine ⟨_, pe_bm PySem.F.plainAttrs_list PySem.F.slot_list_append PySem.F.type_list_append mt_append (pe_var hN hvs h1 h2) (pa_cons wpE_ok pa_nil hst) hb hfew hline hst hs2, ?_⟩
  obtain ⟨q, vs, e1, g1, _, _⟩ := en.ll hx hv
  refine ⟨_, e1, .inl ⟨rfl, _, SqL.of g1⟩, h I H σ F en _ ?_⟩
  rintro r Γ1 I1 H1 v F1 ⟨d, x, ds, mk, rfl, hx1, hv1, hlt, hq⟩ st1 en1
  obtain ⟨B, G, rfl, oo, en2, up⟩ := en1.pop
  cases oo with
  | da hd =>
    obtain ⟨q', vs', e1', h3, h4, h6⟩ := en2.ll hx1 hv1
    rw [e1] at e1'
    cases e1'
    obtain ⟨F5, en5, st5⟩ := h6 (vs' ++ [v]) (ds ++ [d]) (RpL.append h4 (.cons hd .nil))
    exact ⟨q, vs', v, rfl, rfl, h3, by rw [h4.length]; exact hlt, kk _ _ I1 _ .non F5 hq (st1.trans st5) (en5.da .non)⟩
end
end TL

/-! TL8: defs as facts, built-ins by values, the drawing's state. -/
namespace TL
open PySem PySem.Spec PyProof.Rows L2

/-- a def of the text, what it is worth -/
def Def (P : Program) (w : World) (K : PySem.W.Frag) (mg : Str → Option Value) (bs : Heap) (k : Nat) (nm : Str) (ps : List Str) (sp : SpD) : Prop :=
  ∃ f fd, FnG P w K mg bs CX0 k f fd ps (mkSp ⟨P, w, K⟩ sp) ∧ mg nm = some (.ref f) ∧ PySem.W.keepIn K (.ref f) = true ∧ Binds K fd ps []
/-- the built-ins that no def shadows -/
structure Blt (mg : Str → Option Value) : Prop where
  len : mg "len" = none
  int : mg "int" = none
  abs : mg "abs" = none
  divmod : mg "divmod" = none
  list : mg "list" = none
  tuple : mg "tuple" = none
  range : mg "range" = none
  zip : mg "zip" = none
  enumerate : mg "enumerate" = none
  reversed : mg "reversed" = none
  sorted : mg "sorted" = none
  min : mg "min" = none
  max : mg "max" = none
  sum : mg "sum" = none
  all : mg "all" = none
  any : mg "any" = none
  set : mg "set" = none
  repr : mg "repr" = none
  str : mg "str" = none
  isinstance : mg "isinstance" = none
  bool : mg "bool" = none
  dict : mg "dict" = none
section
variable {X : Cx} {e a b c o : Expr} {es : List Expr} {ss rest : List Stmt} {Γ Γ' Γ1 Γ2 : Sl} {Ψ : OD → Sl → Prop} {Φ : Out → Prop} {Φt : Bool → Sl → Prop} {pos p apos : Pos} {r x y z : OD} {k k' : Bool} {nm : Str} {ds : List PyData} {mk : List PyData → OD} {d : PyData}
variable {kk : Nat} {ps : List Str} {sp : SpD}
theorem we_fn (G : Def X.prog X.w X.K X.mg X.base kk nm ps sp) (hr : Room kk X.A) (hgd : X.A.guards = some []) (h : WA X (e :: es) Γ fun rs refs Γ1 => sp rs fun r as' => Ψ r (putBack refs as' Γ1)) (hg : Gl X nm := by rfl)
    (hdb : (nm == ("__debug__" : Str)) = false := by decide) (he : starEach (e :: es) X.env = (false, eval e X.env) :: starEach es X.env := by rfl) (hpl : (backTo pos (starEach es X.env)).any (·.1) = false := by rfl) :
    WE X (.Call (.Name nm p) (e :: es) [] pos) Γ Ψ := let ⟨_, _, F, hm, hk, hb⟩ := G; we_call F hr hgd hg hm hk hb h hdb he hpl
theorem we_fn0 (G : Def X.prog X.w X.K X.mg X.base kk nm ps sp) (hr : Room kk X.A) (hgd : X.A.guards = some []) (h : sp [] fun r _ => Ψ r Γ) (hg : Gl X nm := by rfl) (hdb : (nm == ("__debug__" : Str)) = false := by decide) :
    WE X (.Call (.Name nm p) [] [] pos) Γ Ψ := let ⟨_, _, F, hm, hk, hb⟩ := G; we_call0 F hr hgd hg hm hk hb h hdb
theorem ws_convE (i : Nat) {ι : Type} {y : ι → OD} (cv : ∀ (I H : Hp) (v : V) (B : List Addr), Own X.tc I H v x B → ∃ j, Own X.tc I H v (y j) B) (h : ∀ j, WSs X ss (Γ.set i (some (y j))) Φ) (hx : Γ[i]? = some (some x) := by rfl) : WSs X ss Γ Φ := fun I H σ F en D ek => by
  obtain ⟨v, B, G, e1, o, en', nd, mem⟩ := en.take hx
  obtain ⟨j, oj⟩ := cv _ _ _ _ o
  obtain ⟨F', en2, nd2, m2⟩ := en'.into e1 oj nd
  rw [List.set_set] at en2
  exact h j I H σ F' en2 D (ek.step (Step.less fun b hb => (mem b).mpr (m2 b hb)))

/-! ### built-ins by values, from data to data -/
theorem OpL.pure {T : TC} {f : List V → Hp → VK → Prop} {ds : List PyData} {g : PyData} (h : ∀ (I H : Hp) (vs : List V), RpL T I vs ds → Same I H → ∀ Q : VK, (∀ w, Rp T I w g → Q w H) → f vs H Q) : OpL T f (ds.map .da) (.da g) := by
  intro I H vs B o nd sub Q k
  obtain ⟨rfl, r⟩ := ownL_da o
  exact h I H vs r sub Q fun w hw => k I H w [] Step.refl (.da hw) List.nodup_nil sub
theorem rpL1 {T : TC} {I : Hp} {vs : List V} {d : PyData} (r : RpL T I vs [d]) : ∃ v, vs = [v] ∧ Rp T I v d := by
  cases r with
  | cons h r =>
    cases r
    exact ⟨_, rfl, h⟩
theorem rpL2 {T : TC} {I : Hp} {vs : List V} {d d' : PyData} (r : RpL T I vs [d, d']) : ∃ v v', vs = [v, v'] ∧ Rp T I v d ∧ Rp T I v' d' := by
  cases r with
  | cons h r =>
    obtain ⟨v, rfl, h'⟩ := rpL1 r
    exact ⟨_, v, rfl, h, h'⟩
theorem sqL_sub {K : PySem.W.Frag} {I H : Hp} {a : Addr} {xs : List V} (s : Same I H) (h : SqL K I a xs) : SqL K H a xs := s.seq h
section
variable {i j : Int}
theorem xe_int1 (B : Blt X.mg) (ha : XE X a Γ (.da (.int i)) Γ1) (hg : Gl X "int" := by rfl) (he : starEach [a] X.env = (false, eval a X.env) :: starEach [] X.env := by rfl) (hpl : (backTo pos (starEach [] X.env)).any (·.1) = false := by rfl) :
    XE X (.Call (.Name "int" p) [a] [] pos) Γ (.da (.int i)) Γ1 := xe_callTy1 call_int1 (OpL.pure (ds := [.int i]) fun I H vs r _ Q k => by
      obtain ⟨v, rfl, h⟩ := rpL1 r
      cases h
      exact .inl ⟨i, rfl, k _ (.int i)⟩) hg B.int (by decide +kernel) ha (he := he) (hpl := hpl)
theorem xe_abs (B : Blt X.mg) (ha : XE X a Γ (.da (.int i)) Γ1) (hg : Gl X "abs" := by rfl) (he : starEach [a] X.env = (false, eval a X.env) :: starEach [] X.env := by rfl) (hpl : (backTo pos (starEach [] X.env)).any (·.1) = false := by rfl) :
    XE X (.Call (.Name "abs" p) [a] [] pos) Γ (.da (.int (if i < 0 then -i else i))) Γ1 := xe_callB1 call_abs (OpL.pure (ds := [.int i]) fun I H vs r _ Q k => by
      obtain ⟨v, rfl, h⟩ := rpL1 r
      cases h
      exact ⟨i, rfl, k _ (.int _)⟩) hg B.abs (by decide +kernel) ha (he := he) (hpl := hpl)
/-- len of a list or a tuple -/
theorem xe_len (B : Blt X.mg) (ha : XE X a Γ (.da d) Γ1) (hd : d = .list ds ∨ d = .tuple ds) (hg : Gl X "len" := by rfl) (he : starEach [a] X.env = (false, eval a X.env) :: starEach [] X.env := by rfl) (hpl : (backTo pos (starEach [] X.env)).any (·.1) = false := by rfl) :
    XE X (.Call (.Name "len" p) [a] [] pos) Γ (.da (.int ds.length)) Γ1 := xe_callB1 call_len_seq (OpL.pure (ds := [d]) fun I H vs r s Q k => by
      obtain ⟨v, rfl, h⟩ := rpL1 r
      rcases hd with rfl | rfl
      · cases h with
        | lst q r => exact ⟨_, _, rfl, .inl (s.seq q), by rw [r.length]; exact k _ (.int _)⟩
      · cases h with
        | tup q r => exact ⟨_, _, rfl, .inr (sqT_mono s q), by rw [r.length]; exact k _ (.int _)⟩) hg B.len PySem.boot_len ha (he := he) (hpl := hpl)
theorem divs_small {j : Int} (h0 : 0 < j) (h : j < 2 ^ 64) : CDivP i j := by
  refine ⟨h0, ?_⟩
  unfold Builtin.divisionGoesByPylong
  have h1 : j.natAbs.log2 < 64 := (Nat.log2_lt (by omega)).mpr (by omega)
  have h2 : (j == 0) = false := by simp; omega
  simp only [h2, Bool.false_eq_true, if_false]
  have h3 : ¬ (j.natAbs.log2 / 30 + 1 > 300) := by omega
  simp [h3]
theorem xe_divmod (B : Blt X.mg) (h0 : 0 < j) (h1 : j < 2 ^ 64) (ha : XE X a Γ (.da (.int i)) Γ1) (hb : XE X b Γ1 (.da (.int j)) Γ2) (hg : Gl X "divmod" := by rfl) (he : starEach [a, b] X.env = (false, eval a X.env) :: starEach [b] X.env := by rfl)
    (he2 : starEach [b] X.env = (false, eval b X.env) :: starEach [] X.env := by rfl) (hpl : (backTo pos (starEach [b] X.env)).any (·.1) = false := by rfl) :
    XE X (.Call (.Name "divmod" p) [a, b] [] pos) Γ (.da (.tuple [.int (i / j), .int (i % j)])) Γ2 := xe_callB2 call_divmodW (fun I H vs B o nd sub Q k => by
      obtain ⟨rfl, r⟩ := ownL_da (ds := [.int i, .int j]) o
      obtain ⟨v, u, rfl, h2, h3⟩ := rpL2 r
      cases h2
      cases h3
      exact ⟨i, j, rfl, divs_small h0 h1, fun q hq => k (upd I q _) _ _ [] (step_frz sub hq) (.da (.tup (SqT.of upd_same) (.cons (.int _) (.cons (.int _) .nil)))) List.nodup_nil (upd_both sub)⟩) hg B.divmod (by decide +kernel) ha hb (he := he) (he2 := he2) (hpl := hpl)
end
/-- d[j], d a list or a tuple -/
theorem xe_ix {j : Int} {dd : PyData} (ha : XE X a Γ (.da dd) Γ1) (hb : XE X b Γ1 (.da (.int j)) Γ2) (hd : dd = .list ds ∨ dd = .tuple ds) (hj : atI ds j = some d) (hs : PlainIx b := by exact fun _ _ => rfl) : XE X (.Subscript a b pos) Γ (.da d) Γ2 := fun Ψ hq I H σ F en Q k =>
  ⟨_, pe_ix ix_seq wpE_ok wpE_ok hs, two_core (ha _ (hb _ ⟨.da d, Op2.pure fun I H v u h1 h2 s Q k => by
    cases h2
    rcases hd with rfl | rfl
    · cases h1 with
      | lst q r =>
        obtain ⟨w, hw, rw'⟩ := atI_rp r hj
        exact .inl ⟨_, _, j, w, rfl, rfl, s.seq q, hw, k _ rw'⟩
    · cases h1 with
      | tup q r =>
        obtain ⟨w, hw, rw'⟩ := atI_rp r hj
        exact .inr (.inl ⟨_, _, j, w, rfl, rfl, sqT_mono s q, hw, k _ rw'⟩), hq⟩)) I H σ F en Q k⟩

/-! ### and, or, not; the conditional expression -/
theorem we_ifExp (h : WT X c Γ fun k Γ1 => (k = true → WE X a Γ1 Ψ) ∧ (k = false → WE X b Γ1 Ψ)) : WE X (.IfExp c a b pos) Γ Ψ := fun I H σ F en Q kq =>
  ⟨_, pe_ifExp wpT_ok wpE_ok wpE_ok, h I H σ F en _ fun k Γ1 I1 H1 F1 h1 st1 en1 => by
    cases k with
    | true => exact h1.1 rfl I1 H1 σ F1 en1 Q fun r Γ' I' H' v F' q st => kq r Γ' I' H' v F' q (st1.trans st)
    | false => exact h1.2 rfl I1 H1 σ F1 en1 Q fun r Γ' I' H' v F' q st => kq r Γ' I' H' v F' q (st1.trans st)⟩
theorem xe_ifExp {d1 d2 : PyData} (h : XT X c Γ k Γ1) (ha : k = true → XE X a Γ1 (.da d1) Γ2) (hb : k = false → XE X b Γ1 (.da d2) Γ2) : XE X (.IfExp c a b pos) Γ (.da (if k = true then d1 else d2)) Γ2 := fun Ψ hq => we_ifExp (h _ ⟨fun e => ha e _ (by rw [if_pos e] at hq; exact hq), fun e => hb e _ (by rw [if_neg (by simp [e])] at hq; exact hq)⟩)
theorem WW.wt (h : WW X e Γ Φt) : WT X e Γ Φt := fun I H σ F en Q k => let ⟨t, ht, q⟩ := h I H σ F en Q k; ⟨t, ht.pt, q⟩
theorem ww_and1 (h : WT X a Γ Φt) : WW X (.BoolOp .And [a] pos) Γ Φt := fun I H σ F en Q k => ⟨_, pw_and1 wpT_ok, h I H σ F en Q k⟩
theorem ww_or1 (h : WT X a Γ Φt) : WW X (.BoolOp .Or [a] pos) Γ Φt := fun I H σ F en Q k => ⟨_, pw_or1 wpT_ok, h I H σ F en Q k⟩
theorem ww_and (h : WT X a Γ fun k Γ1 => (k = true → WW X (.BoolOp .And (b :: es) pos) Γ1 Φt) ∧ (k = false → Φt false Γ1)) : WW X (.BoolOp .And (a :: b :: es) pos) Γ Φt := fun I H σ F en Q kq =>
  ⟨_, pw_and wpT_ok wpW_ok, h I H σ F en _ fun k Γ1 I1 H1 F1 h1 st1 en1 => by
    cases k with
    | true => exact h1.1 rfl I1 H1 σ F1 en1 Q fun r Γ' I' H' F' q st => kq r Γ' I' H' F' q (st1.trans st)
    | false => exact kq false Γ1 I1 H1 F1 (h1.2 rfl) st1 en1⟩
theorem ww_or (h : WT X a Γ fun k Γ1 => (k = true → Φt true Γ1) ∧ (k = false → WW X (.BoolOp .Or (b :: es) pos) Γ1 Φt)) : WW X (.BoolOp .Or (a :: b :: es) pos) Γ Φt := fun I H σ F en Q kq =>
  ⟨_, pw_or wpT_ok wpW_ok, h I H σ F en _ fun k Γ1 I1 H1 F1 h1 st1 en1 => by
    cases k with
    | false => exact h1.2 rfl I1 H1 σ F1 en1 Q fun r Γ' I' H' F' q st => kq r Γ' I' H' F' q (st1.trans st)
    | true => exact kq true Γ1 I1 H1 F1 (h1.1 rfl) st1 en1⟩
theorem wt_not (h : WT X a Γ fun k Γ1 => Φt (!k) Γ1) : WT X (.UnaryOp .Not a pos) Γ Φt := fun I H σ F en Q kq =>
  ⟨_, pt_not wpT_ok, h I H σ F en _ fun k Γ1 I1 H1 F1 h1 st1 en1 => kq (!k) Γ1 I1 H1 F1 h1 st1 en1⟩
theorem xt_not (h : XT X a Γ k Γ1) : XT X (.UnaryOp .Not a pos) Γ (!k) Γ1 := fun _ hq => wt_not (h _ hq)
theorem xt_and2 {k2 : Bool} (h : XT X a Γ k Γ) (h2 : k = true → XT X b Γ k2 Γ) : XT X (.BoolOp .And [a, b] pos) Γ (k && k2) Γ := fun _ hq => (ww_and (h _ ⟨fun e => ww_and1 (h2 e _ (by rw [e, Bool.true_and] at hq; exact hq)), fun e => by rw [e, Bool.false_and] at hq; exact hq⟩)).wt
theorem xt_or2 {k2 : Bool} (h : XT X a Γ k Γ) (h2 : k = false → XT X b Γ k2 Γ) : XT X (.BoolOp .Or [a, b] pos) Γ (k || k2) Γ := fun _ hq => (ww_or (h _ ⟨fun e => by rw [e, Bool.true_or] at hq; exact hq, fun e => ww_or1 (h2 e _ (by rw [e, Bool.false_or] at hq; exact hq))⟩)).wt

/-! ### targets that are tuples -/
def WGs (X : Cx) (ts : List Expr) (rs : List PyData) (Γ : Sl) (Ψ : Sl → Prop) : Prop := ∀ (I H : Hp) (σ : L2.St) (F : List Addr) (vs : List V), EnvF X.tc I H σ Γ F → RpL X.tc I vs rs → ∀ Q : L2.St → Hp → Prop,
  (∀ (Γ' : Sl) (I' H' : Hp) (σ' : L2.St) (F' : List Addr), Ψ Γ' → Step I H F I' H' F' → EnvF X.tc I' H' σ' Γ' F' → Q σ' H') → ∃ t, PGs X ts t ∧ t vs σ H Q
theorem wgs_nil {Ψ : Sl → Prop} (h : Ψ Γ) : WGs X [] [] Γ Ψ := fun I H σ F vs en r Q k => ⟨_, pgs_nil, by cases r; rfl, k Γ I H σ F h .refl en⟩
def wpGs (X : Cx) (ts : List Expr) : TGs := fun vs σ H Q => ∃ t, PGs X ts t ∧ t vs σ H Q
theorem wpGs_ok {ts : List Expr} : PGs X ts (wpGs X ts) := ⟨fun pins s σ H v u Q I r ⟨_, h, q⟩ => h.run pins s σ H v u Q I r q⟩
theorem wgs_cons {Ψ : Sl → Prop} {ts : List Expr} {rs : List PyData} (h : WG X e (.da d) Γ fun Γ1 => WGs X ts rs Γ1 Ψ) (hs : (assignEach (e :: ts) X.env).map (·.2) = assign e X.env :: (assignEach ts X.env).map (·.2) := by rfl) : WGs X (e :: ts) (d :: rs) Γ Ψ := fun I H σ F vs en r Q k => by
  cases r with
  | cons h1 r => exact ⟨_, pgs_cons wpG_ok wpGs_ok hs, _, _, rfl, h I H σ F _ (en.da h1) _ fun Γ1 I1 H1 σ1 F1 h2 st1 en1 => h2 I1 H1 σ1 F1 _ en1 (r.mono st1.inc) Q fun Γ' I' H' σ' F' q st => k Γ' I' H' σ' F' q (st1.trans st)⟩
theorem wg_tup {Ψ : Sl → Prop} {ts : List Expr} {rs : List PyData} {n : Nat} (hc : X.calm = true) (h : WGs X ts rs Γ Ψ) (hn : (assignEach ts X.env).length = rs.length := by rfl) (hst : (assignEach ts X.env).findIdx? (·.1) = none := by rfl) : WG X (.Tuple ts n pos) (.da (.tuple rs)) Γ Ψ := fun I H σ F v en Q k => by
  obtain ⟨B, G, rfl, oo, en2, up⟩ := en.pop
  cases oo with
  | da hd => cases hd with
    | tup q r =>
      obtain ⟨t, ht, hq⟩ := h I H σ G _ en2 r Q k
      exact ⟨_, pg_tup hc ht hn hst, _, _, rfl, sqT_mono en2.sub q, r.length, hq⟩
/-- a, b = e -/
theorem ws_asgT {ts : List Expr} {n : Nat} (h : WE X e Γ fun r Γ1 => WG X (.Tuple ts n p) r Γ1 fun Γ2 => WSs X rest Γ2 Φ) (hs : swapsWithSole [.Tuple ts n p] e pos.line X.env = pure false := by rfl) (hw : swappedStores [.Tuple ts n p] e X.env = pure none := by rfl)
    (h1 : (assignEach [.Tuple ts n p] X.env).map (·.2) = [assign (.Tuple ts n p) X.env] := by rfl) : WSs X (.Assign [.Tuple ts n p] e pos :: rest) Γ Φ := fun I H σ F en D ek =>
  ⟨_, pss_cons (ps_asg wpE_ok wpG_ok hs hw h1) wpSs_ok, h I H σ F en _ fun r Γ1 I1 H1 v F1 h1 st1 en1 => h1 I1 H1 σ F1 v en1 _ fun Γ2 I2 H2 σ2 F2 h2 st2 en2 => h2 I2 H2 σ2 F2 en2 D (ek.step (st1.trans st2))⟩
end
end TL

/-! TL9: data compared, sorted, written. -/
namespace TL
open PySem PySem.Spec PyProof.Rows L2

/-! ### from data to what the heap reads -/
mutual
theorem Rp.dp {T : TC} {I : Hp} : ∀ {v : V} {d : PyData}, Rp T I v d → d.plain = true → Dp T.K I v d
  | _, _, .non, _ => .non
  | _, _, .bl b, _ => .bl b
  | _, _, .int i, _ => .int i
  | _, _, .str x, _ => .str x
  | _, _, .lst h r, p => .lst h (RpL.dp r (by simpa only [PyData.plain] using p))
  | _, _, .tup h r, p => .tup h (RpL.dp r (by simpa only [PyData.plain] using p))
  | _, _, .dk _ _ _, p => by simp [PyData.plain] at p
  | _, _, .dn _ _ _ _ _, p => by simp [PyData.plain] at p
theorem RpL.dp {T : TC} {I : Hp} : ∀ {vs : List V} {ds : List PyData}, RpL T I vs ds → PyData.plainAll ds = true → DpAll T.K I vs ds
  | _, _, .nil, _ => .nil
  | _, _, .cons h r, p => by
    simp only [PyData.plainAll, Bool.and_eq_true] at p
    exact .cons (Rp.dp h p.1) (RpL.dp r p.2)
end
section
variable {X : Cx} {pins : List (Addr × Obj)} {σ : L2.St} {H : Hp} {s : Shared}
theorem Rp.reads (I : Inv X pins σ H s) {d : PyData} {v : V} {u : Value} (h : Rp X.tc H v d) (p : d.plain = true) (r : RelV v u) : ∃ as, Reads s.heap u d as := Dp.reads I d v u (h.dp p) r
theorem RpL.reads (I : Inv X pins σ H s) {ds : List PyData} {vs : List V} {us : List Value} (h : RpL X.tc H vs ds) (p : PyData.plainAll ds = true) (r : Vals vs us) : ∃ as, ReadsAll s.heap us ds as := Dp.readsAll I ds vs us (h.dp p) r
theorem room60 {n m : Nat} (hu : X.A.units + 64 < cLine) (h : n ≤ 60) : X.A.units + min n m < cLine := by
  have := Nat.min_le_left n m
  omega

/-! ### ==, !=, < -/
def rEqP (T : TC) : R2 := fun x y H Q => ∃ d e, Rp T H x d ∧ Rp T H y e ∧ d.plain = true ∧ e.plain = true ∧ d.depth ≤ 60 ∧ Q (.bl (PyData.eqv d e)) H
def rNeP (T : TC) : R2 := fun x y H Q => ∃ d e, Rp T H x d ∧ Rp T H y e ∧ d.plain = true ∧ e.plain = true ∧ d.depth ≤ 60 ∧ Q (.bl (!PyData.eqv d e)) H
def rLtP (T : TC) : R2 := fun x y H Q => ∃ d e, Rp T H x d ∧ Rp T H y e ∧ d.plain = true ∧ e.plain = true ∧ PySem.W.alike d e = true ∧ d ≠ .none ∧ d.depth ≤ 60 ∧ Q (.bl (PySem.W.dataLt d e)) H
theorem op_eqP (hu : X.A.units + 64 < cLine) : OpR X (compareOp .Eq) (rEqP X.tc) := by
  rintro pins s σ H x y v u Q I rx ry ⟨d, e, hd, he, pd, pe, hh, q⟩
  obtain ⟨as, r1⟩ := hd.reads I pd rx
  obtain ⟨bs, r2⟩ := he.reads I pe ry
  exact SeqAt.eq_plain r1 r2 pd pe (room60 hu hh) ⟨.bl _, H, I, rfl, q⟩
theorem op_neP (hu : X.A.units + 64 < cLine) : OpR X (compareOp .NotEq) (rNeP X.tc) := by
  rintro pins s σ H x y v u Q I rx ry ⟨d, e, hd, he, pd, pe, hh, q⟩
  obtain ⟨as, r1⟩ := hd.reads I pd rx
  obtain ⟨bs, r2⟩ := he.reads I pe ry
  exact SeqAt.rcNe_plain r1 r2 pd pe (room60 hu hh) _ _ _ _ ⟨.bl _, H, I, rfl, q⟩
theorem op_ltP (hu : X.A.units + 64 < cLine) : OpR X (compareOp .Lt) (rLtP X.tc) := by
  rintro pins s σ H x y v u Q I rx ry ⟨d, e, hd, he, pd, pe, al, nn, hh, q⟩
  obtain ⟨as, r1⟩ := hd.reads I pd rx
  obtain ⟨bs, r2⟩ := he.reads I pe ry
  exact PySem.W.rcLt_alike d e _ _ _ _ _ _ r1 r2 al nn (room60 hu hh) _ _ _ _ ⟨.bl _, H, I, rfl, q⟩
end

section
variable {X : Cx} {e a b c o : Expr} {es : List Expr} {ss rest : List Stmt} {Γ Γ' Γ1 Γ2 : Sl} {Ψ : OD → Sl → Prop} {Φ : Out → Prop} {Φt : Bool → Sl → Prop} {pos p apos : Pos} {r x y z : OD} {k k' : Bool} {nm : Str} {ds : List PyData} {d d' g : PyData}
theorem o2_eq {T : TC} (pd : d.plain = true) (pe : d'.plain = true) (hd : d.depth ≤ 60) : Op2 T (rEqP T) (.da d) (.da d') (.da (.bool (PyData.eqv d d'))) := Op2.pure fun I H v u h1 h2 s Q k => ⟨d, d', h1.mono s, h2.mono s, pd, pe, hd, k _ (.bl _)⟩
theorem o2_ne {T : TC} (pd : d.plain = true) (pe : d'.plain = true) (hd : d.depth ≤ 60) : Op2 T (rNeP T) (.da d) (.da d') (.da (.bool (!PyData.eqv d d'))) := Op2.pure fun I H v u h1 h2 s Q k => ⟨d, d', h1.mono s, h2.mono s, pd, pe, hd, k _ (.bl _)⟩
theorem o2_lt {T : TC} (pd : d.plain = true) (pe : d'.plain = true) (al : PySem.W.alike d d' = true) (nn : d ≠ .none) (hd : d.depth ≤ 60) : Op2 T (rLtP T) (.da d) (.da d') (.da (.bool (PySem.W.dataLt d d'))) := Op2.pure fun I H v u h1 h2 s Q k => ⟨d, d', h1.mono s, h2.mono s, pd, pe, al, nn, hd, k _ (.bl _)⟩
theorem xt_eqP (hu : X.A.units + 64 < cLine) (ha : XE X a Γ (.da d) Γ1) (hb : XE X b Γ1 (.da d') Γ2) (pd : d.plain = true := by rfl) (pe : d'.plain = true := by rfl) (hd : d.depth ≤ 60 := by simp [PyData.depth]) : XT X (.Compare a [.Eq] [b] pos) Γ (PyData.eqv d d') Γ2 := xt_cmp (op_eqP hu) (nomark _) (o2_eq pd pe hd) ha hb
theorem xe_eqP (hu : X.A.units + 64 < cLine) (ha : XE X a Γ (.da d) Γ1) (hb : XE X b Γ1 (.da d') Γ2) (pd : d.plain = true := by rfl) (pe : d'.plain = true := by rfl) (hd : d.depth ≤ 60 := by simp [PyData.depth]) : XE X (.Compare a [.Eq] [b] pos) Γ (.da (.bool (PyData.eqv d d'))) Γ2 := xe_cmp (op_eqP hu) (nomark _) (o2_eq pd pe hd) ha hb
theorem xt_neP (hu : X.A.units + 64 < cLine) (ha : XE X a Γ (.da d) Γ1) (hb : XE X b Γ1 (.da d') Γ2) (pd : d.plain = true := by rfl) (pe : d'.plain = true := by rfl) (hd : d.depth ≤ 60 := by simp [PyData.depth]) : XT X (.Compare a [.NotEq] [b] pos) Γ (!PyData.eqv d d') Γ2 := xt_cmp (op_neP hu) (nomark _) (o2_ne pd pe hd) ha hb
theorem xt_ltP (hu : X.A.units + 64 < cLine) (ha : XE X a Γ (.da d) Γ1) (hb : XE X b Γ1 (.da d') Γ2) (pd : d.plain = true) (pe : d'.plain = true) (al : PySem.W.alike d d' = true) (nn : d ≠ .none) (hd : d.depth ≤ 60) : XT X (.Compare a [.Lt] [b] pos) Γ (PySem.W.dataLt d d') Γ2 := xt_cmp (op_ltP hu) (nomark _) (o2_lt pd pe al nn hd) ha hb
theorem eqv_int (i j : Int) : PyData.eqv (.int i) (.int j) = decide (i = j) := by
  simp only [PyData.eqv]
  rw [Bool.eq_iff_iff, beq_iff_eq, decide_eq_true_eq]
theorem eqv_str (i j : Str) : PyData.eqv (.str i) (.str j) = decide (i = j) := by
  simp only [PyData.eqv]
  rw [Bool.eq_iff_iff, beq_iff_eq, decide_eq_true_eq]
theorem xt_eqI {i j : Int} (hu : X.A.units + 64 < cLine) (ha : XE X a Γ (.da (.int i)) Γ1) (hb : XE X b Γ1 (.da (.int j)) Γ2) : XT X (.Compare a [.Eq] [b] pos) Γ (decide (i = j)) Γ2 := by
  have q := xt_eqP (pos := pos) hu ha hb
  rw [eqv_int] at q
  exact q
theorem xe_eqI {i j : Int} (hu : X.A.units + 64 < cLine) (ha : XE X a Γ (.da (.int i)) Γ1) (hb : XE X b Γ1 (.da (.int j)) Γ2) : XE X (.Compare a [.Eq] [b] pos) Γ (.da (.bool (decide (i = j)))) Γ2 := by
  have q := xe_eqP (pos := pos) hu ha hb
  rw [eqv_int] at q
  exact q
theorem xt_neI {i j : Int} (hu : X.A.units + 64 < cLine) (ha : XE X a Γ (.da (.int i)) Γ1) (hb : XE X b Γ1 (.da (.int j)) Γ2) : XT X (.Compare a [.NotEq] [b] pos) Γ (!decide (i = j)) Γ2 := by
  have q := xt_neP (pos := pos) hu ha hb
  rw [eqv_int] at q
  exact q

/-! ### repr -/
def rRepr (T : TC) : List V → Hp → VK → Prop := fun xs H Q => ∃ v d, xs = [v] ∧ Rp T H v d ∧ d.plain = true ∧ d.showable = true ∧ d.hasDict = false ∧ d.depth ≤ 60 ∧ d.shown.length ≤ sizeLine ∧ Q (.str d.shown) H
theorem shown_none' : (PyData.none).shown = ("None" : Str) := PyData.shown_none
theorem call_reprP (hu : X.A.units + 64 < cLine) (hg : X.A.guards = some []) : CallR X (.builtin "repr") (rRepr X.tc) := by
  rintro pins s σ H xs us Q I r ⟨v, d, rfl, hd, pd, sh, nd, hh, hz, q⟩
  cases r with
  | cons rv r =>
    cases r
    obtain ⟨as, rr⟩ := hd.reads I pd rv
    have fin : ∀ (h' : Heap) (u : Tok) (tk : Nat), (∀ b o, s.heap.get? b = some o → h'.get? b = some o) → EP X pins σ Q (.str d.shown u) { s with heap := h', toks := tk } := fun h' u tk kp => ⟨.str d.shown, H, I.kept (t' := tk) kp, ⟨u, rfl⟩, q⟩
    cases rr with
    | none =>
      rw [PyData.shown_none] at fin
      exact P.repr_of_none (fin _ _ _ fun _ _ e => e)
    | bool b =>
      rw [PyData.shown_bool] at fin
      exact P.repr_of_bool (fin _ _ _ fun _ _ e => e)
    | int i t =>
      rw [PyData.shown_int] at fin
      exact P.repr_of_int (of_decide_eq_true sh) (fin _ _ _ fun _ _ e => e)
    | str x t =>
      rw [PyData.shown_str] at fin hz
      exact P.repr_of_str (fin _ _ _ fun _ _ e => e) hz
    | list h1 h2 h3 h4 => exact repr_of_reads' (h₀ := s.heap) (.list h1 h2 h3 h4) sh (fun e => by rw [nd] at e; cases e) hg (by omega) (fun _ _ e => e) (fun h' u tk kp => fin h' u tk kp) hz
    | tuple h1 h2 h3 h4 => exact repr_of_reads' (h₀ := s.heap) (.tuple h1 h2 h3 h4) sh (fun e => by rw [nd] at e; cases e) hg (by omega) (fun _ _ e => e) (fun h' u tk kp => fin h' u tk kp) hz
    | dict h1 h2 h3 h4 h5 => simp [PyData.plain] at pd
theorem xe_repr (B : Blt X.mg) (hu : X.A.units + 64 < cLine) (hgd : X.A.guards = some []) (ha : XE X a Γ (.da d) Γ1) (pd : d.plain = true) (sh : d.showable = true) (nd : d.hasDict = false) (hh : d.depth ≤ 60) (hz : d.shown.length ≤ sizeLine) (hg : Gl X "repr" := by rfl)
    (he : starEach [a] X.env = (false, eval a X.env) :: starEach [] X.env := by rfl) (hpl : (backTo pos (starEach [] X.env)).any (·.1) = false := by rfl) : XE X (.Call (.Name "repr" p) [a] [] pos) Γ (.da (.str d.shown)) Γ1 :=
  xe_callB1 (call_reprP hu hgd) (OpL.pure (ds := [d]) fun I H vs r s Q k => by
    obtain ⟨v, rfl, h⟩ := rpL1 r
    exact ⟨v, d, rfl, h.mono s, pd, sh, nd, hh, hz, k _ (.str _)⟩) hg B.repr (by decide +kernel) ha (he := he) (hpl := hpl)

/-! ### sorted of a list -/
theorem each_rel {T : TC} {H : Hp} : ∀ {vs : List V} {us : List Value} {ds : List PyData}, RpL T H vs ds → Vals vs us → PySem.W.EachIs (fun u d => ∃ v, RelV v u ∧ Rp T H v d) us ds
  | _, _, _, .nil, .nil => .nil
  | _, _, _, .cons h r, .cons q t => .cons ⟨_, q, h⟩ (each_rel r t)
theorem each_back {T : TC} {H : Hp} : ∀ {us : List Value} {ds : List PyData}, PySem.W.EachIs (fun u d => ∃ v, RelV v u ∧ Rp T H v d) us ds → ∃ vs, Vals vs us ∧ RpL T H vs ds
  | _, _, .nil => ⟨[], .nil, .nil⟩
  | _, _, .cons ⟨v, q, h⟩ r => by
    obtain ⟨vs, t, r'⟩ := each_back r
    exact ⟨v :: vs, .cons q t, .cons h r'⟩
theorem each_imp {α β : Type} {R R' : α → β → Prop} : ∀ {as : List α} {bs : List β}, PySem.W.EachIs R as bs → (∀ a b, b ∈ bs → R a b → R' a b) → PySem.W.EachIs R' as bs
  | _, _, .nil, _ => .nil
  | _, _, .cons h r, k => .cons (k _ _ List.mem_cons_self h) (each_imp r fun a b hb => k a b (List.mem_cons_of_mem _ hb))
def sortD (ds : List PyData) : List PyData := ds.mergeSort (PySem.W.dataLe false id)
def rSorted (T : TC) : List V → Hp → VK → Prop := fun xs H Q => ∃ I p vs ds, xs = [.ref p] ∧ Same I H ∧ SqL T.K H p vs ∧ RpL T I vs ds ∧ PyData.plainAll ds = true ∧ PySem.W.AllAlike ds ∧ PySem.W.Sortable ds ∧ ds.length ≤ sizeLine ∧ (∀ d ∈ ds, d.depth ≤ 60) ∧
  ∀ l ws, H l = none → RpL T I ws (sortD ds) → Q (.ref l) (upd H l (.lst ws))
theorem plainAll_mem : ∀ {ds : List PyData} {d : PyData}, PyData.plainAll ds = true → d ∈ ds → d.plain = true
  | [], _, _, h => by cases h
  | x :: xs, d, hp, h => by
    simp only [PyData.plainAll, Bool.and_eq_true] at hp
    rcases List.mem_cons.mp h with rfl | h
    · exact hp.1
    · exact plainAll_mem hp.2 h
theorem call_sortedP (hu : X.A.units + 70 < cLine) : CallR X (.builtin "sorted") (rSorted X.tc) := by
  rintro pins s σ H xs us Q I r ⟨I0, q, vs, ds, rfl, sub, hs, hr, hp, al, so, hl, hd, k⟩
  cases r with
  | cons rv r =>
    cases r
    cases rv
    obtain ⟨its, rv, pl, hz⟩ := I.list hs
    have er : PySem.W.EachIs (fun u d => ∃ as, Reads s.heap u d as) its ds := each_imp (each_rel hr rv) fun u d hm ⟨v, q, h⟩ => (h.mono sub).reads I (plainAll_mem hp hm) q
    have al' : PySem.W.AllAlike (ds.map id) := by rw [List.map_id]; exact al
    have so' : PySem.W.Sortable (ds.map id) := by rw [List.map_id]; exact so
    refine PySem.W.sorted_data (enc := id) (R := fun u d => ∃ v, RelV v u ∧ Rp X.tc I0 v d) pl.isList (each_rel hr rv) er al' so' hl (fun d hm => ?_) fun out ho eo => ?_
    · have h1 := hd d hm
      show X.A.units + 2 + d.depth < cLine
      omega
    · obtain ⟨ws, w1, w2⟩ := each_back eo
      obtain ⟨c, hc⟩ := sortedAll_at s.heap its out.toArray
      have hn : H (s.heap.objs.size + 1) = none := I.hok.fresh (Nat.le_succ _)
      have hlen : ws.length ≤ sizeLine := by
        rw [w1.length, ho]
        exact hl
      exact ⟨.ref (s.heap.objs.size + 1), upd H (s.heap.objs.size + 1) (.lst ws), I.laid (t' := s.toks) (fun b o e => sortedAll_old e) (Nat.le_succ _) ⟨hlen, out, c, w1, hc⟩, rfl, k _ ws hn w2⟩
theorem opl_sorted {T : TC} (hp : PyData.plainAll ds = true) (al : PySem.W.AllAlike ds) (so : PySem.W.Sortable ds) (hl : ds.length ≤ sizeLine) (hd : ∀ d ∈ ds, d.depth ≤ 60) : OpL T (rSorted T) [.da (.list ds)] (.ll (sortD ds)) := fun I H vs B o nd sub Q k => by
  obtain ⟨rfl, r⟩ := ownL_da (ds := [.list ds]) o
  obtain ⟨v, rfl, h⟩ := rpL1 r
  cases h with
  | lst q r => 
    exact ⟨I, _, _, ds, rfl, sub, sub.seq q, r, hp, al, so, hl, hd, fun l ws hn hw => k I _ _ [l] (step_new hn) (.ll upd_same (sub.free hn) hw) (by simp) (upd_sub sub hn)⟩
end
end TL

/-! TL10: what loops walk; list comprehensions. -/
namespace TL
open PySem PySem.Spec PyProof.Rows L2

/-! ### what is walked -/
theorem isit_list {T : TC} {I : Hp} {a : Addr} {vs : List V} {ds : List PyData} (h : SqL T.K I a vs) (r : RpL T I vs ds) : IsIt T (Itl T.K a) ds I where
  go := fun i I' H s s' hi => by
    have hi' : i < vs.length := by rw [r.length]; exact hi
    exact ⟨vs, vs[i], (s.trans s').seq h, by simp [hi']⟩
  stop := fun I' H s s' => ⟨vs, (s.trans s').seq h, Nat.le_of_eq r.length⟩
  yld := fun i I' H v H' s s' hi y => by
    obtain ⟨rfl, y⟩ := y
    obtain ⟨d, hd, hr⟩ := r.get' (y vs ((s.trans s').seq h))
    exact ⟨I', d, hd, .refl, s', hr.mono s⟩
theorem isit_tup {T : TC} {I : Hp} {a : Addr} {vs : List V} {ds : List PyData} (h : SqT T.K I a vs) (r : RpL T I vs ds) : IsIt T (Itt T.K a) ds I where
  go := fun i I' H s s' hi => by
    have hi' : i < vs.length := by rw [r.length]; exact hi
    exact ⟨vs, vs[i], sqT_mono (s.trans s') h, by simp [hi']⟩
  stop := fun I' H s s' => ⟨vs, sqT_mono (s.trans s') h, Nat.le_of_eq r.length⟩
  yld := fun i I' H v H' s s' hi y => by
    obtain ⟨rfl, y⟩ := y
    obtain ⟨d, hd, hr⟩ := r.get' (y vs (sqT_mono (s.trans s') h))
    exact ⟨I', d, hd, .refl, s', hr.mono s⟩
/-- lo, lo + 1, .. -/
def rangeD (lo : Int) (n : Nat) : List PyData := (List.range n).map fun i => .int (lo + (i : Nat))
theorem rangeD_len {lo : Int} {n : Nat} : (rangeD lo n).length = n := by simp [rangeD]
theorem isit_range {T : TC} {I : Hp} {lo : Int} {n : Nat} : IsIt T (Itr lo n) (rangeD lo n) I where
  go := fun i I' H s s' hi => by rw [rangeD_len] at hi; exact hi
  stop := fun I' H s s' => Nat.le_of_eq rangeD_len.symm
  yld := fun i I' H v H' s s' hi y => by
    obtain ⟨rfl, rfl⟩ := y
    rw [rangeD_len] at hi
    exact ⟨I', .int (lo + (i : Nat)), by simp [rangeD, hi], .refl, s', .int _⟩
/-- pairs, each laid anew -/
theorem isit_pairs {T : TC} {I : Hp} {J : It} {ds es : List PyData} {Y : Nat → Option V} {Z : Nat → Option V} {n : Nat} {G : Hp → Prop} (w : Walk J n G (YPair Y Z)) (hG : ∀ I' H, Same I I' → Same I' H → G H) (h1 : ds.length = n) (h2 : es.length = n)
    (hY : ∀ i v, Y i = some v → ∃ d, ds[i]? = some d ∧ Rp T I v d) (hZ : ∀ i v, Z i = some v → ∃ d, es[i]? = some d ∧ Rp T I v d) : IsIt T J (List.zipWith (fun d e => .tuple [d, e]) ds es) I := by
  have hl : (List.zipWith (fun d e => PyData.tuple [d, e]) ds es).length = n := by rw [List.length_zipWith, h1, h2, Nat.min_self]
  refine ⟨fun i I' H s s' hi => w.goes i H (by rw [hl] at hi; exact hi) (hG I' H s s'), fun I' H s s' => by rw [hl]; exact w.stops H (hG I' H s s'), fun i I' H v H' s s' hi y => ?_⟩
  rw [hl] at hi
  obtain ⟨t, x, z, rfl, ht, rfl, e1, e2⟩ := w.yields i H v H' hi (hG I' H s s') y
  obtain ⟨d, q1, r1⟩ := hY i x e1
  obtain ⟨e, q2, r2⟩ := hZ i z e2
  have up : Same I' (upd I' t (.tup [x, z])) := upd_up (s'.free ht)
  exact ⟨upd I' t (.tup [x, z]), .tuple [d, e], by rw [List.getElem?_zipWith, q1, q2], step_frz s' ht, upd_both s', .tup (SqT.of upd_same) (.cons (r1.mono (s.trans up)) (.cons (r2.mono (s.trans up)) .nil))⟩

section
variable {X : Cx} {e a b c o tg it : Expr} {es : List Expr} {ss rest : List Stmt} {Γ Γ' Γ1 Γ2 : Sl} {Ψ : OD → Sl → Prop} {Φ : Out → Prop} {Φt : Bool → Sl → Prop} {pos p apos : Pos} {r x y z : OD} {k k' : Bool} {nm : Str} {ds es' : List PyData} {d d' g : PyData}
theorem xi_lst (h : XE X it Γ (.da (.list ds)) Γ1) : XI X tg it Γ ds Γ1 := fun Ψ hq I H σ F en R k => ⟨_, pi_list wpE_ok, h (fun r Γ' => r = .da (.list ds) ∧ Γ' = Γ1) ⟨rfl, rfl⟩ I H σ F en _ (by
  rintro _ _ I1 H1 v F1 ⟨rfl, rfl⟩ st1 en1
  obtain ⟨B, G, rfl, oo, en2, up⟩ := en1.pop
  cases oo with
  | da hd => cases hd with
    | lst q r => exact ⟨_, rfl, ⟨_, en2.sub.seq q⟩, k ds _ I1 H1 _ _ hq st1 en2 (isit_list q r)⟩)⟩
theorem xi_tup (h : XE X it Γ (.da (.tuple ds)) Γ1) : XI X tg it Γ ds Γ1 := fun Ψ hq I H σ F en R k => ⟨_, pi_tup wpE_ok, h (fun r Γ' => r = .da (.tuple ds) ∧ Γ' = Γ1) ⟨rfl, rfl⟩ I H σ F en _ (by
  rintro _ _ I1 H1 v F1 ⟨rfl, rfl⟩ st1 en1
  obtain ⟨B, G, rfl, oo, en2, up⟩ := en1.pop
  cases oo with
  | da hd => cases hd with
    | tup q r => exact ⟨_, rfl, ⟨_, sqT_mono en2.sub q⟩, k ds _ I1 H1 _ _ hq st1 en2 (isit_tup q r)⟩)⟩
/-- arguments that are data -/
theorem wa_data (h : WA X es Γ fun rs _ Γ1 => rs = ds.map .da ∧ Γ1 = Γ2) {I H : Hp} {σ : L2.St} {F : List Addr} (en : EnvF X.tc I H σ Γ F) {Q : List V → Hp → Prop}
    (k : ∀ (I' H' : Hp) (vs : List V) (F' : List Addr), RpL X.tc I' vs ds → Step I H F I' H' F' → EnvF X.tc I' H' σ Γ2 F' → Q vs H') : wpA X es σ H Q := h I H σ F en Q (by
  rintro rs refs Γ1 I1 H1 vs F1 ⟨rfl, rfl⟩ l1 l2 rk st1 en1
  obtain ⟨B, G, rfl, ol, en2⟩ := en1.popL l1
  obtain ⟨rfl, r⟩ := ownL_da ol
  exact k I1 H1 vs G r st1 en2)
theorem xa1 (h : XE X a Γ (.da d) Γ1) (hs : starEach [a] X.env = (false, eval a X.env) :: starEach [] X.env := by rfl) : WA X [a] Γ fun rs _ Γ' => rs = [d].map .da ∧ Γ' = Γ1 := wa_cons (h _ (wa_nil ⟨rfl, rfl⟩)) hs
theorem xa2 (h : XE X a Γ (.da d) Γ1) (h2 : XE X b Γ1 (.da d') Γ2) (hs : starEach [a, b] X.env = (false, eval a X.env) :: starEach [b] X.env := by rfl) (hs2 : starEach [b] X.env = (false, eval b X.env) :: starEach [] X.env := by rfl) :
    WA X [a, b] Γ fun rs _ Γ' => rs = [d, d'].map .da ∧ Γ' = Γ2 := wa_cons (h _ (wa_cons (h2 _ (wa_nil ⟨rfl, rfl⟩)) hs2)) hs
theorem xi_range1 {j : Int} (B : Blt X.mg) (h : XE X a Γ (.da (.int j)) Γ1) (h0 : -(2 ^ 62) ≤ j) (h1 : j < 2 ^ 62) (hg : Gl X "range" := by rfl) (hs : starEach [a] X.env = [(false, eval a X.env)] := by rfl) : XI X tg (.Call (.Name "range" p) [a] [] pos) Γ (rangeD 0 j.toNat) Γ1 := fun Ψ hq I H σ F en R k =>
  ⟨_, pi_range1 hg B.range wpA_ok hs, wa_data (xa1 h (by rw [hs]; rfl)) en fun I1 H1 vs F1 r st1 en1 => by
    obtain ⟨v, rfl, hv⟩ := rpL1 r
    cases hv
    exact ⟨j, rfl, h0, h1, k _ _ I1 H1 F1 _ hq st1 en1 isit_range⟩⟩
theorem xi_range2 {i j : Int} (B : Blt X.mg) (h : XE X a Γ (.da (.int i)) Γ1) (h2 : XE X b Γ1 (.da (.int j)) Γ2) (hb : -(2 ^ 62) ≤ i ∧ i < 2 ^ 62 ∧ -(2 ^ 62) ≤ j ∧ j < 2 ^ 62) (hg : Gl X "range" := by rfl) (hs : starEach [a, b] X.env = [(false, eval a X.env), (false, eval b X.env)] := by rfl) (hs2 : starEach [b] X.env = [(false, eval b X.env)] := by rfl) :
    XI X tg (.Call (.Name "range" p) [a, b] [] pos) Γ (rangeD i (j - i).toNat) Γ2 := fun Ψ hq I H σ F en R k =>
  ⟨_, pi_range2 hg B.range wpA_ok hs hs2, wa_data (xa2 h h2 (by rw [hs, hs2]) (by rw [hs2]; rfl)) en fun I1 H1 vs F1 r st1 en1 => by
    obtain ⟨v, u, rfl, hv, hu⟩ := rpL2 r
    cases hv
    cases hu
    exact ⟨i, j, rfl, hb, k _ _ I1 H1 F1 _ hq st1 en1 isit_range⟩⟩
theorem zip_len {ds es : List PyData} : List.zipWith (fun d e => PyData.tuple [d, e]) ds es = List.zipWith (fun d e => PyData.tuple [d, e]) (ds.take (min ds.length es.length)) (es.take (min ds.length es.length)) := by
  refine List.ext_getElem? fun i => ?_
  rw [List.getElem?_zipWith, List.getElem?_zipWith, List.getElem?_take, List.getElem?_take]
  by_cases h : i < min ds.length es.length
  · rw [if_pos h, if_pos h]
  · rw [if_neg h, if_neg h]
    have : ds[i]? = none ∨ es[i]? = none := by
      rw [List.getElem?_eq_none_iff, List.getElem?_eq_none_iff]
      omega
    rcases this with q | q
    · rw [q]
    · rw [q]
      cases ds[i]? <;> rfl
end

/-! ### comprehensions -/
def dropΓ (vs : List Nat) (Γ : Sl) : Sl := vs.foldr (fun i Γ => Γ.set i none) Γ
section
variable {T : TC} {I H : Hp} {σ : L2.St} {Γ : Sl} {F : List Addr}
theorem env_drop : ∀ (vs : List Nat) {F : List Addr}, EnvF T I H σ Γ F → ∃ F', EnvF T I H (wipe σ vs) (dropΓ vs Γ) F' ∧ ∀ b ∈ F', b ∈ F
  | [], F, en => ⟨F, en, fun b hb => hb⟩
  | v :: vs, F, en => by
    obtain ⟨F', en', m⟩ := env_drop vs en
    show ∃ F2, EnvF T I H ((wipe σ vs).set v none) ((dropΓ vs Γ).set v none) F2 ∧ _
    by_cases hv : v < (dropΓ vs Γ).length
    · obtain ⟨A, B, C, rfl, _, h5, _⟩ := en'.env.put hv
      have sl : (A ++ C).Sublist (A ++ (B ++ C)) := (List.Sublist.refl A).append (List.sublist_append_right B C)
      exact ⟨_, ⟨h5 none, en'.nd.sublist sl, en'.sub⟩, fun b hb => m b (sl.subset hb)⟩
    · have hl := en'.env.length
      rw [List.set_eq_of_length_le (by omega), List.set_eq_of_length_le (by omega)]
      exact ⟨F', en', m⟩
theorem env_undrop : ∀ (vs : List Nat) {F : List Addr}, EnvF T I H (wipe σ vs) Γ F → ∃ F', EnvF T I H σ (dropΓ vs Γ) F' ∧ ∀ b ∈ F', b ∈ F := by
  intro vs F en
  obtain ⟨F1, en1, m1⟩ := env_drop vs en
  refine ⟨F1, ⟨?_, en1.nd, en1.sub⟩, m1⟩
  -- the wiped slots are not spoken of
  have key : ∀ (σ1 σ2 : L2.St) (Γ : Sl) (F : List Addr), EnvL T I H σ1 Γ F → σ1.length = σ2.length → (∀ (i : Nat) (x : OD), Γ[i]? = some (some x) → σ1[i]? = σ2[i]?) → EnvL T I H σ2 Γ F := by
    intro σ1 σ2 Γ F h
    induction h generalizing σ2 with
    | nil => intro hl _; cases σ2 with
      | nil => exact .nil
      | cons _ _ => simp at hl
    | skip _ ih => intro hl he; cases σ2 with
      | nil => simp at hl
      | cons o σ2 => exact .skip (ih σ2 (by simpa using hl) fun i x q => by simpa using he (i + 1) x (by simpa using q))
    | cons o _ ih => intro hl he; cases σ2 with
      | nil => simp at hl
      | cons o2 σ2 =>
        have e0 := he 0 _ rfl
        simp at e0
        subst e0
        exact .cons o (ih σ2 (by simpa using hl) fun i x q => by simpa using he (i + 1) x (by simpa using q))
  refine key _ σ _ _ en1.env (by rw [wipe_length, wipe_length]) fun i x q => ?_
  -- a slot that is spoken of is none of vs
  have hn : i ∉ vs := by
    clear key en1 m1 en
    induction vs with
    | nil => simp
    | cons v vs ih =>
      have q' : ((dropΓ vs Γ).set v none)[i]? = some (some x) := q
      by_cases hv : v = i
      · subst hv
        by_cases hl : v < (dropΓ vs Γ).length
        · rw [List.getElem?_set_self hl] at q'
          cases q'
        · rw [List.getElem?_eq_none (by simpa using hl)] at q'
          cases q'
      · rw [List.getElem?_set_ne hv] at q'
        simp only [List.mem_cons, not_or]
        exact ⟨fun e => hv e.symm, ih q'⟩
  have wipe_out : ∀ (vs : List Nat) (σ : L2.St), i ∉ vs → (wipe σ vs)[i]? = σ[i]? := by
    intro vs
    induction vs with
    | nil => exact fun _ _ => rfl
    | cons v vs ih =>
      intro σ hm
      simp only [List.mem_cons, not_or] at hm
      unfold wipe
      rw [List.getElem?_set_ne (fun e => hm.1 e.symm)]
      exact ih σ hm.2
  rw [wipe_out vs _ hn, wipe_out vs _ hn]
theorem wipe_set {i : Nat} {o : Option V} : ∀ {vs : List Nat}, i ∈ vs → wipe (σ.set i o) vs = wipe σ vs
  | [], h => by cases h
  | v :: vs, h => by
    unfold wipe
    by_cases hi : i = v
    · subst hi
      -- outer set covers it
      have q : ∀ (vs : List Nat) (σ : L2.St), (wipe (σ.set i o) vs).set i none = (wipe σ vs).set i none := by
        intro vs
        induction vs with
        | nil => exact fun σ => List.set_set ..
        | cons w vs ih =>
          intro σ
          unfold wipe
          by_cases hw : w = i
          · subst hw
            rw [ih]
          · rw [List.set_comm _ _ hw, ih, List.set_comm _ _ hw]
      exact q vs σ
    · rw [wipe_set (List.mem_of_ne_of_mem hi h)]
end
def WGc (X : Cx) (vs : List Nat) (tg : Expr) (r : PyData) (Γ : Sl) (Ψ : Sl → Prop) : Prop := ∀ (I H : Hp) (σ : L2.St) (F : List Addr) (v : V), EnvF X.tc I H σ Γ F → Rp X.tc I v r → ∀ Q : L2.St → Hp → Prop,
  (∀ (Γ' : Sl) (I' H' : Hp) (σ' : L2.St) (F' : List Addr), Ψ Γ' → Step I H F I' H' F' → EnvF X.tc I' H' σ' Γ' F' → wipe σ' vs = wipe σ vs → Q σ' H') → wpG X tg v σ H Q
def WGsc (X : Cx) (vs : List Nat) (ts : List Expr) (rs : List PyData) (Γ : Sl) (Ψ : Sl → Prop) : Prop := ∀ (I H : Hp) (σ : L2.St) (F : List Addr) (us : List V), EnvF X.tc I H σ Γ F → RpL X.tc I us rs → ∀ Q : L2.St → Hp → Prop,
  (∀ (Γ' : Sl) (I' H' : Hp) (σ' : L2.St) (F' : List Addr), Ψ Γ' → Step I H F I' H' F' → EnvF X.tc I' H' σ' Γ' F' → wipe σ' vs = wipe σ vs → Q σ' H') → wpGs X ts us σ H Q
section
variable {X : Cx} {e a b c o tg it elt : Expr} {es ts ifs : List Expr} {ss rest : List Stmt} {Γ Γ' Γ1 Γ2 : Sl} {Ψ : OD → Sl → Prop} {Ψg : Sl → Prop} {Φ : Out → Prop} {Φt : Bool → Sl → Prop} {pos p apos : Pos} {r x y z : OD} {k k' : Bool} {nm : Str} {ds rs : List PyData} {d d' g : PyData} {vs : List Nat}
theorem gc_name (i : Nat) (hN : X.N.Nodup) (h : Ψg (Γ.set i (some (.da d)))) (hm : i ∈ vs := by simp) (hi : X.N[i]? = some nm := by rfl) (hx : Loc X.env.scope nm := by first | exact Or.inl rfl | exact Or.inr rfl) (hl : Nat.blt i Γ.length = true := by rfl)
    (hf : X.fn nm = true ∨ X.env.scope.names.lookup nm = some .local := by first | exact .inl rfl | exact .inr rfl) : WGc X vs (.Name nm p) d Γ Ψg := fun I H σ F v en hr Q k => by
  obtain ⟨F2, en2, m2⟩ := (en.da hr).store (Nat.le_of_ble_eq_true hl)
  exact ⟨_, pg_name hN hi hx hf, k _ I H _ F2 h (Step.less m2) en2 (wipe_set hm)⟩
theorem gsc_nil (h : Ψg Γ) : WGsc X vs [] [] Γ Ψg := fun I H σ F us en r Q k => ⟨_, pgs_nil, by cases r; rfl, k Γ I H σ F h .refl en rfl⟩
theorem gsc_cons (h : WGc X vs e d Γ fun Γ1 => WGsc X vs ts rs Γ1 Ψg) (hs : (assignEach (e :: ts) X.env).map (·.2) = assign e X.env :: (assignEach ts X.env).map (·.2) := by rfl) : WGsc X vs (e :: ts) (d :: rs) Γ Ψg := fun I H σ F us en r Q k => by
  cases r with
  | cons h1 r => exact ⟨_, pgs_cons wpG_ok wpGs_ok hs, _, _, rfl, h I H σ F _ en h1 _ fun Γ1 I1 H1 σ1 F1 h2 st1 en1 w1 => h2 I1 H1 σ1 F1 _ en1 (r.mono st1.inc) Q fun Γ' I' H' σ' F' q st en' w2 => k Γ' I' H' σ' F' q (st1.trans st) en' (w2.trans w1)⟩
theorem gc_tup {n : Nat} (hc : X.calm = true) (h : WGsc X vs ts rs Γ Ψg) (hn : (assignEach ts X.env).length = rs.length := by rfl) (hst : (assignEach ts X.env).findIdx? (·.1) = none := by rfl) : WGc X vs (.Tuple ts n pos) (.tuple rs) Γ Ψg := fun I H σ F v en hr Q k => by
  cases hr with
  | tup q r => exact ⟨_, pg_tup hc wpGs_ok hn hst, _, _, rfl, sqT_mono en.sub q, r.length, h I H σ F _ en r Q k⟩
def wpTs (X : Cx) (ifs : List Expr) : TT := fun σ H Q => ∃ t, PTs X ifs t ∧ t σ H Q
theorem wpTs_ok {ifs : List Expr} : PTs X ifs (wpTs X ifs) := ⟨fun pins s σ H Q I ⟨_, h, q⟩ => h.run pins s σ H Q I q⟩
def WTs (X : Cx) (ifs : List Expr) (Γ : Sl) (Ψ : Bool → Sl → Prop) : Prop := ∀ (I H : Hp) (σ : L2.St) (F : List Addr), EnvF X.tc I H σ Γ F → ∀ Q : Bool → Hp → Prop,
  (∀ (b : Bool) (Γ' : Sl) (I' H' : Hp) (F' : List Addr), Ψ b Γ' → Step I H F I' H' F' → EnvF X.tc I' H' σ Γ' F' → Q b H') → wpTs X ifs σ H Q
theorem wts_nil (h : Φt true Γ) : WTs X [] Γ Φt := fun I H σ F en Q k => ⟨_, pts_nil, k true Γ I H F h .refl en⟩
theorem wts_one (h : WT X c Γ Φt) : WTs X [c] Γ Φt := fun I H σ F en Q k => ⟨_, pts_one wpT_ok, h I H σ F en Q k⟩

/-- the block of a comprehension -/
abbrev Blk (X : Cx) (scope : Scope) (s : Shared) (H : Hp) (C : Addr) (cl : List (Str × Addr)) (fp : List Addr) : Cx := X.blk s H scope (compEnvC scope cl C X.env) fp
/-- one turn of it -/
def LcTurn (X : Cx) (scope : Scope) (own : List (Str × Nat)) (tg elt : Expr) (ifs : List Expr) (d : PyData) (Γ : Sl) (J0 : Sl → Prop) (J1 : PyData → Sl → Prop) : Prop :=
  ∃ Γ3, (∀ (s : Shared) (H : Hp) (C : Addr) (cl : List (Str × Addr)) (fp : List Addr), WGc (Blk X scope s H C cl fp) (own.map (·.2)) tg d Γ fun Γ' => Γ' = Γ3) ∧
  ∃ Ψ4 : Bool → Sl → Prop, (∀ (s : Shared) (H : Hp) (C : Addr) (cl : List (Str × Addr)) (fp : List Addr), WTs (Blk X scope s H C cl fp) ifs Γ3 Ψ4) ∧ ∀ k Γ4, Ψ4 k Γ4 →
    (k = true → ∀ (s : Shared) (H : Hp) (C : Addr) (cl : List (Str × Addr)) (fp : List Addr), WE (Blk X scope s H C cl fp) elt Γ4 fun r Γ5 => ∃ x, Frz r x ∧ J1 x (dropΓ (own.map (·.2)) Γ5)) ∧ (k = false → J0 (dropΓ (own.map (·.2)) Γ4))
theorem wipe_wipe (vs : List Nat) (σ : L2.St) : wipe (wipe σ vs) vs = wipe σ vs := by
  have q2 : ∀ (w : Nat) (us : List Nat) (τ : L2.St), (wipe (τ.set w none) us).set w none = (wipe τ us).set w none := by
    intro w us
    induction us with
    | nil => exact fun τ => List.set_set ..
    | cons u us ih3 =>
      intro τ
      unfold wipe
      by_cases hu : u = w
      · subst hu
        rw [ih3]
      · rw [List.set_comm _ _ hu, ih3, List.set_comm _ _ hu]
  induction vs with
  | nil => rfl
  | cons w vs ih =>
    show (wipe ((wipe σ vs).set w none) vs).set w none = (wipe σ vs).set w none
    rw [q2, ih]
theorem lc_read {scope : Scope} {own : List (Str × Nat)} (J : List PyData → Nat → Sl → List PyData → Prop)
    (h : WI X tg it Γ fun ds Γ1 => ds.length ≤ sizeLine ∧ J ds 0 (dropΓ (own.map (·.2)) Γ1) [] ∧
      (∀ (n : Nat) (d : PyData) (Γ2 : Sl) (acc : List PyData), ds[n]? = some d → J ds n Γ2 acc → LcTurn X scope own tg elt ifs d Γ2 (fun Γ3 => J ds (n + 1) Γ3 acc) fun x Γ3 => J ds (n + 1) Γ3 (acc ++ [x])) ∧
      ∀ (Γ2 : Sl) (acc : List PyData), J ds ds.length Γ2 acc → Ψ (.ll acc) (dropΓ (own.map (·.2)) Γ2))
    (I H : Hp) (σ : L2.St) (F : List Addr) (en : EnvF X.tc I H σ Γ F) (Q : VK) (k : ∀ (r : OD) (Γ' : Sl) (I' H' : Hp) (v : V) (F' : List Addr), Ψ r Γ' → Step I H F I' H' F' → EnvF X.tc I' H' (some v :: σ) (some r :: Γ') F' → Q v H') :
    tLc (wpI X tg it) (fun v σ H Q => ∀ s H0 C cl fp, wpG (Blk X scope s H0 C cl fp) tg v σ H Q) (fun σ H Q => ∀ s H0 C cl fp, wpTs (Blk X scope s H0 C cl fp) ifs σ H Q) (fun σ H Q => ∀ s H0 C cl fp, wpE (Blk X scope s H0 C cl fp) elt σ H Q) (own.map (·.2)) σ H Q := by
  generalize hvs : own.map (·.2) = vs at h
  refine h I H σ F en _ fun ds Γ1 I1 H1 F1 Jt h1 st1 en1 isit D hD => ?_
  obtain ⟨hsz, j0, turn, fin⟩ := h1
  obtain ⟨F1', en1', m1⟩ := env_drop vs en1
  have en2 : EnvF X.tc I1 (upd H1 D (.lst [])) (wipe σ vs) (dropΓ vs Γ1) F1' := ⟨en1'.env.frame (Same.refl _) fun b hb => by
    obtain ⟨⟨ob, q1⟩, q2⟩ := en1'.env.cells b hb
    exact ⟨upd_ne (ne_of_none q1 hD), q2⟩, en1'.nd, upd_sub en1'.sub hD⟩
  have nD : D ∉ F1' := fun hb => by
    obtain ⟨⟨ob, q1⟩, _⟩ := en1'.env.cells D hb
    rw [hD] at q1
    cases q1
  have st2 : Step I1 H1 F1 I1 (upd H1 D (.lst [])) (D :: F1') := (step_new (F := F1) hD).of_mem (fun b hb => hb) fun b hb => (List.mem_cons.mp hb).elim (fun q => q ▸ List.mem_cons_self) fun q => List.mem_cons_of_mem _ (m1 b q)
  refine ⟨fun n m H' => m = ds.length - n ∧ n ≤ ds.length ∧ ∃ Γ2 I2 F2 acc ws, J ds n Γ2 acc ∧ acc.length ≤ n ∧ H' D = some (.lst ws) ∧ I2 D = none ∧ RpL X.tc I2 ws acc ∧ EnvF X.tc I2 H' (wipe σ vs) Γ2 F2 ∧ D ∉ F2 ∧ Step I1 H1 F1 I2 H' (D :: F2),
    ⟨_, rfl, Nat.zero_le _, dropΓ vs Γ1, I1, F1', [], [], j0, Nat.le_refl _, upd_same, en1.sub.free hD, .nil, en2, nD, st2⟩, ?_⟩
  rintro n m H2 ⟨rfl, hn, Γ2, I2, F2, acc, ws, jn, hacc, hD2, iD2, rws, en3, nD2, st3⟩
  by_cases hlt : n < ds.length
  · refine .inr ⟨isit.go n I2 H2 st3.inc en3.sub hlt, fun H' => ∃ Γ3 I3 F3 acc' ws', J ds (n + 1) Γ3 acc' ∧ acc'.length ≤ n + 1 ∧ H' D = some (.lst ws') ∧ I3 D = none ∧ RpL X.tc I3 ws' acc' ∧ EnvF X.tc I3 H' (wipe σ vs) Γ3 F3 ∧ D ∉ F3 ∧ Step I1 H1 F1 I3 H' (D :: F3),
      fun H' q => ⟨ds.length - (n + 1), by omega, rfl, hlt, q⟩, fun v H3 hy => ?_⟩
    obtain ⟨I3, d, hd, st4, sub3, hr⟩ := isit.yld n I2 H2 v H3 st3.inc en3.sub hlt hy
    obtain ⟨hD3, iD3, _⟩ := st4.oth D _ hD2 iD2 (by simp)
    obtain ⟨en4, st4'⟩ := en3.grow st4 sub3
    obtain ⟨Γ3, tg3, Ψ4, tt4, te5⟩ := turn n d Γ2 acc hd jn
    rw [hvs] at tg3 te5
    intro s0 H0 C0 cl0 fp0
    refine tg3 s0 H0 C0 cl0 fp0 I3 H3 (wipe σ vs) F2 v en4 hr _ ?_
    rintro _ I5 H5 σ5 F5 rfl st5 en5 w5
    rw [wipe_wipe] at w5
    refine ⟨w5, fun s1 H1' C1 cl1 fp1 => tt4 s1 H1' C1 cl1 fp1 I5 H5 σ5 F5 en5 _ fun kb Γ4 I6 H6 F6 h6 st6 en6 => ?_⟩
    have st36 : Step I3 H3 F2 I6 H6 F6 := st5.trans st6
    obtain ⟨hD6, iD6, nD6⟩ := st36.oth D _ hD3 iD3 nD2
    have st16 : Step I1 H1 F1 I6 H6 (D :: F6) := by
      refine ⟨(st3.inc.trans st4.inc).trans st36.inc, fun b ob q1 q2 q3 => ?_⟩
      obtain ⟨g1, g2, g3⟩ := st3.oth b ob q1 q2 q3
      rw [List.mem_cons, not_or] at g3
      obtain ⟨g4, g5, g6⟩ := st4'.oth b ob g1 g2 g3.2
      obtain ⟨g7, g8, g9⟩ := st36.oth b ob g4 g5 g6
      exact ⟨g7, g8, fun q => (List.mem_cons.mp q).elim g3.1 g9⟩
    have rws6 := (rws.mono st4.inc).mono st36.inc
    -- back to the wiped slots
    have back : ∀ {Γ7 : Sl} {I7 H7 : Hp} {F7 : List Addr}, EnvF X.tc I7 H7 σ5 Γ7 F7 → ∃ F8, EnvF X.tc I7 H7 (wipe σ vs) (dropΓ vs Γ7) F8 ∧ ∀ b ∈ F8, b ∈ F7 := fun en7 => by
      obtain ⟨F8, en8, m8⟩ := env_drop vs en7
      rw [w5] at en8
      exact ⟨F8, en8, m8⟩
    cases kb with
    | false =>
      rw [if_neg Bool.false_ne_true]
      obtain ⟨F8, en8, m8⟩ := back en6
      exact ⟨_, I6, F8, acc, ws, (te5 false Γ4 h6).2 rfl, by omega, hD6, iD6, rws6, en8, fun q => nD6 (m8 D q), st16.of_mem (fun b hb => hb) fun b hb => (List.mem_cons.mp hb).elim (fun q => q ▸ List.mem_cons_self) fun q => List.mem_cons_of_mem _ (m8 b q)⟩
    | true =>
      rw [if_pos rfl]
      intro s2 H2' C2 cl2 fp2
      refine (te5 true Γ4 h6).1 rfl s2 H2' C2 cl2 fp2 I6 H6 σ5 F6 en6 _ ?_
      rintro r Γ5 I7 H7 y F7 ⟨x, fz, hj⟩ st7 en7
      obtain ⟨I8, F8, st8, en8⟩ := en7.frz fz
      obtain ⟨B, G, rfl, oo, en9, _⟩ := en8.pop
      cases oo with
      | da hx =>
        have st68 := st7.trans st8
        obtain ⟨hD8, iD8, nD8⟩ := st68.oth D _ hD6 iD6 nD6
        obtain ⟨F9, en10, m9⟩ := back en9
        have nD9 : D ∉ F9 := fun q => nD8 (m9 D q)
        have en11 : EnvF X.tc I8 (upd H7 D (.lst (ws ++ [y]))) (wipe σ vs) (dropΓ vs Γ5) F9 := ⟨en10.env.frame (Same.refl _) fun b hb => ⟨upd_ne fun q => nD9 (q ▸ hb), (en10.env.cells b hb).2⟩, en10.nd, fun b u q => by
          rw [upd_ne fun e => by
            rw [e, iD8] at q
            cases q]
          exact en10.sub b u q⟩
        refine ⟨ws, hD8, by rw [rws.length]; omega, dropΓ vs Γ5, I8, F9, acc ++ [x], ws ++ [y], hj, by simp; omega, upd_same, iD8, RpL.append (rws6.mono st68.inc) (.cons hx .nil), en11, nD9, ?_⟩
        refine ⟨st16.inc.trans st68.inc, fun b ob q1 q2 q3 => ?_⟩
        obtain ⟨g1, g2, g3⟩ := st16.oth b ob q1 q2 q3
        rw [List.mem_cons, not_or] at g3
        obtain ⟨g4, g5, g6⟩ := st68.oth b ob g1 g2 g3.2
        refine ⟨by rw [upd_ne g3.1]; exact g4, g5, fun q => (List.mem_cons.mp q).elim g3.1 fun q => g6 (m9 b q)⟩
  · have e : n = ds.length := by omega
    subst e
    refine .inl ⟨isit.stop I2 H2 st3.inc en3.sub, ?_⟩
    obtain ⟨F3, en4, m4⟩ := env_undrop vs en3
    have nd : (D :: F3).Nodup := List.nodup_cons.mpr ⟨fun q => nD2 (m4 D q), en4.nd⟩
    exact k _ _ I2 H2 (.ref D) (D :: F3) (fin Γ2 acc jn) (st1.trans (st3.of_mem (fun b hb => hb) fun b hb => (List.mem_cons.mp hb).elim (fun q => q ▸ List.mem_cons_self) fun q => List.mem_cons_of_mem _ (m4 b q))) ⟨.cons (.ll hD2 iD2 rws) en4.env, nd, en4.sub⟩
end
end TL

/-! TL11: comprehensions as rules; the frame's facts. -/
namespace TL
open PySem PySem.Spec PyProof.Rows L2

/-- what every rule asks of the context -/
structure Fr (X : Cx) (k : Nat) : Prop where
  nd : X.N.Nodup
  calm : X.calm = true
  own : PassesOwn (model X.prog X.w) X.A X.env X.xe
  room : Room k X.A
  gd : X.A.guards = some []
section
variable {X : Cx} {k : Nat}
theorem Fr.u (f : Fr X k) : X.A.units + 64 < cLine := f.room.units
theorem Fr.u1 (f : Fr X k) : X.A.units + 1 < cLine := by have := f.room.units; omega
theorem Fr.u70 (f : Fr X k) : X.A.units + 70 < cLine := by have := f.room.un; omega
theorem Fr.u0 (f : Fr X k) : X.A.units < cLine := f.room.units0
end
/-- .. in a comprehension's block, whatever it is -/
structure FrB (X : Cx) (k : Nat) : Prop where
  nd : X.N.Nodup
  calm : X.calm = true
  room : Room k X.A
  gd : X.A.guards = some []

section
variable {X : Cx} {e a b c o elt tg it : Expr} {es ifs : List Expr} {ss rest : List Stmt} {Γ Γ' Γ1 Γ2 : Sl} {Ψ : OD → Sl → Prop} {Φ : Out → Prop} {Φt : Bool → Sl → Prop} {pos p apos spos py : Pos} {r x y z : OD} {nm : Str} {ds : List PyData} {d : PyData} {scope : Scope} {own : List (Str × Nat)}
abbrev LcWI (X : Cx) (scope : Scope) (own : List (Str × Nat)) (tg it elt : Expr) (ifs : List Expr) (Γ : Sl) (J : List PyData → Nat → Sl → List PyData → Prop) (Ψ : OD → Sl → Prop) : Prop :=
  WI X tg it Γ fun ds Γ1 => ds.length ≤ sizeLine ∧ J ds 0 (dropΓ (own.map (·.2)) Γ1) [] ∧
      (∀ (n : Nat) (d : PyData) (Γ2 : Sl) (acc : List PyData), ds[n]? = some d → J ds n Γ2 acc → LcTurn X scope own tg elt ifs d Γ2 (fun Γ3 => J ds (n + 1) Γ3 acc) fun x Γ3 => J ds (n + 1) Γ3 (acc ++ [x])) ∧
      ∀ (Γ2 : Sl) (acc : List PyData), J ds ds.length Γ2 acc → Ψ (.ll acc) (dropΓ (own.map (·.2)) Γ2)
theorem we_lc (own : List (Str × Nat)) (J : List PyData → Nat → Sl → List PyData → Prop) (hc : X.calm = true) (hN : X.N.Nodup) (h : LcWI X scope own tg it elt ifs Γ J Ψ)
    (ok : blkC X.N X.env.scope scope own = true := by rfl) (hs : ∀ x, foldedSetIterable it X.env x = pure x := by intro _; rfl) : WE X (.ListComp elt [⟨tg, it, ifs, 0⟩] scope pos) Γ Ψ := fun I H σ F en Q k =>
  ⟨_, pe_lc hc hN wpI_ok (blkOk_by ok) (g := fun v σ H Q => ∀ s H0 C cl fp, wpG (Blk X scope s H0 C cl fp) tg v σ H Q) (tt := fun σ H Q => ∀ s H0 C cl fp, wpTs (Blk X scope s H0 C cl fp) ifs σ H Q) (te := fun σ H Q => ∀ s H0 C cl fp, wpE (Blk X scope s H0 C cl fp) elt σ H Q)
    (fun s H0 C cl fp => ⟨fun pins s' σ H v u Q I r h => wpG_ok.run pins s' σ H v u Q I r (h s H0 C cl fp)⟩) (fun s H0 C cl fp => ⟨fun pins s' σ H Q I h => wpTs_ok.run pins s' σ H Q I (h s H0 C cl fp)⟩) (fun s H0 C cl fp => ⟨fun pins s' σ H Q I h => wpE_ok.run pins s' σ H Q I (h s H0 C cl fp)⟩) hs,
    lc_read J h I H σ F en Q k⟩
/-- y = [..], y a plain local name -/
theorem ws_setLc (i : Nat) (own : List (Str × Nat)) (J : List PyData → Nat → Sl → List PyData → Prop) (hc : X.calm = true) (hN : X.N.Nodup) (h : LcWI X scope own tg it elt ifs Γ J fun r Γ1 => WSs X rest (Γ1.set i (some r)) Φ)
    (hi : X.N[i]? = some nm := by rfl) (hyl : X.env.scope.names.lookup nm = some .local := by rfl) (hl : Nat.blt i Γ.length = true := by rfl) (hsw : swapsWith (.ListComp elt [⟨tg, it, ifs, 0⟩] scope pos) (some (.Name nm py)) spos.line X.env = pure true := by rfl)
    (ok : blkC X.N X.env.scope scope own = true := by rfl) (hs : ∀ x, foldedSetIterable it X.env x = pure x := by intro _; rfl) : WSs X (.Assign [.Name nm py] (.ListComp elt [⟨tg, it, ifs, 0⟩] scope pos) spos :: rest) Γ Φ := fun I H σ F en D ek =>
  ⟨_, pss_cons (ps_setLc hc hN hi hyl hsw wpI_ok (blkOk_by ok) (g := fun v σ H Q => ∀ s H0 C cl fp, wpG (Blk X scope s H0 C cl fp) tg v σ H Q) (tt := fun σ H Q => ∀ s H0 C cl fp, wpTs (Blk X scope s H0 C cl fp) ifs σ H Q) (te := fun σ H Q => ∀ s H0 C cl fp, wpE (Blk X scope s H0 C cl fp) elt σ H Q)
    (fun s H0 C cl fp => ⟨fun pins s' σ H v u Q I r h => wpG_ok.run pins s' σ H v u Q I r (h s H0 C cl fp)⟩) (fun s H0 C cl fp => ⟨fun pins s' σ H Q I h => wpTs_ok.run pins s' σ H Q I (h s H0 C cl fp)⟩) (fun s H0 C cl fp => ⟨fun pins s' σ H Q I h => wpE_ok.run pins s' σ H Q I (h s H0 C cl fp)⟩) hs) wpSs_ok,
    lc_read (Ψ := fun r Γ1 => WSs X rest (Γ1.set i (some r)) Φ) J h I H σ F en (fun v H1 => wpSs X rest D (σ.set i (some v)) H1) fun r Γ1 I1 H1 v F1 h1 st1 en1 => by
      have hl1 : i < Γ1.length := by rw [en.len_eq1 en1]; exact Nat.le_of_ble_eq_true hl
      obtain ⟨F2, en2, m2⟩ := en1.store hl1
      exact h1 I1 H1 _ F2 en2 D (ek.step (step_sub st1 m2))⟩

/-! the deterministic ones -/
/-- one turn that answers, or skips -/
def LcDet (X : Cx) (scope : Scope) (own : List (Str × Nat)) (tg elt : Expr) (ifs : List Expr) (d : PyData) (Γ0 : Sl) (g : Option PyData) : Prop :=
  ∃ Γ3 k, (∀ s H C cl fp, WGc (Blk X scope s H C cl fp) (own.map (·.2)) tg d Γ0 fun Γ' => Γ' = Γ3) ∧ (∀ s H C cl fp, WTs (Blk X scope s H C cl fp) ifs Γ3 fun k' Γ' => k' = k ∧ Γ' = Γ3) ∧ dropΓ (own.map (·.2)) Γ3 = Γ0 ∧
    (k = false → g = none) ∧ (k = true → ∃ x, g = some x ∧ ∀ s H C cl fp, ∃ r, Frz r x ∧ XE (Blk X scope s H C cl fp) elt Γ3 r Γ3)
theorem lc_det {α : Type} {xs : List α} {E : α → PyData} {Γ0 : Sl} {g : α → Option PyData} (hi : XI X tg it Γ (xs.map E) Γ1) (hsz : xs.length ≤ sizeLine) (h0 : dropΓ (own.map (·.2)) Γ1 = Γ0) (turn : ∀ x ∈ xs, LcDet X scope own tg elt ifs (E x) Γ0 (g x)) (hd : dropΓ (own.map (·.2)) Γ0 = Γ0) (hq : Ψ (.ll (xs.filterMap g)) Γ0) :
    LcWI X scope own tg it elt ifs Γ (fun ds' n Γ' acc => ds' = xs.map E ∧ Γ' = Γ0 ∧ acc = (xs.take n).filterMap g) Ψ := by
  refine hi _ ⟨by rw [List.length_map]; exact hsz, ⟨rfl, h0, rfl⟩, ?_, ?_⟩
  · rintro n d _ _ hn ⟨_, rfl, rfl⟩
    rw [List.getElem?_map] at hn
    obtain ⟨x, hx, rfl⟩ := Option.map_eq_some_iff.mp hn
    obtain ⟨Γ3, k, h1, h2, h3, h4, h5⟩ := turn x (List.mem_of_getElem? hx)
    refine ⟨Γ3, h1, _, h2, ?_⟩
    have e : (xs.take (n + 1)).filterMap g = (xs.take n).filterMap g ++ (g x).toList := by
      rw [List.take_succ, hx, List.filterMap_append]
      cases hgd : g x <;> simp [hgd]
    rintro k' Γ4 ⟨rfl, rfl⟩
    refine ⟨fun hk s H C cl fp => ?_, fun hk => ⟨rfl, h3, by rw [e, h4 hk]; simp⟩⟩
    obtain ⟨y, hy, q⟩ := h5 hk
    obtain ⟨r, fz, hr⟩ := q s H C cl fp
    exact hr _ ⟨y, fz, rfl, h3, by rw [e, hy]; rfl⟩
  · rintro _ _ ⟨_, rfl, rfl⟩
    rw [hd, List.length_map, List.take_length]
    exact hq
theorem filterMap_some {α β : Type} {f : α → β} : ∀ {xs : List α}, xs.filterMap (fun x => some (f x)) = xs.map f
  | [] => rfl
  | x :: xs => by
    rw [List.filterMap_cons_some (f := fun x => some (f x)) (b := f x) rfl, filterMap_some, List.map_cons]
theorem filterMap_if {α β : Type} {f : α → β} {p : α → Bool} : ∀ {xs : List α}, xs.filterMap (fun x => if p x then some (f x) else none) = (xs.filter p).map f
  | [] => rfl
  | x :: xs => by
    cases hx : p x
    · rw [List.filterMap_cons_none (by simp [hx]), filterMap_if, List.filter_cons_of_neg (by simp [hx])]
    · rw [List.filterMap_cons_some (b := f x) (by simp [hx]), filterMap_if, List.filter_cons_of_pos hx, List.map_cons]
/-- one for, no if -/
theorem lc_map {α : Type} {xs : List α} {E f : α → PyData} {Γ0 : Sl} {R : α → OD} (Γ3 : α → Sl) (hi : XI X tg it Γ (xs.map E) Γ1) (hsz : xs.length ≤ sizeLine) (h0 : dropΓ (own.map (·.2)) Γ1 = Γ0)
    (hg : ∀ x ∈ xs, ∀ s H C cl fp, WGc (Blk X scope s H C cl fp) (own.map (·.2)) tg (E x) Γ0 fun Γ' => Γ' = Γ3 x) (he : ∀ x ∈ xs, ∀ s H C cl fp, XE (Blk X scope s H C cl fp) elt (Γ3 x) (R x) (Γ3 x)) (hf : ∀ x, Frz (R x) (f x))
    (hd3 : ∀ x, dropΓ (own.map (·.2)) (Γ3 x) = Γ0) (hd : dropΓ (own.map (·.2)) Γ0 = Γ0) (hq : Ψ (.ll (xs.map f)) Γ0) :
    LcWI X scope own tg it elt [] Γ (fun ds' n Γ' acc => ds' = xs.map E ∧ Γ' = Γ0 ∧ acc = (xs.take n).filterMap fun x => some (f x)) Ψ :=
  lc_det hi hsz h0 (fun x hx => ⟨Γ3 x, true, hg x hx, fun _ _ _ _ _ => wts_nil ⟨rfl, rfl⟩, hd3 x, (fun q => Bool.noConfusion q), fun _ => ⟨_, rfl, fun s H C cl fp => ⟨_, hf x, he x hx s H C cl fp⟩⟩⟩) hd (by rw [filterMap_some]; exact hq)
/-- one for, one if -/
theorem lc_fil {α : Type} {xs : List α} {E f : α → PyData} {Γ0 : Sl} {R : α → OD} (pr : α → Bool) (Γ3 : α → Sl) (hi : XI X tg it Γ (xs.map E) Γ1) (hsz : xs.length ≤ sizeLine) (h0 : dropΓ (own.map (·.2)) Γ1 = Γ0)
    (hg : ∀ x ∈ xs, ∀ s H C cl fp, WGc (Blk X scope s H C cl fp) (own.map (·.2)) tg (E x) Γ0 fun Γ' => Γ' = Γ3 x) (ht : ∀ x ∈ xs, ∀ s H C cl fp, XT (Blk X scope s H C cl fp) c (Γ3 x) (pr x) (Γ3 x)) (he : ∀ x ∈ xs, pr x = true → ∀ s H C cl fp, XE (Blk X scope s H C cl fp) elt (Γ3 x) (R x) (Γ3 x)) (hf : ∀ x, Frz (R x) (f x))
    (hd3 : ∀ x, dropΓ (own.map (·.2)) (Γ3 x) = Γ0) (hd : dropΓ (own.map (·.2)) Γ0 = Γ0) (hq : Ψ (.ll ((xs.filter pr).map f)) Γ0) :
    LcWI X scope own tg it elt [c] Γ (fun ds' n Γ' acc => ds' = xs.map E ∧ Γ' = Γ0 ∧ acc = (xs.take n).filterMap fun x => if pr x then some (f x) else none) Ψ :=
  lc_det hi hsz h0 (fun x hx => ⟨Γ3 x, pr x, hg x hx, fun s H C cl fp => wts_one (ht x hx s H C cl fp _ ⟨rfl, rfl⟩), hd3 x, (fun q => by simp [q]), fun q => ⟨f x, by simp [q], fun s H C cl fp => ⟨_, hf x, he x hx q s H C cl fp⟩⟩⟩) hd (by
    rw [filterMap_if]
    exact hq)
end
end TL

/-! TL12: slots read in place; dicts. -/
namespace TL
open PySem PySem.Spec PyProof.Rows L2

/-! ### association lists -/
section
variable {κ β : Type} [DecidableEq κ]
def kget (m : List (κ × β)) (k : κ) : Option β := (m.find? fun q => decide (q.1 = k)).map (·.2)
def kput (m : List (κ × β)) (k : κ) (v : β) : List (κ × β) := if (m.any fun q => decide (q.1 = k)) = true then m.map (fun q => if q.1 = k then (q.1, v) else q) else m ++ [(k, v)]
theorem kget_nil {k : κ} : kget ([] : List (κ × β)) k = none := rfl
theorem kget_cons {p : κ × β} {m : List (κ × β)} {k : κ} : kget (p :: m) k = if p.1 = k then some p.2 else kget m k := by
  unfold kget
  rw [List.find?_cons]
  by_cases h : p.1 = k <;> simp [h]
theorem kget_any {m : List (κ × β)} {k : κ} : (m.any fun q => decide (q.1 = k)) = (kget m k).isSome := by
  induction m with
  | nil => rfl
  | cons p m ih =>
    rw [List.any_cons, ih, kget_cons]
    by_cases h : p.1 = k <;> simp [h]
theorem kget_map_put {m : List (κ × β)} {k k' : κ} {v : β} : kget (m.map fun q => if q.1 = k then (q.1, v) else q) k' = if k' = k then (kget m k').map (fun _ => v) else kget m k' := by
  induction m with
  | nil => simp [kget_nil]
  | cons p m ih =>
    rw [List.map_cons, kget_cons, kget_cons, ih]
    by_cases h : p.1 = k <;> by_cases h2 : p.1 = k' <;> by_cases h3 : k' = k <;> simp_all
theorem kget_append {m n : List (κ × β)} {k : κ} : kget (m ++ n) k = (kget m k).or (kget n k) := by
  induction m with
  | nil => simp [kget_nil]
  | cons p m ih =>
    rw [List.cons_append, kget_cons, kget_cons, ih]
    by_cases h : p.1 = k <;> simp [h]
theorem kget_put {m : List (κ × β)} {k k' : κ} {v : β} : kget (kput m k v) k' = if k' = k then some v else kget m k' := by
  unfold kput
  rw [kget_any]
  cases h : kget m k with
  | none =>
    rw [Option.isSome_none, if_neg (by simp), kget_append, kget_cons, kget_nil]
    by_cases h2 : k' = k
    · subst h2
      simp [h]
    · rw [if_neg (Ne.symm h2), if_neg h2]
      simp
  | some w =>
    rw [Option.isSome_some, if_pos rfl, kget_map_put]
    by_cases h2 : k' = k
    · subst h2
      simp [h]
    · rw [if_neg h2, if_neg h2]
theorem kput_keys {m : List (κ × β)} {k : κ} {v : β} : (kput m k v).map (·.1) = if (kget m k).isSome then m.map (·.1) else m.map (·.1) ++ [k] := by
  unfold kput
  rw [kget_any]
  by_cases h : (kget m k).isSome = true
  · rw [if_pos h, if_pos h, List.map_map]
    refine List.map_congr_left fun p _ => ?_
    by_cases h2 : p.1 = k <;> simp [h2]
  · rw [if_neg h, if_neg h, List.map_append]
    rfl
theorem kget_mem {m : List (κ × β)} {k : κ} : (kget m k).isSome = decide (k ∈ m.map (·.1)) := by
  induction m with
  | nil => rfl
  | cons p m ih =>
    rw [kget_cons]
    by_cases h : p.1 = k
    · rw [if_pos h, List.map_cons, h]
      simp
    · rw [if_neg h, ih, List.map_cons]
      have h' : ¬ k = p.1 := fun q => h q.symm
      simp [List.mem_cons, h']
theorem kget_some_mem {m : List (κ × β)} {k : κ} {v : β} (h : kget m k = some v) : (k, v) ∈ m := by
  unfold kget at h
  obtain ⟨p, h1, rfl⟩ := Option.map_eq_some_iff.mp h
  have h2 := List.find?_some h1
  have h3 := List.mem_of_find?_eq_some h1
  obtain ⟨a, b⟩ := p
  simp at h2
  subst h2
  exact h3
theorem mem_kget {m : List (κ × β)} {k : κ} {v : β} (nd : (m.map (·.1)).Nodup) (h : (k, v) ∈ m) : kget m k = some v := by
  induction m with
  | nil => cases h
  | cons p m ih =>
    rw [List.map_cons, List.nodup_cons] at nd
    rw [kget_cons]
    rcases List.mem_cons.mp h with rfl | h
    · simp
    · have : p.1 ≠ k := fun q => nd.1 (q ▸ List.mem_map_of_mem (f := (·.1)) h)
      rw [if_neg this]
      exact ih nd.2 h
theorem kput_nodup {m : List (κ × β)} {k : κ} {v : β} (nd : (m.map (·.1)).Nodup) : ((kput m k v).map (·.1)).Nodup := by
  rw [kput_keys]
  split
  · exact nd
  · rename_i h
    rw [kget_mem] at h
    refine List.nodup_append.mpr ⟨nd, by simp, fun x hx y hy q => ?_⟩
    simp at hy
    subst hy
    subst q
    simp at h
    obtain ⟨p, hp, hq⟩ := List.mem_map.mp hx
    exact h _ (by rw [← hq]; exact hp)
theorem kput_len {m : List (κ × β)} {k : κ} {v : β} : (kput m k v).length ≤ m.length + 1 := by
  unfold kput
  split <;> simp
end

/-! ### slots read in place -/
def Rd2 (T : TC) (f : R2) (x : OD) (d g : PyData) : Prop := ∀ (I H : Hp) (v u : V) (B : List Addr), Own T I H v x B → Rp T I u d → Same I H → ∀ Q : VK, (∀ w, Rp T I w g → Q w H) → f v u H Q
def Rd1 (T : TC) (f : List V → Hp → VK → Prop) (x z : OD) : Prop := ∀ (I H : Hp) (v : V) (B : List Addr), Own T I H v x B → Same I H → ∀ Q : VK,
  (∀ (I' H' : Hp) (w : V) (B' : List Addr), Step I H [] I' H' B' → Own T I' H' w z B' → B'.Nodup → Same I' H' → Q w H') → f [v] H Q
theorem Rd1.pure {T : TC} {f : List V → Hp → VK → Prop} {x : OD} {g : PyData} (h : ∀ (I H : Hp) (v : V) (B : List Addr), Own T I H v x B → Same I H → ∀ Q : VK, (∀ w, Rp T I w g → Q w H) → f [v] H Q) : Rd1 T f x (.da g) :=
  fun I H v B o s Q k => h I H v B o s Q fun w hw => k I H w [] .refl (.da hw) List.nodup_nil s
theorem Rd1.opl {T : TC} {f : List V → Hp → VK → Prop} {d : PyData} {z : OD} (h : Rd1 T f (.da d) z) : OpL T f [.da d] z := fun I H vs B o nd s Q k => by
  obtain ⟨rfl, r⟩ := ownL_da (ds := [d]) o
  obtain ⟨v, rfl, r'⟩ := rpL1 r
  exact h I H v [] (.da r') s Q k
theorem Rd2.op2 {T : TC} {f : R2} {x d g : PyData} (h : Rd2 T f (.da x) d g) : Op2 T f (.da x) (.da d) (.da g) := Op2.pure fun I H v u h1 h2 s Q k => h I H v u [] (.da h1) h2 s Q k
theorem Rd2.op2' {T : TC} {f : R2} {x d g : PyData} (h : Rd2 T (fun v u => f u v) (.da x) d g) : Op2 T f (.da d) (.da x) (.da g) := Op2.pure fun I H v u h1 h2 s Q k => h I H u v [] (.da h2) h1 s Q k
/-- the slot's value and what it holds -/
theorem EnvF.see {T : TC} {I H : Hp} {σ : L2.St} {Γ : Sl} {F : List Addr} {i : Nat} {x : OD} (en : EnvF T I H σ Γ F) (hx : Γ[i]? = some (some x)) : ∃ v B, σ[i]? = some (some v) ∧ Own T I H v x B := by
  obtain ⟨v, B, G, h1, h2, _⟩ := en.take hx
  exact ⟨v, B, h1, h2⟩
def OSome : Option (Option OD) → Bool
  | some (some _) => true
  | _ => false
theorem OSome.ex {o : Option (Option OD)} (h : OSome o = true) : ∃ x, o = some (some x) := by
  unfold OSome at h
  split at h
  · exact ⟨_, rfl⟩
  · cases h

section
variable {X : Cx} {e a b c o : Expr} {es : List Expr} {ss rest : List Stmt} {Γ Γ' Γ1 Γ2 : Sl} {Ψ : OD → Sl → Prop} {Φ : Out → Prop} {Φt : Bool → Sl → Prop} {pos p apos : Pos} {r x y z : OD} {k k' : Bool} {nm : Str} {ds : List PyData} {d g : PyData} {f : R2} {i : Nat} {wl : List V → Hp → VK → Prop}
theorem core_SV (h0 : OSome Γ[i]? = true) (hb : XE X b Γ (.da d) Γ1) (hx : Γ1[i]? = some (some x)) (rd : Rd2 X.tc f x d g) {I H : Hp} {σ : L2.St} {F : List Addr} (en : EnvF X.tc I H σ Γ F) (Q : VK)
    (k : ∀ (w : V) (I' H' : Hp) (F' : List Addr), Rp X.tc I' w g → Step I H F I' H' F' → EnvF X.tc I' H' σ Γ1 F' → Q w H') : ∃ v, σ[i]? = some (some v) ∧ wpE X b σ H fun u H1 => f v u H1 Q := by
  obtain ⟨x0, hx0⟩ := OSome.ex h0
  obtain ⟨v, _, e1, _⟩ := en.see hx0
  refine ⟨v, e1, hb (fun r Γ' => r = .da d ∧ Γ' = Γ1) ⟨rfl, rfl⟩ I H σ F en _ ?_⟩
  rintro _ _ I1 H1 u F1 ⟨rfl, rfl⟩ st1 en1
  obtain ⟨B, G, rfl, oo, en2, _⟩ := en1.pop
  cases oo with
  | da hd =>
    obtain ⟨v', B', e1', ow⟩ := en2.see hx
    rw [e1] at e1'
    cases e1'
    exact rd I1 H1 v u B' ow hd en2.sub Q fun w hw => k w I1 H1 G hw st1 en2
theorem core_VS (hb : XE X b Γ (.da d) Γ1) (hx : Γ1[i]? = some (some x)) (rd : Rd2 X.tc (fun v u => f u v) x d g) {I H : Hp} {σ : L2.St} {F : List Addr} (en : EnvF X.tc I H σ Γ F) (Q : VK)
    (k : ∀ (w : V) (I' H' : Hp) (F' : List Addr), Rp X.tc I' w g → Step I H F I' H' F' → EnvF X.tc I' H' σ Γ1 F' → Q w H') : wpE X b σ H fun u H1 => ∃ v, σ[i]? = some (some v) ∧ f u v H1 Q := by
  refine hb (fun r Γ' => r = .da d ∧ Γ' = Γ1) ⟨rfl, rfl⟩ I H σ F en _ ?_
  rintro _ _ I1 H1 u F1 ⟨rfl, rfl⟩ st1 en1
  obtain ⟨B, G, rfl, oo, en2, _⟩ := en1.pop
  cases oo with
  | da hd =>
    obtain ⟨v', B', e1', ow⟩ := en2.see hx
    exact ⟨v', e1', rd I1 H1 v' u B' ow hd en2.sub Q fun w hw => k w I1 H1 G hw st1 en2⟩
theorem core_S {σ : L2.St} {I H : Hp} {F : List Addr} (hx : Γ[i]? = some (some x)) (rd : Rd1 X.tc wl x z) (en : EnvF X.tc I H σ Γ F) (Q : VK)
    (k : ∀ (w : V) (I' H' : Hp) (F' : List Addr), Step I H F I' H' F' → EnvF X.tc I' H' (some w :: σ) (some z :: Γ) F' → Q w H') : ∃ v, σ[i]? = some (some v) ∧ wl [v] H Q := by
  obtain ⟨v, B, e1, ow⟩ := en.see hx
  refine ⟨v, e1, rd I H v B ow en.sub Q fun I' H' w B' st o nd sub => ?_⟩
  obtain ⟨en2, st2⟩ := en.use (B := []) (by simpa using en.nd) st o nd sub
  exact k w I' H' _ st2 en2
/-- f(name): the slot read in place -/
theorem xe_callS {id : String} (i : Nat) (hc : CallR X (.builtin id) wl) (q : Rd1 X.tc wl x z) (hg : Gl X nm) (hm : X.mg nm = none) (hv : bootBuiltins nm = some (.builtin id)) {n2 : Str} {p2 : Pos} (hx : Γ[i]? = some (some x) := by rfl)
    (hN : X.N[i]? = some n2 := by rfl) (hvs : Vis X.env.scope n2 := by first | exact Or.inl rfl | exact Or.inr (Or.inl rfl) | exact Or.inr (Or.inr rfl)) (h1 : (n2 == ("__debug__" : Str)) = false := by decide) (h2 : (n2 == ("__classdict__" : Str)) = false := by decide)
    (hn : nm ≠ "__name__" := by decide) (hdb : (nm == ("__debug__" : Str)) = false := by decide) (he : starEach [.Name n2 p2] X.env = (false, eval (.Name n2 p2) X.env) :: starEach [] X.env := by rfl) (hpl : (backTo pos (starEach [] X.env)).any (·.1) = false := by rfl) :
    XE X (.Call (.Name nm p) [.Name n2 p2] [] pos) Γ z Γ := fun Ψ hq I H σ F en Q k => ⟨_, pe_callB hc hg hm hv (pa_cons (pe_var hN hvs h1 h2) pa_nil he) hn hdb he hpl, core_S hx q en Q fun w I' H' F' st en' => k z Γ I' H' w F' hq st en'⟩
theorem xe_callTyS {Ty : String} (i : Nat) (hc : CallR X (.type Ty) wl) (q : Rd1 X.tc wl x z) (hg : Gl X nm) (hm : X.mg nm = none) (hv : bootBuiltins nm = some (.type Ty)) {n2 : Str} {p2 : Pos} (hx : Γ[i]? = some (some x) := by rfl)
    (hN : X.N[i]? = some n2 := by rfl) (hvs : Vis X.env.scope n2 := by first | exact Or.inl rfl | exact Or.inr (Or.inl rfl) | exact Or.inr (Or.inr rfl)) (h1 : (n2 == ("__debug__" : Str)) = false := by decide) (h2 : (n2 == ("__classdict__" : Str)) = false := by decide)
    (hn : nm ≠ "__name__" := by decide) (hdb : (nm == ("__debug__" : Str)) = false := by decide) (he : starEach [.Name n2 p2] X.env = (false, eval (.Name n2 p2) X.env) :: starEach [] X.env := by rfl) (hpl : (backTo pos (starEach [] X.env)).any (·.1) = false := by rfl) :
    XE X (.Call (.Name nm p) [.Name n2 p2] [] pos) Γ z Γ := fun Ψ hq I H σ F en Q k => ⟨_, pe_callTy hc hg hm hv (pa_cons (pe_var hN hvs h1 h2) pa_nil he) hn hdb he hpl, core_S hx q en Q fun w I' H' F' st en' => k z Γ I' H' w F' hq st en'⟩
end

/-! ### dicts with keys ints and texts -/
def dkD (ks : List (Key × PyData)) : PyData := .dict (ks.map fun p => (keyD p.1, p.2))
theorem keyD_inj : ∀ {a b : Key}, keyD a = keyD b → a = b
  | .inl i, .inl j, h => by cases h; rfl
  | .inr i, .inr j, h => by cases h; rfl
  | .inl i, .inr j, h => by cases h
  | .inr i, .inl j, h => by cases h
inductive DV : OD → List (Key × PyData) → Prop
  | dd {ks : List (Key × PyData)} : DV (.dd ks) ks
  | pin {v : V} {ks : List (Key × PyData)} : DV (.pin v (.dd ks)) ks
  | da {ks : List (Key × PyData)} : DV (.da (dkD ks)) ks
theorem map_inj {α β : Type} {f : α → β} (hf : ∀ a b, f a = f b → a = b) : ∀ {xs ys : List α}, xs.map f = ys.map f → xs = ys
  | [], [], _ => rfl
  | [], _ :: _, h => by simp at h
  | _ :: _, [], h => by simp at h
  | x :: xs, y :: ys, h => by
    rw [List.map_cons, List.map_cons, List.cons.injEq] at h
    rw [hf _ _ h.1, map_inj hf h.2]
theorem rp_dkD {T : TC} {I : Hp} {v : V} {ks : List (Key × PyData)} (h : Rp T I v (dkD ks)) : ∃ a ob kvs, v = .ref a ∧ I a = some (.frz ob (.dK kvs)) ∧ kvs.map Prod.fst = ks.map Prod.fst ∧ RpL T I (kvs.map Prod.snd) (ks.map Prod.snd) := by
  unfold dkD at h
  cases h with
  | @dk a ob kvs _ h k r =>
    refine ⟨a, ob, kvs, rfl, h, ?_, ?_⟩
    · rw [List.map_map] at k
      have k' : (ks.map Prod.fst).map keyD = (kvs.map Prod.fst).map keyD := by
        rw [List.map_map, List.map_map]
        exact k
      exact (map_inj (fun _ _ => keyD_inj) k').symm
    · rw [List.map_map] at r
      exact r
  | dn h k r s n =>
    obtain ⟨q, hq, n⟩ := n
    rw [List.map_map] at k
    have : q.1.data ∈ List.map (Prod.fst ∘ fun p : Key × PyData => (keyD p.1, p.2)) ks := by
      rw [k]
      exact List.mem_map.mpr ⟨q, hq, rfl⟩
    obtain ⟨p, _, hp⟩ := List.mem_map.mp this
    exact absurd hp.symm (n p.1)
theorem DV.rd {T : TC} {I H : Hp} {v : V} {x : OD} {B : List Addr} {ks : List (Key × PyData)} (h : DV x ks) (o : Own T I H v x B) (s : Same I H) : ∃ a kvs, v = .ref a ∧ Rd H a (.dK kvs) ∧ kvs.map Prod.fst = ks.map Prod.fst ∧ RpL T I (kvs.map Prod.snd) (ks.map Prod.snd) := by
  cases h with
  | dd => cases o with
    | dd h i k r => exact ⟨_, _, rfl, .inl h, k, r⟩
  | pin => cases o with
    | pin o => cases o with
      | dd h i k r => exact ⟨_, _, rfl, .inl h, k, r⟩
  | da => cases o with
    | da o =>
      obtain ⟨a, ob, kvs, rfl, h, k, r⟩ := rp_dkD o
      exact ⟨a, kvs, rfl, .inr ⟨ob, s _ _ h⟩, k, r⟩
theorem rd_get {T : TC} {I : Hp} {k : Key} : ∀ {kvs : List (Key × V)} {ks : List (Key × PyData)}, kvs.map Prod.fst = ks.map Prod.fst → RpL T I (kvs.map Prod.snd) (ks.map Prod.snd) →
    (∀ d, kget ks k = some d → ∃ v, valV kvs k = some v ∧ Rp T I v d) ∧ (kget ks k = none → valV kvs k = none)
  | [], [], _, _ => ⟨fun d h => by simp [kget_nil] at h, fun _ => rfl⟩
  | [], _ :: _, h, _ => by simp at h
  | _ :: _, [], h, _ => by simp at h
  | p :: kvs, q :: ks, h, r => by
    rw [List.map_cons, List.map_cons, List.cons.injEq] at h
    rw [List.map_cons, List.map_cons] at r
    cases r with
    | cons h1 r =>
      rw [kget_cons]
      by_cases hk : q.1 = k
      · rw [if_pos hk]
        have hk' : p.1 = k := h.1.trans hk
        refine ⟨fun d hd => ?_, fun hn => by cases hn⟩
        cases hd
        exact ⟨p.2, valV_pos hk', h1⟩
      · rw [if_neg hk]
        have hk' : ¬ p.1 = k := fun e => hk (h.1.symm.trans e)
        rw [valV_neg hk']
        exact rd_get h.2 r
theorem rd_isSome {T : TC} {I : Hp} {k : Key} {kvs : List (Key × V)} {ks : List (Key × PyData)} (h : kvs.map Prod.fst = ks.map Prod.fst) (r : RpL T I (kvs.map Prod.snd) (ks.map Prod.snd)) : (valV kvs k).isSome = (kget ks k).isSome := by
  obtain ⟨h1, h2⟩ := rd_get (k := k) h r
  cases e : kget ks k with
  | none => rw [h2 e]; rfl
  | some d =>
    obtain ⟨v, hv, _⟩ := h1 d e
    rw [hv]
    rfl
theorem rd_put {T : TC} {I : Hp} {k : Key} {v : V} {d : PyData} {kvs : List (Key × V)} {ks : List (Key × PyData)} (h : kvs.map Prod.fst = ks.map Prod.fst) (r : RpL T I (kvs.map Prod.snd) (ks.map Prod.snd)) (hv : Rp T I v d) :
    (putK kvs k v).map Prod.fst = (kput ks k d).map Prod.fst ∧ RpL T I ((putK kvs k v).map Prod.snd) ((kput ks k d).map Prod.snd) := by
  have ha : (kvs.any fun q => decide (q.1 = k)) = (ks.any fun q => decide (q.1 = k)) := by
    have e1 : (kvs.any fun q => decide (q.1 = k)) = ((kvs.map Prod.fst).any fun q => decide (q = k)) := by rw [List.any_map]; rfl
    have e2 : (ks.any fun q => decide (q.1 = k)) = ((ks.map Prod.fst).any fun q => decide (q = k)) := by rw [List.any_map]; rfl
    rw [e1, e2, h]
  unfold putK kput
  rw [ha]
  split
  · rename_i hh
    clear ha hh
    induction kvs generalizing ks with
    | nil =>
      cases ks with
      | nil => exact ⟨rfl, .nil⟩
      | cons q ks => simp at h
    | cons p kvs ih =>
      cases ks with
      | nil => simp at h
      | cons q ks =>
        rw [List.map_cons, List.map_cons, List.cons.injEq] at h
        rw [List.map_cons, List.map_cons] at r
        cases r with
        | cons h1 r =>
          obtain ⟨i1, i2⟩ := ih h.2 r
          simp only [List.map_cons]
          by_cases hk : p.1 = k
          · have hk' : q.1 = k := h.1.symm.trans hk
            rw [if_pos hk, if_pos hk', i1]
            exact ⟨by rw [h.1], .cons hv i2⟩
          · have hk' : ¬ q.1 = k := fun e => hk (h.1.trans e)
            rw [if_neg hk, if_neg hk', i1]
            exact ⟨by rw [h.1], .cons h1 i2⟩
  · rw [List.map_append, List.map_append, List.map_append, List.map_append, h]
    exact ⟨rfl, RpL.append r (.cons hv .nil)⟩

section
variable {X : Cx} {e a b c o : Expr} {es : List Expr} {ss rest : List Stmt} {Γ Γ' Γ1 Γ2 : Sl} {Ψ : OD → Sl → Prop} {Φ : Out → Prop} {Φt : Bool → Sl → Prop} {pos p apos cpos : Pos} {r x y z : OD} {k : Key} {nm : Str} {ds : List PyData} {d g kd : PyData} {ks : List (Key × PyData)} {i : Nat}
theorem rp_key {T : TC} {I : Hp} {v : V} (h : Rp T I v (keyD k)) : v = kV k := by
  cases k with
  | inl i => cases h; rfl
  | inr s => cases h; rfl
def rDG : R2 := fun x y H Q => ∃ a v, x = .ref a ∧ DGet H a y (some v) ∧ Q v H
def rDIn (neg : Bool) : R2 := fun y x H Q => ∃ a o, x = .ref a ∧ DGet H a y o ∧ Q (.bl (neg != o.isSome)) H
theorem op_din (hu : X.A.units + 1 < cLine) : OpR X (compareOp .In) (rDIn false) := fun pins s σ H y x iv u Q I ry rx ⟨a, ov, ex, g, q⟩ => by
  subst ex
  obtain rfl : u = Value.ref a := rx
  exact d_in hu I g ry fun s3 I3 => ⟨.bl ov.isSome, H, I3, rfl, by simpa using q⟩
theorem op_dnotin (hu : X.A.units + 1 < cLine) : OpR X (compareOp .NotIn) (rDIn true) := fun pins s σ H y x iv u Q I ry rx ⟨a, ov, ex, g, q⟩ => by
  subst ex
  obtain rfl : u = Value.ref a := rx
  exact d_notIn hu I g ry fun s3 I3 => ⟨.bl (!ov.isSome), H, I3, rfl, by simpa using q⟩
theorem rd_dget {T : TC} (hv : DV x ks) (hk : kget ks k = some d) : Rd2 T rDG x (keyD k) d := fun I H v u B o h s Q kk => by
  obtain ⟨a, kvs, rfl, h1, h2, h3⟩ := hv.rd o s
  obtain ⟨w, hw, hr⟩ := (rd_get (k := k) h2 h3).1 d hk
  exact ⟨a, w, rfl, .inl ⟨kvs, k, h1, rp_key h, hw.symm⟩, kk w hr⟩
theorem rd_din {T : TC} {neg : Bool} (hv : DV x ks) : Rd2 T (fun v u => rDIn neg u v) x (keyD k) (.bool (neg != (kget ks k).isSome)) := fun I H v u B o h s Q kk => by
  obtain ⟨a, kvs, rfl, h1, h2, h3⟩ := hv.rd o s
  exact ⟨a, valV kvs k, rfl, .inl ⟨kvs, k, h1, rp_key h, rfl⟩, by rw [rd_isSome h2 h3]; exact kk _ (.bl _)⟩
/-- d[k], d in the i-th slot -/
theorem xe_dgetS (i : Nat) (hu : X.A.units + 1 < cLine) (hb : XE X b Γ (.da (keyD k)) Γ1) (hk : kget ks k = some d) (h0 : OSome Γ[i]? = true := by rfl) (hx : Γ1[i]? = some (some x) := by rfl) (hv : DV x ks := by first | exact .dd | exact .pin | exact .da)
    (hs : NoSl b := by exact fun _ _ => rfl) (hN : X.N[i]? = some nm := by rfl) (hvs : Vis X.env.scope nm := by first | exact Or.inl rfl | exact Or.inr (Or.inl rfl) | exact Or.inr (Or.inr rfl)) (h1 : (nm == ("__debug__" : Str)) = false := by decide) (h2 : (nm == ("__classdict__" : Str)) = false := by decide) :
    XE X (.Subscript (.Name nm p) b pos) Γ (.da d) Γ1 := fun Ψ hq I H σ F en Q kk => ⟨_, pe_dget hu (pe_var hN hvs h1 h2) wpE_ok hs, core_SV (f := rDG) h0 hb hx (rd_dget hv hk) en Q fun w I' H' F' hw st en' => kk _ _ I' H' w F' hq st (en'.da hw)⟩
/-- d[k], d data -/
theorem xe_dgetV (hu : X.A.units + 1 < cLine) (ha : XE X a Γ (.da (dkD ks)) Γ1) (hb : XE X b Γ1 (.da (keyD k)) Γ2) (hk : kget ks k = some d) (hs : NoSl b := by exact fun _ _ => rfl) : XE X (.Subscript a b pos) Γ (.da d) Γ2 := fun Ψ hq I H σ F en Q kk =>
  ⟨_, pe_dget hu wpE_ok wpE_ok hs, two_core (wr := rDG) (ha _ (hb _ ⟨_, (rd_dget .da hk).op2, hq⟩)) I H σ F en Q kk⟩
/-- k in d, k not in d, as tests -/
theorem xt_dinS (i : Nat) (hu : X.A.units + 1 < cLine) (hb : XE X b Γ (.da (keyD k)) Γ1) (hx : Γ1[i]? = some (some x) := by rfl) (hv : DV x ks := by first | exact .dd | exact .pin | exact .da) (hm : behindInMarks .In (.Name nm p) = false := by rfl)
    (hN : X.N[i]? = some nm := by rfl) (hvs : Vis X.env.scope nm := by first | exact Or.inl rfl | exact Or.inr (Or.inl rfl) | exact Or.inr (Or.inr rfl)) (h1 : (nm == ("__debug__" : Str)) = false := by decide) (h2 : (nm == ("__classdict__" : Str)) = false := by decide) :
    XT X (.Compare b [.In] [.Name nm p] pos) Γ (kget ks k).isSome Γ1 := fun Ψ hq I H σ F en Q kk => ⟨_, pt_cmpR (op_din hu) wpE_ok (pe_var hN hvs h1 h2) hm, core_VS (f := rDIn false) hb hx (rd_din hv) en _ fun w I' H' F' hw st en' => by
      cases hw
      exact ⟨_, rfl, kk _ Γ1 I' H' F' (by simpa using hq) st en'⟩⟩
theorem xt_dninS (i : Nat) (hu : X.A.units + 1 < cLine) (hb : XE X b Γ (.da (keyD k)) Γ1) (hx : Γ1[i]? = some (some x) := by rfl) (hv : DV x ks := by first | exact .dd | exact .pin | exact .da) (hm : behindInMarks .NotIn (.Name nm p) = false := by rfl)
    (hN : X.N[i]? = some nm := by rfl) (hvs : Vis X.env.scope nm := by first | exact Or.inl rfl | exact Or.inr (Or.inl rfl) | exact Or.inr (Or.inr rfl)) (h1 : (nm == ("__debug__" : Str)) = false := by decide) (h2 : (nm == ("__classdict__" : Str)) = false := by decide) :
    XT X (.Compare b [.NotIn] [.Name nm p] pos) Γ (!(kget ks k).isSome) Γ1 := fun Ψ hq I H σ F en Q kk => ⟨_, pt_cmpR (op_dnotin hu) wpE_ok (pe_var hN hvs h1 h2) hm, core_VS (f := rDIn true) hb hx (rd_din hv) en _ fun w I' H' F' hw st en' => by
      cases hw
      exact ⟨_, rfl, kk _ Γ1 I' H' F' (by simpa using hq) st en'⟩⟩
theorem xe_dinS (i : Nat) (hu : X.A.units + 1 < cLine) (hb : XE X b Γ (.da (keyD k)) Γ1) (hx : Γ1[i]? = some (some x) := by rfl) (hv : DV x ks := by first | exact .dd | exact .pin | exact .da) (hm : behindInMarks .In (.Name nm p) = false := by rfl)
    (hN : X.N[i]? = some nm := by rfl) (hvs : Vis X.env.scope nm := by first | exact Or.inl rfl | exact Or.inr (Or.inl rfl) | exact Or.inr (Or.inr rfl)) (h1 : (nm == ("__debug__" : Str)) = false := by decide) (h2 : (nm == ("__classdict__" : Str)) = false := by decide) :
    XE X (.Compare b [.In] [.Name nm p] pos) Γ (.da (.bool (kget ks k).isSome)) Γ1 := fun Ψ hq I H σ F en Q kk => ⟨_, pe_cmpR (op_din hu) wpE_ok (pe_var hN hvs h1 h2) hm, core_VS (f := rDIn false) hb hx (rd_din hv) en _ fun w I' H' F' hw st en' =>
      kk _ Γ1 I' H' w F' hq st (en'.da (by simpa using hw))⟩
theorem xt_dinV (hu : X.A.units + 1 < cLine) (hb : XE X b Γ (.da (keyD k)) Γ1) (ha : XE X a Γ1 (.da (dkD ks)) Γ2) (hm : behindInMarks .In a = false := by rfl) : XT X (.Compare b [.In] [a] pos) Γ (kget ks k).isSome Γ2 :=
  xt_cmp (op_din hu) hm (by have q := (rd_din (T := X.tc) (neg := false) (k := k) (ks := ks) .da).op2' (f := rDIn false); simpa using q) hb ha
theorem xt_dninV (hu : X.A.units + 1 < cLine) (hb : XE X b Γ (.da (keyD k)) Γ1) (ha : XE X a Γ1 (.da (dkD ks)) Γ2) (hm : behindInMarks .NotIn a = false := by rfl) : XT X (.Compare b [.NotIn] [a] pos) Γ (!(kget ks k).isSome) Γ2 :=
  xt_cmp (op_dnotin hu) hm (by have q := (rd_din (T := X.tc) (neg := true) (k := k) (ks := ks) .da).op2' (f := rDIn true); simpa using q) hb ha
theorem xe_dinV (hu : X.A.units + 1 < cLine) (hb : XE X b Γ (.da (keyD k)) Γ1) (ha : XE X a Γ1 (.da (dkD ks)) Γ2) (hm : behindInMarks .In a = false := by rfl) : XE X (.Compare b [.In] [a] pos) Γ (.da (.bool (kget ks k).isSome)) Γ2 :=
  xe_cmp (op_din hu) hm (by have q := (rd_din (T := X.tc) (neg := false) (k := k) (ks := ks) .da).op2' (f := rDIn false); simpa using q) hb ha

/-! own dicts changed -/
inductive VDD : OD → List (Key × PyData) → (List (Key × PyData) → OD) → Prop
  | dd {ks : List (Key × PyData)} : VDD (.dd ks) ks .dd
  | pin {v : V} {ks : List (Key × PyData)} : VDD (.pin v (.dd ks)) ks fun ks => .pin v (.dd ks)
theorem VDD.own {T : TC} {I H : Hp} {v : V} {B : List Addr} {mk : List (Key × PyData) → OD} (h : VDD x ks mk) (o : Own T I H v x B) :
    ∃ p kvs, v = .ref p ∧ B = [p] ∧ H p = some (.dK kvs) ∧ I p = none ∧ kvs.map Prod.fst = ks.map Prod.fst ∧ RpL T I (kvs.map Prod.snd) (ks.map Prod.snd) ∧ ∀ (H' : Hp) (kvs' : List (Key × V)) (ks' : List (Key × PyData)), H' p = some (.dK kvs') → kvs'.map Prod.fst = ks'.map Prod.fst → RpL T I (kvs'.map Prod.snd) (ks'.map Prod.snd) → Own T I H' v (mk ks') [p] := by
  cases h with
  | dd => cases o with
    | dd h1 h2 h3 h4 => exact ⟨_, _, rfl, rfl, h1, h2, h3, h4, fun H' vs' ds' e r r' => .dd e h2 r r'⟩
  | pin => cases o with
    | pin o => cases o with
      | dd h1 h2 h3 h4 => exact ⟨_, _, rfl, rfl, h1, h2, h3, h4, fun H' vs' ds' e r r' => .pin (.dd e h2 r r')⟩
theorem EnvF.dd {T : TC} {I H : Hp} {σ : L2.St} {F : List Addr} {mk : List (Key × PyData) → OD} (en : EnvF T I H σ Γ F) (hx : Γ[i]? = some (some x)) (hv : VDD x ks mk) : ∃ p kvs, σ[i]? = some (some (.ref p)) ∧ H p = some (.dK kvs) ∧ kvs.map Prod.fst = ks.map Prod.fst ∧ RpL T I (kvs.map Prod.snd) (ks.map Prod.snd) ∧
    ∀ (kvs' : List (Key × V)) (ks' : List (Key × PyData)), kvs'.map Prod.fst = ks'.map Prod.fst → RpL T I (kvs'.map Prod.snd) (ks'.map Prod.snd) → ∃ F', EnvF T I (upd H p (.dK kvs')) σ (Γ.set i (some (mk ks'))) F' ∧ Step I H F I (upd H p (.dK kvs')) F' := by
  obtain ⟨v, B, G, e1, o, en', nd, mem⟩ := en.take hx
  obtain ⟨p, kvs, rfl, rfl, h1, h2, h3, h4, h5⟩ := hv.own o
  refine ⟨p, kvs, e1, h1, h3, h4, fun kvs' ks' r r' => ?_⟩
  have np : p ∉ G := (List.nodup_cons.mp (show (p :: G).Nodup from nd)).1
  have en2 : EnvF T I (upd H p (.dK kvs')) σ (Γ.set i none) G := ⟨en'.env.frame (Same.refl I) fun b hb => ⟨upd_ne fun q => np (q ▸ hb), (en'.env.cells b hb).2⟩, en'.nd, fun b u e => by
    rw [upd_ne fun q => by
      subst q
      rw [h2] at e
      cases e]
    exact en.sub b u e⟩
  obtain ⟨F', en3, nd3, m3⟩ := en2.into e1 (h5 _ kvs' ks' upd_same r r') nd
  rw [List.set_set] at en3
  exact ⟨F', en3, (step_upd (F := F) ((mem p).mpr (.inl (List.mem_singleton.mpr rfl)))).of_mem (fun b hb => hb) fun b hb => (mem b).mpr (m3 b hb)⟩
/-- d[k] = e -/
theorem ws_dput (i : Nat) (hu : X.A.units + 1 < cLine) (h : WE X e Γ fun r Γ1 => ∃ d k x ks mk, r = .da d ∧ Γ1[i]? = some (some x) ∧ VDD x ks mk ∧ ks.length < sizeLine ∧ XE X b Γ1 (.da (keyD k)) Γ1 ∧ WSs X rest (Γ1.set i (some (mk (kput ks k d)))) Φ)
    (hN : X.N[i]? = some nm := by rfl) (hvs : Vis X.env.scope nm := by first | exact Or.inl rfl | exact Or.inr (Or.inl rfl) | exact Or.inr (Or.inr rfl)) (h1 : (nm == ("__debug__" : Str)) = false := by decide) (h2 : (nm == ("__classdict__" : Str)) = false := by decide)
    (hs : swapsWith e (some (.Subscript (.Name nm p) b pos)) apos.line X.env = pure false := by rfl) : WSs X (.Assign [.Subscript (.Name nm p) b pos] e apos :: rest) Γ Φ := fun I H σ F en D ek => by
  refine ⟨_, pss_cons (ps_dput hu (pe_var hN hvs h1 h2) wpE_ok wpE_ok hs) wpSs_ok, h I H σ F en _ ?_⟩
  rintro r Γ1 I1 H1 v F1 ⟨d, k, x, ks, mk, rfl, hx, hv, hz, hb, hq⟩ st1 en1
  obtain ⟨B, G, rfl, oo, en2, up⟩ := en1.pop
  cases oo with
  | da hd =>
    obtain ⟨q, kvs, e1, _⟩ := en2.dd hx hv
    refine ⟨_, e1, hb (fun r Γ' => r = .da (keyD k) ∧ Γ' = Γ1) ⟨rfl, rfl⟩ I1 H1 σ G en2 _ ?_⟩
    rintro _ _ I2 H2 u F2 ⟨rfl, rfl⟩ st2 en3
    obtain ⟨B2, G2, rfl, oo2, en4, _⟩ := en3.pop
    cases oo2 with
    | da hh =>
      obtain ⟨q', kvs', e1', h3, h4, h5, h6⟩ := en4.dd hx hv
      rw [e1] at e1'
      cases e1'
      obtain ⟨g1, g2⟩ := rd_put (k := k) h4 h5 (hd.mono st2.inc)
      obtain ⟨F5, en5, st5⟩ := h6 (putK kvs' k v) (kput ks k d) g1 g2
      have hlen : kvs'.length = ks.length := by
        have := congrArg List.length h4
        rwa [List.length_map, List.length_map] at this
      exact ⟨q, _, rfl, .inl ⟨kvs', k, h3, rp_key hh, by rw [hlen]; exact hz, rfl⟩, hq I2 _ σ F5 en5 D (ek.step ((st1.trans st2).trans st5))⟩
end
end TL

/-! TL13: lists and tuples as wholes: len, tuple(), list(), +, slices, in, sorted, max, min, all; truth. -/
namespace TL
open PySem PySem.Spec PyProof.Rows L2

/-- x stands as the data d -/
inductive SV : OD → PyData → Prop
  | da {d : PyData} : SV (.da d) d
  | ll {ds : List PyData} : SV (.ll ds) (.list ds)
  | pin {v : V} {ds : List PyData} : SV (.pin v (.ll ds)) (.list ds)
theorem SV.rp {T : TC} {I H : Hp} {v : V} {x : OD} {B : List Addr} {d : PyData} (h : SV x d) (o : Own T I H v x B) (s : Same I H) : Rp T H v d := by
  cases h with
  | da => cases o with
    | da o => exact o.mono s
  | ll => cases o with
    | ll h i r => exact .lst (SqL.of h) (r.mono s)
  | pin => cases o with
    | pin o => cases o with
      | ll h i r => exact .lst (SqL.of h) (r.mono s)
/-- .. a list or a tuple: its items -/
theorem SV.seq {T : TC} {I H : Hp} {v : V} {x : OD} {B : List Addr} {d : PyData} {ds : List PyData} (h : SV x d) (hd : d = .list ds ∨ d = .tuple ds) (o : Own T I H v x B) (s : Same I H) :
    ∃ a vs, v = .ref a ∧ ((d = .list ds ∧ SqL T.K H a vs) ∨ (d = .tuple ds ∧ SqT T.K H a vs ∧ Rp T I v d)) ∧ RpL T I vs ds := by
  cases h with
  | da => cases o with
    | da o =>
      rcases hd with rfl | rfl
      · cases o with
        | lst h r => exact ⟨_, _, rfl, .inl ⟨rfl, s.seq h⟩, r⟩
      · cases o with
        | tup h r => exact ⟨_, _, rfl, .inr ⟨rfl, sqT_mono s h, .tup h r⟩, r⟩
  | ll =>
    rcases hd with hd | hd
    · cases hd
      cases o with
      | ll h i r => exact ⟨_, _, rfl, .inl ⟨rfl, SqL.of h⟩, r⟩
    · cases hd
  | pin =>
    rcases hd with hd | hd
    · cases hd
      cases o with
      | pin o => cases o with
        | ll h i r => exact ⟨_, _, rfl, .inl ⟨rfl, SqL.of h⟩, r⟩
    · cases hd

section
variable {X : Cx} {e a b c o : Expr} {es : List Expr} {ss rest : List Stmt} {Γ Γ' Γ1 Γ2 : Sl} {Ψ : OD → Sl → Prop} {Φ : Out → Prop} {Φt : Bool → Sl → Prop} {pos p apos cpos p2 : Pos} {r x y z : OD} {nm n2 : Str} {ds es' : List PyData} {d d' g : PyData} {i : Nat}

/-! ### len, tuple, list -/
def rLen (T : TC) : List V → Hp → VK → Prop := fun xs H Q => ∃ p ys, xs = [.ref p] ∧ (SqL T.K H p ys ∨ SqT T.K H p ys) ∧ Q (.int ys.length) H
theorem rd_len {T : TC} (hv : SV x d) (hd : d = .list ds ∨ d = .tuple ds) : Rd1 T (rLen T) x (.da (.int ds.length)) := Rd1.pure fun I H v B o s Q k => by
  obtain ⟨a, vs, rfl, h, r⟩ := hv.seq hd o s
  exact ⟨a, vs, rfl, h.imp And.right fun q => q.2.1, by rw [r.length]; exact k _ (.int _)⟩
theorem xe_lenS (i : Nat) (B : Blt X.mg) (hx : Γ[i]? = some (some x) := by rfl) (hv : SV x d := by first | exact .da | exact .ll | exact .pin) (hd : d = .list ds ∨ d = .tuple ds := by first | exact .inl rfl | exact .inr rfl) (hg : Gl X "len" := by rfl)
    (hN : X.N[i]? = some n2 := by rfl) (hvs : Vis X.env.scope n2 := by first | exact Or.inl rfl | exact Or.inr (Or.inl rfl) | exact Or.inr (Or.inr rfl)) (h1 : (n2 == ("__debug__" : Str)) = false := by decide) (h2 : (n2 == ("__classdict__" : Str)) = false := by decide)
    (he : starEach [.Name n2 p2] X.env = (false, eval (.Name n2 p2) X.env) :: starEach [] X.env := by rfl) (hpl : (backTo pos (starEach [] X.env)).any (·.1) = false := by rfl) :
    XE X (.Call (.Name "len" p) [.Name n2 p2] [] pos) Γ (.da (.int ds.length)) Γ := xe_callS (wl := rLen X.tc) i call_len_seq (rd_len hv hd) hg B.len PySem.boot_len (hx := hx) (hN := hN) (hvs := hvs) (h1 := h1) (h2 := h2) (he := he) (hpl := hpl)
def rTupOf (T : TC) : List V → Hp → VK → Prop := fun xs H Q => ∃ p ys, xs = [.ref p] ∧ ((SqL T.K H p ys ∧ ∀ l, H l = none → Q (.ref l) (upd H l (.tup ys))) ∨ (SqT T.K H p ys ∧ Q (.ref p) H))
theorem rd_tup {T : TC} (hv : SV x d) (hd : d = .list ds ∨ d = .tuple ds) : Rd1 T (rTupOf T) x (.da (.tuple ds)) := fun I H v B o s Q k => by
  obtain ⟨a, vs, rfl, h, r⟩ := hv.seq hd o s
  rcases h with ⟨_, h⟩ | ⟨rfl, h, hr⟩
  · exact ⟨a, vs, rfl, .inl ⟨h, fun l hl => k (upd I l (.tup vs)) _ _ [] (step_frz s hl) (.da (.tup (SqT.of upd_same) (r.mono (upd_up (s.free hl))))) List.nodup_nil (upd_both s)⟩⟩
  · exact ⟨a, vs, rfl, .inr ⟨h, k I H _ [] .refl (.da hr) List.nodup_nil s⟩⟩
def rLstOf (T : TC) : List V → Hp → VK → Prop := fun xs H Q => ∃ p ys, xs = [.ref p] ∧ (SqL T.K H p ys ∨ SqT T.K H p ys) ∧ ∀ l, H l = none → Q (.ref l) (upd H l (.lst ys))
theorem rd_lst {T : TC} (hv : SV x d) (hd : d = .list ds ∨ d = .tuple ds) : Rd1 T (rLstOf T) x (.ll ds) := fun I H v B o s Q k => by
  obtain ⟨a, vs, rfl, h, r⟩ := hv.seq hd o s
  exact ⟨a, vs, rfl, h.imp And.right fun q => q.2.1, fun l hl => k I _ _ [l] (step_new hl) (.ll upd_same (s.free hl) r) (by simp) (upd_sub s hl)⟩
theorem xe_tupOfS (i : Nat) (B : Blt X.mg) (hx : Γ[i]? = some (some x) := by rfl) (hv : SV x d := by first | exact .da | exact .ll | exact .pin) (hd : d = .list ds ∨ d = .tuple ds := by first | exact .inl rfl | exact .inr rfl) (hg : Gl X "tuple" := by rfl)
    (hN : X.N[i]? = some n2 := by rfl) (hvs : Vis X.env.scope n2 := by first | exact Or.inl rfl | exact Or.inr (Or.inl rfl) | exact Or.inr (Or.inr rfl)) (h1 : (n2 == ("__debug__" : Str)) = false := by decide) (h2 : (n2 == ("__classdict__" : Str)) = false := by decide)
    (he : starEach [.Name n2 p2] X.env = (false, eval (.Name n2 p2) X.env) :: starEach [] X.env := by rfl) (hpl : (backTo pos (starEach [] X.env)).any (·.1) = false := by rfl) :
    XE X (.Call (.Name "tuple" p) [.Name n2 p2] [] pos) Γ (.da (.tuple ds)) Γ := xe_callTyS (wl := rTupOf X.tc) i call_tuple_of (rd_tup hv hd) hg B.tuple PyProof.Rows.boot_tuple (hx := hx) (hN := hN) (hvs := hvs) (h1 := h1) (h2 := h2) (he := he) (hpl := hpl)
theorem xe_tupOf (B : Blt X.mg) (ha : XE X a Γ (.da d) Γ1) (hd : d = .list ds ∨ d = .tuple ds := by first | exact .inl rfl | exact .inr rfl) (hg : Gl X "tuple" := by rfl) (he : starEach [a] X.env = (false, eval a X.env) :: starEach [] X.env := by rfl) (hpl : (backTo pos (starEach [] X.env)).any (·.1) = false := by rfl) :
    XE X (.Call (.Name "tuple" p) [a] [] pos) Γ (.da (.tuple ds)) Γ1 := xe_callTy1 (wl := rTupOf X.tc) call_tuple_of (rd_tup .da hd).opl hg B.tuple PyProof.Rows.boot_tuple ha (he := he) (hpl := hpl)
/-- tuple([..]): of a list that is new -/
theorem we_tupOf (B : Blt X.mg) (h : WE X a Γ fun r Γ1 => ∃ ds, r = .ll ds ∧ Ψ (.da (.tuple ds)) Γ1) (hg : Gl X "tuple" := by rfl) (he : starEach [a] X.env = (false, eval a X.env) :: starEach [] X.env := by rfl) (hpl : (backTo pos (starEach [] X.env)).any (·.1) = false := by rfl) :
    WE X (.Call (.Name "tuple" p) [a] [] pos) Γ Ψ := we_callTy (wl := rTupOf X.tc) call_tuple_of hg B.tuple PyProof.Rows.boot_tuple (wa_cons (we_frz (h.mono fun r Γ1 ⟨ds, e, q⟩ => ⟨.list ds, e ▸ .ll, wa_nil ⟨_, (rd_tup .da (.inl rfl)).opl, q⟩⟩)) he) (he := he) (hpl := hpl)
theorem xe_lstOfS (i : Nat) (B : Blt X.mg) (hx : Γ[i]? = some (some x) := by rfl) (hv : SV x d := by first | exact .da | exact .ll | exact .pin) (hd : d = .list ds ∨ d = .tuple ds := by first | exact .inl rfl | exact .inr rfl) (hg : Gl X "list" := by rfl)
    (hN : X.N[i]? = some n2 := by rfl) (hvs : Vis X.env.scope n2 := by first | exact Or.inl rfl | exact Or.inr (Or.inl rfl) | exact Or.inr (Or.inr rfl)) (h1 : (n2 == ("__debug__" : Str)) = false := by decide) (h2 : (n2 == ("__classdict__" : Str)) = false := by decide)
    (he : starEach [.Name n2 p2] X.env = (false, eval (.Name n2 p2) X.env) :: starEach [] X.env := by rfl) (hpl : (backTo pos (starEach [] X.env)).any (·.1) = false := by rfl) :
    XE X (.Call (.Name "list" p) [.Name n2 p2] [] pos) Γ (.ll ds) Γ := xe_callTyS (wl := rLstOf X.tc) i call_list_of (rd_lst hv hd) hg B.list PyProof.Rows.boot_list (hx := hx) (hN := hN) (hvs := hvs) (h1 := h1) (h2 := h2) (he := he) (hpl := hpl)
theorem xe_lstOf (B : Blt X.mg) (ha : XE X a Γ (.da d) Γ1) (hd : d = .list ds ∨ d = .tuple ds := by first | exact .inl rfl | exact .inr rfl) (hg : Gl X "list" := by rfl) (he : starEach [a] X.env = (false, eval a X.env) :: starEach [] X.env := by rfl) (hpl : (backTo pos (starEach [] X.env)).any (·.1) = false := by rfl) :
    XE X (.Call (.Name "list" p) [a] [] pos) Γ (.ll ds) Γ1 := xe_callTy1 (wl := rLstOf X.tc) call_list_of (rd_lst .da hd).opl hg B.list PyProof.Rows.boot_list ha (he := he) (hpl := hpl)

/-! ### + -/
theorem op2_catT {T : TC} (hl : ds.length + es'.length ≤ sizeLine) : Op2 T (rCatA T.K) (.da (.tuple ds)) (.da (.tuple es')) (.da (.tuple (ds ++ es'))) := fun I H v u B o nd s Q k => by
  obtain ⟨rfl, r⟩ := ownL_da (ds := [.tuple ds, .tuple es']) o
  obtain ⟨v', u', e, r1, r2⟩ := rpL2 r
  cases e
  cases r1 with
  | tup h1 q1 =>
    cases r2 with
    | tup h2 q2 =>
      refine ⟨_, _, _, _, rfl, rfl, sqT_mono s h1, sqT_mono s h2, by rw [q1.length, q2.length]; exact hl, fun e => ?_, fun _ e => ?_, fun _ _ p hp => ?_⟩
      · subst e
        cases q1
        exact k I H _ [] .refl (.da (.tup h2 q2)) List.nodup_nil s
      · subst e
        cases q2
        exact k I H _ [] .refl (.da (.tup h1 (by rw [List.append_nil]; exact q1))) List.nodup_nil s
      · exact k (upd I p (.tup _)) _ _ [] (step_frz s hp) (.da (.tup (SqT.of upd_same) ((RpL.append q1 q2).mono (upd_up (s.free hp))))) List.nodup_nil (upd_both s)
theorem xe_catT (hl : ds.length + es'.length ≤ sizeLine) (ha : XE X a Γ (.da (.tuple ds)) Γ1) (hb : XE X b Γ1 (.da (.tuple es')) Γ2) : XE X (.BinOp a .Add b pos) Γ (.da (.tuple (ds ++ es'))) Γ2 := xe_bin op_catA (op2_catT hl) ha hb

/-! ### x in xs -/
def rInP (T : TC) (neg : Bool) : R2 := fun x y H Q => ∃ d ds, Rp T H x d ∧ (Rp T H y (.list ds) ∨ Rp T H y (.tuple ds)) ∧ d.plain = true ∧ PyData.plainAll ds = true ∧ d.depth ≤ 60 ∧ Q (.bl (neg != ds.any fun z => PyData.eqv z d)) H
theorem room61 {n m : Nat} (hu : X.A.units + 70 < cLine) (h : m ≤ 60) : X.A.units + 1 + min n m < cLine := by
  have := Nat.min_le_right n m
  omega
theorem op_inP (hu : X.A.units + 70 < cLine) : OpR X (compareOp .In) (rInP X.tc false) := by
  rintro pins s σ H x y v u Q I rx ry ⟨d, ds, hd, he, pd, pe, hh, q⟩
  obtain ⟨as, r1⟩ := hd.reads I pd rx
  rcases he with he | he
  · obtain ⟨bs, r2⟩ := he.reads I (by simpa [PyData.plain] using pe) ry
    exact SeqAt.in_list_data r2 r1 pe pd (room61 hu hh) ⟨.bl _, H, I, rfl, by simpa using q⟩
  · obtain ⟨bs, r2⟩ := he.reads I (by simpa [PyData.plain] using pe) ry
    exact SeqAt.in_tuple_data r2 r1 pe pd (room61 hu hh) ⟨.bl _, H, I, rfl, by simpa using q⟩
theorem op_notInP (hu : X.A.units + 70 < cLine) : OpR X (compareOp .NotIn) (rInP X.tc true) := by
  rintro pins s σ H x y v u Q I rx ry ⟨d, ds, hd, he, pd, pe, hh, q⟩
  obtain ⟨as, r1⟩ := hd.reads I pd rx
  rcases he with he | he
  · obtain ⟨bs, r2⟩ := he.reads I (by simpa [PyData.plain] using pe) ry
    exact SeqAt.notIn_list_data r2 r1 pe pd (room61 hu hh) ⟨.bl _, H, I, rfl, by simpa using q⟩
  · obtain ⟨bs, r2⟩ := he.reads I (by simpa [PyData.plain] using pe) ry
    exact SeqAt.notIn_tuple_data r2 r1 pe pd (room61 hu hh) ⟨.bl _, H, I, rfl, by simpa using q⟩
theorem rd_in {T : TC} {neg : Bool} (hv : SV x d') (hd' : d' = .list ds ∨ d' = .tuple ds) (pd : d.plain = true) (pe : PyData.plainAll ds = true) (hh : d.depth ≤ 60) : Rd2 T (fun v u => rInP T neg u v) x d (.bool (neg != ds.any fun z => PyData.eqv z d)) := fun I H v u B o h s Q kk =>
  ⟨d, ds, h.mono s, hd'.imp (fun e => by rw [← e]; exact hv.rp o s) (fun e => by rw [← e]; exact hv.rp o s), pd, pe, hh, kk _ (.bl _)⟩
theorem xt_inS (i : Nat) (hu : X.A.units + 70 < cLine) (hb : XE X b Γ (.da d) Γ1) (pd : d.plain = true) (pe : PyData.plainAll ds = true) (hh : d.depth ≤ 60) (hx : Γ1[i]? = some (some x) := by rfl) (hv : SV x d' := by first | exact .da | exact .ll | exact .pin) (hd' : d' = .list ds ∨ d' = .tuple ds := by first | exact .inl rfl | exact .inr rfl) (hm : behindInMarks .In (.Name nm p) = false := by rfl)
    (hN : X.N[i]? = some nm := by rfl) (hvs : Vis X.env.scope nm := by first | exact Or.inl rfl | exact Or.inr (Or.inl rfl) | exact Or.inr (Or.inr rfl)) (h1 : (nm == ("__debug__" : Str)) = false := by decide) (h2 : (nm == ("__classdict__" : Str)) = false := by decide) :
    XT X (.Compare b [.In] [.Name nm p] pos) Γ (ds.any fun z => PyData.eqv z d) Γ1 := fun Ψ hq I H σ F en Q kk => ⟨_, pt_cmpR (op_inP hu) wpE_ok (pe_var hN hvs h1 h2) hm, core_VS (f := rInP X.tc false) hb hx (rd_in hv hd' pd pe hh) en _ fun w I' H' F' hw st en' => by
      cases hw
      exact ⟨_, rfl, kk _ Γ1 I' H' F' (by simpa using hq) st en'⟩⟩
theorem xt_notInS (i : Nat) (hu : X.A.units + 70 < cLine) (hb : XE X b Γ (.da d) Γ1) (pd : d.plain = true) (pe : PyData.plainAll ds = true) (hh : d.depth ≤ 60) (hx : Γ1[i]? = some (some x) := by rfl) (hv : SV x d' := by first | exact .da | exact .ll | exact .pin) (hd' : d' = .list ds ∨ d' = .tuple ds := by first | exact .inl rfl | exact .inr rfl) (hm : behindInMarks .NotIn (.Name nm p) = false := by rfl)
    (hN : X.N[i]? = some nm := by rfl) (hvs : Vis X.env.scope nm := by first | exact Or.inl rfl | exact Or.inr (Or.inl rfl) | exact Or.inr (Or.inr rfl)) (h1 : (nm == ("__debug__" : Str)) = false := by decide) (h2 : (nm == ("__classdict__" : Str)) = false := by decide) :
    XT X (.Compare b [.NotIn] [.Name nm p] pos) Γ (!ds.any fun z => PyData.eqv z d) Γ1 := fun Ψ hq I H σ F en Q kk => ⟨_, pt_cmpR (op_notInP hu) wpE_ok (pe_var hN hvs h1 h2) hm, core_VS (f := rInP X.tc true) hb hx (rd_in hv hd' pd pe hh) en _ fun w I' H' F' hw st en' => by
      cases hw
      exact ⟨_, rfl, kk _ Γ1 I' H' F' (by simpa using hq) st en'⟩⟩
theorem xe_inS (i : Nat) (hu : X.A.units + 70 < cLine) (hb : XE X b Γ (.da d) Γ1) (pd : d.plain = true) (pe : PyData.plainAll ds = true) (hh : d.depth ≤ 60) (hx : Γ1[i]? = some (some x) := by rfl) (hv : SV x d' := by first | exact .da | exact .ll | exact .pin) (hd' : d' = .list ds ∨ d' = .tuple ds := by first | exact .inl rfl | exact .inr rfl) (hm : behindInMarks .In (.Name nm p) = false := by rfl)
    (hN : X.N[i]? = some nm := by rfl) (hvs : Vis X.env.scope nm := by first | exact Or.inl rfl | exact Or.inr (Or.inl rfl) | exact Or.inr (Or.inr rfl)) (h1 : (nm == ("__debug__" : Str)) = false := by decide) (h2 : (nm == ("__classdict__" : Str)) = false := by decide) :
    XE X (.Compare b [.In] [.Name nm p] pos) Γ (.da (.bool (ds.any fun z => PyData.eqv z d))) Γ1 := fun Ψ hq I H σ F en Q kk => ⟨_, pe_cmpR (op_inP hu) wpE_ok (pe_var hN hvs h1 h2) hm, core_VS (f := rInP X.tc false) hb hx (rd_in hv hd' pd pe hh) en _ fun w I' H' F' hw st en' =>
      kk _ Γ1 I' H' w F' hq st (en'.da (by simpa using hw))⟩
theorem xt_inV (hu : X.A.units + 70 < cLine) (hb : XE X b Γ (.da d) Γ1) (ha : XE X a Γ1 (.da d') Γ2) (pd : d.plain = true) (pe : PyData.plainAll ds = true) (hh : d.depth ≤ 60) (hd' : d' = .list ds ∨ d' = .tuple ds := by first | exact .inl rfl | exact .inr rfl) (hm : behindInMarks .In a = false := by rfl) :
    XT X (.Compare b [.In] [a] pos) Γ (ds.any fun z => PyData.eqv z d) Γ2 := xt_cmp (op_inP hu) hm (by have q := (rd_in (T := X.tc) (neg := false) (x := .da d') .da hd' pd pe hh).op2' (f := rInP X.tc false); simpa using q) hb ha
theorem xt_notInV (hu : X.A.units + 70 < cLine) (hb : XE X b Γ (.da d) Γ1) (ha : XE X a Γ1 (.da d') Γ2) (pd : d.plain = true) (pe : PyData.plainAll ds = true) (hh : d.depth ≤ 60) (hd' : d' = .list ds ∨ d' = .tuple ds := by first | exact .inl rfl | exact .inr rfl) (hm : behindInMarks .NotIn a = false := by rfl) :
    XT X (.Compare b [.NotIn] [a] pos) Γ (!ds.any fun z => PyData.eqv z d) Γ2 := xt_cmp (op_notInP hu) hm (by have q := (rd_in (T := X.tc) (neg := true) (x := .da d') .da hd' pd pe hh).op2' (f := rInP X.tc true); simpa using q) hb ha
theorem any_int {j : Int} : ∀ {ns : List Int}, ((ns.map PyData.int).any fun z => PyData.eqv z (.int j)) = decide (j ∈ ns)
  | [] => rfl
  | n :: ns => by
    rw [List.map_cons, List.any_cons, any_int, eqv_int, Bool.eq_iff_iff]
    simp only [Bool.or_eq_true, decide_eq_true_eq, List.mem_cons]
    exact or_congr ⟨Eq.symm, Eq.symm⟩ Iff.rfl

/-! ### max, min of a list of ints; all -/
theorem vs_ints {T : TC} {I : Hp} : ∀ {vs : List V} {ns : List Int}, RpL T I vs (ns.map .int) → vs = ns.map V.int
  | _, [], .nil => rfl
  | _, n :: ns, .cons (.int _) r => by rw [vs_ints r]; rfl
theorem vs_bools {T : TC} {I : Hp} : ∀ {vs : List V} {ns : List Bool}, RpL T I vs (ns.map .bool) → vs = ns.map V.bl
  | _, [], .nil => rfl
  | _, n :: ns, .cons (.bl _) r => by rw [vs_bools r]; rfl
theorem rd_max {T : TC} {ns : List Int} {m : Int} (hv : SV x (.list (ns.map .int))) (hm : m ∈ ns) (hx : ∀ y ∈ ns, y ≤ m) : Rd1 T (rMax T.K) x (.da (.int m)) := Rd1.pure fun I H v B o s Q k => by
  obtain ⟨a, vs, rfl, h, r⟩ := hv.seq (.inl rfl) o s
  rcases h with ⟨_, h⟩ | ⟨q, _⟩
  · rw [vs_ints r] at h
    refine ⟨a, ns, rfl, h, List.length_pos_of_mem hm, fun m' h1 h2 => ?_⟩
    have : m' = m := Int.le_antisymm (hx m' h1) (h2 m hm)
    subst this
    exact k _ (.int _)
  · cases q
theorem rd_min {T : TC} {ns : List Int} {m : Int} (hv : SV x (.list (ns.map .int))) (hm : m ∈ ns) (hx : ∀ y ∈ ns, m ≤ y) : Rd1 T (rMin T.K) x (.da (.int m)) := Rd1.pure fun I H v B o s Q k => by
  obtain ⟨a, vs, rfl, h, r⟩ := hv.seq (.inl rfl) o s
  rcases h with ⟨_, h⟩ | ⟨q, _⟩
  · rw [vs_ints r] at h
    refine ⟨a, ns, rfl, h, List.length_pos_of_mem hm, fun m' h1 h2 => ?_⟩
    have : m' = m := Int.le_antisymm (h2 m hm) (hx m' h1)
    subst this
    exact k _ (.int _)
  · cases q
theorem xe_maxS (i : Nat) (B : Blt X.mg) (hc : X.calm = true) {ns : List Int} {m : Int} (hm : m ∈ ns) (hx' : ∀ y ∈ ns, y ≤ m) (hx : Γ[i]? = some (some x) := by rfl) (hv : SV x (.list (ns.map .int)) := by first | exact .da | exact .ll | exact .pin) (hg : Gl X "max" := by rfl)
    (hN : X.N[i]? = some n2 := by rfl) (hvs : Vis X.env.scope n2 := by first | exact Or.inl rfl | exact Or.inr (Or.inl rfl) | exact Or.inr (Or.inr rfl)) (h1 : (n2 == ("__debug__" : Str)) = false := by decide) (h2 : (n2 == ("__classdict__" : Str)) = false := by decide)
    (he : starEach [.Name n2 p2] X.env = (false, eval (.Name n2 p2) X.env) :: starEach [] X.env := by rfl) (hpl : (backTo pos (starEach [] X.env)).any (·.1) = false := by rfl) :
    XE X (.Call (.Name "max" p) [.Name n2 p2] [] pos) Γ (.da (.int m)) Γ := xe_callS (wl := rMax X.K) i (cr_max hc) (rd_max (T := X.tc) hv hm hx') hg B.max (by decide +kernel) (hx := hx) (hN := hN) (hvs := hvs) (h1 := h1) (h2 := h2) (he := he) (hpl := hpl)
theorem xe_minS (i : Nat) (B : Blt X.mg) (hc : X.calm = true) {ns : List Int} {m : Int} (hm : m ∈ ns) (hx' : ∀ y ∈ ns, m ≤ y) (hx : Γ[i]? = some (some x) := by rfl) (hv : SV x (.list (ns.map .int)) := by first | exact .da | exact .ll | exact .pin) (hg : Gl X "min" := by rfl)
    (hN : X.N[i]? = some n2 := by rfl) (hvs : Vis X.env.scope n2 := by first | exact Or.inl rfl | exact Or.inr (Or.inl rfl) | exact Or.inr (Or.inr rfl)) (h1 : (n2 == ("__debug__" : Str)) = false := by decide) (h2 : (n2 == ("__classdict__" : Str)) = false := by decide)
    (he : starEach [.Name n2 p2] X.env = (false, eval (.Name n2 p2) X.env) :: starEach [] X.env := by rfl) (hpl : (backTo pos (starEach [] X.env)).any (·.1) = false := by rfl) :
    XE X (.Call (.Name "min" p) [.Name n2 p2] [] pos) Γ (.da (.int m)) Γ := xe_callS (wl := rMin X.K) i (cr_min hc) (rd_min (T := X.tc) hv hm hx') hg B.min (by decide +kernel) (hx := hx) (hN := hN) (hvs := hvs) (h1 := h1) (h2 := h2) (he := he) (hpl := hpl)
theorem rd_all {T : TC} {bs : List Bool} (hv : SV x (.list (bs.map .bool))) : Rd1 T (rAll T.K) x (.da (.bool (bs.all id))) := Rd1.pure fun I H v B o s Q k => by
  obtain ⟨a, vs, rfl, h, r⟩ := hv.seq (.inl rfl) o s
  rcases h with ⟨_, h⟩ | ⟨q, _⟩
  · rw [vs_bools r] at h
    exact ⟨a, bs, rfl, h, k _ (.bl _)⟩
  · cases q
theorem rd_any {T : TC} {bs : List Bool} (hv : SV x (.list (bs.map .bool))) : Rd1 T (rAny T.K) x (.da (.bool (bs.any id))) := Rd1.pure fun I H v B o s Q k => by
  obtain ⟨a, vs, rfl, h, r⟩ := hv.seq (.inl rfl) o s
  rcases h with ⟨_, h⟩ | ⟨q, _⟩
  · rw [vs_bools r] at h
    exact ⟨a, bs, rfl, h, k _ (.bl _)⟩
  · cases q
theorem xe_all (B : Blt X.mg) (hc : X.calm = true) {bs : List Bool} (ha : XE X a Γ (.da (.list (bs.map .bool))) Γ1) (hg : Gl X "all" := by rfl) (he : starEach [a] X.env = (false, eval a X.env) :: starEach [] X.env := by rfl) (hpl : (backTo pos (starEach [] X.env)).any (·.1) = false := by rfl) :
    XE X (.Call (.Name "all" p) [a] [] pos) Γ (.da (.bool (bs.all id))) Γ1 := xe_callB1 (wl := rAll X.K) (cr_all hc) (rd_all (T := X.tc) .da).opl hg B.all (by decide +kernel) ha (he := he) (hpl := hpl)
theorem xe_any (B : Blt X.mg) (hc : X.calm = true) {bs : List Bool} (ha : XE X a Γ (.da (.list (bs.map .bool))) Γ1) (hg : Gl X "any" := by rfl) (he : starEach [a] X.env = (false, eval a X.env) :: starEach [] X.env := by rfl) (hpl : (backTo pos (starEach [] X.env)).any (·.1) = false := by rfl) :
    XE X (.Call (.Name "any" p) [a] [] pos) Γ (.da (.bool (bs.any id))) Γ1 := xe_callB1 (wl := rAny X.K) (cr_any hc) (rd_any (T := X.tc) .da).opl hg B.any (by decide +kernel) ha (he := he) (hpl := hpl)
theorem xe_min2 (B : Blt X.mg) (hc : X.calm = true) {i j : Int} (ha : XE X a Γ (.da (.int i)) Γ1) (hb : XE X b Γ1 (.da (.int j)) Γ2) (hg : Gl X "min" := by rfl) (he : starEach [a, b] X.env = (false, eval a X.env) :: starEach [b] X.env := by rfl)
    (he2 : starEach [b] X.env = (false, eval b X.env) :: starEach [] X.env := by rfl) (hpl : (backTo pos (starEach [b] X.env)).any (·.1) = false := by rfl) : XE X (.Call (.Name "min" p) [a, b] [] pos) Γ (.da (.int (if j < i then j else i))) Γ2 :=
  xe_callB2 (call_min2 hc) (OpL.pure (ds := [.int i, .int j]) fun I H vs r _ Q k => by
      obtain ⟨v, u, rfl, h, h'⟩ := rpL2 r
      cases h
      cases h'
      exact ⟨i, j, rfl, k _ (.int _)⟩) hg B.min (by decide +kernel) ha hb (he := he) (he2 := he2) (hpl := hpl)
theorem xe_max2 (B : Blt X.mg) (hc : X.calm = true) {i j : Int} (ha : XE X a Γ (.da (.int i)) Γ1) (hb : XE X b Γ1 (.da (.int j)) Γ2) (hg : Gl X "max" := by rfl) (he : starEach [a, b] X.env = (false, eval a X.env) :: starEach [b] X.env := by rfl)
    (he2 : starEach [b] X.env = (false, eval b X.env) :: starEach [] X.env := by rfl) (hpl : (backTo pos (starEach [b] X.env)).any (·.1) = false := by rfl) : XE X (.Call (.Name "max" p) [a, b] [] pos) Γ (.da (.int (if j > i then j else i))) Γ2 :=
  xe_callB2 (call_max2 hc) (OpL.pure (ds := [.int i, .int j]) fun I H vs r _ Q k => by
      obtain ⟨v, u, rfl, h, h'⟩ := rpL2 r
      cases h
      cases h'
      exact ⟨i, j, rfl, k _ (.int _)⟩) hg B.max (by decide +kernel) ha hb (he := he) (he2 := he2) (hpl := hpl)
end
end TL

/-! TL14: dicts made, frozen, walked, sorted; list.pop; truth. -/
namespace TL
open PySem PySem.Spec PyProof.Rows L2

section
variable {X : Cx} {e a b c o it tg : Expr} {es elts : List Expr} {ss rest : List Stmt} {Γ Γ' Γ1 Γ2 : Sl} {Ψ : OD → Sl → Prop} {Φ : Out → Prop} {Φt : Bool → Sl → Prop} {pos p apos cpos p2 tpos : Pos} {r x y z : OD} {nm n2 : Str} {ds : List PyData} {d d' g : PyData} {i kk : Nat} {ks : List (Key × PyData)}

/-! ### {} and {k: v} -/
theorem xe_dict0 : XE X (.Dict [] [] pos) Γ (.dd []) Γ := fun Ψ hq I H σ F en Q k => ⟨_, pe_dnewK, fun p hp => by
  have en2 := en.use (B := []) (by simpa using en.nd) (step_new (F := []) hp) (Own.dd (kvs := []) (ds := []) upd_same (en.sub.free hp) rfl .nil) (by simp) (upd_sub en.sub hp)
  exact k _ _ I _ _ _ hq en2.2 en2.1⟩
theorem xe_dict1 {k : Key} (ha : XE X a Γ (.da (keyD k)) Γ1) (hb : XE X b Γ1 (.da d) Γ2) : XE X (.Dict [some a] [b] pos) Γ (.dd [(k, d)]) Γ2 := fun Ψ hq I H σ F en Q kq => by
  refine ⟨_, pe_disp (pps_cons wpE_ok wpE_ok pps_nil) rfl rfl (by simp) (by simp), fun p hp => ?_⟩
  -- the new dict stands while the pair is made: as an own thing on the stack
  obtain ⟨en0, st0⟩ := en.use (B := []) (by simpa using en.nd) (step_new (F := []) hp) (Own.dd (kvs := []) (ds := []) upd_same (en.sub.free hp) rfl .nil) (by simp) (upd_sub en.sub hp)
  obtain ⟨B0, G0, e0, o0, en0', up0⟩ := en0.pop
  refine ha (fun r Γ' => r = .da (keyD k) ∧ Γ' = Γ1) ⟨rfl, rfl⟩ I (upd H p (.dK [])) σ G0 en0' _ ?_
  rintro _ _ I1 H1 u F1 ⟨rfl, rfl⟩ st1 en1
  obtain ⟨B1, G1, rfl, o1, en1', up1⟩ := en1.pop
  cases o1 with
  | da hk =>
    refine hb (fun r Γ' => r = .da d ∧ Γ' = Γ2) ⟨rfl, rfl⟩ I1 H1 σ G1 en1' _ ?_
    rintro _ Γ2' I2 H2 w F2 ⟨rfl, e2⟩ st2 en2
    subst e2
    obtain ⟨B2, G2, rfl, o2, en2', _⟩ := en2.pop
    cases o2 with
    | da hd =>
      obtain ⟨en3, st3, o3⟩ := up0 (st1.trans st2) en2'
      have hB : B0 = [p] := by
        cases o0
        rfl
      subst hB
      cases o3 with
      | dd h1 h2 h3 h4 =>
        rename_i kvs
        have hk0 : kvs = [] := by simpa using h3
        subst hk0
        rw [rp_key hk]
        refine ⟨h1, [(k, w)], rfl, by simp, ?_⟩
        have nd := en3.nd
        have np : p ∉ G2 := (List.nodup_cons.mp (show (p :: G2).Nodup from nd)).1
        have en4 : EnvF X.tc I2 (upd H2 p (.dK (mergeK [] [(k, w)]))) σ Γ2' G2 := ⟨en2'.env.frame (Same.refl I2) fun b hb => ⟨upd_ne fun q => np (q ▸ hb), (en2'.env.cells b hb).2⟩, en2'.nd, fun b u e => by
          rw [upd_ne fun q => by
            subst q
            rw [h2] at e
            cases e]
          exact en2'.sub b u e⟩
        refine kq _ _ I2 _ _ ([p] ++ G2) hq ?_ ⟨.cons (.dd upd_same h2 rfl (.cons hd .nil)) en4.env, nd, en4.sub⟩
        exact (st0.trans st3).trans ((step_upd (F := [p] ++ G2) (by simp)).of_mem (fun b hb => hb) fun b hb => hb)

/-! ### a dict from now on only read -/
theorem frz_dd {T : TC} {I H : Hp} {v : V} {B : List Addr} (o : Own T I H v (.dd ks) B) : ∃ p kvs, v = .ref p ∧ B = [p] ∧ H p = some (.dK kvs) ∧ I p = none ∧ ∀ od, Rp T (upd I p (.frz od (.dK kvs))) v (dkD ks) := by
  cases o with
  | @dd p kvs _ h1 h2 h3 h4 =>
    refine ⟨p, kvs, rfl, rfl, h1, h2, fun od => .dk upd_same ?_ ?_⟩
    · have e : kvs.map (fun p => keyD p.1) = (kvs.map Prod.fst).map keyD := by rw [List.map_map]; rfl
      rw [e, h3, List.map_map, List.map_map]
      rfl
    · rw [List.map_map]
      exact h4.mono (upd_up h2)
theorem EnvF.lock {T : TC} {I H : Hp} {σ : L2.St} {G : List Addr} {v : V} {p : Addr} {kvs : List (Key × V)} (en : EnvF T I H σ Γ G) (hH : H p = some (.dK kvs)) (hI : I p = none) (np : p ∉ G) (od : Obj) :
    EnvF T (upd I p (.frz od (.dK kvs))) (upd H p (.frz od (.dK kvs))) σ Γ G ∧ Step I H (p :: G) (upd I p (.frz od (.dK kvs))) (upd H p (.frz od (.dK kvs))) G :=
  ⟨⟨en.env.frame (upd_up hI) fun b hb => ⟨upd_ne fun q => np (q ▸ hb), by rw [upd_ne (b := b) (fun q : b = p => np (q ▸ hb))]; exact (en.env.cells b hb).2⟩, en.nd, upd_both en.sub⟩,
    upd_up hI, fun b ob e1 e2 n => by
      rw [List.mem_cons, not_or] at n
      exact ⟨by rw [upd_ne n.1]; exact e1, by rw [upd_ne n.1]; exact e2, n.2⟩⟩
/-- the reading: what stands at the answer is locked -/
theorem pe_lockF {t : TE} (h : PE X e t) : PE X e (fun σ H Q => t σ H fun v H1 => ∃ d u, v = .ref d ∧ H1 d = some u ∧ Mut (some u) ∧ ∀ od, Q v (upd H1 d (.frz od u))) := ⟨fun pins s σ H Q I hw =>
  thn (h.run pins s σ H _ I hw) fun v s1 ⟨x, H1, I1, rx, d, u, ex, hd, mu, q⟩ => by
    obtain ⟨od, I2⟩ := I1.lock hd mu
    exact ⟨x, _, I2, rx, q od⟩⟩
theorem we_frzD (h : WE X e Γ fun r Γ1 => ∃ ks, r = .dd ks ∧ Ψ (.da (dkD ks)) Γ1) : WE X e Γ Ψ := fun I H σ F en Q k => ⟨_, pe_lockF wpE_ok, h I H σ F en _ fun r Γ1 I1 H1 v F1 ⟨ks, hr, hq⟩ st1 en1 => by
  subst hr
  obtain ⟨B, G, rfl, o, en2, _⟩ := en1.pop
  obtain ⟨p, kvs, rfl, rfl, h1, h2, h3⟩ := frz_dd o
  refine ⟨p, _, rfl, h1, True.intro, fun od => ?_⟩
  have np : p ∉ G := (List.nodup_cons.mp (show (p :: G).Nodup from en1.nd)).1
  obtain ⟨en3, st3⟩ := en2.lock (v := .ref p) h1 h2 np od
  exact k _ Γ1 _ _ _ G hq (st1.trans st3) (en3.da (h3 od))⟩
theorem xe_frzD (h : XE X e Γ (.dd ks) Γ1) : XE X e Γ (.da (dkD ks)) Γ1 := fun _ hq => we_frzD (h _ ⟨ks, rfl, hq⟩)
theorem ws_frzD (i : Nat) (h : WSs X ss (Γ.set i (some (.da (dkD ks)))) Φ) (hx : Γ[i]? = some (some (.dd ks)) := by rfl) : WSs X ss Γ Φ := fun I H σ F en D ek => by
  refine ⟨fun D σ H => ∃ d u, H d = some u ∧ Mut (some u) ∧ ∀ od, wpSs X ss D σ (upd H d (.frz od u)), ⟨fun pins s σ H D I ⟨d, u, hd, mu, q⟩ => by
    obtain ⟨od, I1⟩ := I.lock hd mu
    exact wpSs_ok.run pins s σ _ D I1 (q od)⟩, ?_⟩
  obtain ⟨v, B, G, e1, o, en', nd, mem⟩ := en.take hx
  obtain ⟨p, kvs, rfl, rfl, h1, h2, h3⟩ := frz_dd o
  refine ⟨p, _, h1, True.intro, fun od => ?_⟩
  have np : p ∉ G := (List.nodup_cons.mp (show (p :: G).Nodup from nd)).1
  obtain ⟨en3, st3⟩ := en'.lock (v := .ref p) h1 h2 np od
  obtain ⟨F4, en4, nd4, m4⟩ := en3.into (B := []) (x := .da (dkD ks)) e1 (.da (h3 od)) en3.nd
  rw [List.set_set] at en4
  exact h _ _ σ F4 en4 D (ek.step (st3.of_mem (fun b hb => (List.mem_cons.mp hb).elim (fun q => (mem b).mpr (.inl (q ▸ List.mem_cons_self))) fun q => (mem b).mpr (.inr q)) fun b hb => (m4 b hb).elim (fun q => absurd q (by simp)) id))

/-! ### walks -/
theorem ks_get {kvs : List (Key × V)} (h : kvs.map Prod.fst = ks.map Prod.fst) {i : Nat} {k : Key} {v : V} (hi : kvs[i]? = some (k, v)) : ∃ d, ks[i]? = some (k, d) := by
  have e : (kvs.map Prod.fst)[i]? = some k := by rw [List.getElem?_map, hi]; rfl
  rw [h, List.getElem?_map] at e
  obtain ⟨q, h1, h2⟩ := Option.map_eq_some_iff.mp e
  obtain ⟨k', d⟩ := q
  exact ⟨d, by rw [h1]; simpa using h2⟩
theorem key_rp {T : TC} {I : Hp} : ∀ k : Key, Rp T I (kV k) (keyD k)
  | .inl i => .int i
  | .inr s => .str s
theorem len_eq {α β : Type} {kvs : List (Key × α)} {ks : List (Key × β)} (h : kvs.map Prod.fst = ks.map Prod.fst) : kvs.length = ks.length := by
  have := congrArg List.length h
  rwa [List.length_map, List.length_map] at this
theorem isit_keys {T : TC} {I : Hp} {a : Addr} {ob : Obj} {kvs : List (Key × V)} (h : I a = some (.frz ob (.dK kvs))) (hk : kvs.map Prod.fst = ks.map Prod.fst) : IsIt T (Itk a ob kvs) (ks.map fun p => keyD p.1) I where
  go := fun i I' H s1 s2 hl => ⟨s2 _ _ (s1 _ _ h), by rw [len_eq hk]; simpa using hl⟩
  stop := fun I' H s1 s2 => ⟨s2 _ _ (s1 _ _ h), by rw [len_eq hk]; simp⟩
  yld := fun i I' H v H' s1 s2 hl hy => by
    obtain ⟨rfl, k, w, hi, rfl⟩ := hy
    obtain ⟨d, hd⟩ := ks_get hk hi
    exact ⟨I', _, by rw [List.getElem?_map, hd]; rfl, .refl, s2, key_rp k⟩
theorem isit_vals {T : TC} {I : Hp} {a : Addr} {ob : Obj} {kvs : List (Key × V)} (h : I a = some (.frz ob (.dK kvs))) (hk : kvs.map Prod.fst = ks.map Prod.fst) (hr : RpL T I (kvs.map Prod.snd) (ks.map Prod.snd)) : IsIt T (Itd a ob kvs) (ks.map Prod.snd) I where
  go := fun i I' H s1 s2 hl => ⟨s2 _ _ (s1 _ _ h), by rw [len_eq hk]; simpa using hl⟩
  stop := fun I' H s1 s2 => ⟨s2 _ _ (s1 _ _ h), by rw [len_eq hk]; simp⟩
  yld := fun i I' H v H' s1 s2 hl hy => by
    obtain ⟨rfl, k, hi⟩ := hy
    obtain ⟨d, hd, q⟩ := hr.get' (i := i) (v := v) (by rw [List.getElem?_map, hi]; rfl)
    exact ⟨I', d, hd, .refl, s2, q.mono s1⟩
theorem isit_items {T : TC} {I : Hp} {a : Addr} {ob : Obj} {kvs : List (Key × V)} (h : I a = some (.frz ob (.dK kvs))) (hk : kvs.map Prod.fst = ks.map Prod.fst) (hr : RpL T I (kvs.map Prod.snd) (ks.map Prod.snd)) : IsIt T (Iti a ob kvs) (ks.map fun p => .tuple [keyD p.1, p.2]) I where
  go := fun i I' H s1 s2 hl => ⟨s2 _ _ (s1 _ _ h), by rw [len_eq hk]; simpa using hl⟩
  stop := fun I' H s1 s2 => ⟨s2 _ _ (s1 _ _ h), by rw [len_eq hk]; simp⟩
  yld := fun i I' H v H' s1 s2 hl hy => by
    obtain ⟨p, k, w, hi, rfl, hp, rfl⟩ := hy
    obtain ⟨d, hd⟩ := ks_get hk hi
    obtain ⟨d', hd', q⟩ := hr.get' (i := i) (v := w) (by rw [List.getElem?_map, hi]; rfl)
    rw [List.getElem?_map, hd] at hd'
    cases hd'
    exact ⟨upd I' p (.tup [kV k, w]), _, by rw [List.getElem?_map, hd]; rfl, step_frz s2 hp, upd_both s2, .tup (SqT.of upd_same) (.cons (key_rp k) (.cons ((q.mono s1).mono (upd_up (s2.free hp))) .nil))⟩
theorem xi_keys (h : XE X it Γ (.da (dkD ks)) Γ1) : XI X tg it Γ (ks.map fun p => keyD p.1) Γ1 := fun Ψ hq I H σ F en R k => ⟨_, pi_keys wpE_ok, h (fun r Γ' => r = .da (dkD ks) ∧ Γ' = Γ1) ⟨rfl, rfl⟩ I H σ F en _ (by
  rintro _ _ I1 H1 v F1 ⟨rfl, rfl⟩ st1 en1
  obtain ⟨B, G, rfl, o, en2, _⟩ := en1.pop
  cases o with
  | da o =>
    obtain ⟨a, ob, kvs, rfl, h1, h2, h3⟩ := rp_dkD o
    exact ⟨a, ob, rfl, .inl ⟨kvs, en2.sub _ _ h1, k _ _ I1 H1 _ _ hq st1 en2 (isit_keys h1 h2)⟩⟩)⟩
theorem xi_vals (h : XE X it Γ (.da (dkD ks)) Γ1) (hbase : attributeBase it "values" X.env (eval it X.env) = eval it X.env := by rfl) (hline : (apos.endLine == cpos.line) = true := by rfl) : XI X tg (.Call (.Attribute it "values" apos) [] [] cpos) Γ (ks.map Prod.snd) Γ1 := fun Ψ hq I H σ F en R k => ⟨_, pi_values wpE_ok hbase hline, h (fun r Γ' => r = .da (dkD ks) ∧ Γ' = Γ1) ⟨rfl, rfl⟩ I H σ F en _ (by
  rintro _ _ I1 H1 v F1 ⟨rfl, rfl⟩ st1 en1
  obtain ⟨B, G, rfl, o, en2, _⟩ := en1.pop
  cases o with
  | da o =>
    obtain ⟨a, ob, kvs, rfl, h1, h2, h3⟩ := rp_dkD o
    exact ⟨a, ob, kvs, rfl, en2.sub _ _ h1, k _ _ I1 H1 _ _ hq st1 en2 (isit_vals h1 h2 h3)⟩)⟩
theorem xi_items (h : XE X it Γ (.da (dkD ks)) Γ1) (hbase : attributeBase it "items" X.env (eval it X.env) = eval it X.env := by rfl) (hline : (apos.endLine == cpos.line) = true := by rfl) : XI X (.Tuple elts kk tpos) (.Call (.Attribute it "items" apos) [] [] cpos) Γ (ks.map fun p => .tuple [keyD p.1, p.2]) Γ1 := fun Ψ hq I H σ F en R k => ⟨_, pi_items wpE_ok hbase hline, h (fun r Γ' => r = .da (dkD ks) ∧ Γ' = Γ1) ⟨rfl, rfl⟩ I H σ F en _ (by
  rintro _ _ I1 H1 v F1 ⟨rfl, rfl⟩ st1 en1
  obtain ⟨B, G, rfl, o, en2, _⟩ := en1.pop
  cases o with
  | da o =>
    obtain ⟨a, ob, kvs, rfl, h1, h2, h3⟩ := rp_dkD o
    exact ⟨a, ob, kvs, rfl, en2.sub _ _ h1, k _ _ I1 H1 _ _ hq st1 en2 (isit_items h1 h2 h3)⟩)⟩

/-! ### len of a dict, truth -/
def rLenD : List V → Hp → VK → Prop := fun xs H Q => ∃ a kvs, xs = [.ref a] ∧ Rd H a (.dK kvs) ∧ Q (.int kvs.length) H
theorem call_lenDR : CallR X (.builtin "len") rLenD := by
  rintro pins s σ H xs us Q I r ⟨a, kvs, rfl, h, q⟩
  cases r with
  | cons rv r =>
    cases r
    cases rv
    exact d_len I h fun t s' I' => ⟨.int kvs.length, H, I', ⟨t, rfl⟩, q⟩
theorem rd_lenD {T : TC} (hv : DV x ks) : Rd1 T rLenD x (.da (.int ks.length)) := Rd1.pure fun I H v B o s Q k => by
  obtain ⟨a, kvs, rfl, h1, h2, h3⟩ := hv.rd o s
  exact ⟨a, kvs, rfl, h1, by rw [len_eq h2]; exact k _ (.int _)⟩
theorem xe_lenDS (i : Nat) (B : Blt X.mg) (hx : Γ[i]? = some (some x) := by rfl) (hv : DV x ks := by first | exact .dd | exact .pin | exact .da) (hg : Gl X "len" := by rfl)
    (hN : X.N[i]? = some n2 := by rfl) (hvs : Vis X.env.scope n2 := by first | exact Or.inl rfl | exact Or.inr (Or.inl rfl) | exact Or.inr (Or.inr rfl)) (h1 : (n2 == ("__debug__" : Str)) = false := by decide) (h2 : (n2 == ("__classdict__" : Str)) = false := by decide)
    (he : starEach [.Name n2 p2] X.env = (false, eval (.Name n2 p2) X.env) :: starEach [] X.env := by rfl) (hpl : (backTo pos (starEach [] X.env)).any (·.1) = false := by rfl) :
    XE X (.Call (.Name "len" p) [.Name n2 p2] [] pos) Γ (.da (.int ks.length)) Γ := xe_callS (wl := rLenD) i call_lenDR (rd_lenD hv) hg B.len PySem.boot_len (hx := hx) (hN := hN) (hvs := hvs) (h1 := h1) (h2 := h2) (he := he) (hpl := hpl)
theorem xe_lenD (B : Blt X.mg) (ha : XE X a Γ (.da (dkD ks)) Γ1) (hg : Gl X "len" := by rfl) (he : starEach [a] X.env = (false, eval a X.env) :: starEach [] X.env := by rfl) (hpl : (backTo pos (starEach [] X.env)).any (·.1) = false := by rfl) :
    XE X (.Call (.Name "len" p) [a] [] pos) Γ (.da (.int ks.length)) Γ1 := xe_callB1 (wl := rLenD) call_lenDR (rd_lenD .da).opl hg B.len PySem.boot_len ha (he := he) (hpl := hpl)
/-- truth of what stands in a slot -/
def rTru (T : TC) (v : V) (H : Hp) (k : Bool) : Prop := TruV T.K v H k ∨ ∃ a kvs, v = .ref a ∧ Rd H a (.dK kvs) ∧ k = !kvs.isEmpty
theorem tru_all : TruR X (fun x H Q => ∃ k, rTru X.tc x H k ∧ Q k H) := by
  rintro pins s σ H x v Q I rx ⟨k, h | ⟨a, kvs, rfl, h, rfl⟩, q⟩
  · exact tru_ok pins s σ H x v Q I rx ⟨k, h, q⟩
  · cases rx
    exact d_truth I h fun s' I' => ⟨H, I', q⟩
/-- x's truth is k -/
inductive Tru : OD → Bool → Prop
  | non : Tru (.da .none) false
  | bl {b : Bool} : Tru (.da (.bool b)) b
  | int {n : Int} : Tru (.da (.int n)) (n != 0)
  | sv {x : OD} {d : PyData} {ds : List PyData} (h : SV x d) (hd : d = .list ds ∨ d = .tuple ds) : Tru x (!ds.isEmpty)
  | dv {x : OD} {ks : List (Key × PyData)} (h : DV x ks) : Tru x (!ks.isEmpty)
theorem isEmpty_len {α β : Type} {xs : List α} {ys : List β} (h : xs.length = ys.length) : xs.isEmpty = ys.isEmpty := by
  cases xs <;> cases ys <;> simp at h ⊢
theorem Tru.ok {T : TC} {I H : Hp} {v : V} {B : List Addr} {k : Bool} (h : Tru x k) (o : Own T I H v x B) (s : Same I H) : rTru T v H k := by
  cases h with
  | non => cases o with
    | da o => cases o; exact .inl rfl
  | bl => cases o with
    | da o => cases o; exact .inl rfl
  | int => cases o with
    | da o => cases o; exact .inl rfl
  | sv h hd =>
    obtain ⟨a, vs, rfl, q, r⟩ := h.seq hd o s
    rcases q with ⟨_, q⟩ | ⟨_, q, _⟩
    · exact .inl (.inl ⟨vs, q, by rw [isEmpty_len r.length]⟩)
    · exact .inl (.inr (.inl ⟨vs, q, by rw [isEmpty_len r.length]⟩))
  | dv h =>
    obtain ⟨a, kvs, rfl, h1, h2, h3⟩ := h.rd o s
    exact .inr ⟨a, kvs, rfl, h1, by rw [isEmpty_len (len_eq h2)]⟩
theorem pt_truthA {ta : TE} (ha : PE X a ta) (he : ∀ whole, isTrue a X.env whole = (do let v ← whole; standAt a.pos; holding [v] (truthy v)) := by intro _; rfl) : PT X a (fun σ H Q => ta σ H fun x H' => ∃ k, rTru X.tc x H' k ∧ Q k H') := by
  refine ⟨fun pins s σ H Q I h => ?_⟩
  show wpAny _ _ (isTrue a X.env (eval a X.env)) _ _ _
  rw [he]
  refine wpAny_bind (thn (ha.run pins s σ H _ I h) fun v s1 ⟨x, H1, I1, rx, q⟩ => ?_)
  refine wpAny_bind (wpAny_standAt ?_)
  exact wpAny_holding (tru_all pins s1 σ H1 x v Q I1 rx q)
theorem xt_truS (i : Nat) {k : Bool} (ht : Tru x k) (hx : Γ[i]? = some (some x) := by rfl) (hN : X.N[i]? = some nm := by rfl) (hvs : Vis X.env.scope nm := by first | exact Or.inl rfl | exact Or.inr (Or.inl rfl) | exact Or.inr (Or.inr rfl)) (h1 : (nm == ("__debug__" : Str)) = false := by decide) (h2 : (nm == ("__classdict__" : Str)) = false := by decide)
    (he : ∀ whole, isTrue (.Name nm p) X.env whole = (do let v ← whole; standAt (Expr.Name nm p).pos; holding [v] (truthy v)) := by intro _; rfl) : XT X (.Name nm p) Γ k Γ := fun Ψ hq I H σ F en Q kq => by
  obtain ⟨v, B, e1, o⟩ := en.see hx
  exact ⟨_, pt_truthA (pe_var hN hvs h1 h2) he, v, e1, k, ht.ok o en.sub, kq k Γ I H F hq .refl en⟩
theorem wt_tru (h : WE X a Γ fun r Γ1 => ∃ k, Tru r k ∧ Φt k Γ1) (he : ∀ whole, isTrue a X.env whole = (do let v ← whole; standAt a.pos; holding [v] (truthy v)) := by intro _; rfl) : WT X a Γ Φt := fun I H σ F en Q kq =>
  ⟨_, pt_truthA wpE_ok he, h I H σ F en _ fun r Γ1 I1 H1 v F1 ⟨k, ht, hq⟩ st1 en1 => by
    obtain ⟨B, G, rfl, o, en2, _⟩ := en1.pop
    exact ⟨k, ht.ok o en2.sub, kq k Γ1 I1 H1 G hq (step_sub st1 fun b hb => List.mem_append_right _ hb) en2⟩⟩
end
end TL

/-! TL15: sorted(d), sorted(d.items()), list(d.items()). -/
namespace TL
open PySem PySem.Spec PyProof.Rows L2

section
variable {X : Cx} {e a b c o it tg : Expr} {es elts : List Expr} {ss rest : List Stmt} {Γ Γ' Γ1 Γ2 : Sl} {Ψ : OD → Sl → Prop} {Φ : Out → Prop} {Φt : Bool → Sl → Prop} {pos p apos cpos p2 tpos : Pos} {r x y z : OD} {nm n2 : Str} {ds : List PyData} {d d' g : PyData} {i kk : Nat} {ks : List (Key × PyData)}

/-- what sorted asks of its items -/
structure SrtOk (ds : List PyData) : Prop where
  plain : PyData.plainAll ds = true
  alike : PySem.W.AllAlike ds
  srt : PySem.W.Sortable ds
  len : ds.length ≤ sizeLine
  depth : ∀ d ∈ ds, d.depth ≤ 60
/-- list.sort of a list just made -/
theorem sort_fresh {pins : List (Addr × Obj)} {σ : L2.St} {H I0 : Hp} {s : Shared} {A : Around} {acc : List Value} {Q : VK} {E : Value → Shared → Prop} (I : Inv X pins σ H s) (er : PySem.W.EachIs (fun u d => ∃ v, RelV v u ∧ Rp X.tc I0 v d) acc ds) (sub : Same I0 H) (ok : SrtOk ds) (hA : A.units + 61 < cLine)
    (k : ∀ (p : Addr) (ws : List V), H p = none → RpL X.tc I0 ws (sortD ds) → Q (.ref p) (upd H p (.lst ws))) :
    wpAny (model X.prog X.w) A (Builtin.«list.sort» ⟨[.ref s.heap.objs.size], []⟩) (fun f s' => f = .done (.ret .none) ∧ EP X pins σ Q (.ref s.heap.objs.size) s') E { s with heap := s.heap.push (seqObj "list" acc.toArray 0) } := by
  have ho : (s.heap.push (seqObj "list" acc.toArray 0)).get? s.heap.objs.size = some (seqObj "list" acc.toArray 0) := Heap.get?_push_size _ rfl
  have old : ∀ b o, s.heap.get? b = some o → (PySem.W.sortingHeap (s.heap.push (seqObj "list" acc.toArray 0)) s.heap.objs.size acc).get? b = some o := fun b o e =>
    PySem.W.sortingHeap_old (Nat.ne_of_lt (Heap.lt_size e)) (Heap.get?_push_of_some _ e)
  have er1 : PySem.W.EachIs (fun u d => ∃ as, Reads s.heap u d as) acc ds := each_imp er fun u d hm ⟨v, q, h⟩ => (h.mono sub).reads I (plainAll_mem ok.plain hm) q
  have er2 : PySem.W.EachIs (fun u d => ∃ as, Reads (PySem.W.sortingHeap (s.heap.push (seqObj "list" acc.toArray 0)) s.heap.objs.size acc) u (id d) as) acc ds := each_imp er1 fun u d _ ⟨as, q⟩ => ⟨as, PyProof.Rows.Reads.keeps (fun _ _ => old _ _) q⟩
  have al' : PySem.W.AllAlike (ds.map id) := by rw [List.map_id]; exact ok.alike
  have so' : PySem.W.Sortable (ds.map id) := by rw [List.map_id]; exact ok.srt
  have hl : acc.length = ds.length := er.length
  refine PySem.W.list_sort_vals (s := { s with heap := s.heap.push (seqObj "list" acc.toArray 0) }) (κ := PySem.W.dataKind (PySem.W.sortingHeap (s.heap.push (seqObj "list" acc.toArray 0)) s.heap.objs.size acc) (ds.map id)) ho
    (PySem.W.SortsAt.data (s := { s with heap := PySem.W.sortingHeap (s.heap.push (seqObj "list" acc.toArray 0)) s.heap.objs.size acc }) (PySem.W.each_map (R := fun v d => ∃ as, Reads (PySem.W.sortingHeap (s.heap.push (seqObj "list" acc.toArray 0)) s.heap.objs.size acc) v d as) id er2) al' so' (PySem.W.bound_map fun d hd => ?_)) (by rw [hl]; exact ok.len) ?_
  · have := ok.depth d hd
    show A.units + d.depth < cLine
    omega
  · have eo := PySem.W.sortVals_data (h' := PySem.W.sortingHeap (s.heap.push (seqObj "list" acc.toArray 0)) s.heap.objs.size acc) (enc := id) false er er2 al'
    have lo : (PySem.W.sortVals (PySem.W.dataKind (PySem.W.sortingHeap (s.heap.push (seqObj "list" acc.toArray 0)) s.heap.objs.size acc) (ds.map id)) false acc acc).length = ds.length := by rw [PySem.W.sortVals_length false rfl]; exact hl
    revert eo lo
    generalize PySem.W.sortVals (PySem.W.dataKind (PySem.W.sortingHeap (s.heap.push (seqObj "list" acc.toArray 0)) s.heap.objs.size acc) (ds.map id)) false acc acc = out
    intro eo lo
    obtain ⟨ws, w1, w2⟩ := each_back eo
    obtain ⟨c', hc⟩ := PyProof.Rows.sortedHeap_at (vs := acc) (out := out.toArray) ho
    have hn : H s.heap.objs.size = none := I.hok.fresh (Nat.le_refl _)
    have hlen : ws.length ≤ sizeLine := by
      rw [w1.length, lo]
      exact ok.len
    refine ⟨rfl, .ref s.heap.objs.size, upd H s.heap.objs.size (.lst ws), I.laid (t' := s.toks) (fun b u e => ?_) (Nat.le_refl _) ⟨hlen, out, c', w1, hc⟩, rfl, k _ ws hn w2⟩
    have hb : b < s.heap.objs.size := Heap.lt_size e
    rw [PyProof.Rows.sortedHeap_old (Nat.ne_of_lt hb) (by rw [size_push']; exact Nat.lt_succ_of_lt hb)]
    exact Heap.get?_push_of_some _ e

def _root_.L2.V.at : V → Addr
  | .ref a => a
  | _ => 0
/-! ### sorted(d) -/
theorem each_ix {α β : Type} {R : α → β → Prop} : ∀ {as : List α} {bs : List β}, as.length = bs.length → (∀ (j : Nat) (a : α) (b : β), as[j]? = some a → bs[j]? = some b → R a b) → PySem.W.EachIs R as bs
  | [], [], _, _ => .nil
  | a :: as, b :: bs, hl, h => .cons (h 0 a b rfl rfl) (each_ix (by simpa using hl) fun j x y e1 e2 => h (j + 1) x y (by simpa using e1) (by simpa using e2))
  | [], _ :: _, hl, _ => by simp at hl
  | _ :: _, [], hl, _ => by simp at hl
def rSortedD (T : TC) : List V → Hp → VK → Prop := fun xs H Q => ∃ a kvs ks, xs = [.ref a] ∧ Rd H a (.dK kvs) ∧ kvs.map Prod.fst = ks ∧ SrtOk (ks.map keyD) ∧ ∀ (p : Addr) (ws : List V), H p = none → RpL T (fun _ => none) ws (sortD (ks.map keyD)) → Q (.ref p) (upd H p (.lst ws))
theorem call_sortedDR (hcalm : X.calm = true) (hu : X.A.units + 70 < cLine) : CallR X (.builtin "sorted") (rSortedD X.tc) := by
  rintro pins s σ H xs us Q I r ⟨a, kvs, ks, rfl, hd, rfl, ok, q⟩
  obtain ⟨u, eu, rx⟩ := vals1 r
  subst eu
  cases rx
  obtain ⟨z, lo, vs, rel, dd⟩ := dk_rd I.hok hd
  obtain ⟨ep, hat⟩ := dd.dictAt
  have lk : kvs.length = vs.length := Paired.length rel
  refine Calls.call_function_entry PyProof.Rows.kind_sorted PyProof.Rows.plain_sorted PyProof.Rows.entry_sorted (PyProof.Rows.args_sorted1 _) ?_
  unfold Builtin.«sorted»
  refine wpAny_bind (m := checkCount "sorted" 1 1 _) (wpAny_pure ?_)
  refine wpAny_bind (PySem.W.kdu_collect (A := X.A.in1) (PySem.W.kdl_dict (knd := mixKind X.prog X.w) (kvs := vs) (ep := ep) lo) (I.ok.hd hcalm) hat (by omega) fun h' tk acc hk hacc => ?_)
  have hal : acc.toList.length = vs.length := by rw [Array.length_toList, hacc.1]
  have I1 : Inv X pins σ H { s with heap := h', toks := tk } := I.kept hk
  refine wpAny_bind (wpAny_newList ?_ (by rw [hal]; omega))
  have hoL : (h'.push (seqObj "list" acc.toList.toArray 0)).get? h'.objs.size = some (seqObj "list" acc.toList.toArray 0) := Heap.get?_push_size _ rfl
  show wpAny _ _ _ _ _ { s with heap := h'.push (seqObj "list" acc.toList.toArray 0), toks := tk }
  have er : PySem.W.EachIs (fun u d => ∃ v, RelV v u ∧ Rp X.tc (fun _ => none) v d) acc.toList ((kvs.map Prod.fst).map keyD) := each_ix (by rw [hal, List.length_map, List.length_map, lk]) fun j u d e1 e2 => by
    obtain ⟨k, x, e3, e4⟩ := hacc.2 j u (by rw [← Array.getElem?_toList]; exact e1)
    have e5 : (kvs.map Prod.fst)[j]? = some k := by
      rw [rel.keys, List.getElem?_map, e3]
      rfl
    rw [List.getElem?_map, e5] at e2
    cases e2
    exact ⟨kV k, relV_key (show keyIs k u = true from e4), key_rp k⟩
  refine wpAny_bind (wpAny_holding (wpAny_call_entry PyProof.Rows.slot_list_sort ⟨_, hoL, rfl⟩ PyProof.Rows.entry_list_sort ?body (PyProof.Rows.args_list_sort _)))
  case body =>
    refine wpAny_mono (sort_fresh (A := X.A.in1.in1) I1 er (fun b u e => by cases e) ok (by show X.A.units + 2 + 61 < cLine; omega) q) (fun f s' hf => ?_) fun _ _ e => e
    obtain ⟨rfl, hq⟩ := hf
    exact ⟨_, rfl, wpAny_pure ⟨_, rfl, hq⟩⟩
theorem rd_sortedD {T : TC} (hv : DV x ks) (ok : SrtOk (ks.map fun p => keyD p.1)) : Rd1 T (rSortedD T) x (.ll (sortD (ks.map fun p => keyD p.1))) := fun I H v B o s Q k => by
  obtain ⟨a, kvs, rfl, h1, h2, h3⟩ := hv.rd o s
  have e : ks.map (fun p => keyD p.1) = (ks.map Prod.fst).map keyD := by rw [List.map_map]; rfl
  rw [e] at ok k
  exact ⟨a, kvs, ks.map Prod.fst, rfl, h1, h2, ok, fun p ws hp r => k I _ _ [p] (step_new hp) (.ll upd_same (s.free hp) (r.mono fun b u e => by cases e)) (by simp) (upd_sub s hp)⟩
theorem xe_sortedDS (i : Nat) (B : Blt X.mg) (hc : X.calm = true) (hu : X.A.units + 70 < cLine) (ok : SrtOk (ks.map fun p => keyD p.1)) (hx : Γ[i]? = some (some x) := by rfl) (hv : DV x ks := by first | exact .dd | exact .pin | exact .da) (hg : Gl X "sorted" := by rfl)
    (hN : X.N[i]? = some n2 := by rfl) (hvs : Vis X.env.scope n2 := by first | exact Or.inl rfl | exact Or.inr (Or.inl rfl) | exact Or.inr (Or.inr rfl)) (h1 : (n2 == ("__debug__" : Str)) = false := by decide) (h2 : (n2 == ("__classdict__" : Str)) = false := by decide)
    (he : starEach [.Name n2 p2] X.env = (false, eval (.Name n2 p2) X.env) :: starEach [] X.env := by rfl) (hpl : (backTo pos (starEach [] X.env)).any (·.1) = false := by rfl) :
    XE X (.Call (.Name "sorted" p) [.Name n2 p2] [] pos) Γ (.ll (sortD (ks.map fun p => keyD p.1))) Γ := xe_callS (wl := rSortedD X.tc) i (call_sortedDR hc hu) (rd_sortedD hv ok) hg B.sorted (by decide +kernel) (hx := hx) (hN := hN) (hvs := hvs) (h1 := h1) (h2 := h2) (he := he) (hpl := hpl)
theorem xe_sortedD (B : Blt X.mg) (hc : X.calm = true) (hu : X.A.units + 70 < cLine) (ok : SrtOk (ks.map fun p => keyD p.1)) (ha : XE X a Γ (.da (dkD ks)) Γ1) (hg : Gl X "sorted" := by rfl) (he : starEach [a] X.env = (false, eval a X.env) :: starEach [] X.env := by rfl) (hpl : (backTo pos (starEach [] X.env)).any (·.1) = false := by rfl) :
    XE X (.Call (.Name "sorted" p) [a] [] pos) Γ (.ll (sortD (ks.map fun p => keyD p.1))) Γ1 := xe_callB1 (wl := rSortedD X.tc) (call_sortedDR hc hu) (rd_sortedD .da ok).opl hg B.sorted (by decide +kernel) ha (he := he) (hpl := hpl)
/-- sorted(xs), a list -/
theorem xe_sorted (B : Blt X.mg) (hu : X.A.units + 70 < cLine) (ok : SrtOk ds) (ha : XE X a Γ (.da (.list ds)) Γ1) (hg : Gl X "sorted" := by rfl) (he : starEach [a] X.env = (false, eval a X.env) :: starEach [] X.env := by rfl) (hpl : (backTo pos (starEach [] X.env)).any (·.1) = false := by rfl) :
    XE X (.Call (.Name "sorted" p) [a] [] pos) Γ (.ll (sortD ds)) Γ1 := xe_callB1 (wl := rSorted X.tc) (call_sortedP hu) (opl_sorted ok.plain ok.alike ok.srt ok.len ok.depth) hg B.sorted (by decide +kernel) ha (he := he) (hpl := hpl)
theorem we_sorted (B : Blt X.mg) (hu : X.A.units + 70 < cLine) (h : WE X a Γ fun r Γ1 => ∃ ds, Frz r (.list ds) ∧ SrtOk ds ∧ Ψ (.ll (sortD ds)) Γ1) (hg : Gl X "sorted" := by rfl) (he : starEach [a] X.env = (false, eval a X.env) :: starEach [] X.env := by rfl) (hpl : (backTo pos (starEach [] X.env)).any (·.1) = false := by rfl) :
    WE X (.Call (.Name "sorted" p) [a] [] pos) Γ Ψ := we_callB (wl := rSorted X.tc) (call_sortedP hu) hg B.sorted (by decide +kernel) (wa_cons (we_frz (h.mono fun r Γ1 ⟨ds, f, ok, q⟩ => ⟨.list ds, f, wa_nil ⟨_, opl_sorted ok.plain ok.alike ok.srt ok.len ok.depth, q⟩⟩)) he) (he := he) (hpl := hpl)

/-! ### sorted(d.items()), list(d.items()) -/
abbrev prD (ks : List (Key × PyData)) : List PyData := ks.map fun p => .tuple [keyD p.1, p.2]
theorem pairs_ok {T : TC} : ∀ {as : List Addr} {kvs : List (Key × V)} {ks : List (Key × PyData)} {I H : Hp}, as.length = kvs.length → as.Nodup → (∀ t ∈ as, H t = none) → Same I H → kvs.map Prod.fst = ks.map Prod.fst → RpL T I (kvs.map Prod.snd) (ks.map Prod.snd) →
    Step I H [] (LiI.putT I as kvs) (LiI.putT H as kvs) [] ∧ Same (LiI.putT I as kvs) (LiI.putT H as kvs) ∧ RpL T (LiI.putT I as kvs) (as.map V.ref) (prD ks)
  | [], [], [], I, H, _, _, _, s, _, _ => ⟨.refl, s, .nil⟩
  | [], [], _ :: _, _, _, _, _, _, _, h, _ => by simp at h
  | [], _ :: _, _, _, _, h, _, _, _, _, _ => by simp at h
  | _ :: _, [], _, _, _, h, _, _, _, _, _ => by simp at h
  | _ :: _, _ :: _, [], _, _, _, _, _, _, h, _ => by simp at h
  | t :: as, q :: kvs, k :: ks, I, H, hl, nd, hn, s, hk, hr => by
    rw [List.map_cons, List.map_cons, List.cons.injEq] at hk
    rw [List.map_cons, List.map_cons] at hr
    have nd' := List.nodup_cons.mp nd
    have h0 := hn t List.mem_cons_self
    cases hr with
    | cons h1 hr =>
      have st0 : Step I H [] (upd I t (.tup [kV q.1, q.2])) (upd H t (.tup [kV q.1, q.2])) [] := step_frz s h0
      obtain ⟨g1, g2, g3⟩ := pairs_ok (as := as) (kvs := kvs) (ks := ks) (I := upd I t (.tup [kV q.1, q.2])) (H := upd H t (.tup [kV q.1, q.2])) (by simpa using hl) nd'.2
        (fun b hb => by rw [upd_ne (b := b) (fun e : b = t => nd'.1 (e ▸ hb))]; exact hn b (List.mem_cons_of_mem _ hb)) (upd_both s) hk.2 (hr.mono st0.inc)
      have hp : Rp T (upd I t (.tup [kV q.1, q.2])) (.ref t) (.tuple [keyD k.1, k.2]) := .tup (SqT.of upd_same) (.cons (by rw [← hk.1]; exact key_rp q.1) (.cons (h1.mono st0.inc) .nil))
      exact ⟨st0.trans g1, g2, .cons (hp.mono g1.inc) g3⟩
theorem pairs_inv {pins : List (Addr × Obj)} {σ : L2.St} {H : Hp} {s : Shared} {h' : Heap} {tk : Nat} {kvs : List (Key × V)} {vs : List (Key × Value)} {as : List Addr} (I : Inv X pins σ H s) (kv : KV kvs vs) (hk : ∀ b o, s.heap.get? b = some o → h'.get? b = some o) (hl : as.length = vs.length)
    (G : PySem.W.KdxG (mixKind X.prog X.w) vs s.heap.objs.size h' as) : (∀ t ∈ as, H t = none) ∧ as.Nodup ∧ Inv X pins σ (LiI.putT H as kvs) { s with heap := h', toks := tk } := by
  have free : ∀ t ∈ as, H t = none := fun t ht => I.hok.fresh (Nat.le_of_lt (G.above t ht))
  have nd : as.Nodup := G.rise.imp fun h => Nat.ne_of_lt h
  have hz : as.length = kvs.length := hl.trans (Paired.length kv).symm
  have put := LiI.putT_at as kvs H hz nd
  have old : ∀ b u, H b = some u → LiI.putT H as kvs b = some u := fun b u e => by
    rw [LiI.putT_off as kvs H fun hb => by rw [free b hb] at e; cases e]
    exact e
  have was : ∀ b o, s.heap.get? b = some o → b ∉ as := fun b o e hb => Nat.lt_irrefl _ (Nat.lt_trans (Heap.lt_size e) (G.above b hb))
  refine ⟨free, nd, I.call' (s' := { s with heap := h', toks := tk }) (ch := []) rfl ?_ ?_ I.bare fun b hb => nomatch hb⟩
  · constructor
    · exact fun b o e _ _ _ => hk b o e
    · exact fun b o e _ _ _ => ⟨o.slots, hk b o e⟩
    · exact fun b o e n _ => by rw [LiI.putT_off as kvs H (was b o e)]; exact n
    · exact fun b o e _ => ⟨o, hk b o e⟩
    · exact fun b xs e => old b _ e
    · exact fun b o u e => old b _ e
    · exact fun b ps e => ⟨#[], by rw [old b _ e]; simp⟩
  · intro b u e
    by_cases hb : b ∈ as
    · obtain ⟨j, pk, e1, e2, e3⟩ := LiI.paired_ix put hb
      rw [e3] at e
      cases e
      obtain ⟨kx, k, x, f1, f2, f3⟩ := G.pairs j b e1
      obtain ⟨q, g1, g2, g3⟩ := LiI.paired_get kv e2
      rw [f1] at g1
      cases g1
      have rk : RelV (kV pk.1) kx := g2 ▸ relV_key (show keyIs k kx = true from f2)
      exact ⟨by show 2 ≤ sizeLine; decide, [kx, x], .cons rk (.cons g3 .nil), ⟨_, f3, rfl, _, rfl⟩⟩
    · rw [LiI.putT_off as kvs H hb] at e
      exact (I.hok b u e).stay (fun c v _ y => hk c v y) (fun c y => old c _ y) fun c xs y => old c _ y
/-- the reading of sorted(d.items()) -/
def rItS (T : TC) : V → Hp → VK → Prop := fun x H Q => ∃ a kvs ks I, x = .ref a ∧ Rd H a (.dK kvs) ∧ Same I H ∧ kvs.map Prod.fst = ks.map Prod.fst ∧ RpL T I (kvs.map Prod.snd) (ks.map Prod.snd) ∧ SrtOk (prD ks) ∧
  ∀ (I' H' : Hp) (w : V), Step I H [] I' H' [w.at] → Own T I' H' w (.ll (sortD (prD ks))) [w.at] → Same I' H' → Q w H'
theorem pe_sortedItems {te : TE} (hc : X.calm = true) (hu : X.A.units + 70 < cLine) (he : PE X e te) (hg : Gl X "sorted") (hm : X.mg "sorted" = none) (hbase : attributeBase e "items" X.env (eval e X.env) = eval e X.env := by rfl) (hline : (apos.endLine == cpos.line) = true := by rfl)
    (hs : starEach [.Call (.Attribute e "items" apos) [] [] cpos] X.env = (false, eval (.Call (.Attribute e "items" apos) [] [] cpos) X.env) :: starEach [] X.env := by rfl) :
    PE X (.Call (.Name "sorted" p) [.Call (.Attribute e "items" apos) [] [] cpos] [] pos) (fun σ H Q => te σ H fun x H1 => rItS X.tc x H1 Q) := by
  refine ⟨fun pins s σ H Q I hq => wpAny_Call_Name_kw (ld_blt I hg hm (by decide +kernel : bootBuiltins "sorted" = some (.builtin "sorted")) (PyProof.Rows.callWith_builtin1 ?_ hs rfl))⟩
  rw [hs]
  refine Calls.spliced_cons (wpAny_Call_method (T := "dict") (id := "dict.items") hbase rfl hline F.plainAttrs_dict F.slot_dict_items F.type_dict_items (thn (he.run pins s σ H _ I hq) ?_))
  rintro u s1 ⟨x, H1, I1, rx, a, kvs, ks, I0, rfl, hd, sub, hk, hr, ok, q⟩
  cases rx
  obtain ⟨z, lo, vs, rel, dd⟩ := dk_rd I1.hok hd
  obtain ⟨ep, hat⟩ := dd.dictAt
  have lk : kvs.length = vs.length := Paired.length rel
  have I2 : Inv X pins σ H1 { s1 with heap := s1.heap.push { cls := .type "dict_items", data := .fields #[.ref a] } } := I1.kept (t' := s1.toks) fun b ob q => Heap.get?_push_of_some _ q
  refine ⟨dd.typeIs, dd.mapOf.noDict, method_meetsIn F.slot_dict_items F.entry_dict_items rfl (PySem.evalArgs_none ⟨rfl, dd.typeIs, F.args_dict_items_1 _, _, meets_dict_items (mixKind X.prog X.w) a lo, ⟨vs, dd⟩, Calls.spliced_nil ?_⟩)⟩
  refine Calls.call_function_entry PyProof.Rows.kind_sorted PyProof.Rows.plain_sorted PyProof.Rows.entry_sorted (PyProof.Rows.args_sorted1 _) ?_
  unfold Builtin.«sorted»
  refine wpAny_bind (m := checkCount "sorted" 1 1 _) (wpAny_pure (wpAny_bind (PySem.W.kdx_collect (A := X.A.in1) (knd := mixKind X.prog X.w) (kvs := vs) (ep := ep) (I2.ok.hd hc) ⟨_, Heap.get?_push_size _ rfl, rfl, rfl⟩ (hat.push _) (by omega) fun h' tk as hkp hl G => ?_)))
  obtain ⟨fr, nd, I3⟩ := pairs_inv (tk := tk) I2 rel hkp hl G
  obtain ⟨g1, g2, g3⟩ := pairs_ok (hl.trans lk.symm) nd fr sub hk hr
  have hal : (as.map Value.ref).length = vs.length := by rw [List.length_map, hl]
  refine wpAny_bind (wpAny_newList ?_ (by rw [hal]; omega))
  have hoL : (h'.push (seqObj "list" (as.map Value.ref).toArray 0)).get? h'.objs.size = some (seqObj "list" (as.map Value.ref).toArray 0) := Heap.get?_push_size _ rfl
  show wpAny _ _ _ _ _ { s1 with heap := h'.push (seqObj "list" (as.map Value.ref).toArray 0), toks := tk }
  have er : PySem.W.EachIs (fun u d => ∃ v, RelV v u ∧ Rp X.tc (LiI.putT I0 as kvs) v d) (as.map Value.ref) (prD ks) := each_rel g3 (LiI.vals_refs as)
  refine wpAny_bind (wpAny_holding (wpAny_call_entry PyProof.Rows.slot_list_sort ⟨_, hoL, rfl⟩ PyProof.Rows.entry_list_sort ?body (PyProof.Rows.args_list_sort _)))
  case body =>
    refine wpAny_mono (sort_fresh (s := { s1 with heap := h', toks := tk }) (A := X.A.in1.in1) (Q := Q) I3 er g2 ok (by show X.A.units + 2 + 61 < cLine; omega) (fun p ws hp r => ?_)) (fun f s' hf => ?_) fun _ _ e => e
    · exact q (LiI.putT I0 as kvs) _ (.ref p) (g1.trans (step_new hp)) (.ll upd_same (g2.free hp) r) (upd_sub g2 hp)
    · obtain ⟨rfl, hq⟩ := hf
      exact ⟨_, rfl, wpAny_pure ⟨_, rfl, hq⟩⟩
theorem rd_itS {T : TC} {I H : Hp} {v : V} {B : List Addr} (hv : DV x ks) (ok : SrtOk (prD ks)) (o : Own T I H v x B) (s : Same I H) {Q : VK} (k : ∀ (I' H' : Hp) (w : V), Step I H [] I' H' [w.at] → Own T I' H' w (.ll (sortD (prD ks))) [w.at] → Same I' H' → Q w H') : rItS T v H Q := by
  obtain ⟨a, kvs, rfl, h1, h2, h3⟩ := hv.rd o s
  exact ⟨a, kvs, ks, I, rfl, h1, s, h2, h3, ok, k⟩
theorem xe_sortedItemsS (i : Nat) (B : Blt X.mg) (hc : X.calm = true) (hu : X.A.units + 70 < cLine) (ok : SrtOk (prD ks)) (hx : Γ[i]? = some (some x) := by rfl) (hv : DV x ks := by first | exact .dd | exact .pin | exact .da) (hg : Gl X "sorted" := by rfl)
    (hN : X.N[i]? = some n2 := by rfl) (hvs : Vis X.env.scope n2 := by first | exact Or.inl rfl | exact Or.inr (Or.inl rfl) | exact Or.inr (Or.inr rfl)) (h1 : (n2 == ("__debug__" : Str)) = false := by decide) (h2 : (n2 == ("__classdict__" : Str)) = false := by decide)
    (hbase : attributeBase (.Name n2 p2) "items" X.env (eval (.Name n2 p2) X.env) = eval (.Name n2 p2) X.env := by rfl) (hline : (apos.endLine == cpos.line) = true := by rfl)
    (hs : starEach [.Call (.Attribute (.Name n2 p2) "items" apos) [] [] cpos] X.env = (false, eval (.Call (.Attribute (.Name n2 p2) "items" apos) [] [] cpos) X.env) :: starEach [] X.env := by rfl) :
    XE X (.Call (.Name "sorted" p) [.Call (.Attribute (.Name n2 p2) "items" apos) [] [] cpos] [] pos) Γ (.ll (sortD (prD ks))) Γ := fun Ψ hq I H σ F en Q k => by
  obtain ⟨v, B', e1, o⟩ := en.see hx
  refine ⟨_, pe_sortedItems hc hu (pe_var hN hvs h1 h2) hg B.sorted hbase hline hs, v, e1, rd_itS hv ok o en.sub fun I' H' w st ow sub => ?_⟩
  obtain ⟨en2, st2⟩ := en.use (B := []) (by simpa using en.nd) st ow (by simp) sub
  exact k _ Γ I' H' w _ hq st2 en2
/-- list(d.items()) -/
def rItL (T : TC) : V → Hp → VK → Prop := fun x H Q => ∃ a kvs ks I, x = .ref a ∧ Rd H a (.dK kvs) ∧ Same I H ∧ kvs.map Prod.fst = ks.map Prod.fst ∧ RpL T I (kvs.map Prod.snd) (ks.map Prod.snd) ∧
  ∀ (I' H' : Hp) (w : V), Step I H [] I' H' [w.at] → Own T I' H' w (.ll (prD ks)) [w.at] → Same I' H' → Q w H'
theorem pe_listItemsR {te : TE} (hc : X.calm = true) (he : PE X e te) (hg : Gl X "list") (hm : X.mg "list" = none) (hbase : attributeBase e "items" X.env (eval e X.env) = eval e X.env := by rfl) (hline : (apos.endLine == cpos.line) = true := by rfl)
    (hs : starEach [.Call (.Attribute e "items" apos) [] [] cpos] X.env = (false, eval (.Call (.Attribute e "items" apos) [] [] cpos) X.env) :: starEach [] X.env := by rfl) :
    PE X (.Call (.Name "list" p) [.Call (.Attribute e "items" apos) [] [] cpos] [] pos) (fun σ H Q => te σ H fun x H1 => rItL X.tc x H1 Q) := by
  refine ⟨fun pins s σ H Q I hq => wpAny_Call_Name_kw (ld_blt I hg hm (by decide +kernel : bootBuiltins "list" = some (.type "list")) (PyProof.Rows.callWith_type1 ?_ hs rfl))⟩
  rw [hs]
  refine Calls.spliced_cons (wpAny_Call_method (T := "dict") (id := "dict.items") hbase rfl hline F.plainAttrs_dict F.slot_dict_items F.type_dict_items (thn (he.run pins s σ H _ I hq) ?_))
  rintro u s1 ⟨x, H1, I1, rx, a, kvs, ks, I0, rfl, hd, sub, hk, hr, q⟩
  cases rx
  obtain ⟨z, lo, vs, rel, dd⟩ := dk_rd I1.hok hd
  obtain ⟨ep, hat⟩ := dd.dictAt
  have lk : kvs.length = vs.length := Paired.length rel
  have I2 : Inv X pins σ H1 { s1 with heap := s1.heap.push { cls := .type "dict_items", data := .fields #[.ref a] } } := I1.kept (t' := s1.toks) fun b ob q => Heap.get?_push_of_some _ q
  refine ⟨dd.typeIs, dd.mapOf.noDict, method_meetsIn F.slot_dict_items F.entry_dict_items rfl (PySem.evalArgs_none ⟨rfl, dd.typeIs, F.args_dict_items_1 _, _, meets_dict_items (mixKind X.prog X.w) a lo, ⟨vs, dd⟩, Calls.spliced_nil ?_⟩)⟩
  refine PySem.W.kdx_call (knd := mixKind X.prog X.w) (kvs := vs) (ep := ep) (I2.ok.hd hc) ⟨_, Heap.get?_push_size _ rfl, rfl, rfl⟩ (hat.push _) (by omega) fun h' tk acc c as hkp hS hl G hacc => ?_
  obtain ⟨H', k1, k2, k3, k4, k5, k6, J⟩ := LiI.items_laid (tk := tk) I2 z rel hkp hS hl G hacc
  have nd : as.Nodup := G.rise.imp fun h => Nat.ne_of_lt h
  obtain ⟨g1, g2, g3⟩ := pairs_ok (hl.trans lk.symm) nd k3 sub hk hr
  have atI := LiI.putT_at as kvs I0 (hl.trans lk.symm) nd
  have subI : Same (LiI.putT I0 as kvs) H' := fun b o e => by
    by_cases hb : b ∈ as
    · obtain ⟨j, pk, e1, e2, e3⟩ := LiI.paired_ix atI hb
      obtain ⟨pk', e4, e5⟩ := LiI.paired_get k6 e1
      rw [e2] at e4
      cases e4
      rw [e3] at e
      cases e
      exact e5
    · rw [LiI.putT_off as kvs I0 hb] at e
      exact k1 _ _ (sub _ _ e)
  have inc : Same I0 (LiI.putT I0 as kvs) := g1.inc
  have hnI : LiI.putT I0 as kvs (s1.heap.push { cls := .type "dict_items", data := .fields #[.ref a] }).objs.size = none := by
    rw [LiI.putT_off as kvs I0 k4]
    exact sub.free k2
  refine ⟨.ref _, H', J, rfl, q (LiI.putT I0 as kvs) H' (.ref _) ⟨inc, fun b o e1 e2 _ => ⟨k1 _ _ e1, ?_, ?_⟩⟩ (.ll k5 hnI g3) subI⟩
  · rw [LiI.putT_off as kvs I0 fun hb => by rw [k3 b hb] at e1; cases e1]
    exact e2
  · intro hb
    have hb' : b = (s1.heap.push { cls := .type "dict_items", data := .fields #[.ref a] }).objs.size := by simpa [V.at] using hb
    rw [hb', k2] at e1
    cases e1
theorem xe_listItemsS (i : Nat) (B : Blt X.mg) (hc : X.calm = true) (hx : Γ[i]? = some (some x) := by rfl) (hv : DV x ks := by first | exact .dd | exact .pin | exact .da) (hg : Gl X "list" := by rfl)
    (hN : X.N[i]? = some n2 := by rfl) (hvs : Vis X.env.scope n2 := by first | exact Or.inl rfl | exact Or.inr (Or.inl rfl) | exact Or.inr (Or.inr rfl)) (h1 : (n2 == ("__debug__" : Str)) = false := by decide) (h2 : (n2 == ("__classdict__" : Str)) = false := by decide)
    (hbase : attributeBase (.Name n2 p2) "items" X.env (eval (.Name n2 p2) X.env) = eval (.Name n2 p2) X.env := by rfl) (hline : (apos.endLine == cpos.line) = true := by rfl)
    (hs : starEach [.Call (.Attribute (.Name n2 p2) "items" apos) [] [] cpos] X.env = (false, eval (.Call (.Attribute (.Name n2 p2) "items" apos) [] [] cpos) X.env) :: starEach [] X.env := by rfl) :
    XE X (.Call (.Name "list" p) [.Call (.Attribute (.Name n2 p2) "items" apos) [] [] cpos] [] pos) Γ (.ll (prD ks)) Γ := fun Ψ hq I H σ F en Q k => by
  obtain ⟨v, B', e1, o⟩ := en.see hx
  obtain ⟨a, kvs, rfl, g1, g2, g3⟩ := hv.rd o en.sub
  refine ⟨_, pe_listItemsR hc (pe_var hN hvs h1 h2) hg B.list hbase hline hs, _, e1, a, kvs, ks, I, rfl, g1, en.sub, g2, g3, fun I' H' w st ow sub => ?_⟩
  obtain ⟨en2, st2⟩ := en.use (B := []) (by simpa using en.nd) st ow (by simp) sub
  exact k _ Γ I' H' w _ hq st2 en2
theorem xe_listItems (B : Blt X.mg) (hc : X.calm = true) (ha : XE X a Γ (.da (dkD ks)) Γ1) (hg : Gl X "list" := by rfl) (hbase : attributeBase a "items" X.env (eval a X.env) = eval a X.env := by rfl) (hline : (apos.endLine == cpos.line) = true := by rfl)
    (hs : starEach [.Call (.Attribute a "items" apos) [] [] cpos] X.env = (false, eval (.Call (.Attribute a "items" apos) [] [] cpos) X.env) :: starEach [] X.env := by rfl) :
    XE X (.Call (.Name "list" p) [.Call (.Attribute a "items" apos) [] [] cpos] [] pos) Γ (.ll (prD ks)) Γ1 := fun Ψ hq I H σ F en Q k => by
  refine ⟨_, pe_listItemsR hc wpE_ok hg B.list hbase hline hs, ha (fun r Γ' => r = .da (dkD ks) ∧ Γ' = Γ1) ⟨rfl, rfl⟩ I H σ F en _ ?_⟩
  rintro _ Γ' I1 H1 v F1 ⟨rfl, e1⟩ st1 en1
  subst e1
  obtain ⟨B', G, rfl, o, en2, _⟩ := en1.pop
  cases o with
  | da o =>
    obtain ⟨a', kvs, rfl, g1, g2, g3⟩ := DV.da.rd (.da o) en2.sub
    refine ⟨a', kvs, ks, I1, rfl, g1, en2.sub, g2, g3, fun I' H' w st ow sub => ?_⟩
    obtain ⟨en3, st3⟩ := en2.use (B := []) (by simpa using en2.nd) st ow (by simp) sub
    exact k _ Γ' I' H' w _ hq (st1.trans st3) en3
end
end TL

/-! TL16: list + list, slices, list(range), zip, reversed, pop, index, get, chained comparisons. -/
namespace TL
open PySem PySem.Spec PyProof.Rows L2

section
variable {X : Cx} {e a b c o it tg : Expr} {es elts : List Expr} {ss rest : List Stmt} {Γ Γ' Γ1 Γ2 Γ3 : Sl} {Ψ : OD → Sl → Prop} {Φ : Out → Prop} {Φt : Bool → Sl → Prop} {pos p apos cpos p2 tpos : Pos} {r x y z : OD} {nm n2 : Str} {ds es' : List PyData} {d d' g : PyData} {i kk : Nat} {ks : List (Key × PyData)} {mk : List PyData → OD}

/-! ### lists: + -/
def rCatL (K : PySem.W.Frag) : R2 := fun x y H Q => ∃ l b xs zs, x = .ref l ∧ y = .ref b ∧ SqL K H l xs ∧ SqL K H b zs ∧ xs.length + zs.length ≤ sizeLine ∧ ∀ p, H p = none → Q (.ref p) (upd H p (.lst (xs ++ zs)))
theorem op_catL : OpR X (binaryOp .Add) (rCatL X.K) := by
  rintro pins s σ H x y v u Q I rx ry ⟨l, b, xs, zs, rfl, rfl, h1, h2, hz, q⟩
  cases rx
  cases ry
  obtain ⟨its, r1, pl1, _⟩ := I.list h1
  obtain ⟨its2, r2, pl2, _⟩ := I.list h2
  obtain ⟨⟨cls1, dd1, data1, sl1⟩, n1, e1, c1, z1, t1⟩ := pl1
  obtain ⟨⟨cls2, dd2, data2, sl2⟩, n2, e2, c2, z2, t2⟩ := pl2
  simp only at c1 z1 t1 c2 z2 t2
  subst c1 t1 c2 t2
  have k1 := r1.length
  have k2 := r2.length
  refine concat_meets ⟨_, e1, rfl⟩ ⟨_, e2, rfl⟩ noFill_list_add seq_list_add PySem.F.slot_list_add PySem.F.entry_list_add (PySem.F.args_list_add_2 _ _) (list_addW l b its.toArray its2.toArray n1 n2 dd1 dd2 sl1 sl2 (by rw [List.size_toArray, List.size_toArray]; omega)) ⟨e1, e2, ?_⟩
  have ea : its.toArray ++ its2.toArray = (its ++ its2).toArray := by simp
  rw [ea]
  exact ⟨.ref s.heap.objs.size, _, I.lnew (t' := s.toks) (r1.append r2) (by rw [List.length_append]; omega), rfl, q _ I.fresh⟩
theorem op2_catL {T : TC} (hl : ds.length + es'.length ≤ sizeLine) : Op2 T (rCatL T.K) (.da (.list ds)) (.da (.list es')) (.ll (ds ++ es')) := fun I H v u B o nd s Q k => by
  obtain ⟨rfl, r⟩ := ownL_da (ds := [.list ds, .list es']) o
  obtain ⟨v', u', e, r1, r2⟩ := rpL2 r
  cases e
  cases r1 with
  | lst h1 q1 =>
    cases r2 with
    | lst h2 q2 => exact ⟨_, _, _, _, rfl, rfl, s.seq h1, s.seq h2, by rw [q1.length, q2.length]; exact hl, fun p hp => k I _ _ [p] (step_new hp) (.ll upd_same (s.free hp) (RpL.append q1 q2)) (by simp) (upd_sub s hp)⟩
/-- xs + ys of lists: a new one -/
theorem xe_catL (hl : ds.length + es'.length ≤ sizeLine) (ha : XE X a Γ (.da (.list ds)) Γ1) (hb : XE X b Γ1 (.da (.list es')) Γ2) : XE X (.BinOp a .Add b pos) Γ (.ll (ds ++ es')) Γ2 := xe_bin op_catL (op2_catL hl) ha hb
theorem we_catL (h : WE X a Γ fun x Γ1 => ∃ ds, Frz x (.list ds) ∧ WE X b Γ1 fun y Γ2 => ∃ es', Frz y (.list es') ∧ ds.length + es'.length ≤ sizeLine ∧ Ψ (.ll (ds ++ es')) Γ2) : WE X (.BinOp a .Add b pos) Γ Ψ :=
  we_bin op_catL (we_frz (h.mono fun x Γ1 ⟨ds, fx, h2⟩ => ⟨.list ds, fx, we_frz (h2.mono fun y Γ2 ⟨es', fy, hl, hq⟩ => ⟨.list es', fy, _, op2_catL hl, hq⟩)⟩))

/-! ### slices -/
def cutD (ds : List PyData) (lo hi : Option Int) : List PyData := (ds.drop (HT.sIx ds.length 0 lo)).take (HT.sIx ds.length ds.length hi - HT.sIx ds.length 0 lo)
theorem rpL_cut {T : TC} {I : Hp} {vs : List V} (r : RpL T I vs ds) (lo hi : Option Int) : RpL T I (cutV vs lo hi) (cutD ds lo hi) := by
  unfold cutV cutD
  rw [r.length]
  exact (r.drop _).take _
/-- a slice's bound -/
def wpO (X : Cx) : Option Expr → TO
  | none => tNoPart
  | some e => tPart (wpE X e)
theorem wpO_ok : ∀ {o : Option Expr}, PO X o (wpO X o)
  | none => po_none
  | some e => po_some wpE_ok
inductive XO (X : Cx) : Option Expr → Sl → Option Int → Sl → Prop
  | none {Γ : Sl} : XO X none Γ none Γ
  | some {e : Expr} {Γ Γ1 : Sl} {j : Int} : XE X e Γ (.da (.int j)) Γ1 → XO X (some e) Γ (some j) Γ1
theorem XO.go {o : Option Expr} {l : Option Int} (h : XO X o Γ l Γ1) {I H : Hp} {σ : L2.St} {F : List Addr} (en : EnvF X.tc I H σ Γ F) (Q : Option Int → Hp → Prop) (k : ∀ (I' H' : Hp) (F' : List Addr), Step I H F I' H' F' → EnvF X.tc I' H' σ Γ1 F' → Q l H') : wpO X o σ H Q := by
  cases h with
  | none => exact k I H F .refl en
  | some h =>
    refine h (fun r Γ' => r = _ ∧ Γ' = Γ1) ⟨rfl, rfl⟩ I H σ F en _ ?_
    rintro _ _ I1 H1 v F1 ⟨rfl, rfl⟩ st1 en1
    obtain ⟨B, G, rfl, o, en2, _⟩ := en1.pop
    cases o with
    | da o =>
      cases o
      exact ⟨_, rfl, k I1 H1 G st1 en2⟩
/-- xs[lo:hi], a list in a slot -/
theorem xe_sliceS (i : Nat) {lo hi : Option Expr} {l u : Option Int} (h1 : XO X lo Γ l Γ1) (h2 : XO X hi Γ1 u Γ2) (hx : Γ2[i]? = some (some x) := by rfl) (hv : SV x (.list ds) := by first | exact .da | exact .ll | exact .pin) (h0 : OSome Γ[i]? = true := by rfl)
    (hN : X.N[i]? = some nm := by rfl) (hvs : Vis X.env.scope nm := by first | exact Or.inl rfl | exact Or.inr (Or.inl rfl) | exact Or.inr (Or.inr rfl)) (h3 : (nm == ("__debug__" : Str)) = false := by decide) (h4 : (nm == ("__classdict__" : Str)) = false := by decide) :
    XE X (.Subscript (.Name nm p) (.Slice lo hi none p2) pos) Γ (.ll (cutD ds l u)) Γ2 := fun Ψ hq I H σ F en Q k => by
  obtain ⟨x0, hx0⟩ := OSome.ex h0
  obtain ⟨v, _, e1, _⟩ := en.see hx0
  refine ⟨_, pe_slice sl_list (pe_var hN hvs h3 h4) wpO_ok wpO_ok, v, e1, h1.go en _ fun I1 H1 F1 st1 en1 => h2.go en1 _ fun I2 H2 F2 st2 en2 => ?_⟩
  obtain ⟨v', B, e1', o⟩ := en2.see hx
  rw [e1] at e1'
  cases e1'
  obtain ⟨a', vs, rfl, q, r⟩ := hv.seq (.inl rfl) o en2.sub
  rcases q with ⟨_, q⟩ | ⟨q, _⟩
  · refine ⟨a', vs, rfl, q, fun p hp => ?_⟩
    obtain ⟨en3, st3⟩ := en2.use (B := []) (by simpa using en2.nd) (step_new (F := []) hp) (Own.ll upd_same (en2.sub.free hp) (rpL_cut r l u)) (by simp) (upd_sub en2.sub hp)
    exact k _ _ I2 _ _ _ hq ((st1.trans st2).trans st3) en3
  · cases q
/-- t[lo:hi], a tuple or a list that is data -/
theorem xe_sliceT {lo hi : Option Expr} {l u : Option Int} (ha : XE X a Γ (.da (.tuple ds)) Γ1) (h1 : XO X lo Γ1 l Γ2) (h2 : XO X hi Γ2 u Γ3) : XE X (.Subscript a (.Slice lo hi none p2) pos) Γ (.da (.tuple (cutD ds l u))) Γ3 := fun Ψ hq I H σ F en Q k => by
  refine ⟨_, pe_slice sl_tupA wpE_ok wpO_ok wpO_ok, ha (fun r Γ' => r = .da (.tuple ds) ∧ Γ' = Γ1) ⟨rfl, rfl⟩ I H σ F en _ ?_⟩
  rintro _ Γ1' I1 H1 v F1 ⟨rfl, e1⟩ st1 en1
  subst e1
  obtain ⟨B, G, rfl, o, en1', _⟩ := en1.pop
  cases o with
  | da o =>
    refine h1.go en1' _ fun I2 H2 F2 st2 en2 => h2.go en2 _ fun I3 H3 F3 st3 en3 => ?_
    have o' := (o.mono st2.inc).mono st3.inc
    cases o' with
    | @tup a' vs _ q r =>
      have st := (st1.trans st2).trans st3
      refine ⟨a', vs, rfl, sqT_mono en3.sub q, fun hw => ?_, fun _ p hp => ?_⟩
      · have e : cutD ds l u = ds := by
          rw [r.length] at hw
          unfold cutD
          rw [hw.1, hw.2, List.drop_zero, Nat.sub_zero, List.take_length]
        exact k _ _ I3 H3 _ _ hq st (en3.da (by rw [e]; exact .tup q r))
      · obtain ⟨en4, st4⟩ := en3.grow (step_frz (o := .tup (cutV vs l u)) en3.sub hp) (upd_both en3.sub)
        exact k _ _ _ _ _ _ hq (st.trans st4) (en4.da (.tup (SqT.of upd_same) ((rpL_cut r l u).mono (upd_up (en3.sub.free hp)))))
theorem xe_sliceL {lo hi : Option Expr} {l u : Option Int} (ha : XE X a Γ (.da (.list ds)) Γ1) (h1 : XO X lo Γ1 l Γ2) (h2 : XO X hi Γ2 u Γ3) : XE X (.Subscript a (.Slice lo hi none p2) pos) Γ (.ll (cutD ds l u)) Γ3 := fun Ψ hq I H σ F en Q k => by
  refine ⟨_, pe_slice sl_list wpE_ok wpO_ok wpO_ok, ha (fun r Γ' => r = .da (.list ds) ∧ Γ' = Γ1) ⟨rfl, rfl⟩ I H σ F en _ ?_⟩
  rintro _ Γ1' I1 H1 v F1 ⟨rfl, e1⟩ st1 en1
  subst e1
  obtain ⟨B, G, rfl, o, en1', _⟩ := en1.pop
  cases o with
  | da o =>
    refine h1.go en1' _ fun I2 H2 F2 st2 en2 => h2.go en2 _ fun I3 H3 F3 st3 en3 => ?_
    have o' := (o.mono st2.inc).mono st3.inc
    cases o' with
    | @lst a' vs _ q r =>
      refine ⟨a', vs, rfl, en3.sub.seq q, fun p hp => ?_⟩
      obtain ⟨en4, st4⟩ := en3.use (B := []) (by simpa using en3.nd) (step_new (F := []) hp) (Own.ll upd_same (en3.sub.free hp) (rpL_cut r l u)) (by simp) (upd_sub en3.sub hp)
      exact k _ _ I3 _ _ _ hq (((st1.trans st2).trans st3).trans st4) en4

/-! ### list(range(..)), tuple(range(..)) -/
theorem rgV_rp {T : TC} {I : Hp} (lo hi : Int) : RpL T I (rgV lo hi) (rangeD lo (hi - lo).toNat) := by
  unfold rgV rangeD
  induction List.range (hi - lo).toNat with
  | nil => exact .nil
  | cons m ms ih => exact .cons (.int _) ih
theorem xe_listRg1 (B : Blt X.mg) (hc : X.calm = true) {j : Int} (ha : XE X a Γ (.da (.int j)) Γ1) (h0 : 0 ≤ j) (hj : j ≤ 16777216) (hg : Gl X "list" := by rfl) (hgr : Gl X "range" := by rfl) (na : starEach [a] X.env = (false, eval a X.env) :: starEach [] X.env := by rfl)
    (na2 : starEach [.Call (.Name "range" p2) [a] [] cpos] X.env = (false, eval (.Call (.Name "range" p2) [a] [] cpos) X.env) :: starEach [] X.env := by rfl) :
    XE X (.Call (.Name "list" p) [.Call (.Name "range" p2) [a] [] cpos] [] pos) Γ (.ll (rangeD 0 j.toNat)) Γ1 := fun Ψ hq I H σ F en Q k => by
  refine ⟨_, pe_listRg hc hg B.list (prg_1 hgr B.range wpE_ok na) na2, ha (fun r Γ' => r = .da (.int j) ∧ Γ' = Γ1) ⟨rfl, rfl⟩ I H σ F en _ ?_⟩
  rintro _ Γ1' I1 H1 v F1 ⟨rfl, e1⟩ st1 en1
  subst e1
  obtain ⟨B', G, rfl, o, en2, _⟩ := en1.pop
  cases o with
  | da o =>
    cases o
    refine ⟨j, rfl, RgOk.of_le (by omega) hj (by omega) h0, fun q hp => ?_⟩
    have r : RpL X.tc I1 (rgV 0 j) (rangeD 0 j.toNat) := by
      have := rgV_rp (T := X.tc) (I := I1) 0 j
      rwa [Int.sub_zero] at this
    obtain ⟨en4, st4⟩ := en2.use (B := []) (by simpa using en2.nd) (step_new (F := []) hp) (Own.ll upd_same (en2.sub.free hp) r) (by simp) (upd_sub en2.sub hp)
    exact k _ _ I1 _ _ _ hq (st1.trans st4) en4

/-! ### zip -/
theorem walk_zipT {K : PySem.W.Frag} {a b : Addr} {xs ys : List V} {n : Nat} (hn : n = min xs.length ys.length) : Walk (RZ.ItzT K a b) n (fun H => SqT K H a xs ∧ SqT K H b ys) (YPair (fun i => xs[i]?) (fun i => ys[i]?)) where
  goes := fun i H hi ⟨h1, h2⟩ => ⟨xs, ys, xs[i]'(by omega), ys[i]'(by omega), h1, h2, List.getElem?_eq_getElem (by omega), List.getElem?_eq_getElem (by omega)⟩
  stops := fun H ⟨h1, h2⟩ => ⟨xs, ys, h1, h2, by omega⟩
  yields := fun i H v H' hi ⟨h1, h2⟩ ⟨t, x, y, e, hT, eH, f1, f2⟩ => ⟨t, x, y, e, hT, eH, f1 xs h1, f2 ys h2⟩
theorem isit_zip {T : TC} {I : Hp} {J : It} {vs us : List V} {G : Hp → Prop} (w : Walk J (min ds.length es'.length) G (YPair (fun i => vs[i]?) (fun i => us[i]?))) (hG : ∀ I' H, Same I I' → Same I' H → G H) (r1 : RpL T I vs ds) (r2 : RpL T I us es') :
    IsIt T J (List.zipWith (fun d e => PyData.tuple [d, e]) ds es') I := by
  rw [zip_len]
  refine isit_pairs (n := min ds.length es'.length) (Y := fun i => (vs.take (min ds.length es'.length))[i]?) (Z := fun i => (us.take (min ds.length es'.length))[i]?) ?_ hG (by rw [List.length_take]; omega) (by rw [List.length_take]; omega) (fun i v h => (r1.take _).get' h) fun i v h => (r2.take _).get' h
  refine w.mono (fun H h => h) ?_
  rintro i H x H' hi _ ⟨t, x', y', e, hT, eH, f1, f2⟩
  refine ⟨t, x', y', e, hT, eH, ?_, ?_⟩
  · show (vs.take _)[i]? = _
    rw [List.getElem?_take, if_pos hi]
    exact f1
  · show (us.take _)[i]? = _
    rw [List.getElem?_take, if_pos hi]
    exact f2
theorem xi_zip (B : Blt X.mg) (ha : XE X a Γ (.da d) Γ1) (hb : XE X b Γ1 (.da d') Γ2) (hd : (d = .list ds ∧ d' = .list es') ∨ (d = .tuple ds ∧ d' = .tuple es') := by first | exact .inl ⟨rfl, rfl⟩ | exact .inr ⟨rfl, rfl⟩) (hg : Gl X "zip" := by rfl)
    (hs : starEach [a, b] X.env = (false, eval a X.env) :: starEach [b] X.env := by rfl) (hs2 : starEach [b] X.env = (false, eval b X.env) :: starEach [] X.env := by rfl) (hpl : (backTo pos (starEach [b] X.env)).any (·.1) = false := by rfl) :
    XI X (.Tuple elts kk tpos) (.Call (.Name "zip" p) [a, b] [] pos) Γ (List.zipWith (fun d e => PyData.tuple [d, e]) ds es') Γ2 := fun Ψ hq I H σ F en R k => by
  refine ⟨_, RZ.pi_zipA hg B.zip wpA_ok hs hpl, wa_data (xa2 ha hb hs hs2) en fun I1 H1 vs F1 r st1 en1 => ?_⟩
  obtain ⟨v, u, rfl, hv, hu⟩ := rpL2 r
  rcases hd with ⟨rfl, rfl⟩ | ⟨rfl, rfl⟩
  · cases hv with
    | lst q1 r1 =>
      cases hu with
      | lst q2 r2 =>
        refine ⟨_, _, _, _, rfl, .inl ⟨en1.sub.seq q1, en1.sub.seq q2, k _ _ I1 H1 F1 _ hq st1 en1 (isit_zip (walk_zip (by rw [r1.length, r2.length])) (fun I' H' s s' => ⟨(s.trans s').seq q1, (s.trans s').seq q2⟩) r1 r2)⟩⟩
  · cases hv with
    | tup q1 r1 =>
      cases hu with
      | tup q2 r2 =>
        refine ⟨_, _, _, _, rfl, .inr ⟨sqT_mono en1.sub q1, sqT_mono en1.sub q2, k _ _ I1 H1 F1 _ hq st1 en1 (isit_zip (walk_zipT (by rw [r1.length, r2.length])) (fun I' H' s s' => ⟨sqT_mono (s.trans s') q1, sqT_mono (s.trans s') q2⟩) r1 r2)⟩⟩
theorem zipW_map {α β : Type} {E : α → PyData} {E' : β → PyData} : ∀ {xs : List α} {ys : List β}, List.zipWith (fun d e => PyData.tuple [d, e]) (xs.map E) (ys.map E') = (xs.zip ys).map fun p => .tuple [E p.1, E' p.2]
  | [], _ => rfl
  | _ :: _, [] => rfl
  | x :: xs, y :: ys => by
    rw [List.map_cons, List.map_cons, List.zipWith_cons_cons, zipW_map]
    rfl

/-! ### methods of lists and dicts -/
/-- xs.pop(), xs an own list in a slot -/
theorem we_pop (i : Nat) (hl : ds ≠ []) (hq : Ψ (.da (ds.getLast hl)) (Γ.set i (some (mk ds.dropLast)))) (hx : Γ[i]? = some (some x) := by rfl) (hv : VLL x ds mk := by first | exact .ll | exact .pin) (hN : X.N[i]? = some nm := by rfl)
    (hvs : Vis X.env.scope nm := by first | exact Or.inl rfl | exact Or.inr (Or.inl rfl) | exact Or.inr (Or.inr rfl)) (h1 : (nm == ("__debug__" : Str)) = false := by decide) (h2 : (nm == ("__classdict__" : Str)) = false := by decide)
    (hbase : attributeBase (.Name nm p) "pop" X.env (eval (.Name nm p) X.env) = eval (.Name nm p) X.env := by rfl) (hline : (apos.endLine == cpos.line) = true := by rfl) : WE X (.Call (.Attribute (.Name nm p) "pop" apos) [] [] cpos) Γ Ψ := fun I H σ F en Q k => by
  refine ⟨_, pe_bm0 PySem.F.plainAttrs_list PySem.F.slot_list_pop PySem.F.type_list_pop mt_pop (pe_var hN hvs h1 h2) hbase hline, ?_⟩
  obtain ⟨q, vs, e1, g1, g2, g3⟩ := en.ll hx hv
  have hlen := g2.length
  have e2 : ds[ds.length - 1]? = some (ds.getLast hl) := by rw [List.getLast_eq_getElem, List.getElem?_eq_getElem]
  obtain ⟨w, hw, rw'⟩ := g2.get e2
  have hpos : 0 < ds.length := List.length_pos_iff.mpr hl
  have r' : RpL X.tc I vs.dropLast ds.dropLast := by
    rw [List.dropLast_eq_take, List.dropLast_eq_take, hlen]
    exact g2.take _
  obtain ⟨F5, en5, st5⟩ := g3 vs.dropLast ds.dropLast r'
  exact ⟨_, e1, .inl ⟨rfl, _, SqL.of g1⟩, q, vs, w, rfl, rfl, g1, by rw [hlen]; exact hw, k _ _ I _ w F5 hq st5 (en5.da rw')⟩
/-- xs.index(e): the first place -/

theorem xe_indexS (i : Nat) (hu : X.A.units + 65 < cLine) {j : Nat} {z : PyData} (ha : XE X a Γ (.da d) Γ1) (sl : SeqAt.shaped (.list ds) = true) (sd : SeqAt.shaped d = true) (pl : PyData.plainAll ds = true) (pd : d.plain = true) (hj : ds[j]? = some z) (he' : PyData.eqv z d = true)
    (hn : ∀ (m : Nat) (z' : PyData), m < j → ds[m]? = some z' → PyData.eqv z' d = false) (hx : Γ1[i]? = some (some x) := by rfl) (hv : SV x (.list ds) := by first | exact .da | exact .ll | exact .pin) (h0 : OSome Γ[i]? = true := by rfl) (hx0 : Γ[i]? = some (some x) := by rfl) (hN : X.N[i]? = some nm := by rfl)
    (hvs : Vis X.env.scope nm := by first | exact Or.inl rfl | exact Or.inr (Or.inl rfl) | exact Or.inr (Or.inr rfl)) (h1 : (nm == ("__debug__" : Str)) = false := by decide) (h2 : (nm == ("__classdict__" : Str)) = false := by decide)
    (hst : starEach [a] X.env = (false, eval a X.env) :: starEach [] X.env := by rfl) (hb : attributeBase (.Name nm p) "index" X.env (eval (.Name nm p) X.env) = eval (.Name nm p) X.env := by rfl)
    (hfew : ((backTo pos (starEach [a] X.env)).all (fun x => !x.1) && (backToKw pos (keywordEach [] X.env)).all (fun x => x.1.isSome)
      && decide (([a] : List Expr).length + ([] : List Keyword).length + (if ([] : List Keyword).isEmpty then 0 else 1) < 30)) = true := by rfl) (hline : (apos.endLine == pos.line) = true := by rfl) (hs2 : (backTo pos (starEach [] X.env)).any (·.1) = false := by rfl) :
    XE X (.Call (.Attribute (.Name nm p) "index" apos) [a] [] pos) Γ (.da (.int (j : Nat))) Γ1 := fun Ψ hq I H σ F en Q k => by
  refine ⟨_, pe_bm PySem.F.plainAttrs_list PySem.F.slot_list_index PySem.F.type_list_index (mt_indexD hu) (pe_var hN hvs h1 h2) (pa_cons wpE_ok pa_nil hst) hb hfew hline hst hs2, ?_⟩
  obtain ⟨v, B, e1, o⟩ := en.see hx0
  obtain ⟨a', vs, rfl, q, r⟩ := hv.seq (.inl rfl) o en.sub
  rcases q with ⟨_, q⟩ | ⟨q, _⟩
  · refine ⟨_, e1, .inl ⟨rfl, _, q⟩, ha (fun r Γ' => r = .da d ∧ Γ' = Γ1) ⟨rfl, rfl⟩ I H σ F en _ ?_⟩
    rintro _ Γ1' I1 H1 u F1 ⟨rfl, e2⟩ st1 en1
    subst e2
    obtain ⟨B2, G, rfl, oo, en2, _⟩ := en1.pop
    cases oo with
    | da hd =>
      obtain ⟨v', B', e1', o'⟩ := en2.see hx
      rw [e1] at e1'
      cases e1'
      have rl := hv.rp o' en2.sub
      exact ⟨a', u, d, ds, j, z, rfl, rfl, rl.dp (by simpa [PyData.plain] using pl), (hd.mono en2.sub).dp pd, sl, sd, hj, he', hn, k _ _ I1 H1 _ _ hq st1 (en2.da (.int _))⟩
  · cases q
/-- d.get(k) of a dict that is data -/
theorem xe_get1 (hu : X.A.units + 1 < cLine) {k : Key} (ha : XE X a Γ (.da (dkD ks)) Γ1) (hb : XE X b Γ1 (.da (keyD k)) Γ2) (hst : attributeBase a "get" X.env (eval a X.env) = eval a X.env := by rfl)
    (few : ((backTo cpos (starEach [b] X.env)).all (fun x => !x.1) && (backToKw cpos (keywordEach [] X.env)).all (fun x => x.1.isSome)
      && decide (([b] : List Expr).length + ([] : List Keyword).length + (if ([] : List Keyword).isEmpty then 0 else 1) < 30)) = true := by rfl) (line : (apos.endLine == cpos.line) = true := by rfl) (trees : backTo cpos (starEach [b] X.env) = [(false, eval b X.env)] := by rfl) :
    XE X (.Call (.Attribute a "get" apos) [b] [] cpos) Γ (.da ((kget ks k).getD .none)) Γ2 := fun Ψ hq I H σ F en Q kk => by
  refine ⟨_, pe_dget1 hu wpE_ok wpE_ok ⟨hst, few, line, trees⟩, ha (fun r Γ' => r = .da (dkD ks) ∧ Γ' = Γ1) ⟨rfl, rfl⟩ I H σ F en _ ?_⟩
  rintro _ Γ1' I1 H1 v F1 ⟨rfl, e1⟩ st1 en1
  subst e1
  obtain ⟨B, G, rfl, o, en1', _⟩ := en1.pop
  cases o with
  | da o =>
    obtain ⟨a', kvs, rfl, g1, g2, g3⟩ := DV.da.rd (.da o) en1'.sub
    refine ⟨a', rfl, .inl ⟨kvs, g1⟩, hb (fun r Γ' => r = .da (keyD k) ∧ Γ' = Γ2) ⟨rfl, rfl⟩ I1 H1 σ G en1' _ ?_⟩
    rintro _ Γ2' I2 H2 u F2 ⟨rfl, e2⟩ st2 en2
    subst e2
    obtain ⟨B2, G2, rfl, o2, en2', _⟩ := en2.pop
    cases o2 with
    | da o2 =>
      obtain ⟨a'', kvs', e3, g1', g2', g3'⟩ := DV.da.rd (.da (o.mono st2.inc)) en2'.sub
      cases e3
      refine ⟨valV kvs' k, .inl ⟨kvs', k, g1', rp_key o2, rfl⟩, ?_⟩
      obtain ⟨q1, q2⟩ := rd_get (k := k) g2' g3'
      refine kk _ _ I2 H2 _ _ hq (st1.trans st2) (en2'.da ?_)
      cases e : kget ks k with
      | none =>
        rw [q2 e]
        exact .non
      | some d =>
        obtain ⟨w, hw, hr⟩ := q1 d e
        rw [hw]
        exact hr

/-! ### chained comparisons -/
theorem xt_chain {op op' : CmpOp} {wr wr' : R2} {k k' : Bool} (ho : OpR X (compareOp op) wr) (ho' : OpR X (compareOp op') wr') (q : Op2 X.tc wr (.da d) (.da d') (.da (.bool k))) (q' : Op2 X.tc wr' (.da d') (.da g) (.da (.bool k'))) (ha : XE X a Γ (.da d) Γ) (hb : XE X b Γ (.da d') Γ) (hc : XE X c Γ (.da g) Γ)
    (hm : lastMarks [op, op'] [b, c] = false := by with_unfolding_all rfl) : XT X (.Compare a [op, op'] [b, c] pos) Γ (k && k') Γ := fun Ψ hq I H σ F en Q kk => by
  refine ⟨_, pt_chain ho ho' wpE_ok wpE_ok wpE_ok hm, ha (fun r Γ' => r = .da d ∧ Γ' = Γ) ⟨rfl, rfl⟩ I H σ F en _ ?_⟩
  rintro _ _ I1 H1 v F1 ⟨rfl, rfl⟩ st1 en1
  obtain ⟨B1, G1, rfl, o1, en1', _⟩ := en1.pop
  cases o1 with
  | da r1 =>
    refine hb (fun r Γ'' => r = .da d' ∧ Γ'' = _) ⟨rfl, rfl⟩ I1 H1 σ G1 en1' _ ?_
    rintro _ _ I2 H2 u F2 ⟨rfl, rfl⟩ st2 en2
    obtain ⟨B2, G2, rfl, o2, en2', _⟩ := en2.pop
    cases o2 with
    | da r2 =>
      have ol : OwnL X.tc I2 H2 [v, u] [.da d, .da d'] ([] ++ ([] ++ [])) := .cons (.da (r1.mono st2.inc)) (.cons (.da r2) .nil)
      refine q I2 H2 v u _ ol (by simp) en2'.sub _ fun I3 H3 w B3 st3 o3 nd3 sub3 => ?_
      cases o3 with
      | da r3 =>
        cases r3
        obtain ⟨en3, st3'⟩ := en2'.grow (by simpa using st3) sub3
        have st123 := (st1.trans st2).trans st3'
        cases k with
        | false => exact ⟨false, rfl, false, rfl, kk _ _ I3 H3 G2 hq st123 en3⟩
        | true =>
          refine ⟨true, rfl, hc (fun r Γ'' => r = .da g ∧ Γ'' = _) ⟨rfl, rfl⟩ I3 H3 σ G2 en3 _ ?_⟩
          rintro _ _ I4 H4 y F4 ⟨rfl, rfl⟩ st4 en4
          obtain ⟨B4, G4, rfl, o4, en4', _⟩ := en4.pop
          cases o4 with
          | da r4 =>
            have ol2 : OwnL X.tc I4 H4 [u, y] [.da d', .da g] ([] ++ ([] ++ [])) := .cons (.da ((r2.mono st3'.inc).mono st4.inc)) (.cons (.da r4) .nil)
            refine q' I4 H4 u y _ ol2 (by simp) en4'.sub _ fun I5 H5 w5 B5 st5 o5 nd5 sub5 => ?_
            cases o5 with
            | da r5 =>
              cases r5
              obtain ⟨en5, st5'⟩ := en4'.grow (by simpa using st5) sub5
              exact ⟨k', rfl, kk _ _ I5 H5 G4 (by simpa using hq) ((st123.trans st4).trans st5') en5⟩
theorem xt_le_lt {i j k : Int} (ha : XE X a Γ (.da (.int i)) Γ) (hb : XE X b Γ (.da (.int j)) Γ) (hc : XE X c Γ (.da (.int k)) Γ) (hm : lastMarks [.LtE, .Lt] [b, c] = false := by with_unfolding_all rfl) :
    XT X (.Compare a [.LtE, .Lt] [b, c] pos) Γ (decide (i ≤ j) && decide (j < k)) Γ := xt_chain op_le op_lt o2_bl o2_bl ha hb hc hm
end
end TL

/-! TL17: dicts whose keys are tuples (any depth up to 8). -/
namespace TL
open PySem PySem.Spec PyProof.Rows L2

mutual
theorem nested_is {X : Cx} {pins : List (Addr × Obj)} {σ : L2.St} {H : Hp} {s : Shared} (J : Inv X pins σ H s) : ∀ (k : NestedKey) {v : V} {u : Value}, Rp X.tc H v k.data → RelV v u → NestedIs s.heap k u
  | .none, _, _, h, r => by
    cases h
    obtain rfl := r
    exact .none
  | .num i, _, _, h, r => by
    cases h
    obtain ⟨t, rfl⟩ := r
    exact .int i t
  | .text x, _, _, h, r => by
    cases h
    obtain ⟨t, rfl⟩ := r
    exact .text x t
  | .tup ks, _, _, h, r => by
    unfold NestedKey.data at h
    cases h with
    | tup q rr =>
      cases r
      obtain ⟨its, rv, ⟨o, h1, h2, n, h3⟩, _⟩ := J.tuple q
      exact .tup h1 h2 h3 (nested_all J ks rr rv)
theorem nested_all {X : Cx} {pins : List (Addr × Obj)} {σ : L2.St} {H : Hp} {s : Shared} (J : Inv X pins σ H s) : ∀ (ks : List NestedKey) {vs : List V} {us : List Value}, RpL X.tc H vs (NestedKey.datas ks) → Vals vs us → NestedAll s.heap ks us
  | [], _, _, h, r => by
    cases h
    cases r
    exact .nil
  | k :: ks, _, _, h, r => by
    unfold NestedKey.datas at h
    cases h with
    | cons h1 h2 =>
      cases r with
      | cons r1 r2 => exact .cons (nested_is J k h1 r1) (nested_all J ks h2 r2)
end

/-- an own dict with nested keys -/
inductive VDM : OD → List (NestedKey × PyData) → (List (NestedKey × PyData) → OD) → Prop
  | dm {ks : List (NestedKey × PyData)} : VDM (.dm ks) ks .dm
  | pin {v : V} {ks : List (NestedKey × PyData)} : VDM (.pin v (.dm ks)) ks fun ks => .pin v (.dm ks)
section
variable {T : TC} {I H : Hp} {v : V} {x : OD} {B : List Addr} {ks : List (NestedKey × PyData)} {mk : List (NestedKey × PyData) → OD} {σ : L2.St} {Γ : Sl} {F : List Addr} {i : Nat}
structure DmAt (T : TC) (I H : Hp) (p : Addr) (kvs : NKV) (ks : List (NestedKey × PyData)) : Prop where
  at_ : H p = some (DN T p kvs)
  fr : I p = none
  keys : kvs.map Prod.fst = ks.map Prod.fst
  krp : RpL T I (kvs.map fun p => V.ref p.2.1) (ks.map fun q => q.1.data)
  vrp : RpL T I (kvs.map fun p => p.2.2) (ks.map Prod.snd)
theorem VDM.own (h : VDM x ks mk) (o : Own T I H v x B) : ∃ p kvs, v = .ref p ∧ B = [p] ∧ DmAt T I H p kvs ks ∧ ∀ (I' H' : Hp) (kvs' : NKV) (ks' : List (NestedKey × PyData)), DmAt T I' H' p kvs' ks' → Own T I' H' v (mk ks') [p] := by
  cases h with
  | dm => cases o with
    | dm h1 h2 h3 h4 h5 => exact ⟨_, _, rfl, rfl, ⟨h1, h2, h3, h4, h5⟩, fun I' H' kvs' ks' d => .dm d.at_ d.fr d.keys d.krp d.vrp⟩
  | pin => cases o with
    | pin o => cases o with
      | dm h1 h2 h3 h4 h5 => exact ⟨_, _, rfl, rfl, ⟨h1, h2, h3, h4, h5⟩, fun I' H' kvs' ks' d => .pin (.dm d.at_ d.fr d.keys d.krp d.vrp)⟩
theorem EnvF.dm (en : EnvF T I H σ Γ F) (hx : Γ[i]? = some (some x)) (hv : VDM x ks mk) : ∃ p kvs, σ[i]? = some (some (.ref p)) ∧ DmAt T I H p kvs ks ∧
    ∀ (kvs' : NKV) (ks' : List (NestedKey × PyData)), kvs'.map Prod.fst = ks'.map Prod.fst → RpL T I (kvs'.map fun p => V.ref p.2.1) (ks'.map fun q => q.1.data) → RpL T I (kvs'.map fun p => p.2.2) (ks'.map Prod.snd) →
      ∃ F', EnvF T I (upd H p (DN T p kvs')) σ (Γ.set i (some (mk ks'))) F' ∧ Step I H F I (upd H p (DN T p kvs')) F' := by
  obtain ⟨v, B, G, e1, o, en', nd, mem⟩ := en.take hx
  obtain ⟨p, kvs, rfl, rfl, d, h5⟩ := hv.own o
  refine ⟨p, kvs, e1, d, fun kvs' ks' r r' r'' => ?_⟩
  have np : p ∉ G := (List.nodup_cons.mp (show (p :: G).Nodup from nd)).1
  have en2 : EnvF T I (upd H p (DN T p kvs')) σ (Γ.set i none) G := ⟨en'.env.frame (Same.refl I) fun b hb => ⟨upd_ne fun q => np (q ▸ hb), (en'.env.cells b hb).2⟩, en'.nd, fun b u e => by
    rw [upd_ne fun q => by
      subst q
      rw [d.fr] at e
      cases e]
    exact en.sub b u e⟩
  obtain ⟨F', en3, nd3, m3⟩ := en2.into e1 (h5 I _ kvs' ks' ⟨upd_same, d.fr, r, r', r''⟩) nd
  rw [List.set_set] at en3
  exact ⟨F', en3, (step_upd (F := F) ((mem p).mpr (.inl (List.mem_singleton.mpr rfl)))).of_mem (fun b hb => hb) fun b hb => (mem b).mpr (m3 b hb)⟩
end
theorem dn_stay {T : TC} {p : Addr} {kvs : NKV} {h1 h2 : Heap} (d : DnOk T p kvs h1) (e : ∀ o, h1.get? p = some o → h2.get? p = some o) : DnOk T p kvs h2 := by
  obtain ⟨z, hd, xs, r, o, es, ep, g1, g2⟩ := d
  exact ⟨z, hd, xs, r, o, es, ep, e _ g1, g2⟩
/-- the dict in the heap -/
theorem dm_heap {X : Cx} {pins : List (Addr × Obj)} {σ : L2.St} {I H : Hp} {s : Shared} {p : Addr} {kvs : NKV} {ks : List (NestedKey × PyData)} (J : Inv X pins σ H s) (d : DmAt X.tc I H p kvs ks) (sub : Same I H) (h8 : ∀ q ∈ ks, q.1.depth ≤ 8) :
    kvs.length ≤ sizeLine ∧ (p == sysModules) = false ∧ ∃ xs, Paired NPair kvs xs ∧ s.heap.DictOfH (nestedKind X.prog X.w) p xs := by
  obtain ⟨⟨z, hd, xs, r, o, es, ep, g1, g2, g3, g4, g5⟩, _, _⟩ := J.hok p _ d.at_
  refine ⟨z, hd, xs, r, o, es, ep, g1, g2, g3, g4, fun x hx => ?_, g5⟩
  obtain ⟨j, hj⟩ := List.mem_iff_getElem?.mp hx
  have hlen : kvs.length = xs.length := Paired.length r
  obtain ⟨hjl, _⟩ := List.getElem?_eq_some_iff.mp hj
  have hk : kvs[j]? = some (kvs[j]'(by omega)) := List.getElem?_eq_getElem (by omega)
  obtain ⟨y, hy, np⟩ := LiI.paired_get r hk
  rw [hj] at hy
  cases hy
  have e1 : (kvs.map Prod.fst)[j]? = some (kvs[j]'(by omega)).1 := by rw [List.getElem?_map, hk]; rfl
  rw [d.keys, List.getElem?_map] at e1
  obtain ⟨q, hq, hq1⟩ := Option.map_eq_some_iff.mp e1
  obtain ⟨v, hv, rv⟩ := d.krp.get (i := j) (d := q.1.data) (by rw [List.getElem?_map, hq]; rfl)
  rw [List.getElem?_map, hk] at hv
  cases hv
  refine ⟨?_, ?_⟩
  · rw [← np.1, ← hq1, ← np.2.1]
    exact nested_is J q.1 (rv.mono sub) rfl
  · rw [← np.1, ← hq1]
    exact h8 q (List.mem_of_getElem? hq)
/-- what the dict holds at k -/
theorem dm_get {T : TC} {I : Hp} {k : NestedKey} : ∀ {kvs : NKV} {ks : List (NestedKey × PyData)} {xs : List (NestedKey × Addr × Value)}, Paired NPair kvs xs → kvs.map Prod.fst = ks.map Prod.fst → RpL T I (kvs.map fun p => p.2.2) (ks.map Prod.snd) →
    (∀ d, kget ks k = some d → ∃ v p, atKey xs k = some p ∧ RelV v p.2 ∧ Rp T I v d) ∧ (kget ks k = none → atKey xs k = none)
  | [], [], _, .nil, _, _ => ⟨fun d h => by simp [kget_nil] at h, fun _ => rfl⟩
  | [], _ :: _, _, .nil, h, _ => by simp at h
  | _ :: _, [], _, .cons _ _, h, _ => by simp at h
  | p :: kvs, q :: ks, _, .cons (b := y) (l₂ := xs) np r, h, rr => by
    rw [List.map_cons, List.map_cons, List.cons.injEq] at h
    rw [List.map_cons, List.map_cons] at rr
    cases rr with
    | cons h1 rr =>
      rw [kget_cons]
      have ha : atKey (y :: xs) k = if y.1 = k then some y.2 else atKey xs k := by
        unfold atKey
        rw [List.find?_cons]
        by_cases hk : y.1 = k <;> simp [hk]
      rw [ha]
      have e : y.1 = q.1 := np.1.symm.trans h.1
      by_cases hk : q.1 = k
      · rw [if_pos hk, if_pos (e.trans hk)]
        refine ⟨fun d hd => ?_, fun hn => by cases hn⟩
        cases hd
        exact ⟨p.2.2, y.2, rfl, np.2.2, h1⟩
      · rw [if_neg hk, if_neg fun z => hk (e.symm.trans z)]
        exact dm_get r h.2 rr

section
variable {X : Cx} {e a b c o it tg : Expr} {es elts : List Expr} {ss rest : List Stmt} {Γ Γ' Γ1 Γ2 Γ3 : Sl} {Ψ : OD → Sl → Prop} {Φ : Out → Prop} {Φt : Bool → Sl → Prop} {pos p apos cpos p2 tpos : Pos} {r x y z : OD} {nm n2 : Str} {ds es' : List PyData} {d d' g : PyData} {i kk : Nat} {ks : List (NestedKey × PyData)} {mk : List (NestedKey × PyData) → OD} {k : NestedKey}
/-- {}, keys to be nested -/
theorem pe_dnewN : PE X (.Dict [] [] pos) (fun _ H Q => ∀ p, H p = none → Q (.ref p) (upd H p (DN X.tc p []))) := ⟨fun pins s σ H Q I h => by
  have lo : (s.heap.objs.size == sysModules) = false := beq_eq_false_iff_ne.mpr (Ne.symm (Nat.ne_of_lt I.big))
  have new : DnOk X.tc s.heap.objs.size [] (s.heap.push { cls := .type "dict", data := .dict #[] }) := ⟨Nat.zero_le _, lo, [], .nil, _, #[], 0, Heap.get?_push_size _ rfl, ⟨rfl, rfl, rfl⟩, rfl, rfl, List.nodup_nil⟩
  exact wpAny_Dict_empty ⟨.ref s.heap.objs.size, _, I.laid (a := s.heap.objs.size) (o := DN X.tc s.heap.objs.size []) (t' := s.toks) (fun _ _ q => Heap.get?_push_of_some _ q) (Nat.le_refl _) ⟨new, ⟨_, Heap.get?_push_size _ rfl⟩, fun h1 h2 q e => dn_stay q e⟩, rfl, h _ (I.hok.fresh (Nat.le_refl _))⟩⟩
theorem xe_dictM0 : XE X (.Dict [] [] pos) Γ (.dm []) Γ := fun Ψ hq I H σ F en Q k => ⟨_, pe_dnewN, fun p hp => by
  have en2 := en.use (B := []) (by simpa using en.nd) (step_new (F := []) hp) (Own.dm (kvs := []) (ds := []) upd_same (en.sub.free hp) rfl .nil .nil) (by simp) (upd_sub en.sub hp)
  exact k _ _ I _ _ _ hq en2.2 en2.1⟩
/-- len(d) -/
def rLenM (T : TC) : List V → Hp → VK → Prop := fun xs H Q => ∃ I p kvs ks, xs = [.ref p] ∧ Same I H ∧ DmAt T I H p kvs ks ∧ (∀ q ∈ ks, q.1.depth ≤ 8) ∧ Q (.int ks.length) H
theorem call_lenM : CallR X (.builtin "len") (rLenM X.tc) := by
  rintro pins s σ H xs us Q I r ⟨I0, p, kvs, ks, rfl, sub, d, h8, q⟩
  cases r with
  | cons rv r =>
    cases r
    cases rv
    obtain ⟨z, hd, xs, rp, dd⟩ := dm_heap I d sub h8
    have hl : kvs.length = xs.length := Paired.length rp
    have hl2 : kvs.length = ks.length := by
      have := congrArg List.length d.keys
      rwa [List.length_map, List.length_map] at this
    refine call_len_dictH hd dd (by rw [← hl]; rw [sizeLine_eq] at z; omega) ⟨.int ks.length, H, I.tok _, ?_, q⟩
    rw [← hl, hl2]
    exact ⟨_, rfl⟩
theorem xe_lenM (i : Nat) (B : Blt X.mg) (h8 : ∀ q ∈ ks, q.1.depth ≤ 8) (hx : Γ[i]? = some (some x) := by rfl) (hv : VDM x ks mk := by first | exact .dm | exact .pin) (hg : Gl X "len" := by rfl)
    (hN : X.N[i]? = some n2 := by rfl) (hvs : Vis X.env.scope n2 := by first | exact Or.inl rfl | exact Or.inr (Or.inl rfl) | exact Or.inr (Or.inr rfl)) (h1 : (n2 == ("__debug__" : Str)) = false := by decide) (h2 : (n2 == ("__classdict__" : Str)) = false := by decide)
    (he : starEach [.Name n2 p2] X.env = (false, eval (.Name n2 p2) X.env) :: starEach [] X.env := by rfl) (hpl : (backTo pos (starEach [] X.env)).any (·.1) = false := by rfl) :
    XE X (.Call (.Name "len" p) [.Name n2 p2] [] pos) Γ (.da (.int ks.length)) Γ := xe_callS (wl := rLenM X.tc) i call_lenM (Rd1.pure fun I H v B' o s Q k => by
      obtain ⟨p, kvs, rfl, rfl, d, _⟩ := hv.own o
      exact ⟨I, p, kvs, ks, rfl, s, d, h8, k _ (.int _)⟩) hg B.len PySem.boot_len (hx := hx) (hN := hN) (hvs := hvs) (h1 := h1) (h2 := h2) (he := he) (hpl := hpl)
/-- d.setdefault(k, v): the reading -/
def rSetD (T : TC) (x y z : V) (H : Hp) (Q : VK) : Prop := ∃ I p kvs ks k a, x = .ref p ∧ y = .ref a ∧ Same I H ∧ DmAt T I H p kvs ks ∧ (∀ q ∈ ks, q.1.depth ≤ 8) ∧ Rp T I y (NestedKey.data k) ∧ k.depth ≤ 8 ∧ kvs.length < sizeLine ∧
  (∀ v d, kget ks k = some d → Rp T I v d → Q v H) ∧ (kget ks k = none → Q z (upd H p (DN T p (kvs ++ [(k, a, z)]))))
def tSetD (T : TC) (td ty tz : TE) : TE := fun σ H Q => td σ H fun x H1 => (∃ I p kvs ks, x = .ref p ∧ Same I H1 ∧ DmAt T I H1 p kvs ks ∧ ∀ q ∈ ks, q.1.depth ≤ 8) ∧ ty σ H1 fun y H2 => tz σ H2 fun z H3 => rSetD T x y z H3 Q
theorem pe_setdef {td ty tz : TE} (hu : X.A.units + 16 < cLine) (ho : PE X o td) (ha : PE X a ty) (hb : PE X b tz) (m : M2 X o "setdefault" apos a b cpos) : PE X (.Call (.Attribute o "setdefault" apos) [a, b] [] cpos) (tSetD X.tc td ty tz) := by
  refine ⟨fun pins s σ H Q I h => wpAny_Call_method m.base m.few m.line PySem.F.plainAttrs_dict PySem.F.slot_dict_setdefault PySem.F.type_dict_setdefault (thn (ho.run pins s σ H _ I h) ?_)⟩
  rintro u s1 ⟨x, H1, I1, rx, ⟨I0, p, kvs, ks, rfl, sub, d, h8⟩, q1⟩
  cases rx
  obtain ⟨z, hd, xs, rp, dd⟩ := dm_heap I1 d sub h8
  obtain ⟨ob, es, ep, g1, g2, _⟩ := id dd
  refine ⟨dd.typeIs, fun b' e' => by cases e'; exact ⟨ob, g1, g2.2.1⟩, ?_⟩
  rw [m.trees]
  refine Calls.callWith_builtin rfl (Calls.evalArgs_plain (Calls.spliced_cons (thn (ha.run pins s1 σ H1 _ I1 q1) fun iv s2 ⟨y, H2, I2, ry, q2⟩ => Calls.spliced_cons (thn (hb.run pins s2 σ H2 _ I2 q2) fun fv s3 ⟨z', H3, I3, rz, q3⟩ => Calls.spliced_nil ?_))))
  obtain ⟨I0', p', kvs', ks', k, a', e1, rfl, sub', d', h8', hk, hk8, hl, qs, qn⟩ := q3
  cases e1
  cases ry
  obtain ⟨z2, hd2, xs2, rp2, dd2⟩ := dm_heap I3 d' sub' h8'
  have hxl : kvs'.length = xs2.length := Paired.length rp2
  obtain ⟨w1, w2⟩ := dm_get (k := k) rp2 d'.keys d'.vrp
  refine call_setdefault_heap (knd := nestedKind X.prog X.w) (k := k) (hsz := by omega) (show X.A.units + 1 + 8 < cLine by omega) ⟨nested_is I3 k (hk.mono sub') rfl, hk8⟩ hd2 dd2 (fun pr hpr => ?_) fun hn h' hm' hs => ?_
  · cases e : kget ks' k with
    | none =>
      rw [w2 e] at hpr
      cases hpr
    | some d0 =>
      obtain ⟨v, pr', e2, rv, hv⟩ := w1 d0 e
      rw [e2] at hpr
      cases hpr
      exact ⟨v, H3, I3.tok _, rv, qs v d0 e hv⟩
  · have e : kget ks' k = none := by
      cases e : kget ks' k with
      | none => rfl
      | some d0 =>
        obtain ⟨v, pr', e2, _⟩ := w1 d0 e
        rw [e2] at hn
        cases hn
    obtain ⟨o', es', ep', f1, f2, f3, f4, _, f6⟩ := hm'
    rw [storedH_new hn] at f4 f6
    have new : DnOk X.tc p (kvs' ++ [(k, a', z')]) h' := by
      refine ⟨by rw [List.length_append]; show _ + 1 ≤ _; omega, hd2, xs2 ++ [(k, a', fv)], ?_, o', es', ep', f1, f2, f3, f4, f6⟩
      have app : ∀ {l1 : NKV} {l2 : List (NestedKey × Addr × Value)}, Paired NPair l1 l2 → Paired NPair (l1 ++ [(k, a', z')]) (l2 ++ [(k, a', fv)]) := by
        intro l1 l2 r
        induction r with
        | nil => exact .cons ⟨rfl, rfl, rz⟩ .nil
        | cons h _ ih => exact .cons h ih
      exact app rp2
    refine ⟨z', _, d_write (t' := s3.toks + (nestedKind X.prog X.w).draws k) I3 (by rw [d'.at_]; exact True.intro) hs ⟨o', f1⟩ (ob := DN X.tc p (kvs' ++ [(k, a', z')])) ⟨new, ⟨o', f1⟩, fun h1 h2 q e => dn_stay q e⟩, rz, qn e⟩
/-- d.setdefault(k, v) -/
theorem we_setdefM (i : Nat) (hu : X.A.units + 16 < cLine)
    (h : XE X a Γ (.da k.data) Γ) (h' : XE X b Γ (.da d) Γ) (h8 : ∀ q ∈ ks, q.1.depth ≤ 8) (hk8 : k.depth ≤ 8) (hkt : ∃ l, k = .tup l) (hz : ks.length < sizeLine) (hq : Ψ (.da ((kget ks k).getD d)) (Γ.set i (some (mk (if (kget ks k).isSome then ks else ks ++ [(k, d)])))))
    (hx : Γ[i]? = some (some x) := by rfl) (hv : VDM x ks mk := by first | exact .dm | exact .pin) (hN : X.N[i]? = some nm := by rfl)
    (hvs : Vis X.env.scope nm := by first | exact Or.inl rfl | exact Or.inr (Or.inl rfl) | exact Or.inr (Or.inr rfl)) (h1 : (nm == ("__debug__" : Str)) = false := by decide) (h2 : (nm == ("__classdict__" : Str)) = false := by decide)
    (hbase : attributeBase (.Name nm p) "setdefault" X.env (eval (.Name nm p) X.env) = eval (.Name nm p) X.env := by rfl)
    (few : ((backTo cpos (starEach [a, b] X.env)).all (fun x => !x.1) && (backToKw cpos (keywordEach [] X.env)).all (fun x => x.1.isSome)
      && decide (([a, b] : List Expr).length + ([] : List Keyword).length + (if ([] : List Keyword).isEmpty then 0 else 1) < 30)) = true := by rfl) (line : (apos.endLine == cpos.line) = true := by rfl)
    (trees : backTo cpos (starEach [a, b] X.env) = [(false, eval a X.env), (false, eval b X.env)] := by rfl) : WE X (.Call (.Attribute (.Name nm p) "setdefault" apos) [a, b] [] cpos) Γ Ψ := fun I H σ F en Q kq => by
  refine ⟨_, pe_setdef hu (pe_var hN hvs h1 h2) wpE_ok wpE_ok ⟨hbase, few, line, trees⟩, ?_⟩
  obtain ⟨q, kvs, e1, d1, _⟩ := en.dm hx hv
  refine ⟨_, e1, ⟨I, q, kvs, ks, rfl, en.sub, d1, h8⟩, h (fun r Γ' => r = .da k.data ∧ Γ' = Γ) ⟨rfl, rfl⟩ I H σ F en _ ?_⟩
  rintro _ Γ1 I1 H1 u F1 ⟨rfl, e2⟩ st1 en1
  subst e2
  obtain ⟨B, G, rfl, oo, en1', _⟩ := en1.pop
  cases oo with
  | da hk =>
    refine h' (fun r Γ' => r = .da d ∧ Γ' = Γ1) ⟨rfl, rfl⟩ I1 H1 σ G en1' _ ?_
    rintro _ Γ2 I2 H2 w F2 ⟨rfl, e3⟩ st2 en2
    subst e3
    obtain ⟨B2, G2, rfl, o2, en2', _⟩ := en2.pop
    cases o2 with
    | da hd =>
      obtain ⟨q', kvs', e1', d2, h6⟩ := en2'.dm hx hv
      rw [e1] at e1'
      cases e1'
      have hl : kvs'.length = ks.length := by
        have := congrArg List.length d2.keys
        rwa [List.length_map, List.length_map] at this
      have hk2 := hk.mono st2.inc
      obtain ⟨l, rfl⟩ := hkt
      have hka : ∃ a', u = .ref a' := by
        unfold NestedKey.data at hk2
        cases hk2 with
        | tup _ _ => exact ⟨_, rfl⟩
      obtain ⟨a', rfl⟩ := hka
      have st12 := st1.trans st2
      refine ⟨I2, q, kvs', ks, .tup l, a', rfl, rfl, en2'.sub, d2, h8, hk2, hk8, by rw [hl]; exact hz, fun v d0 e hv0 => ?_, fun e => ?_⟩
      · have hq' := hq
        rw [e, Option.isSome_some, if_pos rfl, Option.getD_some] at hq'
        have q0 := h6 kvs' ks d2.keys d2.krp d2.vrp
        have eu : upd H2 q (DN X.tc q kvs') = H2 := by
          funext b'
          by_cases hb : b' = q
          · rw [hb, upd_same, d2.at_]
          · rw [upd_ne hb]
        rw [eu] at q0
        obtain ⟨F5, en5, st5⟩ := q0
        exact kq _ _ I2 H2 v F5 hq' (st12.trans st5) (en5.da hv0)
      · have hq' := hq
        rw [e, Option.isSome_none, if_neg (by simp), Option.getD_none] at hq'
        obtain ⟨F5, en5, st5⟩ := h6 (kvs' ++ [(.tup l, a', w)]) (ks ++ [(.tup l, d)]) (by rw [List.map_append, List.map_append, d2.keys]; rfl) (by rw [List.map_append, List.map_append]; exact RpL.append d2.krp (.cons hk2 .nil)) (by rw [List.map_append, List.map_append]; exact RpL.append d2.vrp (.cons hd .nil))
        exact kq _ _ I2 _ w F5 hq' (st12.trans st5) (en5.da hd)
end
end TL

/-! TL18: the law's call, where the promise knows that no repr runs around. -/
namespace TL
open PySem PySem.Spec PyProof.Rows L2

theorem callerA_gd : callerA.guards = some [] := by first | rfl | decide
/-- what stands untracked stands in the part that is hidden from the walk -/
theorem hid_ns {h : Heap} {H : Hp} {a : Addr} {its : Array Value} (one : ∀ c, H c ≠ none → c = a) (lst : h.get? a = some { cls := .type "list", data := .seq its }) {c : Addr} {m : Str → Option Value} (n : h.Ns c m) : (hidT h H).Ns c m := by
  obtain ⟨ob, es, ep, e, isd, rest⟩ := n
  refine ⟨ob, es, ep, hidT_get e ?_, isd, rest⟩
  refine Decidable.byContradiction fun q => ?_
  have z := one c q
  subst z
  rw [lst] at e
  cases e
  cases (show Data.seq its _ = Data.dict es ep from isd)
theorem hid_in {h : Heap} {H : Hp} {a : Addr} {K : PySem.W.Frag} (one : ∀ c, H c ≠ none → c = a) (notK : H a ≠ none → K.lookup a = none) (ki : K.In h) : K.In (hidT h H) := fun c ob e => by
  refine hidT_get (ki c ob e) (Decidable.byContradiction fun q => ?_)
  have z := one c q
  subst z
  rw [notK q] at e
  cases e
section
variable {P : Program} {w : World} {K : PySem.W.Frag} {mg mb : Str → Option Value} {k : Nat} {fa a : Addr} {fd : FuncData} {x : Str} {sp : Sp} {s : Shared} {us : List Value} {ns : List Int}
/-- what is wanted of the call -/
abbrev LawEnd (s : Shared) : Result → Shared → Prop := fun r s' => r = .ok (.ret (.bool true)) ∧ OldK s.heap s'.heap ∧ s'.os = s.os ∧ AllBare s'.gens
theorem law_from {H : Hp} (ki : K.In s.heap) (gn : s.heap.Ns mainGlobals mg) (bn : s.heap.Ns builtinsNs mb) (bb : ∀ y : Str, y ≠ "__name__" → mb y = bootBuiltins y) (nl : s.heap.NoLimit) (g0 : s.gens = #[]) (lst : s.heap.get? a = some { cls := .type "list", data := .seq us.toArray })
    (hr : Room k callerA) (F : ∀ base : Heap, K.In base → base.Ns mainGlobals mg → FnG P w K mg base CX0 k fa fd [x] sp) (bd : ∀ (s : Shared) (u : Value), BindsTo s fd ⟨[u], []⟩ [(x, u)])
    (on : Only H) (hok : HOk P w H s.heap) (one : ∀ c, H c ≠ none → c = a) (notK : H a ≠ none → K.lookup a = none) (q : sp [.ref a] H (fun v _ => v = .bl true) fun _ _ _ => False) : codeAny (model P w) callerA (.call (.ref fa) ⟨[.ref a], []⟩) (LawEnd s) s := by
  have kb : K.In (hidT s.heap H) := hid_in one notK ki
  have gb := hid_ns one lst gn
  have md : Mod K mg (hidT s.heap H) := by
    refine ⟨kb, gb, ⟨mb, hid_ns one lst bn, bb⟩, ?_⟩
    obtain ⟨mc, n1, n2⟩ := nl
    exact ⟨mc, hid_ns one lst n1, n2⟩
  have env : Env0 P w K mg (hidT s.heap H) callerA [] s H := by
    refine ⟨rfl, md, ?_, ?_, trivial, ?_, hok, .of_eq g0⟩
    · exact fun c ob e => of_hidT e
    · exact Nat.le_of_eq (hidT_size _ _)
    · intro c hc
      cases hc
  have run := (F _ kb gb).go callerA [] s H ⟨[.ref a], []⟩ [.ref a] [.ref a] _ _ hr callerA_gd env (bd s (.ref a)) (.cons rfl .nil) q
  refine codeAny_mono run ?_
  rintro (e | fl) s' res
  · exact False.elim res
  · cases fl with
    | next => cases res
    | brk => cases res
    | cont => cases res
    | ret u =>
      obtain ⟨v, H', os, bare, un, hok', rv, hv⟩ := res
      have hv' : v = .bl true := hv
      subst hv'
      have hu : u = Value.bool true := rv
      subst hu
      refine ⟨rfl, OldK.of_keep ?_, os, bare⟩
      intro c ob e
      rcases on c with n | ⟨o2, ys, n⟩
      · refine un.keep c ob e n ?_ (by simp)
        intro z
        cases z
      · have w1 := (hok c _ n).1
        have w2 := (hok' c _ (un.frzs c o2 _ n)).1
        rw [w1] at e
        cases e
        exact w2
theorem law_callG (ki : K.In s.heap) (gn : s.heap.Ns mainGlobals mg) (bn : s.heap.Ns builtinsNs mb) (bb : ∀ y : Str, y ≠ "__name__" → mb y = bootBuiltins y) (nl : s.heap.NoLimit) (g0 : s.gens = #[]) (lst : s.heap.get? a = some { cls := .type "list", data := .seq us.toArray }) (hin : IntsAre us ns) (hz : ns.length ≤ sizeLine)
    (hr : Room k callerA) (F : ∀ base : Heap, K.In base → base.Ns mainGlobals mg → FnG P w K mg base CX0 k fa fd [x] sp) (bd : ∀ (s : Shared) (u : Value), BindsTo s fd ⟨[u], []⟩ [(x, u)])
    (q : ∀ H : Hp, Only H → SqL K H a (ns.map V.int) → sp [.ref a] H (fun v _ => v = .bl true) fun _ _ _ => False) : codeAny (model P w) callerA (.call (.ref fa) ⟨[.ref a], []⟩) (LawEnd s) s := by
  have rv := vals_ints hin
  have ln := hin.length
  by_cases hk : K.lookup a = none
  · let ob : Obj := { cls := .type "list", data := .seq us.toArray }
    let H : Hp := fun c => if c = a then some (.frz ob (.lst (ns.map V.int))) else none
    have at_ : H a = some (.frz ob (.lst (ns.map V.int))) := if_pos rfl
    have off : ∀ c, c ≠ a → H c = none := fun c hc => if_neg hc
    have on : Only H := fun c => by
      by_cases hc : c = a
      · subst hc
        exact .inr ⟨_, _, at_⟩
      · exact .inl (off c hc)
    refine law_from (H := H) ki gn bn bb nl g0 lst hr F bd on ?_ ?_ (fun _ => hk) (q H on (.inl (.inr ⟨ob, at_⟩)))
    · intro c u e
      by_cases hc : c = a
      · subst hc
        rw [at_] at e
        cases e
        exact ⟨lst, by rw [List.length_map]; exact hz, us, _, rv, lst⟩
      · rw [off c hc] at e
        cases e
    · exact fun c hc => Decidable.byContradiction fun z => hc (off c z)
  · obtain ⟨o, ho⟩ := Option.ne_none_iff_exists'.mp hk
    have same := ki a o ho
    rw [lst] at same
    cases same
    refine law_from (H := fun _ => none) ki gn bn bb nl g0 lst hr F bd (fun _ => .inl rfl) ?_ ?_ ?_ (q _ (fun _ => .inl rfl) ?_)
    · intro c u e
      cases e
    · exact fun c hc => absurd rfl hc
    · exact fun hc => absurd rfl hc
    · exact .inr ⟨_, us.toArray, _, ho, rfl, rfl, rfl, by rw [List.size_toArray, ln]; exact hz, by simpa using rv⟩
end
/-- the law's own contract -/
def spLaw : SpD := fun as Ψ => ∃ ns : List Int, as = [.da (.list (ns.map .int))] ∧ ns.length ≤ 63 ∧ ∀ as', Ψ (.da (.bool true)) as'
theorem rpL_ints {T : TC} {I : Hp} : ∀ ns : List Int, RpL T I (ns.map V.int) (ns.map PyData.int)
  | [] => .nil
  | n :: ns => .cons (.int n) (rpL_ints ns)
/-- the goal that k_head leaves -/
theorem walkG {l : PySem.W.OpenLaw} {n k : Nat} {q : Program} {loose : List Str} {XP : (Str → Option Value) → Heap → Prop} {YP : World → Heap → Prop} {d : DefRec} {K : Params → PySem.W.Frag} (hn : l.most = some n) (h63 : n ≤ 63) (hdf : d.params.defaults = []) (hr : Room k callerA)
    (hY : ∀ (w : World) (h : Heap), YP w h → (K w.params).In h)
    (F : ∀ (w : World) (mg : Str → Option Value) (fa : Addr) (h : Heap), (K w.params).In h → h.Ns mainGlobals mg → mg d.name = some (.ref fa) →
      ∃ fd : FuncData, (∀ (s : Shared) (u : Value), BindsTo s fd ⟨[u], []⟩ [("script", u)]) ∧ ∀ base : Heap, (K w.params).In base → base.Ns mainGlobals mg → FnG l.prog w (K w.params) mg base CX0 k fa fd ["script"] (mkSp ⟨l.prog, w, K w.params⟩ spLaw)) :
    PySem.W.WalkO q loose XP YP l.row.toRowW d [] (fun f vs => PySem.call f vs) := by
  refine Att.attach_call hn hdf ?_
  intro w s0 s1 mg mb fa o pm cd doc a us ns G Y _ _ _ hmg lst hin hlen g0
  obtain ⟨fd, bd, hF⟩ := F w mg fa _ (hY w _ Y) G.T.g hmg
  refine law_callG (hY w _ Y) G.T.g G.T.b G.T.builtins G.T.nolimit g0 lst hin (Nat.le_trans hlen (Nat.le_trans h63 (by decide))) hr hF bd ?_
  intro H on hS
  refine ⟨H, [.da (.list (ns.map .int))], [] ++ [], fun r _ => r = .da (.bool true), .cons (.da (.lst hS (rpL_ints ns))) .nil, by simp, Same.refl H, ⟨ns, rfl, Nat.le_trans hlen h63, fun _ => rfl⟩, ?_⟩
  rintro _ as' I' H' v F' rfl _ ol _ _
  cases ol with
  | cons o _ => cases o with
    | da o =>
      cases o
      rfl
end TL
namespace TL
open PySem PySem.Spec PyProof.Rows L2
/-! ### the facts of the text -/
def DK (K : PySem.W.Frag) (nm : Str) (st : Stmt) : Prop := ∃ f fd, Fun K nm nm st f fd ∧ PySem.W.nsIn K mainGlobals nm = some (some (.ref f))
theorem dk_mk {K : PySem.W.Frag} {nm : Str} {st : Stmt} {f : Addr} {od an : Option Addr} {sl : Array (Option Value)} {oc kV dc pm cd ct : Value} (a : PySem.W.nsIn K mainGlobals nm = some (some (.ref f)))
    (l : K.lookup f = some ⟨oc, od, .func (PySem.W.fnOf nm nm (defArgs st) (defBody st) (defScope st) .none kV dc pm an cd ct), sl⟩) (c : PySem.W.codeIn K cd nm = true) (k : PySem.W.keepIn K (.ref f) = true) : DK K nm st := ⟨_, _, fun_mk (st := st) l c k, a⟩
def NoG (K : PySem.W.Frag) (nm : Str) : Prop := PySem.W.nsIn K mainGlobals nm = some none
theorem blt_mk {K : PySem.W.Frag} {h : Heap} {mg : Str → Option Value} (X : K.In h) (G : h.Ns mainGlobals mg) (z : ∀ nm ∈ (["len", "int", "abs", "divmod", "list", "tuple", "range", "zip", "enumerate", "reversed", "sorted", "min", "max", "sum", "all", "any", "set", "repr", "str", "isinstance", "bool", "dict"] : List Str), NoG K nm) : Blt mg := by
  have g : ∀ nm ∈ (["len", "int", "abs", "divmod", "list", "tuple", "range", "zip", "enumerate", "reversed", "sorted", "min", "max", "sum", "all", "any", "set", "repr", "str", "isinstance", "bool", "dict"] : List Str), mg nm = none := fun nm hn => PySem.W.mg_none_of X G (z nm hn)
  exact ⟨g _ (by simp), g _ (by simp), g _ (by simp), g _ (by simp), g _ (by simp), g _ (by simp), g _ (by simp), g _ (by simp), g _ (by simp), g _ (by simp), g _ (by simp), g _ (by simp), g _ (by simp), g _ (by simp), g _ (by simp), g _ (by simp), g _ (by simp), g _ (by simp), g _ (by simp), g _ (by simp), g _ (by simp), g _ (by simp)⟩
/-- a def of the text with its contract: from the fact, the walk of its body -/
theorem DK.def {P : Program} {w : World} {K : PySem.W.Frag} {mg : Str → Option Value} {bs : Heap} {h : Heap} {k : Nat} {nm : Str} {st : Stmt} {ps : List Str} {sp : SpD} (X : K.In h) (G : h.Ns mainGlobals mg) (D : DK K nm st)
    (ok : ∀ f fd, Fun K nm nm st f fd → FnG P w K mg bs CX0 k f fd ps (mkSp ⟨P, w, K⟩ sp)) (b : ∀ f fd, Fun K nm nm st f fd → Binds K fd ps []) : Def P w K mg bs k nm ps sp :=
  let ⟨f, fd, F, a⟩ := D
  ⟨f, fd, ok f fd F, PySem.W.mg_of X G a, F.kp, b f fd F⟩
end TL

/-! TL19: defs by their bodies, loops over typed lists, what repr asks, association lists through keys. -/
namespace TL
open PySem PySem.Spec PyProof.Rows L2

/-- the context of a def's body -/
abbrev dcx (P : Program) (w : World) (K : PySem.W.Frag) (mg : Str → Option Value) (bs : Heap) (N : List Str) (nm : Str) (st : Stmt) (f : Addr) (cdv : Value) (A : Around) (fr : List PySem.Env) (s : Shared) (H : Hp) (E : XK) : Cx :=
  (cxOf CX0 P w K mg bs N nm (defScope st) f cdv A fr s H E).nox
theorem def_ok {P : Program} {w : World} {K : PySem.W.Frag} {mg : Str → Option Value} {bs : Heap} {h : Heap} {k : Nat} {nm : Str} {st : Stmt} {N ps : List Str} {sp : SpD} (X : K.In h) (G : h.Ns mainGlobals mg) (D : DK K nm st) (S : FnScope N ps (defScope st))
    (b : ∀ f fd, Fun K nm nm st f fd → Binds K fd ps []) (ln : ∀ as Ψ, sp as Ψ → as.length = ps.length)
    (hb : ∀ (f : Addr) (cdv : Value) (A : Around) (fr : List PySem.Env) (s : Shared) (H : Hp) (E : XK), Fr (dcx P w K mg bs N nm st f cdv A fr s H E) k → ∀ (as : List OD) (Ψ : OD → List OD → Prop) (vs : List V), sp as Ψ → vs.length = ps.length →
      WSs (dcx P w K mg bs N nm st f cdv A fr s H E) (defBody st) (start0 N as vs) (fnΦ as vs Ψ)) : Def P w K mg bs (k + 1) nm ps sp :=
  DK.def X G D (fun f fd F => fn_ok F S ln fun X' cdv A fr s H E hX hr hg as Ψ vs hsp hl => by
    subst hX
    exact hb f cdv A fr s H E ⟨S.nd, rfl, PassesOwn.never, hr, hg⟩ as Ψ vs hsp (by rw [hl, ln as Ψ hsp])) b
theorem ar0 {α : Type} {vs : List α} (h : vs.length = 0) : vs = [] := List.eq_nil_of_length_eq_zero h
theorem ar1 {α : Type} {vs : List α} (h : vs.length = 1) : ∃ a, vs = [a] := match vs, h with | [a], _ => ⟨a, rfl⟩
theorem ar2 {α : Type} {vs : List α} (h : vs.length = 2) : ∃ a b, vs = [a, b] := match vs, h with | [a, b], _ => ⟨a, b, rfl⟩
theorem ar3 {α : Type} {vs : List α} (h : vs.length = 3) : ∃ a b c, vs = [a, b, c] := match vs, h with | [a, b, c], _ => ⟨a, b, c, rfl⟩
theorem ar4 {α : Type} {vs : List α} (h : vs.length = 4) : ∃ a b c d, vs = [a, b, c, d] := match vs, h with | [a, b, c, d], _ => ⟨a, b, c, d, rfl⟩
theorem ar5 {α : Type} {vs : List α} (h : vs.length = 5) : ∃ a b c d e, vs = [a, b, c, d, e] := match vs, h with | [a, b, c, d, e], _ => ⟨a, b, c, d, e, rfl⟩

section
variable {X : Cx} {e a b c o it tg : Expr} {es elts : List Expr} {body ss rest : List Stmt} {Γ Γ' Γ1 Γ2 Γ3 : Sl} {Ψ : OD → Sl → Prop} {Φ : Out → Prop} {Φt : Bool → Sl → Prop} {pos p apos cpos p2 tpos : Pos} {r x y z : OD} {nm n2 : Str} {ds es' : List PyData} {d d' g : PyData} {i : Nat}
/-- for over a typed list: the slots are st b, b changes by turns -/
theorem ws_forT {kk : Nat} {α β : Type} (f : Fr X kk) (xs : List α) (E : α → PyData) (st : β → Sl) (Inv : Nat → β → Prop) (b0 : β) (hi : XI X tg it Γ (xs.map E) Γ1) (h0 : Inv 0 b0) (e0 : Γ1 = st b0)
    (turn : ∀ (n : Nat) (x : α) (b : β), xs[n]? = some x → Inv n b → WG X tg (.da (E x)) (st b) fun Γ3 => WSs X body Γ3 (loopΦ (fun Γ4 => ∃ b', Inv (n + 1) b' ∧ Γ4 = st b') (thn2 X rest Φ)))
    (fin : ∀ b, Inv xs.length b → WSs X rest (st b) Φ) (hs : ∀ x, foldedSetIterable it X.env x = pure x := by intro _; rfl) : WSs X (.For tg it body [] pos :: rest) Γ Φ := by
  refine ws_for (fun ds n Γ' => ds = xs.map E ∧ ∃ b', Inv n b' ∧ Γ' = st b') f.own f.calm (hi _ ⟨⟨rfl, b0, h0, e0⟩, ?_, ?_⟩) hs
  · rintro n d Γ2 hn ⟨_, b', hb, rfl⟩
    rw [List.getElem?_map] at hn
    obtain ⟨x, hx, rfl⟩ := Option.map_eq_some_iff.mp hn
    intro I H σ F v en Q k
    refine turn n x b' hx hb I H σ F v en Q fun Γ3 I' H' σ' F' h3 => k Γ3 I' H' σ' F' (h3.mono fun o ho => ?_)
    cases o with
    | nx Γ4 => exact ⟨rfl, ho⟩
    | ct Γ4 => exact ⟨rfl, ho⟩
    | bk Γ4 => exact ho
    | rt r Γ4 => exact ho
  · rintro Γ2 ⟨_, b', hb, rfl⟩
    rw [List.length_map] at hb
    exact fin b' hb
/-- the same, deterministic: a fold -/
theorem ws_fold {kk : Nat} {α β : Type} (f : Fr X kk) (xs : List α) (E : α → PyData) (st : β → Sl) (g : β → α → β) (b0 : β) (hi : XI X tg it Γ (xs.map E) Γ1) (e0 : Γ1 = st b0)
    (turn : ∀ (n : Nat) (x : α), xs[n]? = some x → WG X tg (.da (E x)) (st ((xs.take n).foldl g b0)) fun Γ3 => WSs X body Γ3 (loopΦ (fun Γ4 => Γ4 = st (g ((xs.take n).foldl g b0) x)) (thn2 X rest Φ)))
    (fin : WSs X rest (st (xs.foldl g b0)) Φ) (hs : ∀ x, foldedSetIterable it X.env x = pure x := by intro _; rfl) : WSs X (.For tg it body [] pos :: rest) Γ Φ := by
  refine ws_forT f xs E st (fun n b => b = (xs.take n).foldl g b0) b0 hi rfl e0 ?_ ?_ hs
  · rintro n x b hx rfl
    intro I H σ F v en Q k
    refine turn n x hx I H σ F v en Q fun Γ3 I' H' σ' F' h3 => k Γ3 I' H' σ' F' (h3.mono fun o ho => ?_)
    have e : (xs.take (n + 1)).foldl g b0 = g ((xs.take n).foldl g b0) x := by
      rw [List.take_succ, hx, List.foldl_append]
      rfl
    cases o with
    | nx Γ4 => exact ⟨_, e.symm, ho⟩
    | ct Γ4 => exact ⟨_, e.symm, ho⟩
    | bk Γ4 => exact ho
    | rt r Γ4 => exact ho
  · rintro b rfl
    rw [List.take_length]
    exact fin
/-! expressions from expressions, where a draw stands among them -/
theorem we_add (h : WE X a Γ fun x Γ1 => ∃ i, x = .da (.int i) ∧ WE X b Γ1 fun y Γ2 => ∃ j, y = .da (.int j) ∧ Ψ (.da (.int (i + j))) Γ2) : WE X (.BinOp a .Add b pos) Γ Ψ :=
  we_bin op_add (h.mono fun x Γ1 ⟨i, e, h2⟩ => h2.mono fun y Γ2 ⟨j, e', q⟩ => ⟨.da (.int (i + j)), by rw [e, e']; exact o2_I0 fun _ => .int _, q⟩)
theorem we_pure (h : XE X a Γ r Γ1) (q : Ψ r Γ1) : WE X a Γ Ψ := h _ q
end

/-! ### association lists through a map of keys and values -/
section
variable {κ κ' β β' : Type} [DecidableEq κ] [DecidableEq κ'] {f : κ → κ'} {g : β → β'}
theorem kget_map (hf : ∀ a b, f a = f b → a = b) {m : List (κ × β)} {k : κ} : kget (m.map fun p => (f p.1, g p.2)) (f k) = (kget m k).map g := by
  induction m with
  | nil => rfl
  | cons p m ih =>
    rw [List.map_cons, kget_cons, kget_cons, ih]
    by_cases h : p.1 = k
    · rw [if_pos h, if_pos (by rw [h])]
      rfl
    · rw [if_neg h, if_neg fun e => h (hf _ _ e)]
theorem kput_map (hf : ∀ a b, f a = f b → a = b) {m : List (κ × β)} {k : κ} {v : β} : kput (m.map fun p => (f p.1, g p.2)) (f k) (g v) = (kput m k v).map fun p => (f p.1, g p.2) := by
  unfold kput
  have ha : ((m.map fun p => (f p.1, g p.2)).any fun q => decide (q.1 = f k)) = m.any fun q => decide (q.1 = k) := by
    rw [kget_any, kget_any, kget_map (g := g) hf]
    cases kget m k <;> rfl
  rw [ha]
  split
  · rw [List.map_map, List.map_map]
    refine List.map_congr_left fun p _ => ?_
    by_cases h : p.1 = k
    · simp [h]
    · have h' : ¬ f p.1 = f k := fun e => h (hf _ _ e)
      simp [h, h']
  · rw [List.map_append]
    rfl
end

/-! ### what repr asks of data -/
structure Fn (n w : Nat) (d : PyData) : Prop where
  plain : d.plain = true
  shows : d.showable = true
  nodict : d.hasDict = false
  depth : d.depth ≤ n
  short : d.leavesShort 13 = true
  weight : d.weight ≤ w
theorem Fn.mono {n n' w w' : Nat} {d : PyData} (h : Fn n w d) (hn : n ≤ n') (hw : w ≤ w') : Fn n' w' d := ⟨h.plain, h.shows, h.nodict, Nat.le_trans h.depth hn, h.short, Nat.le_trans h.weight hw⟩
theorem Fn.none {n w : Nat} : Fn n w .none := ⟨rfl, rfl, rfl, Nat.zero_le _, rfl, Nat.zero_le _⟩
theorem Fn.bool {n w : Nat} {b : Bool} : Fn n w (.bool b) := ⟨rfl, rfl, rfl, Nat.zero_le _, rfl, Nat.zero_le _⟩
theorem natAbs_log {i : Int} {k : Nat} (h : i.natAbs < 2 ^ k) (hk : 0 < k) : i.natAbs.log2 < k := by
  by_cases h0 : i.natAbs = 0
  · rw [h0]
    simpa using hk
  · exact (Nat.log2_lt h0).mpr h
theorem intText_len {i : Int} (h : i.natAbs < 10 ^ 11) : (PyData.int i).shown.length ≤ 13 := by
  rw [PyData.shown_int]
  have q := int_text_length_le10 (k := 11) (by decide) h
  show (Str.ofString (toString i)).length ≤ 13
  rw [PySem.ofString_length]
  omega
theorem Fn.int {n w : Nat} {i : Int} (h : i.natAbs < 10 ^ 11) (hw : 37 ≤ w) : Fn n w (.int i) := by
  have h37 : i.natAbs < 2 ^ 37 := Nat.lt_trans h (by decide)
  have hl := natAbs_log h37 (by decide)
  refine ⟨rfl, ?_, rfl, Nat.zero_le _, ?_, ?_⟩
  · show decide (i.natAbs.log2 < 1920) = true
    exact decide_eq_true (by omega)
  · show decide ((PyData.int i).shown.length ≤ 13) = true
    exact decide_eq_true (intText_len h)
  · unfold PyData.weight
    split
    · exact Nat.zero_le _
    · omega
structure FnAll (n w : Nat) (ds : List PyData) : Prop where
  plain : PyData.plainAll ds = true
  shows : PyData.showableAll ds = true
  nodict : PyData.hasDictAll ds = false
  depth : PyData.depthAll ds ≤ n
  short : PyData.leavesShortAll 13 ds = true
  weight : PyData.weightAll ds ≤ ds.length * (w + 1)
theorem fn_all {n w : Nat} : ∀ {ds : List PyData}, (∀ d ∈ ds, Fn n w d) → FnAll n w ds
  | [], _ => ⟨rfl, rfl, rfl, Nat.zero_le _, rfl, Nat.zero_le _⟩
  | d :: ds, h => by
    have h1 := h d List.mem_cons_self
    have h2 := fn_all fun x hx => h x (List.mem_cons_of_mem _ hx)
    refine ⟨?_, ?_, ?_, ?_, ?_, ?_⟩
    · simp [PyData.plainAll, h1.plain, h2.plain]
    · simp [PyData.showableAll, h1.shows, h2.shows]
    · simp [PyData.hasDictAll, h1.nodict, h2.nodict]
    · have a1 := h1.depth
      have a2 := h2.depth
      simp only [PyData.depthAll]
      omega
    · simp [PyData.leavesShortAll, h1.short, h2.short]
    · have a1 := h1.weight
      have a2 := h2.weight
      simp only [PyData.weightAll, List.length_cons, Nat.succ_mul]
      omega
theorem Fn.tup {n w W : Nat} {ds : List PyData} (h : ∀ d ∈ ds, Fn n w d) (hW : ds.length * (w + 1) ≤ W) : Fn (n + 1) W (.tuple ds) := by
  have q := fn_all h
  exact ⟨by simp [PyData.plain, q.plain], by simp [PyData.showable, q.shows], by simp [PyData.hasDict, q.nodict], by simp only [PyData.depth]; have := q.depth; omega, by simp [PyData.leavesShort, q.short], by simp only [PyData.weight]; exact Nat.le_trans q.weight hW⟩
theorem Fn.lst {n w W : Nat} {ds : List PyData} (h : ∀ d ∈ ds, Fn n w d) (hW : ds.length * (w + 1) ≤ W) : Fn (n + 1) W (.list ds) := by
  have q := fn_all h
  exact ⟨by simp [PyData.plain, q.plain], by simp [PyData.showable, q.shows], by simp [PyData.hasDict, q.nodict], by simp only [PyData.depth]; have := q.depth; omega, by simp [PyData.leavesShort, q.short], by simp only [PyData.weight]; exact Nat.le_trans q.weight hW⟩
theorem Fn.shown {n w : Nat} {d : PyData} (h : Fn n w d) (hw : w ≤ 2 ^ 20) : d.shown.length ≤ sizeLine := PyData.shown_fits (B := 13) (by decide) (by decide) h.short (Nat.le_trans h.weight hw)
/-- _law_same: equal data -/
def spSame : SpD := fun as Ψ => ∃ d, as = [.da d, .da d] ∧ Fn 60 (2 ^ 20) d ∧ Ψ (.da (.bool true)) [.da d, .da d]
end TL

/-! TL20: the drawing's state and contracts. -/
namespace TL
open PySem PySem.Spec PyProof.Rows L2
section
variable {X : Cx} {e : Expr} {Γ : Sl} {Ψ : OD → Sl → Prop} {x y : OD} {ss : List Stmt} {Φ : Out → Prop}
/-- an answer seen otherwise -/
theorem we_conv (cv : ∀ (I H : Hp) (v : V) (B : List Addr), Own X.tc I H v x B → Own X.tc I H v y B) (h : WE X e Γ fun r Γ1 => r = x ∧ Ψ y Γ1) : WE X e Γ Ψ := fun I H σ F en Q k => h I H σ F en Q fun r Γ1 I1 H1 v F1 ⟨hr, hq⟩ st en1 => by
  subst hr
  obtain ⟨B, G, rfl, o, en2, up⟩ := en1.pop
  exact k y Γ1 I1 H1 v _ hq st ⟨.cons (cv _ _ _ _ o) en2.env, en1.nd, en1.sub⟩
end
section
variable {X : Cx} {e : Expr} {Γ : Sl} {Ψ : OD → Sl → Prop} {x y : OD}
/-- a slot seen otherwise behind an expression -/
theorem we_convAt (i : Nat) (h : WE X e Γ fun r Γ1 => ∃ x y, Γ1[i]? = some (some x) ∧ (∀ (I H : Hp) (v : V) (B : List Addr), Own X.tc I H v x B → Own X.tc I H v y B) ∧ Ψ r (Γ1.set i (some y))) : WE X e Γ Ψ := fun I H σ F en Q k => h I H σ F en Q fun r Γ1 I1 H1 v F1 ⟨x, y, hx, cv, hq⟩ st en1 => by
  obtain ⟨B, G, rfl, o, en2, up⟩ := en1.pop
  obtain ⟨v1, B1, G1, e2, o1, en4, nd4, mem4⟩ := en2.take hx
  obtain ⟨F5, en5, nd5, m5⟩ := en4.into e2 (cv _ _ _ _ o1) nd4
  rw [List.set_set] at en5
  have st5 : Step I1 H1 G I1 H1 F5 := Step.less fun b hb => (mem4 b).mpr (m5 b hb)
  obtain ⟨en6, st6, _⟩ := up st5 en5
  exact k r _ I1 H1 v _ hq (st.trans st6) en6
end
def dS (sc : List Int) (p c w n : Int) : List PyData := [.list (sc.map .int), .int p, .int c, .int w, .int n]
def dw (T : TC) : OP where
  φ := fun I o => ∃ vs sc p c w n, o = .lst vs ∧ RpL T I vs (dS sc p c w n) ∧ 0 ≤ p
  mono := fun s ⟨vs, sc, p, c, w, n, e, r, h⟩ => ⟨vs, sc, p, c, w, n, e, r.mono s, h⟩
theorem dw_open {T : TC} (I H : Hp) (v u : V) (B : List Addr) (o : Own T I H v (.pin u (.op (dw T))) B) : ∃ j : {q : List Int × Int × Int × Int × Int // 0 ≤ q.2.1}, Own T I H v (.pin u (.ll (dS j.1.1 j.1.2.1 j.1.2.2.1 j.1.2.2.2.1 j.1.2.2.2.2))) B := by
  cases o with
  | pin o => cases o with
    | op h i q =>
      obtain ⟨vs, sc, p, c, w, n, rfl, r, h0⟩ := q
      exact ⟨⟨(sc, p, c, w, n), h0⟩, .pin (.ll h i r)⟩
theorem dw_shut {T : TC} {sc : List Int} {p c w n : Int} (h0 : 0 ≤ p) (I H : Hp) (v u : V) (B : List Addr) (o : Own T I H v (.pin u (.ll (dS sc p c w n))) B) : Own T I H v (.pin u (.op (dw T))) B := by
  cases o with
  | pin o => cases o with
    | ll h i r => exact .pin (.op h i ⟨_, sc, p, c, w, n, rfl, r, h0⟩)
theorem dw_new {T : TC} {sc : List Int} {p c w n : Int} (h0 : 0 ≤ p) (I H : Hp) (v : V) (B : List Addr) (o : Own T I H v (.ll (dS sc p c w n)) B) : Own T I H v (.op (dw T)) B := by
  cases o with
  | ll h i r => exact .op h i ⟨_, sc, p, c, w, n, rfl, r, h0⟩
def spMix : SpD := fun as Ψ => ∃ sc p c w n m, as = [.ll (dS sc p c w n), .da (.int m)] ∧ ∀ w', Ψ (.da .none) [.ll (dS sc p c w' (n + 1)), .da (.int m)]
def spBegin (T : TC) : SpD := fun as Ψ => ∃ ns : List Int, as = [.da (.list (ns.map .int))] ∧ Ψ (.op (dw T)) as
def spDraw (T : TC) : SpD := fun as Ψ => ∃ m : Int, as = [.op (dw T), .da (.int m)] ∧ 0 < m ∧ m < 2 ^ 64 ∧ ∀ r : Int, 0 ≤ r → r < m → Ψ (.da (.int r)) [.op (dw T), .da (.int m)]
def spRare (T : TC) : SpD := fun as Ψ => ∃ m : Int, as = [.op (dw T), .da (.int m)] ∧ 0 < m ∧ m < 2 ^ 64 ∧ ∀ r : Bool, Ψ (.da (.bool r)) [.op (dw T), .da (.int m)]
theorem atI_int {sc : List Int} {p : Int} (h0 : 0 ≤ p) (h1 : p < sc.length) : ∃ v, atI (sc.map PyData.int) p = some (.int v) := by
  have hl : p.toNat < sc.length := by omega
  refine ⟨sc[p.toNat], ?_⟩
  have e : ixN (sc.map PyData.int).length p = some p.toNat := by
    unfold ixN
    rw [List.length_map, if_pos h0, if_pos h1]
  unfold atI
  rw [e]
  show (sc.map PyData.int)[p.toNat]? = _
  rw [List.getElem?_map, List.getElem?_eq_getElem hl]
  rfl
section
variable {X : Cx} {e : Expr} {Γ : Sl} {Ψ : OD → Sl → Prop} {v : V} {x : OD}
/-- a pinned slot, used as if it were not -/
theorem we_unpin (i : Nat) (hx : Γ[i]? = some (some (.pin v x))) (h : WE X e (Γ.set i (some x)) fun r Γ1 => ∃ y, Γ1[i]? = some (some y) ∧ Ψ r (Γ1.set i (some (.pin v y)))) : WE X e Γ Ψ := fun I H σ F en Q k => by
  obtain ⟨v0, B, G, e1, o, en', nd, mem⟩ := en.take hx
  cases o with
  | pin o =>
    obtain ⟨F2, en2, nd2, m2⟩ := en'.into e1 o nd
    rw [List.set_set] at en2
    have st0 : Step I H F I H F2 := Step.less fun b hb => (mem b).mpr (m2 b hb)
    refine h I H σ F2 en2 Q fun r Γ1 I1 H1 w F1 ⟨y, hy, hq⟩ st1 en1 => ?_
    obtain ⟨Br, Gr, rfl, or, en3, up⟩ := en1.pop
    obtain ⟨v1, B1, G1, e2, o1, en4, nd4, mem4⟩ := en3.take hy
    rw [e1] at e2
    cases e2
    obtain ⟨F5, en5, nd5, m5⟩ := en4.into e1 (.pin o1) nd4
    rw [List.set_set] at en5
    have st5 : Step I1 H1 Gr I1 H1 F5 := Step.less fun b hb => (mem4 b).mpr (m5 b hb)
    obtain ⟨en6, st6, _⟩ := up st5 en5
    exact k r _ I1 H1 w _ hq ((st0.trans st1).trans st6) en6
end
/-- the drawing's state in a slot, pinned or not -/
inductive VOp (R : OP) : OD → Prop
  | op : VOp R (.op R)
  | pin {v : V} : VOp R (.pin v (.op R))
theorem set_self {Γ : Sl} {i : Nat} {o : Option OD} (h : Γ[i]? = some o) : Γ.set i o = Γ := by
  obtain ⟨h1, h2⟩ := List.getElem?_eq_some_iff.mp h
  rw [← h2]
  exact List.set_getElem_self h1
theorem get_set {Γ : Sl} {i : Nat} {o o' : Option OD} (h : Γ[i]? = some o) : (Γ.set i o')[i]? = some o' := List.getElem?_set_self (List.getElem?_eq_some_iff.mp h).1
section
variable {X : Cx} {Γ : Sl} {Ψ : OD → Sl → Prop} {a : Expr} {pos p p2 : Pos} {kk : Nat} {nm fnm : Str} {m : Int} {k : Nat} {ps : List Str} {x : OD}
theorem we_drawG (i : Nat) {sp : SpD} (G : Def X.prog X.w X.K X.mg X.base k fnm ps sp) (hr : Room k X.A) (hgd : X.A.guards = some []) {R : OP} (hv0 : VOp R x) (h : XE X a (Γ.set i none) (.da (.int m)) (Γ.set i none))
    (hq : sp [.op R, .da (.int m)] fun r as => as = [.op R, .da (.int m)] ∧ Ψ r Γ) (hsm : ∀ as Ψ1 Ψ2, (∀ r as', Ψ1 r as' → Ψ2 r as') → sp as Ψ1 → sp as Ψ2)
    (hx : Γ[i]? = some (some x) := by rfl) (hN : X.N[i]? = some nm := by rfl) (hv : Vis X.env.scope nm := by first | exact Or.inl rfl | exact Or.inr (Or.inl rfl) | exact Or.inr (Or.inr rfl)) (h2 : (nm == ("__debug__" : Str)) = false := by decide) (h3 : (nm == ("__classdict__" : Str)) = false := by decide)
    (hg : Gl X fnm := by rfl) (hdb : (fnm == ("__debug__" : Str)) = false := by decide) (he : starEach [.Name nm p2, a] X.env = (false, eval (.Name nm p2) X.env) :: starEach [a] X.env := by rfl) (he2 : starEach [a] X.env = (false, eval a X.env) :: starEach [] X.env := by rfl) (hpl : (backTo pos (starEach [a] X.env)).any (·.1) = false := by rfl) :
    WE X (.Call (.Name fnm p) [.Name nm p2, a] [] pos) Γ Ψ := by
  cases hv0 with
  | op => exact we_fn G hr hgd (wa_ref i (wa_cons (h _ (wa_nil (hsm _ _ _ (fun r as' ⟨ea, q⟩ => by
      subst ea
      show Ψ r ((Γ.set i none).set i (some (.op R)))
      rw [List.set_set, set_self hx]
      exact q) hq))) he2) hx hN hv h2 h3 he) hg hdb he hpl
  | pin =>
    rename_i v
    refine we_unpin i hx (we_fn G hr hgd (wa_ref i (wa_cons (by
      rw [List.set_set]
      exact h _ (wa_nil (hsm _ _ _ (fun r as' ⟨ea, q⟩ => by
        subst ea
        refine ⟨.op R, ?_, ?_⟩
        · show ((Γ.set i none).set i (some (.op R)))[i]? = _
          rw [List.set_set]
          exact get_set hx
        · show Ψ r (((Γ.set i none).set i (some (.op R))).set i (some (.pin v (.op R))))
          rw [List.set_set, List.set_set, set_self hx]
          exact q) hq))) he2) (get_set hx) hN hv h2 h3 he) hg hdb he hpl)
/-- _law_draw(d, e), d in the i-th slot -/
theorem we_draw (i : Nat) (G : Def X.prog X.w X.K X.mg X.base k "_law_draw" ps (spDraw X.tc)) (hr : Room k X.A) (hgd : X.A.guards = some []) (h : XE X a (Γ.set i none) (.da (.int m)) (Γ.set i none)) (h0 : 0 < m) (h1 : m < 2 ^ 64) (hq : ∀ r : Int, 0 ≤ r → r < m → Ψ (.da (.int r)) Γ)
    (hx : Γ[i]? = some (some x) := by rfl) (hv0 : VOp (dw X.tc) x := by first | exact .op | exact .pin) (hN : X.N[i]? = some nm := by rfl) (hv : Vis X.env.scope nm := by first | exact Or.inl rfl | exact Or.inr (Or.inl rfl) | exact Or.inr (Or.inr rfl)) (h2 : (nm == ("__debug__" : Str)) = false := by decide) (h3 : (nm == ("__classdict__" : Str)) = false := by decide)
    (hg : Gl X "_law_draw" := by rfl) (he : starEach [.Name nm p2, a] X.env = (false, eval (.Name nm p2) X.env) :: starEach [a] X.env := by rfl) (he2 : starEach [a] X.env = (false, eval a X.env) :: starEach [] X.env := by rfl) (hpl : (backTo pos (starEach [a] X.env)).any (·.1) = false := by rfl) :
    WE X (.Call (.Name "_law_draw" p) [.Name nm p2, a] [] pos) Γ Ψ :=
  we_drawG i G hr hgd hv0 h ⟨m, rfl, h0, h1, fun r g1 g2 => ⟨rfl, hq r g1 g2⟩⟩ (fun as Ψ1 Ψ2 hm ⟨m, e, g0, g1, q⟩ => ⟨m, e, g0, g1, fun r a b => hm _ _ (q r a b)⟩) hx hN hv h2 h3 hg (by decide) he he2 hpl
theorem we_rare (i : Nat) (G : Def X.prog X.w X.K X.mg X.base k "_law_rare" ps (spRare X.tc)) (hr : Room k X.A) (hgd : X.A.guards = some []) (h : XE X a (Γ.set i none) (.da (.int m)) (Γ.set i none)) (h0 : 0 < m) (h1 : m < 2 ^ 64) (hq : ∀ r : Bool, Ψ (.da (.bool r)) Γ)
    (hx : Γ[i]? = some (some x) := by rfl) (hv0 : VOp (dw X.tc) x := by first | exact .op | exact .pin) (hN : X.N[i]? = some nm := by rfl) (hv : Vis X.env.scope nm := by first | exact Or.inl rfl | exact Or.inr (Or.inl rfl) | exact Or.inr (Or.inr rfl)) (h2 : (nm == ("__debug__" : Str)) = false := by decide) (h3 : (nm == ("__classdict__" : Str)) = false := by decide)
    (hg : Gl X "_law_rare" := by rfl) (he : starEach [.Name nm p2, a] X.env = (false, eval (.Name nm p2) X.env) :: starEach [a] X.env := by rfl) (he2 : starEach [a] X.env = (false, eval a X.env) :: starEach [] X.env := by rfl) (hpl : (backTo pos (starEach [a] X.env)).any (·.1) = false := by rfl) :
    WE X (.Call (.Name "_law_rare" p) [.Name nm p2, a] [] pos) Γ Ψ :=
  we_drawG i G hr hgd hv0 h ⟨m, rfl, h0, h1, fun r => ⟨rfl, hq r⟩⟩ (fun as Ψ1 Ψ2 hm ⟨m, e, g0, g1, q⟩ => ⟨m, e, g0, g1, fun r => hm _ _ (q r)⟩) hx hN hv h2 h3 hg (by decide) he he2 hpl
end
end TL

/-! TL21: calls of defs, own things handed over by name: what they hold is looked up when all arguments stand. -/
namespace TL
open PySem PySem.Spec PyProof.Rows L2

def unp : OD → OD
  | .pin _ x => x
  | x => x
def getR : List (Option OD) → List (Option Nat) → Sl → Option (List OD × Sl)
  | some r :: rs, _ :: refs, Γ => (getR rs refs Γ).map fun q => (r :: q.1, q.2)
  | none :: rs, some i :: refs, Γ => match Γ[i]? with
    | some (some x) => (getR rs refs (Γ.set i none)).map fun q => (unp x :: q.1, q.2)
    | _ => none
  | [], [], Γ => some ([], Γ)
  | _, _, _ => none
def repin (Γ2 : Sl) : List (Option Nat) → Sl → Sl
  | some i :: refs, Γ => match Γ2[i]?, Γ[i]? with
    | some (some (.pin v _)), some (some y) => repin Γ2 refs (Γ.set i (some (.pin v y)))
    | _, _ => repin Γ2 refs Γ
  | none :: refs, Γ => repin Γ2 refs Γ
  | [], Γ => Γ
theorem own_unp {T : TC} {I H : Hp} {v : V} {x : OD} {B : List Addr} (o : Own T I H v x B) : Own T I H v (unp x) B := by
  cases o with
  | pin o => exact o
  | da h => exact .da h
  | ll a b c => exact .ll a b c
  | dd a b c d => exact .dd a b c d
  | dm a b c d e => exact .dm a b c d e
  | ls a b c => exact .ls a b c
  | ob a b c d => exact .ob a b c d
  | op a b c => exact .op a b c
theorem set_app {α : Type} {xs ys : List α} {i : Nat} {a : α} : (xs ++ ys).set (xs.length + i) a = xs ++ ys.set i a := by
  rw [List.set_append_right _ _ (by omega)]
  congr 1
  congr 1
  omega
theorem get_app {α : Type} {xs ys : List α} {i : Nat} : (xs ++ ys)[xs.length + i]? = ys[i]? := by
  rw [List.getElem?_append_right (by omega)]
  congr 1
  omega
section
variable {T : TC} {I H : Hp} {σ : L2.St}
theorem getR_env : ∀ {rs : List (Option OD)} {refs : List (Option Nat)} {vs : List V} {as : List OD} {Γ2 Γ3 : Sl} {F : List Addr}, getR rs refs Γ2 = some (as, Γ3) → EnvF T I H (vs.map some ++ σ) (rs ++ Γ2) F → vs.length = rs.length → RefsOk refs vs σ →
    ∃ F', EnvF T I H (vs.map some ++ σ) (as.map some ++ Γ3) F' ∧ (∀ b ∈ F', b ∈ F) ∧ as.length = rs.length
  | [], [], [], as, Γ2, Γ3, F, h, en, _, _ => by
    cases h
    exact ⟨F, en, fun b hb => hb, rfl⟩
  | [], [], _ :: _, _, _, _, _, _, _, hl, _ => by simp at hl
  | [], _ :: _, _, _, _, _, _, h, _, _, _ => by simp [getR] at h
  | some r :: rs, [], _, _, _, _, _, h, _, _, _ => by simp [getR] at h
  | none :: rs, [], _, _, _, _, _, h, _, _, _ => by simp [getR] at h
  | none :: rs, none :: refs, _, _, _, _, _, h, _, _, _ => by simp [getR] at h
  | _ :: _, _ :: _, [], _, _, _, _, _, _, hl, _ => by simp at hl
  | some r :: rs, ref :: refs, v :: vs, as, Γ2, Γ3, F, h, en, hl, rk => by
    unfold getR at h
    obtain ⟨⟨as', Γ3'⟩, h1, h2⟩ := Option.map_eq_some_iff.mp h
    cases h2
    obtain ⟨B, G, rfl, o, en', _⟩ := EnvF.pop (v := v) (r := r) (σ := vs.map some ++ σ) (Γ := rs ++ Γ2) en
    obtain ⟨F', en2, m, l⟩ := getR_env h1 en' (by simpa using hl) rk.tail
    have nd := List.nodup_append.mp en.nd
    refine ⟨B ++ F', ⟨.cons o en2.env, List.nodup_append.mpr ⟨nd.1, en2.nd, fun x hx y hy => nd.2.2 x hx y (m y hy)⟩, en.sub⟩, fun b hb => ?_, by simp [l]⟩
    exact (List.mem_append.mp hb).elim (List.mem_append_left _) fun q => List.mem_append_right _ (m b q)
  | none :: rs, some i :: refs, v :: vs, as, Γ2, Γ3, F, h, en, hl, rk => by
    unfold getR at h
    cases hx : Γ2[i]? with
    | none =>
      rw [hx] at h
      cases h
    | some ox => cases ox with
      | none =>
        rw [hx] at h
        cases h
      | some x =>
        rw [hx] at h
        obtain ⟨⟨as', Γ3'⟩, h1, h2⟩ := Option.map_eq_some_iff.mp h
        cases h2
        have hl' : vs.length = rs.length := by simpa using hl
        have en0 : EnvF T I H (vs.map some ++ σ) (rs ++ Γ2) F := by
          refine ⟨?_, en.nd, en.sub⟩
          have e := en.env
          cases e with
          | skip e => exact e
        obtain ⟨v', B, G, e1, o, en', nd, mem⟩ := en0.take (i := rs.length + i) (x := x) (by rw [get_app]; exact hx)
        have hv : v' = v := by
          rw [show rs.length = (vs.map some).length by rw [List.length_map, hl'], get_app] at e1
          obtain ⟨u, q1, q2⟩ := rk 0 i rfl
          simp at q1
          subst q1
          rw [q2] at e1
          cases e1
          rfl
        subst hv
        rw [set_app] at en'
        obtain ⟨F', en2, m, l⟩ := getR_env h1 en' hl' rk.tail
        have nd' := List.nodup_append.mp nd
        refine ⟨B ++ F', ⟨.cons (own_unp o) en2.env, List.nodup_append.mpr ⟨nd'.1, en2.nd, fun x hx y hy => nd'.2.2 x hx y (m y hy)⟩, en.sub⟩, fun b hb => ?_, by simp [l]⟩
        exact (mem b).mpr ((List.mem_append.mp hb).imp id (m b))
theorem pins_ok {rs : List (Option OD)} {vs : List V} {Γ2 : Sl} {F : List Addr} {i : Nat} {v : V} {x : OD} (en : EnvF T I H (vs.map some ++ σ) (rs ++ Γ2) F) (hl : vs.length = rs.length) (hx : Γ2[i]? = some (some (.pin v x))) : σ[i]? = some (some v) := by
  obtain ⟨v', B, G, e1, o, _⟩ := en.take (i := rs.length + i) (x := .pin v x) (by rw [get_app]; exact hx)
  rw [show rs.length = (vs.map some).length by rw [List.length_map, hl], get_app] at e1
  cases o with
  | pin o => exact e1
theorem repin_env {Γ2 : Sl} (hp : ∀ (i : Nat) (v : V) (x : OD), Γ2[i]? = some (some (.pin v x)) → σ[i]? = some (some v)) : ∀ {refs : List (Option Nat)} {Γ : Sl} {F : List Addr} {I H : Hp}, EnvF T I H σ Γ F → ∃ F', EnvF T I H σ (repin Γ2 refs Γ) F' ∧ ∀ b ∈ F', b ∈ F
  | [], Γ, F, _, _, en => ⟨F, en, fun b hb => hb⟩
  | none :: refs, Γ, F, _, _, en => repin_env hp (refs := refs) en
  | some i :: refs, Γ, F, I, H, en => by
    unfold repin
    split
    · rename_i v x y h1 h2
      obtain ⟨v0, B, G, e1, o, en', nd, mem⟩ := en.take h2
      have hv := hp i v x h1
      rw [hv] at e1
      cases e1
      obtain ⟨F2, en2, nd2, m2⟩ := en'.into hv (.pin o) nd
      rw [List.set_set] at en2
      obtain ⟨F3, en3, m3⟩ := repin_env hp (refs := refs) en2
      exact ⟨F3, en3, fun b hb => (mem b).mpr (m2 b (m3 b hb))⟩
    · exact repin_env hp (refs := refs) en
end
section
variable {X : Cx} {e a b c o : Expr} {es : List Expr} {Γ Γ' Γ1 Γ2 : Sl} {Ψ : OD → Sl → Prop} {Ψa : List (Option OD) → List (Option Nat) → Sl → Prop} {pos p : Pos} {r x y z : OD} {nm fnm : Str} {d : PyData} {k : Nat} {ps : List Str} {sp : SpD}
def WR (X : Cx) (es : List Expr) (Γ : Sl) (Ψ : List (Option OD) → List (Option Nat) → Sl → Prop) : Prop := ∀ (I H : Hp) (σ : L2.St) (F : List Addr), EnvF X.tc I H σ Γ F → ∀ Q : List V → Hp → Prop,
  (∀ (rs : List (Option OD)) (refs : List (Option Nat)) (Γ' : Sl) (I' H' : Hp) (vs : List V) (F' : List Addr), Ψ rs refs Γ' → vs.length = rs.length → refs.length = rs.length → RefsOk refs vs σ → Step I H F I' H' F' →
    EnvF X.tc I' H' (vs.map some ++ σ) (rs ++ Γ') F' → Q vs H') → wpA X es σ H Q
theorem wr_nil (h : Ψa [] [] Γ) : WR X [] Γ Ψa := fun I H σ F en Q k => ⟨_, pa_nil, k [] [] Γ I H [] F h rfl rfl (fun k i e => by simp at e) .refl en⟩
theorem wr_cons (h : WE X e Γ fun r Γ1 => WR X es Γ1 fun rs refs Γ2 => Ψa (some r :: rs) (none :: refs) Γ2) (hs : starEach (e :: es) X.env = (false, eval e X.env) :: starEach es X.env := by rfl) : WR X (e :: es) Γ Ψa := by
  intro I H σ F en Q k
  refine ⟨_, pa_cons wpE_ok wpA_ok hs, h I H σ F en _ fun x Γ1 I1 H1 v F1 h1 st1 en1 => ?_⟩
  obtain ⟨B, G, rfl, o1, en1', up⟩ := en1.pop
  refine h1 I1 H1 σ G en1' _ fun rs refs Γ2 I2 H2 vs F2 h2 l1 l2 rk st2 en2 => ?_
  obtain ⟨en3, st3, _⟩ := up st2 en2
  exact k (some x :: rs) (none :: refs) Γ2 I2 H2 (v :: vs) _ h2 (by simp [l1]) (by simp [l2]) rk.none (st1.trans st3) en3
/-- data -/
theorem wr_da (h : XE X e Γ (.da d) Γ1) (q : WR X es Γ1 fun rs refs Γ2 => Ψa (some (.da d) :: rs) (none :: refs) Γ2) (hs : starEach (e :: es) X.env = (false, eval e X.env) :: starEach es X.env := by rfl) : WR X (e :: es) Γ Ψa := wr_cons (h _ q) hs
/-- what stands in the i-th slot, handed over -/
theorem wr_ref (i : Nat) (h : WR X es Γ fun rs refs Γ2 => Ψa (none :: rs) (some i :: refs) Γ2) (hx : OSome Γ[i]? = true := by rfl) (hN : X.N[i]? = some nm := by rfl)
    (hv : Vis X.env.scope nm := by first | exact Or.inl rfl | exact Or.inr (Or.inl rfl) | exact Or.inr (Or.inr rfl)) (h1 : (nm == ("__debug__" : Str)) = false := by decide) (h2 : (nm == ("__classdict__" : Str)) = false := by decide)
    (hs : starEach (.Name nm p :: es) X.env = (false, eval (.Name nm p) X.env) :: starEach es X.env := by rfl) : WR X (.Name nm p :: es) Γ Ψa := by
  intro I H σ F en Q k
  obtain ⟨x, hx⟩ := OSome.ex hx
  obtain ⟨v, B, e1, o⟩ := en.see hx
  refine ⟨_, pa_cons (pe_var hN hv h1 h2) wpA_ok hs, v, e1, ?_⟩
  refine h I H σ F en _ fun rs refs Γ2 I2 H2 vs F2 h2 l1 l2 rk st2 en2 => ?_
  exact k (none :: rs) (some i :: refs) Γ2 I2 H2 (v :: vs) F2 h2 (by simp [l1]) (by simp [l2]) (rk.some e1) st2 ⟨.skip en2.env, en2.nd, en2.sub⟩
/-- f(e, ..), f a def -/
theorem we_fnR (G : Def X.prog X.w X.K X.mg X.base k fnm ps sp) (hr : Room k X.A) (hgd : X.A.guards = some []) (h : WR X (e :: es) Γ fun rs refs Γ2 => ∃ as Γ3, getR rs refs Γ2 = some (as, Γ3) ∧ sp as fun r as' => Ψ r (repin Γ2 refs (putBack refs as' Γ3)))
    (hg : Gl X fnm := by rfl) (hdb : (fnm == ("__debug__" : Str)) = false := by decide) (he : starEach (e :: es) X.env = (false, eval e X.env) :: starEach es X.env := by rfl) (hpl : (backTo pos (starEach es X.env)).any (·.1) = false := by rfl) : WE X (.Call (.Name fnm p) (e :: es) [] pos) Γ Ψ := fun I H σ F en Q k => by
  obtain ⟨_, _, FG, hm, hk, hb⟩ := G
  refine ⟨_, pe_callG FG hr hgd hg hm hk hb pass0 wpA_ok hdb he hpl, h I H σ F en _ fun rs refs Γ1 I1 H1 vs F1 h1 l1 l2 rk st en1 => ?_⟩
  obtain ⟨as, Γ3, hget, hsp⟩ := h1
  obtain ⟨F2, en2, m2, l3⟩ := getR_env hget en1 l1 rk
  have hp := fun i v x (hx : Γ1[i]? = some (some (OD.pin v x))) => pins_ok en1 l1 hx
  rw [List.append_nil]
  refine call_fin (Ψ := fun r Γ => Ψ r (repin Γ1 refs Γ)) hsp (by rw [l1, l3]) rk (st.trans (Step.less m2)) en2 fun r Γ' I' H' v F' hq st' en' => ?_
  obtain ⟨B, G, rfl, o, en3, up⟩ := en'.pop
  obtain ⟨F5, en5, m5⟩ := repin_env (refs := refs) hp en3
  obtain ⟨en6, st6, _⟩ := up (Step.less m5) en5
  exact k r _ I' H' v _ hq (st'.trans st6) en6
end
section
variable {X : Cx} {a b c : Expr} {Γ Γ1 Γ2 : Sl} {pos : Pos} {k : Bool} {i j : Int}
/-- i if c else j, of ints -/
theorem xe_ifI (h : XT X c Γ k Γ1) (ha : k = true → XE X a Γ1 (.da (.int i)) Γ2) (hb : k = false → XE X b Γ1 (.da (.int j)) Γ2) : XE X (.IfExp c a b pos) Γ (.da (.int (if k = true then i else j))) Γ2 := fun Ψ hq => we_ifExp (h _ ⟨fun e => ha e _ (by rw [if_pos e] at hq; exact hq), fun e => hb e _ (by rw [if_neg (by simp [e])] at hq; exact hq)⟩)
end
end TL

/-! TL22: comprehensions of one answer. -/
namespace TL
open PySem PySem.Spec PyProof.Rows L2
theorem plainAll_map {α : Type} {f : α → PyData} : ∀ {xs : List α}, (∀ x ∈ xs, (f x).plain = true) → PyData.plainAll (xs.map f) = true
  | [], _ => rfl
  | x :: xs, h => by
    rw [List.map_cons]
    simp [PyData.plainAll, h x List.mem_cons_self, plainAll_map fun y hy => h y (List.mem_cons_of_mem _ hy)]
theorem depthAll_map {α : Type} {f : α → PyData} {n : Nat} : ∀ {xs : List α}, (∀ x ∈ xs, (f x).depth ≤ n) → PyData.depthAll (xs.map f) ≤ n
  | [], _ => Nat.zero_le _
  | x :: xs, h => by
    have h1 := h x List.mem_cons_self
    have h2 := depthAll_map fun y hy => h y (List.mem_cons_of_mem _ hy)
    rw [List.map_cons]
    simp only [PyData.depthAll]
    omega
abbrev ilist (xs : List Nat) : List PyData := xs.map fun (n : Nat) => PyData.int n
theorem plain_ilist {xs : List Nat} : PyData.plainAll (ilist xs) = true := plainAll_map fun x _ => rfl
theorem plain_il {xs : List Nat} : (PyData.list (ilist xs)).plain = true := by
  rw [PyData.plain]
  exact plain_ilist
theorem plain_it {xs : List Nat} : (PyData.tuple (ilist xs)).plain = true := by
  rw [PyData.plain]
  exact plain_ilist
theorem depth_il {xs : List Nat} : (PyData.list (ilist xs)).depth ≤ 1 := by
  have : PyData.depthAll (ilist xs) ≤ 0 := depthAll_map fun x _ => Nat.le_refl _
  simp only [PyData.depth]
  omega
theorem depth_it {xs : List Nat} : (PyData.tuple (ilist xs)).depth ≤ 1 := by
  have : PyData.depthAll (ilist xs) ≤ 0 := depthAll_map fun x _ => Nat.le_refl _
  simp only [PyData.depth]
  omega
section
variable {X : Cx} {e a b c o elt tg it : Expr} {es ifs : List Expr} {ss rest : List Stmt} {Γ Γ' Γ1 Γ2 : Sl} {Ψ : OD → Sl → Prop} {Φ : Out → Prop} {pos p apos spos py : Pos} {nm : Str} {ds : List PyData} {d : PyData} {scope : Scope} {own : List (Str × Nat)} {k : Nat} {α : Type}
/-- the block's expressions, whatever the block's frame is -/
def XB (X : Cx) (scope : Scope) (e : Expr) (Γ : Sl) (r : OD) (Γ' : Sl) : Prop := ∀ s H C cl fp, XE (Blk X scope s H C cl fp) e Γ r Γ'
def TB (X : Cx) (scope : Scope) (e : Expr) (Γ : Sl) (r : Bool) (Γ' : Sl) : Prop := ∀ s H C cl fp, XT (Blk X scope s H C cl fp) e Γ r Γ'
def GB (X : Cx) (scope : Scope) (own : List (Str × Nat)) (tg : Expr) (d : PyData) (Γ Γ3 : Sl) : Prop := ∀ s H C cl fp, WGc (Blk X scope s H C cl fp) (own.map (·.2)) tg d Γ fun Γ' => Γ' = Γ3
section
variable (own : List (Str × Nat)) (u : α → Sl → Sl) (xs : List α) (E f : α → PyData)
theorem xe_lcM (fx : Fr X k) {R : α → OD} (hi : XI X tg it Γ (xs.map E) Γ) (hsz : xs.length ≤ sizeLine) (hg : ∀ x ∈ xs, GB X scope own tg (E x) Γ (u x Γ)) (he : ∀ x ∈ xs, XB X scope elt (u x Γ) (R x) (u x Γ)) (hf : ∀ x, Frz (R x) (f x) := by intro x; first | exact .da | exact .ll)
    (hd3 : ∀ x, dropΓ (own.map (·.2)) (u x Γ) = Γ := by intro x; rfl) (hd : dropΓ (own.map (·.2)) Γ = Γ := by rfl) (ok : blkC X.N X.env.scope scope own = true := by rfl) (hs : ∀ x, foldedSetIterable it X.env x = pure x := by intro _; rfl) : XE X (.ListComp elt [⟨tg, it, [], 0⟩] scope pos) Γ (.ll (xs.map f)) Γ :=
  fun Ψ hq => we_lc own _ fx.calm fx.nd (lc_map (xs := xs) (E := E) (f := f) (R := R) (fun x => u x Γ) hi hsz hd hg he hf hd3 hd hq) ok hs
theorem xe_lcF (pr : α → Bool) (fx : Fr X k) {R : α → OD} (hi : XI X tg it Γ (xs.map E) Γ) (hsz : xs.length ≤ sizeLine) (hg : ∀ x ∈ xs, GB X scope own tg (E x) Γ (u x Γ)) (ht : ∀ x ∈ xs, TB X scope c (u x Γ) (pr x) (u x Γ)) (he : ∀ x ∈ xs, pr x = true → XB X scope elt (u x Γ) (R x) (u x Γ)) (hf : ∀ x, Frz (R x) (f x) := by intro x; first | exact .da | exact .ll)
    (hd3 : ∀ x, dropΓ (own.map (·.2)) (u x Γ) = Γ := by intro x; rfl) (hd : dropΓ (own.map (·.2)) Γ = Γ := by rfl) (ok : blkC X.N X.env.scope scope own = true := by rfl) (hs : ∀ x, foldedSetIterable it X.env x = pure x := by intro _; rfl) : XE X (.ListComp elt [⟨tg, it, [c], 0⟩] scope pos) Γ (.ll ((xs.filter pr).map f)) Γ :=
  fun Ψ hq => we_lc own _ fx.calm fx.nd (lc_fil (xs := xs) (E := E) (f := f) (R := R) pr (fun x => u x Γ) hi hsz hd hg ht he hf hd3 hd hq) ok hs
/-- y = [..], y a plain local name -/
theorem xs_setLcM (i : Nat) (fx : Fr X k) {R : α → OD} (hi : XI X tg it Γ (xs.map E) Γ) (hsz : xs.length ≤ sizeLine) (hg : ∀ x ∈ xs, GB X scope own tg (E x) Γ (u x Γ)) (he : ∀ x ∈ xs, XB X scope elt (u x Γ) (R x) (u x Γ)) (q : WSs X rest (Γ.set i (some (.ll (xs.map f)))) Φ) (hf : ∀ x, Frz (R x) (f x) := by intro x; first | exact .da | exact .ll)
    (hd3 : ∀ x, dropΓ (own.map (·.2)) (u x Γ) = Γ := by intro x; rfl) (hd : dropΓ (own.map (·.2)) Γ = Γ := by rfl) (hN : X.N[i]? = some nm := by rfl) (hyl : X.env.scope.names.lookup nm = some .local := by rfl) (hl : Nat.blt i Γ.length = true := by rfl) (hsw : swapsWith (.ListComp elt [⟨tg, it, [], 0⟩] scope pos) (some (.Name nm py)) spos.line X.env = pure true := by rfl)
    (ok : blkC X.N X.env.scope scope own = true := by rfl) (hs : ∀ x, foldedSetIterable it X.env x = pure x := by intro _; rfl) : WSs X (.Assign [.Name nm py] (.ListComp elt [⟨tg, it, [], 0⟩] scope pos) spos :: rest) Γ Φ :=
  ws_setLc i own _ fx.calm fx.nd (lc_map (Ψ := fun r Γ1 => WSs X rest (Γ1.set i (some r)) Φ) (xs := xs) (E := E) (f := f) (R := R) (fun x => u x Γ) hi hsz hd hg he hf hd3 hd q) hN hyl hl hsw ok hs
theorem xs_setLcF (i : Nat) (pr : α → Bool) (fx : Fr X k) {R : α → OD} (hi : XI X tg it Γ (xs.map E) Γ) (hsz : xs.length ≤ sizeLine) (hg : ∀ x ∈ xs, GB X scope own tg (E x) Γ (u x Γ)) (ht : ∀ x ∈ xs, TB X scope c (u x Γ) (pr x) (u x Γ)) (he : ∀ x ∈ xs, pr x = true → XB X scope elt (u x Γ) (R x) (u x Γ)) (q : WSs X rest (Γ.set i (some (.ll ((xs.filter pr).map f)))) Φ) (hf : ∀ x, Frz (R x) (f x) := by intro x; first | exact .da | exact .ll)
    (hd3 : ∀ x, dropΓ (own.map (·.2)) (u x Γ) = Γ := by intro x; rfl) (hd : dropΓ (own.map (·.2)) Γ = Γ := by rfl) (hN : X.N[i]? = some nm := by rfl) (hyl : X.env.scope.names.lookup nm = some .local := by rfl) (hl : Nat.blt i Γ.length = true := by rfl) (hsw : swapsWith (.ListComp elt [⟨tg, it, [c], 0⟩] scope pos) (some (.Name nm py)) spos.line X.env = pure true := by rfl)
    (ok : blkC X.N X.env.scope scope own = true := by rfl) (hs : ∀ x, foldedSetIterable it X.env x = pure x := by intro _; rfl) : WSs X (.Assign [.Name nm py] (.ListComp elt [⟨tg, it, [c], 0⟩] scope pos) spos :: rest) Γ Φ :=
  ws_setLc i own _ fx.calm fx.nd (lc_fil (Ψ := fun r Γ1 => WSs X rest (Γ1.set i (some r)) Φ) (xs := xs) (E := E) (f := f) (R := R) pr (fun x => u x Γ) hi hsz hd hg ht he hf hd3 hd q) hN hyl hl hsw ok hs
end
/-- tuple([..]), all([..]) .. of a new list -/
theorem xe_tupL (B : Blt X.mg) (ha : XE X a Γ (.ll ds) Γ1) (hg : Gl X "tuple" := by rfl) (he : starEach [a] X.env = (false, eval a X.env) :: starEach [] X.env := by rfl) (hpl : (backTo pos (starEach [] X.env)).any (·.1) = false := by rfl) :
    XE X (.Call (.Name "tuple" p) [a] [] pos) Γ (.da (.tuple ds)) Γ1 := fun _ hq => we_tupOf B (ha _ ⟨ds, rfl, hq⟩) hg he hpl
/-- zip of typed lists, of typed tuples -/
theorem xi_zipL {β : Type} {xs : List α} {ys : List β} {E : α → PyData} {E' : β → PyData} {elts : List Expr} {kk : Nat} {tpos : Pos} (B : Blt X.mg) (ha : XE X a Γ (.da (.list (xs.map E))) Γ1) (hb : XE X b Γ1 (.da (.list (ys.map E'))) Γ2) (hg : Gl X "zip" := by rfl)
    (hs : starEach [a, b] X.env = (false, eval a X.env) :: starEach [b] X.env := by rfl) (hs2 : starEach [b] X.env = (false, eval b X.env) :: starEach [] X.env := by rfl) (hpl : (backTo pos (starEach [b] X.env)).any (·.1) = false := by rfl) :
    XI X (.Tuple elts kk tpos) (.Call (.Name "zip" p) [a, b] [] pos) Γ ((xs.zip ys).map fun q => .tuple [E q.1, E' q.2]) Γ2 := by
  rw [← zipW_map]
  exact xi_zip B ha hb (.inl ⟨rfl, rfl⟩) hg hs hs2 hpl
theorem xi_zipU {β : Type} {xs : List α} {ys : List β} {E : α → PyData} {E' : β → PyData} {elts : List Expr} {kk : Nat} {tpos : Pos} (B : Blt X.mg) (ha : XE X a Γ (.da (.tuple (xs.map E))) Γ1) (hb : XE X b Γ1 (.da (.tuple (ys.map E'))) Γ2) (hg : Gl X "zip" := by rfl)
    (hs : starEach [a, b] X.env = (false, eval a X.env) :: starEach [b] X.env := by rfl) (hs2 : starEach [b] X.env = (false, eval b X.env) :: starEach [] X.env := by rfl) (hpl : (backTo pos (starEach [b] X.env)).any (·.1) = false := by rfl) :
    XI X (.Tuple elts kk tpos) (.Call (.Name "zip" p) [a, b] [] pos) Γ ((xs.zip ys).map fun q => .tuple [E q.1, E' q.2]) Γ2 := by
  rw [← zipW_map]
  exact xi_zip B ha hb (.inr ⟨rfl, rfl⟩) hg hs hs2 hpl
/-- range(n) -/
theorem xi_rangeN {n : Nat} (B : Blt X.mg) (h : XE X a Γ (.da (.int (n : Int))) Γ1) (hn : n ≤ 16777216) (hg : Gl X "range" := by rfl) (hs : starEach [a] X.env = [(false, eval a X.env)] := by rfl) : XI X tg (.Call (.Name "range" p) [a] [] pos) Γ ((List.range n).map fun (i : Nat) => .int i) Γ1 := by
  have q := xi_range1 (tg := tg) (p := p) (pos := pos) B h (by omega) (by omega) hg hs
  have e : rangeD 0 (n : Int).toNat = (List.range n).map fun (i : Nat) => PyData.int i := by
    unfold rangeD
    rw [Int.toNat_natCast]
    exact List.map_congr_left fun i _ => by rw [Int.zero_add]
  rwa [e] at q
/-- range(m, n) -/
theorem xi_rangeMN {m n : Nat} (B : Blt X.mg) (h : XE X a Γ (.da (.int (m : Int))) Γ1) (h2 : XE X b Γ1 (.da (.int (n : Int))) Γ2) (hm : m ≤ 16777216) (hn : n ≤ 16777216) (hg : Gl X "range" := by rfl) (hs : starEach [a, b] X.env = [(false, eval a X.env), (false, eval b X.env)] := by rfl) (hs2 : starEach [b] X.env = [(false, eval b X.env)] := by rfl) :
    XI X tg (.Call (.Name "range" p) [a, b] [] pos) Γ ((List.range (n - m)).map fun (i : Nat) => .int ((m + i : Nat) : Int)) Γ2 := by
  have q := xi_range2 (tg := tg) (p := p) (pos := pos) B h h2 (by omega) hg hs hs2
  have e : rangeD (m : Int) ((n : Int) - (m : Int)).toNat = (List.range (n - m)).map fun (i : Nat) => PyData.int ((m + i : Nat) : Int) := by
    unfold rangeD
    rw [show ((n : Int) - (m : Int)).toNat = n - m by omega]
    exact List.map_congr_left fun i _ => by rw [Int.natCast_add]
  rwa [e] at q
section
variable {β : Type} (own : List (Str × Nat)) (u : α → Sl → Sl) (xs : List α) (E : α → PyData) (F : β → PyData) (Pv : Nat → α → β → Prop)
abbrev LcJ (Γ : Sl) : List PyData → Nat → Sl → List PyData → Prop := fun ds n Γ' acc => ds = xs.map E ∧ Γ' = Γ ∧ ∃ bs : List β, acc = bs.map F ∧ bs.length = n ∧ ∀ (i : Nat) (x : α) (b : β), xs[i]? = some x → bs[i]? = some b → Pv i x b
/-- any answers, each as Pv says -/
theorem lc_any (hi : XI X tg it Γ (xs.map E) Γ) (hsz : xs.length ≤ sizeLine) (hg : ∀ x ∈ xs, GB X scope own tg (E x) Γ (u x Γ)) (he : ∀ (n : Nat) (x : α), xs[n]? = some x → ∀ s H C cl fp, WE (Blk X scope s H C cl fp) elt (u x Γ) fun r Γ' => ∃ b, Frz r (F b) ∧ Pv n x b ∧ Γ' = u x Γ)
    (hd3 : ∀ x, dropΓ (own.map (·.2)) (u x Γ) = Γ) (hd : dropΓ (own.map (·.2)) Γ = Γ) (hq : ∀ bs : List β, bs.length = xs.length → (∀ (i : Nat) (x : α) (b : β), xs[i]? = some x → bs[i]? = some b → Pv i x b) → Ψ (.ll (bs.map F)) Γ) : LcWI X scope own tg it elt [] Γ (LcJ xs E F Pv Γ) Ψ := by
  refine hi _ ⟨by rw [List.length_map]; exact hsz, ⟨rfl, hd, [], rfl, rfl, fun i x b h1 h2 => by simp at h2⟩, ?_, ?_⟩
  · rintro n d _ _ hn ⟨_, rfl, bs, rfl, hl, hp⟩
    rw [List.getElem?_map] at hn
    obtain ⟨x, hx, rfl⟩ := Option.map_eq_some_iff.mp hn
    refine ⟨u x _, hg x (List.mem_of_getElem? hx), fun k Γ4 => k = true ∧ Γ4 = u x _, fun s H C cl fp => wts_nil ⟨rfl, rfl⟩, ?_⟩
    rintro k Γ4 ⟨rfl, rfl⟩
    refine ⟨fun _ s H C cl fp => (he n x hx s H C cl fp).mono fun r Γ5 ⟨b, fz, hb, e5⟩ => ⟨F b, fz, rfl, by rw [e5]; exact hd3 x, bs ++ [b], by simp, by simp [hl], fun i x' b' h1 h2 => ?_⟩, fun q => Bool.noConfusion q⟩
    by_cases hin : i < bs.length
    · rw [List.getElem?_append_left hin] at h2
      exact hp i x' b' h1 h2
    · rw [List.getElem?_append_right (by omega)] at h2
      have hi0 : i - bs.length = 0 := by
        have := (List.getElem?_eq_some_iff.mp h2).1
        simp at this
        omega
      rw [hi0] at h2
      simp at h2
      subst h2
      have : i = n := by omega
      subst this
      rw [hx] at h1
      cases h1
      exact hb
  · rintro _ _ ⟨_, rfl, bs, rfl, hl, hp⟩
    rw [hd]
    rw [List.length_map] at hl
    exact hq bs hl hp
theorem we_lcA (fx : Fr X k) (hi : XI X tg it Γ (xs.map E) Γ) (hsz : xs.length ≤ sizeLine) (hg : ∀ x ∈ xs, GB X scope own tg (E x) Γ (u x Γ)) (he : ∀ (n : Nat) (x : α), xs[n]? = some x → ∀ s H C cl fp, WE (Blk X scope s H C cl fp) elt (u x Γ) fun r Γ' => ∃ b, Frz r (F b) ∧ Pv n x b ∧ Γ' = u x Γ)
    (hq : ∀ bs : List β, bs.length = xs.length → (∀ (i : Nat) (x : α) (b : β), xs[i]? = some x → bs[i]? = some b → Pv i x b) → Ψ (.ll (bs.map F)) Γ) (hd3 : ∀ x, dropΓ (own.map (·.2)) (u x Γ) = Γ := by intro x; rfl) (hd : dropΓ (own.map (·.2)) Γ = Γ := by rfl)
    (ok : blkC X.N X.env.scope scope own = true := by rfl) (hs : ∀ x, foldedSetIterable it X.env x = pure x := by intro _; rfl) : WE X (.ListComp elt [⟨tg, it, [], 0⟩] scope pos) Γ Ψ :=
  we_lc own _ fx.calm fx.nd (lc_any own u xs E F Pv hi hsz hg he hd3 hd hq) ok hs
theorem ws_setLcA (i : Nat) (fx : Fr X k) (hi : XI X tg it Γ (xs.map E) Γ) (hsz : xs.length ≤ sizeLine) (hg : ∀ x ∈ xs, GB X scope own tg (E x) Γ (u x Γ)) (he : ∀ (n : Nat) (x : α), xs[n]? = some x → ∀ s H C cl fp, WE (Blk X scope s H C cl fp) elt (u x Γ) fun r Γ' => ∃ b, Frz r (F b) ∧ Pv n x b ∧ Γ' = u x Γ)
    (hq : ∀ bs : List β, bs.length = xs.length → (∀ (i : Nat) (x : α) (b : β), xs[i]? = some x → bs[i]? = some b → Pv i x b) → WSs X rest (Γ.set i (some (.ll (bs.map F)))) Φ) (hd3 : ∀ x, dropΓ (own.map (·.2)) (u x Γ) = Γ := by intro x; rfl) (hd : dropΓ (own.map (·.2)) Γ = Γ := by rfl)
    (hN : X.N[i]? = some nm := by rfl) (hyl : X.env.scope.names.lookup nm = some .local := by rfl) (hl : Nat.blt i Γ.length = true := by rfl) (hsw : swapsWith (.ListComp elt [⟨tg, it, [], 0⟩] scope pos) (some (.Name nm py)) spos.line X.env = pure true := by rfl)
    (ok : blkC X.N X.env.scope scope own = true := by rfl) (hs : ∀ x, foldedSetIterable it X.env x = pure x := by intro _; rfl) : WSs X (.Assign [.Name nm py] (.ListComp elt [⟨tg, it, [], 0⟩] scope pos) spos :: rest) Γ Φ :=
  ws_setLc i own _ fx.calm fx.nd (lc_any (Ψ := fun r Γ1 => WSs X rest (Γ1.set i (some r)) Φ) own u xs E F Pv hi hsz hg he hd3 hd hq) hN hyl hl hsw ok hs
end
theorem wi_rangeN (B : Blt X.mg) {Ψi : List PyData → Sl → Prop} (h : WE X a Γ fun r Γ1 => ∃ n : Nat, r = .da (.int (n : Int)) ∧ n ≤ 16777216 ∧ Ψi ((List.range n).map fun (i : Nat) => .int i) Γ1) (hg : Gl X "range" := by rfl) (hs : starEach [a] X.env = [(false, eval a X.env)] := by rfl) : WI X tg (.Call (.Name "range" p) [a] [] pos) Γ Ψi := fun I H σ F en R k => by
  refine ⟨_, pi_range1 hg B.range wpA_ok hs, wa_cons (Ψa := fun rs _ Γ1 => ∃ n : Nat, rs = [.da (.int (n : Int))] ∧ n ≤ 16777216 ∧ Ψi ((List.range n).map fun (i : Nat) => .int i) Γ1) (h.mono fun r Γ1 ⟨n, e, hn, q⟩ => wa_nil ⟨n, by rw [e], hn, q⟩) (by rw [hs]; rfl) I H σ F en _ ?_⟩
  rintro rs refs Γ1 I1 H1 vs F1 ⟨n, rfl, hn, q⟩ l1 l2 rk st1 en1
  obtain ⟨B', G, rfl, ol, en2⟩ := en1.popL l1
  obtain ⟨rfl, r⟩ := ownL_da (ds := [.int (n : Int)]) ol
  obtain ⟨v, rfl, hv⟩ := rpL1 r
  cases hv
  have e : rangeD 0 (n : Int).toNat = (List.range n).map fun (i : Nat) => PyData.int i := by
    unfold rangeD
    rw [Int.toNat_natCast]
    exact List.map_congr_left fun i _ => by rw [Int.zero_add]
  refine ⟨n, rfl, by omega, by omega, k _ Γ1 I1 H1 G _ q st1 en2 ?_⟩
  rw [← e]
  exact isit_range
/-- [elt for .. in it], what it walks drawn: xs as P says -/
theorem we_lcW (own : List (Str × Nat)) (u : α → Sl → Sl) (E f : α → PyData) (P : List α → Prop) (fx : Fr X k) {R : α → OD} (h : WI X tg it Γ fun ds Γ1 => Γ1 = Γ ∧ ∃ xs : List α, P xs ∧ ds = xs.map E ∧ xs.length ≤ sizeLine)
    (hg : ∀ xs x, P xs → x ∈ xs → GB X scope own tg (E x) Γ (u x Γ)) (he : ∀ xs x, P xs → x ∈ xs → XB X scope elt (u x Γ) (R x) (u x Γ)) (hq : ∀ xs, P xs → Ψ (.ll (xs.map f)) Γ) (hf : ∀ x, Frz (R x) (f x) := by intro x; first | exact .da | exact .ll)
    (hd3 : ∀ x, dropΓ (own.map (·.2)) (u x Γ) = Γ := by intro x; rfl) (hd : dropΓ (own.map (·.2)) Γ = Γ := by rfl) (ok : blkC X.N X.env.scope scope own = true := by rfl) (hs : ∀ x, foldedSetIterable it X.env x = pure x := by intro _; rfl) : WE X (.ListComp elt [⟨tg, it, [], 0⟩] scope pos) Γ Ψ := by
  refine we_lc own (fun ds n Γ' acc => ∃ xs : List α, P xs ∧ ds = xs.map E ∧ Γ' = Γ ∧ acc = (xs.take n).map f) fx.calm fx.nd ?_ ok hs
  intro I H σ F en R' k'
  refine h I H σ F en R' fun ds Γ1 I1 H1 F1 J ⟨e1, xs, hp, hds, hsz⟩ st1 en1 => k' ds Γ1 I1 H1 F1 J ⟨by rw [hds, List.length_map]; exact hsz, ⟨xs, hp, hds, by rw [e1]; exact hd, by simp⟩, ?_, ?_⟩ st1 en1
  · rintro n d Γ2 acc hn ⟨ys, hp', hds', rfl, rfl⟩
    rw [hds', List.getElem?_map] at hn
    obtain ⟨x, hx, rfl⟩ := Option.map_eq_some_iff.mp hn
    have hm := List.mem_of_getElem? hx
    refine ⟨u x _, hg ys x hp' hm, fun k Γ4 => k = true ∧ Γ4 = u x _, fun s H C cl fp => wts_nil ⟨rfl, rfl⟩, ?_⟩
    rintro k Γ4 ⟨rfl, rfl⟩
    refine ⟨fun _ s H C cl fp => he ys x hp' hm s H C cl fp _ ⟨f x, hf x, ys, hp', hds', hd3 x, by rw [List.take_succ, hx]; simp⟩, fun q => Bool.noConfusion q⟩
  · rintro Γ2 acc ⟨ys, hp', hds', rfl, rfl⟩
    rw [hd, hds', List.length_map, List.take_length]
    exact hq ys hp'
theorem xe_cast {i j : Int} (h : XE X a Γ (.da (.int i)) Γ1) (e : i = j) : XE X a Γ (.da (.int j)) Γ1 := e ▸ h
theorem xe_tup3 {d1 d2 d3 : PyData} {x1} {Γ3 : Sl} (h1 : XE X a Γ (.da d1) Γ1) (h2 : XE X b Γ1 (.da d2) Γ2) (h3 : XE X c Γ2 (.da d3) Γ3) (hs : starEach [a, b, c] X.env = (false, eval a X.env) :: starEach [b, c] X.env := by rfl) (hs2 : starEach [b, c] X.env = (false, eval b X.env) :: starEach [c] X.env := by rfl) (hs3 : starEach [c] X.env = (false, eval c X.env) :: starEach [] X.env := by rfl) :
    XE X (.Tuple [a, b, c] x1 pos) Γ (.da (.tuple [d1, d2, d3])) Γ3 := fun _ hq => we_tup (wa_cons (h1 _ (wa_cons (h2 _ (wa_cons (h3 _ (wa_nil ⟨[d1, d2, d3], rfl, by show 3 ≤ sizeLine; decide, hq⟩)) hs3)) hs2)) hs)
theorem xe_tup4 {d1 d2 d3 d4 : PyData} {x1} {Γ3 Γ4 : Sl} (h1 : XE X a Γ (.da d1) Γ1) (h2 : XE X b Γ1 (.da d2) Γ2) (h3 : XE X c Γ2 (.da d3) Γ3) (h4 : XE X e Γ3 (.da d4) Γ4) (hs : starEach [a, b, c, e] X.env = (false, eval a X.env) :: starEach [b, c, e] X.env := by rfl) (hs2 : starEach [b, c, e] X.env = (false, eval b X.env) :: starEach [c, e] X.env := by rfl) (hs3 : starEach [c, e] X.env = (false, eval c X.env) :: starEach [e] X.env := by rfl) (hs4 : starEach [e] X.env = (false, eval e X.env) :: starEach [] X.env := by rfl) :
    XE X (.Tuple [a, b, c, e] x1 pos) Γ (.da (.tuple [d1, d2, d3, d4])) Γ4 := fun _ hq => we_tup (wa_cons (h1 _ (wa_cons (h2 _ (wa_cons (h3 _ (wa_cons (h4 _ (wa_nil ⟨[d1, d2, d3, d4], rfl, by show 4 ≤ sizeLine; decide, hq⟩)) hs4)) hs3)) hs2)) hs)
theorem xe_tup5 {d1 d2 d3 d4 d5 : PyData} {x1} {Γ3 Γ4 Γ5 : Sl} (h1 : XE X a Γ (.da d1) Γ1) (h2 : XE X b Γ1 (.da d2) Γ2) (h3 : XE X c Γ2 (.da d3) Γ3) (h4 : XE X e Γ3 (.da d4) Γ4) (h5 : XE X o Γ4 (.da d5) Γ5) (hs : starEach [a, b, c, e, o] X.env = (false, eval a X.env) :: starEach [b, c, e, o] X.env := by rfl) (hs2 : starEach [b, c, e, o] X.env = (false, eval b X.env) :: starEach [c, e, o] X.env := by rfl) (hs3 : starEach [c, e, o] X.env = (false, eval c X.env) :: starEach [e, o] X.env := by rfl) (hs4 : starEach [e, o] X.env = (false, eval e X.env) :: starEach [o] X.env := by rfl) (hs5 : starEach [o] X.env = (false, eval o X.env) :: starEach [] X.env := by rfl) :
    XE X (.Tuple [a, b, c, e, o] x1 pos) Γ (.da (.tuple [d1, d2, d3, d4, d5])) Γ5 := fun _ hq => we_tup (wa_cons (h1 _ (wa_cons (h2 _ (wa_cons (h3 _ (wa_cons (h4 _ (wa_cons (h5 _ (wa_nil ⟨[d1, d2, d3, d4, d5], rfl, by show 5 ≤ sizeLine; decide, hq⟩)) hs5)) hs4)) hs3)) hs2)) hs)
theorem ilist_int {xs : List Nat} : ilist xs = (xs.map fun (n : Nat) => (n : Int)).map PyData.int := by
  show List.map _ _ = _
  rw [List.map_map]
  rfl
theorem xe_maxN {n2 : Str} {p2 : Pos} {x : OD} (i : Nat) (B : Blt X.mg) (hc : X.calm = true) {ns : List Nat} {m : Nat} (hm : m ∈ ns) (hx' : ∀ y ∈ ns, y ≤ m) (hx : Γ[i]? = some (some x) := by rfl) (hv : SV x (.list (ilist ns)) := by first | exact .da | exact .ll | exact .pin) (hg : Gl X "max" := by rfl)
    (hN : X.N[i]? = some n2 := by rfl) (hvs : Vis X.env.scope n2 := by first | exact Or.inl rfl | exact Or.inr (Or.inl rfl) | exact Or.inr (Or.inr rfl)) (h1 : (n2 == ("__debug__" : Str)) = false := by decide) (h2 : (n2 == ("__classdict__" : Str)) = false := by decide)
    (he : starEach [.Name n2 p2] X.env = (false, eval (.Name n2 p2) X.env) :: starEach [] X.env := by rfl) (hpl : (backTo pos (starEach [] X.env)).any (·.1) = false := by rfl) :
    XE X (.Call (.Name "max" p) [.Name n2 p2] [] pos) Γ (.da (.int (m : Nat))) Γ := xe_maxS i B hc (ns := ns.map fun (n : Nat) => (n : Int)) (List.mem_map.mpr ⟨m, hm, rfl⟩) (fun y hy => by
      obtain ⟨z, hz, rfl⟩ := List.mem_map.mp hy
      have := hx' z hz
      omega) hx (ilist_int ▸ hv) hg hN hvs h1 h2 he hpl
theorem xe_minN {n2 : Str} {p2 : Pos} {x : OD} (i : Nat) (B : Blt X.mg) (hc : X.calm = true) {ns : List Nat} {m : Nat} (hm : m ∈ ns) (hx' : ∀ y ∈ ns, m ≤ y) (hx : Γ[i]? = some (some x) := by rfl) (hv : SV x (.list (ilist ns)) := by first | exact .da | exact .ll | exact .pin) (hg : Gl X "min" := by rfl)
    (hN : X.N[i]? = some n2 := by rfl) (hvs : Vis X.env.scope n2 := by first | exact Or.inl rfl | exact Or.inr (Or.inl rfl) | exact Or.inr (Or.inr rfl)) (h1 : (n2 == ("__debug__" : Str)) = false := by decide) (h2 : (n2 == ("__classdict__" : Str)) = false := by decide)
    (he : starEach [.Name n2 p2] X.env = (false, eval (.Name n2 p2) X.env) :: starEach [] X.env := by rfl) (hpl : (backTo pos (starEach [] X.env)).any (·.1) = false := by rfl) :
    XE X (.Call (.Name "min" p) [.Name n2 p2] [] pos) Γ (.da (.int (m : Nat))) Γ := xe_minS i B hc (ns := ns.map fun (n : Nat) => (n : Int)) (List.mem_map.mpr ⟨m, hm, rfl⟩) (fun y hy => by
      obtain ⟨z, hz, rfl⟩ := List.mem_map.mp hy
      have := hx' z hz
      omega) hx (ilist_int ▸ hv) hg hN hvs h1 h2 he hpl
/-- a[b], the index drawn -/
theorem we_ix (h : WE X a Γ fun x Γ1 => ∃ dd ds, x = .da dd ∧ (dd = .list ds ∨ dd = .tuple ds) ∧ WE X b Γ1 fun y Γ2 => ∃ j d, y = .da (.int j) ∧ atI ds j = some d ∧ Ψ (.da d) Γ2) (hs : PlainIx b := by exact fun _ _ => rfl) : WE X (.Subscript a b pos) Γ Ψ := fun I H σ F en Q k =>
  ⟨_, pe_ix ix_seq wpE_ok wpE_ok hs, two_core (h.mono fun x Γ1 ⟨dd, ds, e, hd, h2⟩ => h2.mono fun y Γ2 ⟨j, d, e', hj, hq⟩ => ⟨.da d, by
    subst e e'
    exact Op2.pure fun I H v u h1 h2 s Q k => by
      cases h2
      rcases hd with rfl | rfl
      · cases h1 with
        | lst q r =>
          obtain ⟨w, hw, rw'⟩ := atI_rp r hj
          exact .inl ⟨_, _, j, w, rfl, rfl, s.seq q, hw, k _ rw'⟩
      · cases h1 with
        | tup q r =>
          obtain ⟨w, hw, rw'⟩ := atI_rp r hj
          exact .inr (.inl ⟨_, _, j, w, rfl, rfl, sqT_mono s q, hw, k _ rw'⟩), hq⟩) I H σ F en Q k⟩
/-- facts of the frame in a comprehension's block -/
theorem Fr.blk (fx : Fr X k) {s : Shared} {H : Hp} {C : Addr} {cl : List (Str × Addr)} {fp : List Addr} : Fr (Blk X scope s H C cl fp) k := ⟨fx.nd, fx.calm, PassesOwn.never, fx.room, fx.gd⟩
theorem Fr.u65 (fx : Fr X k) : X.A.units + 65 < cLine := by have := fx.room.un; omega
theorem Fr.u16 (fx : Fr X k) : X.A.units + 16 < cLine := by have := fx.room.un; omega
end
end TL

/-! TL23: dicts from numbers to typed values. -/
namespace TL
open PySem PySem.Spec PyProof.Rows L2
def nkey (c : Nat) : Key := Sum.inl (c : Int)
theorem nkey_inj : ∀ a b : Nat, nkey a = nkey b → a = b := fun a b h => by
  unfold nkey at h
  injection h with h
  omega
abbrev nk {β : Type} (E : β → PyData) (m : List (Nat × β)) : List (Key × PyData) := m.map fun p => (nkey p.1, E p.2)
section
variable {β : Type} {E : β → PyData} {m : List (Nat × β)} {c : Nat} {v : β}
theorem kget_nk : kget (nk E m) (nkey c) = (kget m c).map E := kget_map (f := nkey) (g := E) nkey_inj
theorem kput_nk : kput (nk E m) (nkey c) (E v) = nk E (kput m c v) := kput_map (f := nkey) (g := E) nkey_inj
theorem isSome_nk : (kget (nk E m) (nkey c)).isSome = (kget m c).isSome := by rw [kget_nk, Option.isSome_map]
end
section
variable {X : Cx} {e a b o it tg : Expr} {es elts : List Expr} {ss rest : List Stmt} {Γ Γ' Γ1 Γ2 Γ3 : Sl} {Ψ : OD → Sl → Prop} {Φ : Out → Prop} {pos p apos cpos p2 tpos : Pos} {r x y z : OD} {nm n2 : Str} {d : PyData} {i kk k : Nat} {β : Type} {E : β → PyData} {m : List (Nat × β)} {c : Nat} {v : β}
theorem xi_itemsN (h : XE X it Γ (.da (dkD (nk E m))) Γ1) (hbase : attributeBase it "items" X.env (eval it X.env) = eval it X.env := by rfl) (hline : (apos.endLine == cpos.line) = true := by rfl) : XI X (.Tuple elts kk tpos) (.Call (.Attribute it "items" apos) [] [] cpos) Γ (m.map fun p => .tuple [.int p.1, E p.2]) Γ1 := by
  have q := xi_items (elts := elts) (kk := kk) (tpos := tpos) h hbase hline
  rw [List.map_map] at q
  exact q
theorem xi_keysN (h : XE X it Γ (.da (dkD (nk E m))) Γ1) : XI X tg it Γ (m.map fun p => .int p.1) Γ1 := by
  have q := xi_keys (tg := tg) h
  rw [List.map_map] at q
  exact q
section
variable (i : Nat) (fx : Fr X k)
include fx
theorem xe_dgetN (hb : XE X b Γ (.da (.int (c : Nat))) Γ1) (hk : kget m c = some v) (h0 : OSome Γ[i]? = true := by rfl) (hx : Γ1[i]? = some (some x) := by rfl) (hv : DV x (nk E m) := by first | exact .dd | exact .pin | exact .da)
    (hs : NoSl b := by exact fun _ _ => rfl) (hN : X.N[i]? = some nm := by rfl) (hvs : Vis X.env.scope nm := by first | exact Or.inl rfl | exact Or.inr (Or.inl rfl) | exact Or.inr (Or.inr rfl)) (h1 : (nm == ("__debug__" : Str)) = false := by decide) (h2 : (nm == ("__classdict__" : Str)) = false := by decide) :
    XE X (.Subscript (.Name nm p) b pos) Γ (.da (E v)) Γ1 := xe_dgetS i fx.u1 (k := nkey c) hb (by rw [kget_nk, hk]; rfl) h0 hx hv hs hN hvs h1 h2
theorem xt_dinN (hb : XE X b Γ (.da (.int (c : Nat))) Γ1) (hx : Γ1[i]? = some (some x) := by rfl) (hv : DV x (nk E m) := by first | exact .dd | exact .pin | exact .da) (hm : behindInMarks .In (.Name nm p) = false := by rfl)
    (hN : X.N[i]? = some nm := by rfl) (hvs : Vis X.env.scope nm := by first | exact Or.inl rfl | exact Or.inr (Or.inl rfl) | exact Or.inr (Or.inr rfl)) (h1 : (nm == ("__debug__" : Str)) = false := by decide) (h2 : (nm == ("__classdict__" : Str)) = false := by decide) :
    XT X (.Compare b [.In] [.Name nm p] pos) Γ (kget m c).isSome Γ1 := by
  have q := xt_dinS (p := p) (pos := pos) i fx.u1 (k := nkey c) hb hx hv hm hN hvs h1 h2
  rwa [isSome_nk] at q
theorem xe_dinN (hb : XE X b Γ (.da (.int (c : Nat))) Γ1) (hx : Γ1[i]? = some (some x) := by rfl) (hv : DV x (nk E m) := by first | exact .dd | exact .pin | exact .da) (hm : behindInMarks .In (.Name nm p) = false := by rfl)
    (hN : X.N[i]? = some nm := by rfl) (hvs : Vis X.env.scope nm := by first | exact Or.inl rfl | exact Or.inr (Or.inl rfl) | exact Or.inr (Or.inr rfl)) (h1 : (nm == ("__debug__" : Str)) = false := by decide) (h2 : (nm == ("__classdict__" : Str)) = false := by decide) :
    XE X (.Compare b [.In] [.Name nm p] pos) Γ (.da (.bool (kget m c).isSome)) Γ1 := by
  have q := xe_dinS (p := p) (pos := pos) i fx.u1 (k := nkey c) hb hx hv hm hN hvs h1 h2
  rwa [isSome_nk] at q
theorem xt_dninN (hb : XE X b Γ (.da (.int (c : Nat))) Γ1) (hx : Γ1[i]? = some (some x) := by rfl) (hv : DV x (nk E m) := by first | exact .dd | exact .pin | exact .da) (hm : behindInMarks .NotIn (.Name nm p) = false := by rfl)
    (hN : X.N[i]? = some nm := by rfl) (hvs : Vis X.env.scope nm := by first | exact Or.inl rfl | exact Or.inr (Or.inl rfl) | exact Or.inr (Or.inr rfl)) (h1 : (nm == ("__debug__" : Str)) = false := by decide) (h2 : (nm == ("__classdict__" : Str)) = false := by decide) :
    XT X (.Compare b [.NotIn] [.Name nm p] pos) Γ (!(kget m c).isSome) Γ1 := by
  have q := xt_dninS (p := p) (pos := pos) i fx.u1 (k := nkey c) hb hx hv hm hN hvs h1 h2
  rwa [isSome_nk] at q
/-- d[k] = e -/
theorem ws_dputN (h : WE X e Γ fun r Γ1 => ∃ (v : β) (c : Nat) (x : OD) (m : List (Nat × β)) (mk : List (Key × PyData) → OD), r = .da (E v) ∧ Γ1[i]? = some (some x) ∧ VDD x (nk E m) mk ∧ m.length < sizeLine ∧ XE X b Γ1 (.da (.int (c : Nat))) Γ1 ∧ WSs X rest (Γ1.set i (some (mk (nk E (kput m c v))))) Φ)
    (hN : X.N[i]? = some nm := by rfl) (hvs : Vis X.env.scope nm := by first | exact Or.inl rfl | exact Or.inr (Or.inl rfl) | exact Or.inr (Or.inr rfl)) (h1 : (nm == ("__debug__" : Str)) = false := by decide) (h2 : (nm == ("__classdict__" : Str)) = false := by decide)
    (hs : swapsWith e (some (.Subscript (.Name nm p) b pos)) apos.line X.env = pure false := by rfl) : WSs X (.Assign [.Subscript (.Name nm p) b pos] e apos :: rest) Γ Φ :=
  ws_dput i fx.u1 (h.mono fun r Γ1 ⟨v, c, x, m, mk, e1, e2, e3, e4, e5, e6⟩ => ⟨E v, nkey c, x, nk E m, mk, e1, e2, e3, by rw [List.length_map]; exact e4, e5, by rw [kput_nk]; exact e6⟩) hN hvs h1 h2 hs
end
section
variable (fx : Fr X k)
include fx
theorem xe_dgetNV (ha : XE X a Γ (.da (dkD (nk E m))) Γ1) (hb : XE X b Γ1 (.da (.int (c : Nat))) Γ2) (hk : kget m c = some v) (hs : NoSl b := by exact fun _ _ => rfl) : XE X (.Subscript a b pos) Γ (.da (E v)) Γ2 := xe_dgetV fx.u1 (k := nkey c) ha hb (by rw [kget_nk, hk]; rfl) hs
theorem xt_dinNV (hb : XE X b Γ (.da (.int (c : Nat))) Γ1) (ha : XE X a Γ1 (.da (dkD (nk E m))) Γ2) (hm : behindInMarks .In a = false := by rfl) : XT X (.Compare b [.In] [a] pos) Γ (kget m c).isSome Γ2 := by
  have q := xt_dinV (pos := pos) fx.u1 (k := nkey c) hb ha hm
  rwa [isSome_nk] at q
theorem xt_dninNV (hb : XE X b Γ (.da (.int (c : Nat))) Γ1) (ha : XE X a Γ1 (.da (dkD (nk E m))) Γ2) (hm : behindInMarks .NotIn a = false := by rfl) : XT X (.Compare b [.NotIn] [a] pos) Γ (!(kget m c).isSome) Γ2 := by
  have q := xt_dninV (pos := pos) fx.u1 (k := nkey c) hb ha hm
  rwa [isSome_nk] at q
theorem xe_getN (ha : XE X a Γ (.da (dkD (nk E m))) Γ1) (hb : XE X b Γ1 (.da (.int (c : Nat))) Γ2) (hst : attributeBase a "get" X.env (eval a X.env) = eval a X.env := by rfl)
    (few : ((backTo cpos (starEach [b] X.env)).all (fun x => !x.1) && (backToKw cpos (keywordEach [] X.env)).all (fun x => x.1.isSome)
      && decide (([b] : List Expr).length + ([] : List Keyword).length + (if ([] : List Keyword).isEmpty then 0 else 1) < 30)) = true := by rfl) (line : (apos.endLine == cpos.line) = true := by rfl) (trees : backTo cpos (starEach [b] X.env) = [(false, eval b X.env)] := by rfl) :
    XE X (.Call (.Attribute a "get" apos) [b] [] cpos) Γ (.da (((kget m c).map E).getD .none)) Γ2 := by
  have q := xe_get1 (apos := apos) fx.u1 (k := nkey c) ha hb hst few line trees
  rwa [kget_nk] at q
end
theorem wt_pure {Φt : Bool → Sl → Prop} {j : Bool} (h : XT X a Γ j Γ1) (q : Φt j Γ1) : WT X a Γ Φt := h _ q
theorem xt_cast {j j' : Bool} (h : XT X a Γ j Γ1) (e : j = j') : XT X a Γ j' Γ1 := e ▸ h
theorem xe_castD {d d' : PyData} (h : XE X a Γ (.da d) Γ1) (e : d = d') : XE X a Γ (.da d') Γ1 := e ▸ h
theorem xe_dict1N (ha : XE X a Γ (.da (.int (c : Nat))) Γ1) (hb : XE X b Γ1 (.da (E v)) Γ2) : XE X (.Dict [some a] [b] pos) Γ (.dd (nk E [(c, v)])) Γ2 := xe_dict1 (k := nkey c) ha hb
/-- while over typed states -/
theorem ws_whileT {c : Expr} {body : List Stmt} {β : Type} (fx : Fr X k) (st : β → Sl) (Inv : β → Prop) (μ : β → Nat) (b0 : β) (h0 : Inv b0) (e0 : Γ = st b0)
    (turn : ∀ b, Inv b → WT X c (st b) fun k Γ3 => (k = true → WSs X body Γ3 (loopΦ (fun Γ4 => ∃ b', Inv b' ∧ μ b' < μ b ∧ Γ4 = st b') (thn2 X rest Φ))) ∧ (k = false → WSs X rest Γ3 Φ)) : WSs X (.While c body [] pos :: rest) Γ Φ := by
  subst e0
  intro I H σ F en D ek
  refine ⟨_, pss_cons (ps_while fx.own wpT_ok wpSs_ok) wpSs_ok, fun m σ' H' => ∃ b I2 F2, Inv b ∧ m = μ b ∧ Step I H F I2 H' F2 ∧ EnvF X.tc I2 H' σ' (st b) F2, ⟨_, b0, I, F, h0, rfl, .refl, en⟩, ?_⟩
  rintro m σ2 H2 ⟨b, I2, F2, hb, rfl, st2, en2⟩
  refine turn b hb I2 H2 σ2 F2 en2 _ fun kk Γ3 I3 H3 F3 h3 st3 en3 => ?_
  have st13 := st2.trans st3
  cases kk with
  | false => exact h3.2 rfl I3 H3 σ2 F3 en3 D (ek.step st13)
  | true =>
    refine ⟨fun σ' H' => ∃ b' I4 F4, Inv b' ∧ μ b' < μ b ∧ Step I H F I4 H' F4 ∧ EnvF X.tc I4 H' σ' (st b') F4, fun σ' H' ⟨b', I4, F4, j4, lt, st4, en4⟩ => ⟨_, lt, b', I4, F4, j4, rfl, st4, en4⟩, ?_⟩
    refine h3.1 rfl I3 H3 σ2 F3 en3 _ ⟨?_, ?_, ?_, ?_⟩
    · rintro Γ4 I4 H4 σ4 F4 ⟨b', h1, h2, rfl⟩ st4 en4
      exact ⟨b', I4, F4, h1, h2, st13.trans st4, en4⟩
    · exact fun a st en => ek.rt a (st13.trans st) en
    · exact fun a st en => a _ _ _ _ en D (ek.step (st13.trans st))
    · rintro Γ4 I4 H4 σ4 F4 ⟨b', h1, h2, rfl⟩ st4 en4
      exact ⟨b', I4, F4, h1, h2, st13.trans st4, en4⟩
end
theorem Fn.pair {n w1 w2 : Nat} {d1 d2 : PyData} (h1 : Fn n w1 d1) (h2 : Fn n w2 d2) : Fn (n + 1) (w1 + w2 + 2) (.tuple [d1, d2]) := by
  have a1 := h1.depth
  have a2 := h2.depth
  have b1 := h1.weight
  have b2 := h2.weight
  refine ⟨?_, ?_, ?_, ?_, ?_, ?_⟩
  · simp [PyData.plain, PyData.plainAll, h1.plain, h2.plain]
  · simp [PyData.showable, PyData.showableAll, h1.shows, h2.shows]
  · simp [PyData.hasDict, PyData.hasDictAll, h1.nodict, h2.nodict]
  · simp only [PyData.depth, PyData.depthAll]
    omega
  · simp [PyData.leavesShort, PyData.leavesShortAll, h1.short, h2.short]
  · simp only [PyData.weight, PyData.weightAll]
    omega
end TL

/-! TL24: sorted lists of numbers, typed sorting, more rules by answers. -/
namespace TL
open PySem PySem.Spec PyProof.Rows L2
/-- the numbers in order -/
def sortN (xs : List Nat) : List Nat := xs.mergeSort fun a b => decide (a ≤ b)
theorem sortD_map {α : Type} {E : α → PyData} {xs : List α} : sortD (xs.map E) = (xs.mergeSort fun a b => PySem.W.dataLe false id (E a) (E b)).map E := (List.map_mergeSort (f := E) (s := PySem.W.dataLe false id) fun _ _ _ _ => rfl).symm
theorem sortD_ilist {xs : List Nat} : sortD (ilist xs) = ilist (sortN xs) := by
  show sortD (List.map _ _) = _
  rw [sortD_map]
  unfold sortN
  congr 2
  funext a b
  have := congrFun (congrFun (PySem.W.dataLe_int (β := Nat) fun n => (n : Int)) a) b
  show (PySem.W.dataLe false id (PyData.int (a : Int)) (PyData.int (b : Int))) = _
  rw [show PySem.W.dataLe false id (PyData.int (a : Int)) (PyData.int (b : Int)) = PySem.W.dataLe false (fun n : Nat => PyData.int (n : Int)) a b from rfl, this]
  simp
theorem sortN_perm (xs : List Nat) : (sortN xs).Perm xs := List.mergeSort_perm xs _
theorem sortN_pw (xs : List Nat) : (sortN xs).Pairwise (· ≤ ·) := by
  have := List.pairwise_mergeSort (le := fun a b : Nat => decide (a ≤ b)) (fun a b c h1 h2 => by simp at *; omega) (fun a b => by simp; omega) xs
  exact this.imp fun h => by simpa using h
theorem sortN_eq {xs ys : List Nat} (h : xs.Perm ys) : sortN xs = sortN ys :=
  List.Perm.eq_of_pairwise (le := (· ≤ ·)) (fun a b _ _ h1 h2 => Nat.le_antisymm h1 h2) (sortN_pw xs) (sortN_pw ys) ((sortN_perm xs).trans (h.trans (sortN_perm ys).symm))
theorem sortN_of {xs ys : List Nat} (hx : xs.Pairwise (· ≤ ·)) (h : xs.Perm ys) : sortN ys = xs :=
  List.Perm.eq_of_pairwise (le := (· ≤ ·)) (fun a b _ _ h1 h2 => Nat.le_antisymm h1 h2) (sortN_pw ys) hx ((sortN_perm ys).trans h.symm)
theorem sortN_ext {xs ys : List Nat} (n1 : xs.Nodup) (n2 : ys.Nodup) (h : ∀ x, x ∈ xs ↔ x ∈ ys) : sortN xs = sortN ys := sortN_eq ((List.perm_ext_iff_of_nodup n1 n2).mpr h)
theorem srt_ilist {xs : List Nat} (hz : xs.length ≤ sizeLine) : SrtOk (ilist xs) := by
  refine ⟨plain_ilist, ?_, .inr ?_, by rw [List.length_map]; exact hz, ?_⟩
  · rintro d hd d' hd'
    obtain ⟨a, _, rfl⟩ := List.mem_map.mp hd
    obtain ⟨b, _, rfl⟩ := List.mem_map.mp hd'
    rfl
  · rintro d hd
    obtain ⟨a, _, rfl⟩ := List.mem_map.mp hd
    exact ⟨by simp, by simp⟩
  · rintro d hd
    obtain ⟨a, _, rfl⟩ := List.mem_map.mp hd
    exact Nat.zero_le _
theorem keys_nk {β : Type} {E : β → PyData} {m : List (Nat × β)} : (nk E m).map (fun p => keyD p.1) = ilist (m.map (·.1)) := by
  show List.map _ (List.map _ _) = List.map _ (List.map _ _)
  rw [List.map_map, List.map_map]
  rfl
section
variable {X : Cx} {e a b o it tg : Expr} {es elts : List Expr} {ss rest : List Stmt} {Γ Γ' Γ1 Γ2 Γ3 : Sl} {Ψ : OD → Sl → Prop} {Φ : Out → Prop} {pos p apos cpos p2 tpos : Pos} {r x y z : OD} {nm n2 : Str} {d : PyData} {i kk k : Nat} {β : Type} {E : β → PyData} {m : List (Nat × β)} {c : Nat} {v : β} {ks : List (Key × PyData)} {ds : List PyData}
/-- sorted(d) of an answer -/
theorem we_sortedD (B : Blt X.mg) (hc : X.calm = true) (hu : X.A.units + 70 < cLine) (h : WE X a Γ fun r Γ1 => ∃ ks, r = .da (dkD ks) ∧ SrtOk (ks.map fun p => keyD p.1) ∧ Ψ (.ll (sortD (ks.map fun p => keyD p.1))) Γ1) (hg : Gl X "sorted" := by rfl) (he : starEach [a] X.env = (false, eval a X.env) :: starEach [] X.env := by rfl) (hpl : (backTo pos (starEach [] X.env)).any (·.1) = false := by rfl) :
    WE X (.Call (.Name "sorted" p) [a] [] pos) Γ Ψ := we_callB (wl := rSortedD X.tc) (call_sortedDR hc hu) hg B.sorted (by decide +kernel) (wa_cons (h.mono fun r Γ1 ⟨ks, e, ok, hq⟩ => wa_nil ⟨_, by rw [e]; exact (rd_sortedD .da ok).opl, hq⟩) he) (he := he) (hpl := hpl)
/-- len(..) of an answer: a list or a tuple, a dict -/
theorem we_len (B : Blt X.mg) (h : WE X a Γ fun r Γ1 => ∃ d ds, r = .da d ∧ (d = .list ds ∨ d = .tuple ds) ∧ Ψ (.da (.int ds.length)) Γ1) (hg : Gl X "len" := by rfl) (he : starEach [a] X.env = (false, eval a X.env) :: starEach [] X.env := by rfl) (hpl : (backTo pos (starEach [] X.env)).any (·.1) = false := by rfl) :
    WE X (.Call (.Name "len" p) [a] [] pos) Γ Ψ := we_callB (wl := rLen X.tc) call_len_seq hg B.len PySem.boot_len (wa_cons (h.mono fun r Γ1 ⟨d, ds, e, hd, hq⟩ => wa_nil ⟨_, by rw [e]; exact (rd_len .da hd).opl, hq⟩) he) (he := he) (hpl := hpl)
theorem we_lenD (B : Blt X.mg) (h : WE X a Γ fun r Γ1 => ∃ ks, r = .da (dkD ks) ∧ Ψ (.da (.int ks.length)) Γ1) (hg : Gl X "len" := by rfl) (he : starEach [a] X.env = (false, eval a X.env) :: starEach [] X.env := by rfl) (hpl : (backTo pos (starEach [] X.env)).any (·.1) = false := by rfl) :
    WE X (.Call (.Name "len" p) [a] [] pos) Γ Ψ := we_callB (wl := rLenD) call_lenDR hg B.len PySem.boot_len (wa_cons (h.mono fun r Γ1 ⟨ks, e, hq⟩ => wa_nil ⟨_, by rw [e]; exact (rd_lenD .da).opl, hq⟩) he) (he := he) (hpl := hpl)
/-- xs.pop() of numbers -/
theorem xe_popN (i : Nat) {l : List Nat} {c : Nat} (hx : Γ[i]? = some (some (.ll (ilist (l ++ [c])))) := by rfl) (hN : X.N[i]? = some nm := by rfl)
    (hvs : Vis X.env.scope nm := by first | exact Or.inl rfl | exact Or.inr (Or.inl rfl) | exact Or.inr (Or.inr rfl)) (h1 : (nm == ("__debug__" : Str)) = false := by decide) (h2 : (nm == ("__classdict__" : Str)) = false := by decide)
    (hbase : attributeBase (.Name nm p) "pop" X.env (eval (.Name nm p) X.env) = eval (.Name nm p) X.env := by rfl) (hline : (apos.endLine == cpos.line) = true := by rfl) : XE X (.Call (.Attribute (.Name nm p) "pop" apos) [] [] cpos) Γ (.da (.int (c : Nat))) (Γ.set i (some (.ll (ilist l)))) := fun Ψ hq => by
  have e : ilist (l ++ [c]) = ilist l ++ [.int (c : Nat)] := by
    show List.map _ _ = _
    rw [List.map_append]
    rfl
  rw [e] at hx
  refine we_pop i (mk := .ll) (by simp) ?_ hx .ll hN hvs h1 h2 hbase hline
  rw [List.getLast_concat, List.dropLast_concat]
  exact hq
/-- all([..]), any([..]) -/
theorem xe_allM {α : Type} (f : α → Bool) (xs : List α) (B : Blt X.mg) (hc : X.calm = true) (ha : XE X a Γ (.ll (xs.map fun x => .bool (f x))) Γ1) (hg : Gl X "all" := by rfl) (he : starEach [a] X.env = (false, eval a X.env) :: starEach [] X.env := by rfl) (hpl : (backTo pos (starEach [] X.env)).any (·.1) = false := by rfl) :
    XE X (.Call (.Name "all" p) [a] [] pos) Γ (.da (.bool (xs.all f))) Γ1 := by
  have e : (xs.map fun x => PyData.bool (f x)) = (xs.map f).map PyData.bool := by rw [List.map_map]; rfl
  rw [e] at ha
  have q := xe_all (p := p) (pos := pos) B hc (xe_frz ha) hg he hpl
  rw [List.all_map] at q
  exact q
theorem xe_anyM {α : Type} (f : α → Bool) (xs : List α) (B : Blt X.mg) (hc : X.calm = true) (ha : XE X a Γ (.ll (xs.map fun x => .bool (f x))) Γ1) (hg : Gl X "any" := by rfl) (he : starEach [a] X.env = (false, eval a X.env) :: starEach [] X.env := by rfl) (hpl : (backTo pos (starEach [] X.env)).any (·.1) = false := by rfl) :
    XE X (.Call (.Name "any" p) [a] [] pos) Γ (.da (.bool (xs.any f))) Γ1 := by
  have e : (xs.map fun x => PyData.bool (f x)) = (xs.map f).map PyData.bool := by rw [List.map_map]; rfl
  rw [e] at ha
  have q := xe_any (p := p) (pos := pos) B hc (xe_frz ha) hg he hpl
  rw [List.any_map] at q
  exact q
/-- i in xs of numbers -/
theorem plain_ints {xs : List Int} : PyData.plainAll (xs.map PyData.int) = true := plainAll_map fun x _ => rfl
theorem xt_inI (i : Nat) {xs : List Int} {j : Int} {d' : PyData} (fx : Fr X k) (hb : XE X b Γ (.da (.int j)) Γ1) (hx : Γ1[i]? = some (some x) := by rfl) (hv : SV x d' := by first | exact .da | exact .ll | exact .pin) (hd' : d' = .list (xs.map .int) ∨ d' = .tuple (xs.map .int) := by first | exact .inl rfl | exact .inr rfl) (hm : behindInMarks .In (.Name nm p) = false := by rfl)
    (hN : X.N[i]? = some nm := by rfl) (hvs : Vis X.env.scope nm := by first | exact Or.inl rfl | exact Or.inr (Or.inl rfl) | exact Or.inr (Or.inr rfl)) (h1 : (nm == ("__debug__" : Str)) = false := by decide) (h2 : (nm == ("__classdict__" : Str)) = false := by decide) :
    XT X (.Compare b [.In] [.Name nm p] pos) Γ (decide (j ∈ xs)) Γ1 := xt_cast (xt_inS i fx.u70 hb rfl plain_ints (Nat.zero_le _) hx hv hd' hm hN hvs h1 h2) any_int
theorem xt_notInI (i : Nat) {xs : List Int} {j : Int} {d' : PyData} (fx : Fr X k) (hb : XE X b Γ (.da (.int j)) Γ1) (hx : Γ1[i]? = some (some x) := by rfl) (hv : SV x d' := by first | exact .da | exact .ll | exact .pin) (hd' : d' = .list (xs.map .int) ∨ d' = .tuple (xs.map .int) := by first | exact .inl rfl | exact .inr rfl) (hm : behindInMarks .NotIn (.Name nm p) = false := by rfl)
    (hN : X.N[i]? = some nm := by rfl) (hvs : Vis X.env.scope nm := by first | exact Or.inl rfl | exact Or.inr (Or.inl rfl) | exact Or.inr (Or.inr rfl)) (h1 : (nm == ("__debug__" : Str)) = false := by decide) (h2 : (nm == ("__classdict__" : Str)) = false := by decide) :
    XT X (.Compare b [.NotIn] [.Name nm p] pos) Γ (!decide (j ∈ xs)) Γ1 := xt_cast (xt_notInS i fx.u70 hb rfl plain_ints (Nat.zero_le _) hx hv hd' hm hN hvs h1 h2) (by rw [any_int])
theorem xe_inI (i : Nat) {xs : List Int} {j : Int} {d' : PyData} (fx : Fr X k) (hb : XE X b Γ (.da (.int j)) Γ1) (hx : Γ1[i]? = some (some x) := by rfl) (hv : SV x d' := by first | exact .da | exact .ll | exact .pin) (hd' : d' = .list (xs.map .int) ∨ d' = .tuple (xs.map .int) := by first | exact .inl rfl | exact .inr rfl) (hm : behindInMarks .In (.Name nm p) = false := by rfl)
    (hN : X.N[i]? = some nm := by rfl) (hvs : Vis X.env.scope nm := by first | exact Or.inl rfl | exact Or.inr (Or.inl rfl) | exact Or.inr (Or.inr rfl)) (h1 : (nm == ("__debug__" : Str)) = false := by decide) (h2 : (nm == ("__classdict__" : Str)) = false := by decide) :
    XE X (.Compare b [.In] [.Name nm p] pos) Γ (.da (.bool (decide (j ∈ xs)))) Γ1 := xe_castD (xe_inS i fx.u70 hb rfl plain_ints (Nat.zero_le _) hx hv hd' hm hN hvs h1 h2) (by rw [any_int])
end
end TL

/-! TL25: list(reversed(xs)). -/
namespace TL
open PySem PySem.Spec PyProof.Rows L2 PySem.Calls
section
variable {prog : Program} {w : World} {A : Around} {E : Value → Shared → Prop} {s : Shared}
/-- the list at c takes all that the reversed iterator at it gives -/
theorem rev_extend {R : Result → Shared → Prop} {it l c : Addr} {xs : Array Value} {n0 : Nat} (hh : A.handled = none) (ri : s.heap.IsRevIter it l ((xs.size : Int) - 1)) (li : s.heap.IsList l xs) (ne : l ≠ it) (hz : xs.size ≤ sizeLine)
    (hc : s.heap.get? c = some { cls := .type "list", data := .seq #[] n0 }) (ci : c ≠ it) (cl : c ≠ l) (res : Value)
    (k : ∀ (h' : Heap) (tk : Nat) (acc : Array Value) (n1 : Nat), (∀ b o, b ≠ it → b ≠ c → s.heap.get? b = some o → h'.get? b = some o) → h'.get? c = some { cls := .type "list", dict := none, data := .seq acc n1, slots := #[] } → ItemsOf (fun i v => xs[xs.size - 1 - i]? = some v) acc xs.size → R (.ok (.ret res)) { s with heap := h', toks := tk }) :
    wpAny (model prog w) A.in1 (Builtin.List.listExtendWith (.ref c) (.ref it) res) (fun fin s' => match fin with | .done f => R (.ok f) s' | .again c' => c'.quiet = true ∧ codeAny (model prog w) A c' R s') (fun e s' => R (.error e) s') s := by
  have walk := (Walks.listRev (prog := prog) (w := w) (A := A.in1) hh it l ne xs).toS
  have cin : c ∉ [it, l] := by
    intro q
    simp only [List.mem_cons, List.not_mem_nil, or_false] at q
    exact q.elim ci cl
  have ty : s.TypeIs (.ref it) "list_reverseiterator" := ri.typeIs
  have other : Builtin.List.listSameRef (.ref c) (.ref it) = false := by
    simp [Builtin.List.listSameRef, ci]
  unfold Builtin.List.listExtendWith
  refine wpAny_bind (wpAny_typeOf ty ?_)
  rw [if_neg (by rw [other]; decide)]
  refine wpAny_bind (wpAny_pyIter_revIter ri (wpAny_bind (wpAny_holding ?_)))
  unfold Builtin.List.listLengthHint
  refine wpAny_bind (wpAny_specialOf ty RT.nolen_lri ?_)
  show wpAny _ A.in1 (specialOf (Value.ref it) (Str.ofString "__length_hint__") >>= fun _ => _) _ _ _
  refine wpAny_bind (wpAny_specialOf ty RT.hint_lri ?_)
  generalize nm : ("list_reverseiterator.__length_hint__" : String) = idn
  wp_delta
  have sp : splitId idn = some ("list_reverseiterator", "__length_hint__") := by
    rw [← nm]
    decide +kernel
  rw [sp]
  clear sp
  subst nm
  refine wpAny_bind (wpAny_isInstance (b := true) ty (by rw [isSubtype_type]; kernel_rfl) (wpAny_pure ?_))
  rw [if_neg (by decide)]
  have z0 : ((xs.size : Nat) : Int) - 1 - ((0 : Nat) : Int) = (xs.size : Int) - 1 := by omega
  have run := codeAny_extend_loopS (R := R) walk hz c cin res xs.size 0 s #[] n0 rfl (Nat.zero_le _) ⟨Nat.zero_le _, by rw [z0]; exact ri, li⟩ hc (ItemsOf.nil _) fun s' acc n1 mv hs ia => ?_
  · exact wpAny_pure ⟨plainId_quiet PySem.F.plain_extend_loop _, run⟩
  · rw [Moved.eq_with mv]
    refine k s'.heap s'.toks acc n1 (fun b o h1 h2 e => mv.heap b o (fun q => ?_) e) hs ia
    rcases List.mem_cons.mp q with q | q
    · exact h2 q
    · exact h1 (List.mem_singleton.mp q)
/-- list(it) -/
theorem rev_list {it l : Addr} {xs : Array Value} {Q : Value → Shared → Prop} (hh : A.handled = none) (ri : s.heap.IsRevIter it l ((xs.size : Int) - 1)) (li : s.heap.IsList l xs) (ne : l ≠ it) (hz : xs.size ≤ sizeLine)
    (k : ∀ (h' : Heap) (tk : Nat) (acc : Array Value) (n1 : Nat), (∀ b o, b ≠ it → s.heap.get? b = some o → h'.get? b = some o) → h'.get? s.heap.objs.size = some { cls := .type "list", dict := none, data := .seq acc n1, slots := #[] } → ItemsOf (fun i v => xs[xs.size - 1 - i]? = some v) acc xs.size →
      Q (.ref s.heap.objs.size) { s with heap := h', toks := tk }) : wpAny (model prog w) A (call (.type "list") [.ref it]) Q E s := by
  obtain ⟨oi, hoi, _⟩ := id ri
  obtain ⟨ol, hol, _⟩ := id li
  have c1 : s.heap.objs.size ≠ it := Nat.ne_of_gt (Heap.lt_size hoi)
  have c2 : s.heap.objs.size ≠ l := Nat.ne_of_gt (Heap.lt_size hol)
  let nw : Obj := { cls := .type "list", data := .seq #[] }
  refine callType_codes (Q₁ := fun v t => v = .ref s.heap.objs.size ∧ t = { s with heap := s.heap.push nw }) PySem.F.called_list (PySem.F.typeCall_list_1 _) PySem.F.entry_list_init (code_list_new _ ⟨rfl, rfl⟩) ?_
  rintro v t ⟨rfl, rfl⟩
  have at0 : (s.heap.push nw).get? s.heap.objs.size = some nw := Heap.get?_push_size _ rfl
  refine ⟨⟨_, at0, rfl⟩, PySem.F.args_list_init_2 _ _, ?_⟩
  show wpAny _ _ (do let old ← Builtin.List.listItems (.ref s.heap.objs.size); Builtin.List.listUpdate (.ref s.heap.objs.size) (fun _ => #[]); letGo old.toList.reverse; Builtin.List.listExtendWith (.ref s.heap.objs.size) (.ref it) .none) _ _ _
  let em : Obj → Obj := Obj.mapSeq fun _ => (#[] : Array Value)
  have u : ∀ b o, b ≠ s.heap.objs.size → (s.heap.push nw).get? b = some o → ((s.heap.push nw).update s.heap.objs.size em).get? b = some o := fun b o hb e => (Heap.get?_update_other _ _ (Ne.symm hb)).trans e
  have up : ∀ b o, s.heap.get? b = some o → ((s.heap.push nw).update s.heap.objs.size em).get? b = some o := fun b o e => u b o (Nat.ne_of_lt (Heap.lt_size e)) (Heap.get?_push_of_some _ e)
  unfold Builtin.List.listItems
  refine wpAny_bind (wpAny_bind (wpAny_seqItems at0 rfl (wpAny_pure ?_)))
  show wpAny _ _ (updateSeq s.heap.objs.size (fun _ => #[]) >>= fun _ => letGo (#[] : Array Value).toList.reverse >>= fun _ => Builtin.List.listExtendWith _ _ .none) _ _ _
  refine wpAny_bind (wpAny_updateSeq at0 rfl (wpAny_bind (wpAny_letGo ?_)))
  have at1 := Heap.get?_update_self em at0 rfl
  refine rev_extend (A := A.in1) (s := { s with heap := (s.heap.push nw).update s.heap.objs.size em }) hh (ri.at fun o e => up _ _ e) ?_ ne hz at1 c1 c2 .none fun h' tk acc n1 kp hs ia => ⟨rfl, k h' tk acc n1 (fun b o hb e => ?_) hs ia⟩
  · obtain ⟨o, e, r⟩ := li
    exact ⟨o, up _ _ e, r⟩
  · exact kp b o hb (Nat.ne_of_lt (Heap.lt_size e)) (up b o e)
end
section
variable {X : Cx} {e : Expr} {Γ Γ1 : Sl} {p p2 pos cpos : Pos} {n2 : Str} {ds : List PyData} {x : OD}
theorem pe_listRev {te : TE} (hc : X.calm = true) (hg : Gl X "list") (hm : X.mg "list" = none) (hg2 : Gl X "reversed") (hm2 : X.mg "reversed" = none) (he : PE X e te) (hs : starEach [e] X.env = (false, eval e X.env) :: starEach [] X.env := by rfl)
    (hs2 : starEach [.Call (.Name "reversed" p2) [e] [] cpos] X.env = (false, eval (.Call (.Name "reversed" p2) [e] [] cpos) X.env) :: starEach [] X.env := by rfl) :
    PE X (.Call (.Name "list" p) [.Call (.Name "reversed" p2) [e] [] cpos] [] pos) (fun σ H Q => te σ H fun v H1 => ∃ (a : Addr) (xs : List V), v = .ref a ∧ SqL X.K H1 a xs ∧ ∀ q, H1 q = none → Q (.ref q) (upd H1 q (.lst xs.reverse))) := by
  refine ⟨fun pins s σ H Q I h => Call_ (ld_blt I hg hm boot_list (PyProof.Rows.callWith_type1 (args_cons (Call_ (ld_blt I hg2 hm2 PyProof.Rows.boot_reversed (PyProof.Rows.callWith_type1 (args_cons (thn (he.run pins s σ H _ I h) ?_) hs) hs rfl))) hs2) hs2 rfl))⟩
  rintro u s1 ⟨v, H1, I1, rv, a, xs, rfl, hq, q⟩
  cases rv
  refine args_nil ?_
  obtain ⟨its, rvs, pl, hz⟩ := I1.list hq
  refine call_reversed_list pl.isList (args_nil ?_)
  let ro : Obj := revObj a ((its.toArray.size : Int) - 1)
  have I2 : Inv X pins σ H1 { s1 with heap := s1.heap.push ro } := I1.kept (t' := s1.toks) fun b o e => Heap.get?_push_of_some _ e
  have free := I1.fpOk (H' := H1) (b := s1.heap.objs.size) (Nat.le_refl _) (I1.hok.fresh (Nat.le_refl _))
  obtain ⟨f0, f1, f2, f3, f4, f5⟩ := free
  have li := pl.isList
  obtain ⟨ol, hol, _⟩ := id li
  have hsz : its.toArray.size ≤ sizeLine := by rw [List.size_toArray, ← rvs.length]; exact hz
  refine rev_list (s := { s1 with heap := s1.heap.push ro }) (I1.ok.hd hc) ⟨_, Heap.get?_push_size _ rfl, rfl, rfl⟩ (li.push _) (Nat.ne_of_lt (Heap.lt_size hol)) hsz fun h' tk acc n1 kp hs' ia => ?_
  have hfr : H1 (s1.heap.push ro).objs.size = none := I2.hok.fresh (Nat.le_refl _)
  have nit : ∀ b u, H1 b = some u → b ≠ s1.heap.objs.size := fun b u e => ne_of_none e f0
  have old : ∀ b u, H1 b = some u → upd H1 (s1.heap.push ro).objs.size (.lst xs.reverse) b = some u := fun b u e => by
    rw [upd_ne (ne_of_none e hfr)]
    exact e
  have notit : ∀ b, b ∉ [s1.heap.objs.size] → b ≠ s1.heap.objs.size := fun b q z => q (by simp [z])
  refine ⟨.ref (s1.heap.push ro).objs.size, upd H1 (s1.heap.push ro).objs.size (.lst xs.reverse), I2.call' (s' := { s1 with heap := h', toks := tk }) (ch := [s1.heap.objs.size]) rfl ?_ ?_ I2.bare ?_, rfl, q _ hfr⟩
  · constructor
    · exact fun b o e _ _ hc => kp b o (notit b hc) e
    · exact fun b o e _ _ hc => ⟨o.slots, kp b o (notit b hc) e⟩
    · exact fun b o e n _ => by rw [upd_ne (Nat.ne_of_lt (Heap.lt_size e))]; exact n
    · exact fun b o e hc => ⟨o, kp b o (notit b hc) e⟩
    · exact fun b ys e => old b _ e
    · exact fun b o u e => old b _ e
    · exact fun b ps e => ⟨#[], by rw [old b _ e]; simp⟩
  · intro b u e
    by_cases hb : b = (s1.heap.push ro).objs.size
    · subst hb
      rw [upd_same] at e
      cases e
      exact ⟨by rw [List.length_reverse]; exact hz, acc.toList, n1, RT.vals_rev rvs ia, by rw [Array.toArray_toList]; exact hs'⟩
    · rw [upd_ne hb] at e
      refine (I2.hok b u e).stay (fun c v hc y => kp c v ?_ y) (fun c y => old c _ y) fun c ys y => old c _ y
      rcases hc with rfl | hc
      · exact nit _ _ e
      · exact nit _ _ hc
  · intro b hb
    have : b = s1.heap.objs.size := by simpa using hb
    subst this
    exact ⟨f3, f1, f4, f5⟩
/-- list(reversed(xs)), xs a list in a slot -/
theorem xe_listRevS (i : Nat) (B : Blt X.mg) (hc : X.calm = true) (hx : Γ[i]? = some (some x) := by rfl) (hv : SV x (.list ds) := by first | exact .da | exact .ll | exact .pin) (hg : Gl X "list" := by rfl) (hg2 : Gl X "reversed" := by rfl)
    (hN : X.N[i]? = some n2 := by rfl) (hvs : Vis X.env.scope n2 := by first | exact Or.inl rfl | exact Or.inr (Or.inl rfl) | exact Or.inr (Or.inr rfl)) (h1 : (n2 == ("__debug__" : Str)) = false := by decide) (h2 : (n2 == ("__classdict__" : Str)) = false := by decide) {p3 : Pos}
    (hs : starEach [.Name n2 p3] X.env = (false, eval (.Name n2 p3) X.env) :: starEach [] X.env := by rfl)
    (hs2 : starEach [.Call (.Name "reversed" p2) [.Name n2 p3] [] cpos] X.env = (false, eval (.Call (.Name "reversed" p2) [.Name n2 p3] [] cpos) X.env) :: starEach [] X.env := by rfl) :
    XE X (.Call (.Name "list" p) [.Call (.Name "reversed" p2) [.Name n2 p3] [] cpos] [] pos) Γ (.ll ds.reverse) Γ := fun Ψ hq I H σ F en Q k => by
  obtain ⟨v, B', e1, o⟩ := en.see hx
  obtain ⟨a, vs, rfl, q, r⟩ := hv.seq (.inl rfl) o en.sub
  rcases q with ⟨_, q⟩ | ⟨q, _⟩
  · refine ⟨_, pe_listRev hc hg B.list hg2 B.reversed (pe_var hN hvs h1 h2) hs hs2, _, e1, a, vs, rfl, q, fun p hp => ?_⟩
    obtain ⟨en3, st3⟩ := en.use (B := []) (by simpa using en.nd) (step_new (F := []) hp) (Own.ll upd_same (en.sub.free hp) r.rev) (by simp) (upd_sub en.sub hp)
    exact k _ _ I _ _ _ hq st3 en3
  · cases q
end
end TL

/-! TL26: a comprehension whose test may answer either way. -/
namespace TL
open PySem PySem.Spec PyProof.Rows L2
section
variable {α : Type} {X : Cx} {c elt tg it : Expr} {Γ : Sl} {Ψ : OD → Sl → Prop} {pos : Pos} {scope : Scope} {k : Nat} (own : List (Str × Nat)) (u : α → Sl → Sl) (xs : List α) (E f : α → PyData)
theorem lc_anyF {R : α → OD} (hi : XI X tg it Γ (xs.map E) Γ) (hsz : xs.length ≤ sizeLine) (hg : ∀ x ∈ xs, GB X scope own tg (E x) Γ (u x Γ)) (ht : ∀ x ∈ xs, ∀ s H C cl fp, WT (Blk X scope s H C cl fp) c (u x Γ) fun _ Γ' => Γ' = u x Γ) (he : ∀ x ∈ xs, XB X scope elt (u x Γ) (R x) (u x Γ)) (hf : ∀ x, Frz (R x) (f x))
    (hd3 : ∀ x, dropΓ (own.map (·.2)) (u x Γ) = Γ) (hd : dropΓ (own.map (·.2)) Γ = Γ) (hq : ∀ bs : List α, bs.Sublist xs → Ψ (.ll (bs.map f)) Γ) :
    LcWI X scope own tg it elt [c] Γ (fun ds n Γ' acc => ds = xs.map E ∧ Γ' = Γ ∧ ∃ bs : List α, acc = bs.map f ∧ bs.Sublist (xs.take n)) Ψ := by
  refine hi _ ⟨by rw [List.length_map]; exact hsz, ⟨rfl, hd, [], rfl, List.nil_sublist _⟩, ?_, ?_⟩
  · rintro n d _ _ hn ⟨_, rfl, bs, rfl, hs⟩
    rw [List.getElem?_map] at hn
    obtain ⟨x, hx, rfl⟩ := Option.map_eq_some_iff.mp hn
    have hm := List.mem_of_getElem? hx
    have e : xs.take (n + 1) = xs.take n ++ [x] := by rw [List.take_add_one, hx]; rfl
    refine ⟨u x _, hg x hm, fun _ Γ4 => Γ4 = u x _, fun s H C cl fp => wts_one (ht x hm s H C cl fp), ?_⟩
    rintro k Γ4 rfl
    refine ⟨fun _ s H C cl fp => he x hm s H C cl fp _ ⟨f x, hf x, rfl, hd3 x, bs ++ [x], by simp, ?_⟩, fun _ => ⟨rfl, hd3 x, bs, rfl, ?_⟩⟩
    · rw [e]
      exact hs.append (List.Sublist.refl _)
    · rw [e]
      exact hs.trans (List.sublist_append_left _ _)
  · rintro _ _ ⟨_, rfl, bs, rfl, hs⟩
    rw [hd]
    rw [List.length_map, List.take_length] at hs
    exact hq bs hs
theorem we_lcAF (fx : Fr X k) {R : α → OD} (hi : XI X tg it Γ (xs.map E) Γ) (hsz : xs.length ≤ sizeLine) (hg : ∀ x ∈ xs, GB X scope own tg (E x) Γ (u x Γ)) (ht : ∀ x ∈ xs, ∀ s H C cl fp, WT (Blk X scope s H C cl fp) c (u x Γ) fun _ Γ' => Γ' = u x Γ) (he : ∀ x ∈ xs, XB X scope elt (u x Γ) (R x) (u x Γ))
    (hq : ∀ bs : List α, bs.Sublist xs → Ψ (.ll (bs.map f)) Γ) (hf : ∀ x, Frz (R x) (f x) := by intro x; first | exact .da | exact .ll)
    (hd3 : ∀ x, dropΓ (own.map (·.2)) (u x Γ) = Γ := by intro x; rfl) (hd : dropΓ (own.map (·.2)) Γ = Γ := by rfl) (ok : blkC X.N X.env.scope scope own = true := by rfl) (hs : ∀ x, foldedSetIterable it X.env x = pure x := by intro _; rfl) : WE X (.ListComp elt [⟨tg, it, [c], 0⟩] scope pos) Γ Ψ :=
  we_lc own _ fx.calm fx.nd (lc_anyF own u xs E f hi hsz hg ht he hf hd3 hd hq) ok hs
end
end TL

/-! TL27: dicts whose keys are tuples: read, written, locked, walked. -/
namespace TL
open PySem PySem.Spec PyProof.Rows L2

abbrev NL := List (NestedKey × PyData)
structure KOk (k : NestedKey) : Prop where
  tup : ∃ l, k = .tup l
  d8 : k.depth ≤ 8
def KsOk (ks : NL) : Prop := ∀ q ∈ ks, KOk q.1
def dnD (ks : NL) : PyData := .dict (ks.map fun p => (p.1.data, p.2))
mutual
theorem nkd_inj : ∀ {a b : NestedKey}, a.data = b.data → a = b
  | .none, .none, _ => rfl
  | .num i, .num j, h => by
    unfold NestedKey.data at h
    injection h with h
    rw [h]
  | .text i, .text j, h => by
    unfold NestedKey.data at h
    injection h with h
    rw [h]
  | .tup l, .tup m, h => by
    unfold NestedKey.data at h
    injection h with h
    rw [nkds_inj h]
  | .none, .num _, h => by unfold NestedKey.data at h; cases h
  | .none, .text _, h => by unfold NestedKey.data at h; cases h
  | .none, .tup _, h => by unfold NestedKey.data at h; cases h
  | .num _, .none, h => by unfold NestedKey.data at h; cases h
  | .num _, .text _, h => by unfold NestedKey.data at h; cases h
  | .num _, .tup _, h => by unfold NestedKey.data at h; cases h
  | .text _, .none, h => by unfold NestedKey.data at h; cases h
  | .text _, .num _, h => by unfold NestedKey.data at h; cases h
  | .text _, .tup _, h => by unfold NestedKey.data at h; cases h
  | .tup _, .none, h => by unfold NestedKey.data at h; cases h
  | .tup _, .num _, h => by unfold NestedKey.data at h; cases h
  | .tup _, .text _, h => by unfold NestedKey.data at h; cases h
theorem nkds_inj : ∀ {a b : List NestedKey}, NestedKey.datas a = NestedKey.datas b → a = b
  | [], [], _ => rfl
  | x :: xs, y :: ys, h => by
    unfold NestedKey.datas at h
    injection h with h1 h2
    rw [nkd_inj h1, nkds_inj h2]
  | [], _ :: _, h => by unfold NestedKey.datas at h; cases h
  | _ :: _, [], h => by unfold NestedKey.datas at h; cases h
end
theorem nkd_tup {l : List NestedKey} : (NestedKey.tup l).data = .tuple (NestedKey.datas l) := by
  conv => lhs; unfold NestedKey.data
theorem KOk.simple {k : NestedKey} (h : KOk k) (j : Key) : k.data ≠ keyD j := by
  obtain ⟨l, rfl⟩ := h.tup
  rw [nkd_tup]
  cases j <;> simp [keyD]
theorem KOk.ref {T : TC} {I : Hp} {v : V} {k : NestedKey} (h : KOk k) (r : Rp T I v k.data) : ∃ a, v = .ref a := by
  obtain ⟨l, rfl⟩ := h.tup
  rw [nkd_tup] at r
  cases r with
  | tup _ _ => exact ⟨_, rfl⟩

/-! ### the cell -/
def NRd (T : TC) (H : Hp) (p : Addr) (kvs : NKV) : Prop := H p = some (DN T p kvs) ∨ (∃ ob, H p = some (.frz ob (DN T p kvs))) ∨ (kvs = [] ∧ ∃ ob, H p = some (.frz ob (.dK [])))
structure NAt (T : TC) (I H : Hp) (p : Addr) (kvs : NKV) (ks : NL) : Prop where
  at_ : NRd T H p kvs
  keys : kvs.map Prod.fst = ks.map Prod.fst
  krp : RpL T I (kvs.map fun p => V.ref p.2.1) (ks.map fun q => q.1.data)
  vrp : RpL T I (kvs.map fun p => p.2.2) (ks.map Prod.snd)
theorem DmAt.nat {T : TC} {I H : Hp} {p : Addr} {kvs : NKV} {ks : NL} (d : DmAt T I H p kvs ks) : NAt T I H p kvs ks := ⟨.inl d.at_, d.keys, d.krp, d.vrp⟩
theorem NAt.len {T : TC} {I H : Hp} {p : Addr} {kvs : NKV} {ks : NL} (d : NAt T I H p kvs ks) : kvs.length = ks.length := by
  have := congrArg List.length d.keys
  rwa [List.length_map, List.length_map] at this
section
variable {X : Cx} {pins : List (Addr × Obj)} {σ : L2.St} {I H : Hp} {s : Shared} {p : Addr} {kvs : NKV} {ks : NL}
theorem dn_ok (J : Inv X pins σ H s) (d : NRd X.tc H p kvs) : DnOk X.tc p kvs s.heap := by
  rcases d with h | ⟨ob, h⟩ | ⟨rfl, ob, h⟩
  · exact (J.hok p _ h).1
  · exact (J.hok p _ h).2.1
  · obtain ⟨hg, z, hd, vs, kv, o', es, ep, ho, hx, hdt, r⟩ := J.hok p _ h
    have hv : vs = [] := by
      have l2 : ([] : List (Key × V)).length = vs.length := Paired.length kv
      exact List.eq_nil_of_length_eq_zero l2.symm
    subst hv
    have l1 := r.2.1.length
    exact ⟨z, hd, [], .nil, o', es, ep, ho, hx, hdt, List.eq_nil_of_length_eq_zero l1, List.nodup_nil⟩
theorem dn_heap (J : Inv X pins σ H s) (d : NAt X.tc I H p kvs ks) (sub : Same I H) (h8 : KsOk ks) :
    kvs.length ≤ sizeLine ∧ (p == sysModules) = false ∧ ∃ xs, Paired NPair kvs xs ∧ s.heap.DictOfH (nestedKind X.prog X.w) p xs := by
  obtain ⟨z, hd, xs, r, o, es, ep, g1, g2, g3, g4, g5⟩ := dn_ok J d.at_
  refine ⟨z, hd, xs, r, o, es, ep, g1, g2, g3, g4, fun x hx => ?_, g5⟩
  obtain ⟨j, hj⟩ := List.mem_iff_getElem?.mp hx
  have hlen : kvs.length = xs.length := Paired.length r
  obtain ⟨hjl, _⟩ := List.getElem?_eq_some_iff.mp hj
  have hk : kvs[j]? = some (kvs[j]'(by omega)) := List.getElem?_eq_getElem (by omega)
  obtain ⟨y, hy, np⟩ := LiI.paired_get r hk
  rw [hj] at hy
  cases hy
  have e1 : (kvs.map Prod.fst)[j]? = some (kvs[j]'(by omega)).1 := by rw [List.getElem?_map, hk]; rfl
  rw [d.keys, List.getElem?_map] at e1
  obtain ⟨q, hq, hq1⟩ := Option.map_eq_some_iff.mp e1
  obtain ⟨v, hv, rv⟩ := d.krp.get (i := j) (d := q.1.data) (by rw [List.getElem?_map, hq]; rfl)
  rw [List.getElem?_map, hk] at hv
  cases hv
  refine ⟨?_, ?_⟩
  · rw [← np.1, ← hq1, ← np.2.1]
    exact nested_is J q.1 (rv.mono sub) rfl
  · rw [← np.1, ← hq1]
    exact (h8 q (List.mem_of_getElem? hq)).d8
end

/-! ### views -/
inductive VN : OD → NL → Prop
  | dm {ks : NL} : VN (.dm ks) ks
  | pin {v : V} {ks : NL} : VN (.pin v (.dm ks)) ks
  | da {ks : NL} : VN (.da (dnD ks)) ks
section
variable {T : TC} {I H : Hp} {v : V} {x : OD} {B : List Addr} {ks : NL} {k : NestedKey}
theorem rp_dnD (hk : KsOk ks) (h : Rp T I v (dnD ks)) : ∃ p kvs, v = .ref p ∧ NRd T I p kvs ∧ (∀ H, Same I H → NAt T I H p kvs ks) := by
  unfold dnD at h
  cases h with
  | @dk a ob kvs _ h k r =>
    have hn : ks = [] := by
      cases ks with
      | nil => rfl
      | cons q ks =>
        cases kvs with
        | nil => simp at k
        | cons p kvs =>
          simp only [List.map_cons, List.cons.injEq] at k
          exact absurd k.1 ((hk q List.mem_cons_self).simple p.1)
    subst hn
    have hv : kvs = [] := by
      have := congrArg List.length k
      simpa using this.symm
    subst hv
    exact ⟨a, [], rfl, .inr (.inr ⟨rfl, ob, h⟩), fun H s => ⟨.inr (.inr ⟨rfl, ob, s _ _ h⟩), rfl, .nil, .nil⟩⟩
  | @dn a ob kvs _ h k r s n =>
    refine ⟨a, kvs, rfl, .inr (.inl ⟨ob, h⟩), fun H sub => ⟨.inr (.inl ⟨ob, sub _ _ h⟩), ?_, ?_, ?_⟩⟩
    · refine map_inj (f := NestedKey.data) (fun _ _ => nkd_inj) ?_
      rw [List.map_map, List.map_map]
      rw [List.map_map] at k
      exact k.symm
    · rw [List.map_map] at r
      exact r
    · rw [List.map_map] at s
      exact s
theorem VN.rd (h : VN x ks) (hk : KsOk ks) (o : Own T I H v x B) (s : Same I H) : ∃ p kvs, v = .ref p ∧ NAt T I H p kvs ks := by
  cases h with
  | dm => cases o with
    | dm h1 h2 h3 h4 h5 => exact ⟨_, _, rfl, .inl h1, h3, h4, h5⟩
  | pin => cases o with
    | pin o => cases o with
      | dm h1 h2 h3 h4 h5 => exact ⟨_, _, rfl, .inl h1, h3, h4, h5⟩
  | da => cases o with
    | da o =>
      obtain ⟨p, kvs, e, _, q⟩ := rp_dnD hk o
      exact ⟨p, kvs, e, q H s⟩
theorem at_some {kvs : NKV} {xs : List (NestedKey × Addr × Value)} (r : Paired NPair kvs xs) (d : False ∨ (kvs.map Prod.fst = ks.map Prod.fst ∧ RpL T I (kvs.map fun p => p.2.2) (ks.map Prod.snd))) : (atKey xs k).isSome = (kget ks k).isSome := by
  have q : kvs.map Prod.fst = ks.map Prod.fst ∧ RpL T I (kvs.map fun p => p.2.2) (ks.map Prod.snd) := d.elim False.elim id
  obtain ⟨w1, w2⟩ := dm_get (k := k) r q.1 q.2
  cases e : kget ks k with
  | none => rw [w2 e]; rfl
  | some d =>
    obtain ⟨_, _, e2, _⟩ := w1 d e
    rw [e2]
    rfl
end

/-! ### reading -/
def rNG (T : TC) : R2 := fun x y H Q => ∃ I p kvs ks k d, x = .ref p ∧ Same I H ∧ NAt T I H p kvs ks ∧ KsOk ks ∧ Rp T I y (NestedKey.data k) ∧ KOk k ∧ kget ks k = some d ∧ ∀ v, Rp T I v d → Q v H
def rNIn (T : TC) (neg : Bool) : R2 := fun y x H Q => ∃ I p kvs ks k, x = .ref p ∧ Same I H ∧ NAt T I H p kvs ks ∧ KsOk ks ∧ Rp T I y (NestedKey.data k) ∧ KOk k ∧ Q (.bl (neg != (kget ks k).isSome)) H
section
variable {X : Cx} {e a b c o it tg i : Expr} {es elts : List Expr} {ss rest : List Stmt} {Γ Γ' Γ1 Γ2 Γ3 : Sl} {Ψ : OD → Sl → Prop} {Φ : Out → Prop} {pos p apos cpos p2 tpos : Pos} {r x y z : OD} {nm n2 : Str} {ds es' : List PyData} {d d' g : PyData} {kk : Nat} {ks : NL} {mk : NL → OD} {k : NestedKey}
theorem pe_nget {td ty : TE} (hu : X.A.units + 16 < cLine) (ho : PE X o td) (hi : PE X i ty) (hs : NoSl i) : PE X (.Subscript o i pos) (tOp (rNG X.tc) td ty) := ⟨fun pins s σ H Q I h => subD_of PySem.F.slot_dict_getitem.lookup hs (thn (ho.run pins s σ H _ I h) fun u s1 ⟨x, H1, I1, rx, q1⟩ => thn (hi.run pins s1 σ H1 _ I1 q1) fun iv s2 ⟨y, H2, I2, ry, q2⟩ => by
  obtain ⟨I0, p, kvs, ks, k, d, rfl, sub, at_, ko, hk, kk, hd, q⟩ := q2
  obtain ⟨a, rfl⟩ := kk.ref hk
  cases rx
  cases ry
  obtain ⟨z, hd', xs, rp, dd⟩ := dn_heap I2 at_ sub ko
  obtain ⟨v, pr, e2, rv, hv⟩ := (dm_get (k := k) rp at_.keys at_.vrp).1 d hd
  exact ⟨dd.typeIs, wpAny_getItem_heap (knd := nestedKind X.prog X.w) (show X.A.units + 1 + 8 < cLine by omega) ⟨nested_is I2 k (hk.mono sub) rfl, kk.d8⟩ dd e2 ⟨v, H2, I2.tok _, rv, q v hv⟩⟩)⟩
theorem op_nin (hu : X.A.units + 16 < cLine) : OpR X (compareOp .In) (rNIn X.tc false) := by
  rintro pins s σ H y x iv u Q I ry rx ⟨I0, p, kvs, ks, k, rfl, sub, at_, ko, hk, kk, q⟩
  obtain ⟨a, rfl⟩ := kk.ref hk
  cases rx
  cases ry
  obtain ⟨z, hd', xs, rp, dd⟩ := dn_heap I at_ sub ko
  have e := at_some (k := k) rp (.inr ⟨at_.keys, at_.vrp⟩)
  exact wpAny_in_heap (knd := nestedKind X.prog X.w) (show X.A.units + 1 + 8 < cLine by omega) ⟨nested_is I k (hk.mono sub) rfl, kk.d8⟩ hd' dd ⟨.bl (kget ks k).isSome, H, I.tok _, by rw [e]; rfl, by simpa using q⟩
theorem op_nnotin (hu : X.A.units + 16 < cLine) : OpR X (compareOp .NotIn) (rNIn X.tc true) := by
  rintro pins s σ H y x iv u Q I ry rx ⟨I0, p, kvs, ks, k, rfl, sub, at_, ko, hk, kk, q⟩
  obtain ⟨a, rfl⟩ := kk.ref hk
  cases rx
  cases ry
  obtain ⟨z, hd', xs, rp, dd⟩ := dn_heap I at_ sub ko
  have e := at_some (k := k) rp (.inr ⟨at_.keys, at_.vrp⟩)
  have e2 : (valueAt (pairsH xs) k).isSome = (kget ks k).isSome := by rw [valueAt_pairsH, Option.isSome_map, e]
  exact notIn_keyed (knd := nestedKind X.prog X.w) (show X.A.units + 1 + 8 < cLine by omega) ⟨nested_is I k (hk.mono sub) rfl, kk.d8⟩ hd' ⟨xs, dd, rfl⟩ ⟨.bl (!(kget ks k).isSome), H, I.tok _, by rw [e2]; rfl, by simpa using q⟩
theorem rd_nget {T : TC} (hv : VN x ks) (ko : KsOk ks) (kk : KOk k) (hk : kget ks k = some d) : Rd2 T (rNG T) x k.data d := fun I H v u B o h s Q kq => by
  obtain ⟨p, kvs, rfl, at_⟩ := hv.rd ko o s
  exact ⟨I, p, kvs, ks, k, d, rfl, s, at_, ko, h, kk, hk, fun v hv => kq v hv⟩
theorem rd_nin {T : TC} {neg : Bool} (hv : VN x ks) (ko : KsOk ks) (kk : KOk k) : Rd2 T (fun v u => rNIn T neg u v) x k.data (.bool (neg != (kget ks k).isSome)) := fun I H v u B o h s Q kq => by
  obtain ⟨p, kvs, rfl, at_⟩ := hv.rd ko o s
  exact ⟨I, p, kvs, ks, k, rfl, s, at_, ko, h, kk, kq _ (.bl _)⟩
/-- d[k], d in the i-th slot -/
theorem xe_ngetS (j : Nat) (hu : X.A.units + 16 < cLine) (ko : KsOk ks) (kk : KOk k) (hb : XE X b Γ (.da k.data) Γ1) (hk : kget ks k = some d) (h0 : OSome Γ[j]? = true := by rfl) (hx : Γ1[j]? = some (some x) := by rfl) (hv : VN x ks := by first | exact .dm | exact .pin | exact .da)
    (hs : NoSl b := by exact fun _ _ => rfl) (hN : X.N[j]? = some nm := by rfl) (hvs : Vis X.env.scope nm := by first | exact Or.inl rfl | exact Or.inr (Or.inl rfl) | exact Or.inr (Or.inr rfl)) (h1 : (nm == ("__debug__" : Str)) = false := by decide) (h2 : (nm == ("__classdict__" : Str)) = false := by decide) :
    XE X (.Subscript (.Name nm p) b pos) Γ (.da d) Γ1 := fun Ψ hq I H σ F en Q kq => ⟨_, pe_nget hu (pe_var hN hvs h1 h2) wpE_ok hs, core_SV (f := rNG X.tc) h0 hb hx (rd_nget hv ko kk hk) en Q fun w I' H' F' hw st en' => kq _ _ I' H' w F' hq st (en'.da hw)⟩
/-- k in d, k not in d, d in the i-th slot -/
theorem xt_ninS (j : Nat) (hu : X.A.units + 16 < cLine) (ko : KsOk ks) (kk : KOk k) (hb : XE X b Γ (.da k.data) Γ1) (hx : Γ1[j]? = some (some x) := by rfl) (hv : VN x ks := by first | exact .dm | exact .pin | exact .da) (hm : behindInMarks .In (.Name nm p) = false := by rfl)
    (hN : X.N[j]? = some nm := by rfl) (hvs : Vis X.env.scope nm := by first | exact Or.inl rfl | exact Or.inr (Or.inl rfl) | exact Or.inr (Or.inr rfl)) (h1 : (nm == ("__debug__" : Str)) = false := by decide) (h2 : (nm == ("__classdict__" : Str)) = false := by decide) :
    XT X (.Compare b [.In] [.Name nm p] pos) Γ (kget ks k).isSome Γ1 := fun Ψ hq I H σ F en Q kq => ⟨_, pt_cmpR (op_nin hu) wpE_ok (pe_var hN hvs h1 h2) hm, core_VS (f := rNIn X.tc false) hb hx (rd_nin hv ko kk) en _ fun w I' H' F' hw st en' => by
      cases hw
      exact ⟨_, rfl, kq _ Γ1 I' H' F' (by simpa using hq) st en'⟩⟩
theorem xe_ninS (j : Nat) (hu : X.A.units + 16 < cLine) (ko : KsOk ks) (kk : KOk k) (hb : XE X b Γ (.da k.data) Γ1) (hx : Γ1[j]? = some (some x) := by rfl) (hv : VN x ks := by first | exact .dm | exact .pin | exact .da) (hm : behindInMarks .In (.Name nm p) = false := by rfl)
    (hN : X.N[j]? = some nm := by rfl) (hvs : Vis X.env.scope nm := by first | exact Or.inl rfl | exact Or.inr (Or.inl rfl) | exact Or.inr (Or.inr rfl)) (h1 : (nm == ("__debug__" : Str)) = false := by decide) (h2 : (nm == ("__classdict__" : Str)) = false := by decide) :
    XE X (.Compare b [.In] [.Name nm p] pos) Γ (.da (.bool (kget ks k).isSome)) Γ1 := fun Ψ hq I H σ F en Q kq => ⟨_, pe_cmpR (op_nin hu) wpE_ok (pe_var hN hvs h1 h2) hm, core_VS (f := rNIn X.tc false) hb hx (rd_nin hv ko kk) en _ fun w I' H' F' hw st en' =>
      kq _ Γ1 I' H' w F' hq st (en'.da (by simpa using hw))⟩
theorem xt_nninS (j : Nat) (hu : X.A.units + 16 < cLine) (ko : KsOk ks) (kk : KOk k) (hb : XE X b Γ (.da k.data) Γ1) (hx : Γ1[j]? = some (some x) := by rfl) (hv : VN x ks := by first | exact .dm | exact .pin | exact .da) (hm : behindInMarks .NotIn (.Name nm p) = false := by rfl)
    (hN : X.N[j]? = some nm := by rfl) (hvs : Vis X.env.scope nm := by first | exact Or.inl rfl | exact Or.inr (Or.inl rfl) | exact Or.inr (Or.inr rfl)) (h1 : (nm == ("__debug__" : Str)) = false := by decide) (h2 : (nm == ("__classdict__" : Str)) = false := by decide) :
    XT X (.Compare b [.NotIn] [.Name nm p] pos) Γ (!(kget ks k).isSome) Γ1 := fun Ψ hq I H σ F en Q kq => ⟨_, pt_cmpR (op_nnotin hu) wpE_ok (pe_var hN hvs h1 h2) hm, core_VS (f := rNIn X.tc true) hb hx (rd_nin hv ko kk) en _ fun w I' H' F' hw st en' => by
      cases hw
      exact ⟨_, rfl, kq _ Γ1 I' H' F' (by simpa using hq) st en'⟩⟩
end
end TL

/-! TL28: dicts whose keys are tuples: stored into, displayed, locked, walked. -/
namespace TL
open PySem PySem.Spec PyProof.Rows L2

def nput (kvs : NKV) (k : NestedKey) (a : Addr) (v : V) : NKV := if (kvs.any fun q => decide (q.1 = k)) = true then kvs.map (fun q => if q.1 = k then (q.1, q.2.1, v) else q) else kvs ++ [(k, a, v)]
theorem nput_any {kvs : NKV} {ks : NL} {k : NestedKey} (h : kvs.map Prod.fst = ks.map Prod.fst) : (kvs.any fun q => decide (q.1 = k)) = (ks.any fun q => decide (q.1 = k)) := by
  have e1 : (kvs.any fun q => decide (q.1 = k)) = ((kvs.map Prod.fst).any fun q => decide (q = k)) := by rw [List.any_map]; rfl
  have e2 : (ks.any fun q => decide (q.1 = k)) = ((ks.map Prod.fst).any fun q => decide (q = k)) := by rw [List.any_map]; rfl
  rw [e1, e2, h]
theorem nput_len {kvs : NKV} {k : NestedKey} {a : Addr} {v : V} : (nput kvs k a v).length ≤ kvs.length + 1 := by
  unfold nput
  split <;> simp
theorem nput_rp {T : TC} {I : Hp} {k : NestedKey} {a : Addr} {v : V} {d : PyData} : ∀ {kvs : NKV} {ks : NL}, kvs.map Prod.fst = ks.map Prod.fst → RpL T I (kvs.map fun p => V.ref p.2.1) (ks.map fun q => q.1.data) → RpL T I (kvs.map fun p => p.2.2) (ks.map Prod.snd) → Rp T I (.ref a) k.data → Rp T I v d →
    (nput kvs k a v).map Prod.fst = (kput ks k d).map Prod.fst ∧ RpL T I ((nput kvs k a v).map fun p => V.ref p.2.1) ((kput ks k d).map fun q => q.1.data) ∧ RpL T I ((nput kvs k a v).map fun p => p.2.2) ((kput ks k d).map Prod.snd) := by
  intro kvs ks h r1 r2 hk hv
  have ha := nput_any (k := k) h
  unfold nput kput
  rw [ha]
  split
  · rename_i hh
    clear ha hh
    induction kvs generalizing ks with
    | nil =>
      cases ks with
      | nil => exact ⟨rfl, .nil, .nil⟩
      | cons q ks => simp at h
    | cons p kvs ih =>
      cases ks with
      | nil => simp at h
      | cons q ks =>
        rw [List.map_cons, List.map_cons, List.cons.injEq] at h
        rw [List.map_cons, List.map_cons] at r1 r2
        cases r1 with
        | cons g1 r1 =>
          cases r2 with
          | cons g2 r2 =>
            obtain ⟨i1, i2, i3⟩ := ih h.2 r1 r2
            simp only [List.map_cons]
            by_cases hp : p.1 = k
            · have hq : q.1 = k := h.1.symm.trans hp
              rw [if_pos hp, if_pos hq, i1]
              exact ⟨by rw [h.1], .cons g1 i2, .cons hv i3⟩
            · have hq : ¬ q.1 = k := fun e => hp (h.1.trans e)
              rw [if_neg hp, if_neg hq, i1]
              exact ⟨by rw [h.1], .cons g1 i2, .cons g2 i3⟩
  · simp only [List.map_append, List.map_cons, List.map_nil]
    rw [h]
    exact ⟨rfl, RpL.append r1 (.cons hk .nil), RpL.append r2 (.cons hv .nil)⟩
theorem nput_pair {k : NestedKey} {a : Addr} {v : V} {u : Value} (rv : RelV v u) {kvs : NKV} {xs : List (NestedKey × Addr × Value)} (r : Paired NPair kvs xs) : Paired NPair (nput kvs k a v) (storedH xs k a u) := by
  have e : (kvs.any fun q => decide (q.1 = k)) = (atKey xs k).isSome := by
    induction r with
    | nil => rfl
    | @cons p q l m h t ih =>
      rw [List.any_cons, ih]
      have : atKey (q :: m) k = if q.1 = k then some q.2 else atKey m k := by
        unfold atKey
        rw [List.find?_cons]
        by_cases hk : q.1 = k <;> simp [hk]
      rw [this, h.1]
      by_cases hk : q.1 = k <;> simp [hk]
  unfold nput storedH
  rw [e]
  split
  · clear e
    rename_i hh
    clear hh
    induction r with
    | nil => exact .nil
    | @cons p q l m h t ih =>
      rw [List.map_cons, List.map_cons]
      refine .cons ?_ ih
      unfold putAt
      by_cases hk : p.1 = k
      · rw [if_pos hk, if_pos (h.1.symm.trans hk)]
        exact ⟨h.1, h.2.1, rv⟩
      · rw [if_neg hk, if_neg fun z => hk (h.1.trans z)]
        exact h
  · clear e
    rename_i hh
    clear hh
    induction r with
    | nil => exact .cons ⟨rfl, rfl, rv⟩ .nil
    | cons h _ ih => exact .cons h ih
theorem ksOk_put {ks : NL} {k : NestedKey} {d : PyData} (h : KsOk ks) (hk : KOk k) : KsOk (kput ks k d) := by
  intro q hq
  have e : q.1 ∈ (kput ks k d).map (·.1) := List.mem_map_of_mem (f := (·.1)) hq
  rw [kput_keys] at e
  split at e
  · obtain ⟨r, hr, e⟩ := List.mem_map.mp e
    rw [← e]
    exact h r hr
  · rcases List.mem_append.mp e with e | e
    · obtain ⟨r, hr, e⟩ := List.mem_map.mp e
      rw [← e]
      exact h r hr
    · simp at e
      rw [e]
      exact hk
def rNPut (T : TC) : TSet := fun o i v H Q => ∃ I p kvs ks k a, o = .ref p ∧ i = .ref a ∧ Same I H ∧ DmAt T I H p kvs ks ∧ KsOk ks ∧ Rp T I i (NestedKey.data k) ∧ KOk k ∧ kvs.length < sizeLine ∧ Q (upd H p (DN T p (nput kvs k a v)))
section
variable {X : Cx} {e a b c o it tg i : Expr} {es elts : List Expr} {ss rest : List Stmt} {Γ Γ' Γ1 Γ2 Γ3 : Sl} {Ψ : OD → Sl → Prop} {Φ : Out → Prop} {pos p apos cpos p2 tpos : Pos} {r x y z : OD} {nm n2 : Str} {ds es' : List PyData} {d d' g : PyData} {kk : Nat} {ks : NL} {mk : NL → OD} {k : NestedKey}
theorem dn_new {T : TC} {q : Addr} {kvs : NKV} {xs : List (NestedKey × Addr × Value)} {h' : Heap} (hz : kvs.length ≤ sizeLine) (hd : (q == sysModules) = false) (r : Paired NPair kvs xs) (dd : h'.DictOfH (nestedKind T.P T.w) q xs) : DnOk T q kvs h' := by
  obtain ⟨o, es, ep, f1, f2, f3, f4, _, f6⟩ := dd
  exact ⟨hz, hd, xs, r, o, es, ep, f1, f2, f3, f4, f6⟩
theorem dn_at {T : TC} {q : Addr} {kvs : NKV} {h' : Heap} (d : DnOk T q kvs h') : ∃ o, h'.get? q = some o := by
  obtain ⟨_, _, _, _, o, _, _, h, _⟩ := d
  exact ⟨o, h⟩
theorem set_n (hu : X.A.units + 16 < cLine) : PSet X (rNPut X.tc) := by
  rintro pins s σ H o i v ov iv u Q I ro ri rv ⟨I0, p, kvs, ks, k, a, rfl, rfl, sub, at_, ko, hk, kk, hz, q⟩
  cases ro
  cases ri
  obtain ⟨z, hd, xs, rp, dd⟩ := dn_heap I at_.nat sub ko
  have hl : kvs.length = xs.length := Paired.length rp
  refine wpAny_setItem_heap (knd := nestedKind X.prog X.w) (hsz := by omega) (show X.A.units + 1 + 8 < cLine by omega) ⟨nested_is I k (hk.mono sub) rfl, kk.d8⟩ dd fun h' dd' hs => ?_
  have new : DnOk X.tc p (nput kvs k a v) h' := dn_new (T := X.tc) (Nat.le_trans nput_len hz) hd (nput_pair rv rp) dd'
  exact ⟨_, d_write (t' := s.toks + (nestedKind X.prog X.w).draws k) I (by rw [at_.at_]; exact True.intro) hs (dn_at new) (ob := DN X.tc p (nput kvs k a v)) ⟨new, dn_at new, fun h1 h2 q e => dn_stay q e⟩, q⟩
/-- d[k] = e -/
theorem ws_nput (j : Nat) (hu : X.A.units + 16 < cLine) (h : WE X e Γ fun r Γ1 => ∃ d k x ks mk, r = .da d ∧ Γ1[j]? = some (some x) ∧ VDM x ks mk ∧ KsOk ks ∧ KOk k ∧ ks.length < sizeLine ∧ XE X b Γ1 (.da (NestedKey.data k)) Γ1 ∧ WSs X rest (Γ1.set j (some (mk (kput ks k d)))) Φ)
    (hN : X.N[j]? = some nm := by rfl) (hvs : Vis X.env.scope nm := by first | exact Or.inl rfl | exact Or.inr (Or.inl rfl) | exact Or.inr (Or.inr rfl)) (h1 : (nm == ("__debug__" : Str)) = false := by decide) (h2 : (nm == ("__classdict__" : Str)) = false := by decide)
    (hs : swapsWithSole [.Subscript (.Name nm p) b pos] e apos.line X.env = pure false := by rfl) (hw : swappedStores [.Subscript (.Name nm p) b pos] e X.env = pure none := by rfl)
    (h5 : (assignEach [.Subscript (.Name nm p) b pos] X.env).map (·.2) = [assign (.Subscript (.Name nm p) b pos) X.env] := by rfl)
    (ha : ∀ v, assign (.Subscript (.Name nm p) b pos) X.env v = (do
      let ov ← holding [v] (eval (.Name nm p) X.env)
      let iv ← holding [v, ov] (eval b X.env)
      standAt pos
      holding [v, ov, iv] (setItem ov iv v)
      release [v, ov, iv] []) := by intro _; rfl) : WSs X (.Assign [.Subscript (.Name nm p) b pos] e apos :: rest) Γ Φ := fun I H σ F en D ek => by
  refine ⟨_, pss_cons (ps_asg wpE_ok (pg_sub (pe_var hN hvs h1 h2) wpE_ok (set_n hu) ha) hs hw h5) wpSs_ok, h I H σ F en _ ?_⟩
  rintro r Γ1 I1 H1 v F1 ⟨d, k, x, ks, mk, rfl, hx, hv, ko, kk, hz, hb, hq⟩ st1 en1
  obtain ⟨B, G, rfl, oo, en2, up⟩ := en1.pop
  cases oo with
  | da hd =>
    obtain ⟨q, kvs, e1, _, _⟩ := en2.dm hx hv
    refine ⟨_, e1, hb (fun r Γ' => r = .da k.data ∧ Γ' = Γ1) ⟨rfl, rfl⟩ I1 H1 σ G en2 _ ?_⟩
    rintro _ _ I2 H2 u F2 ⟨rfl, rfl⟩ st2 en3
    obtain ⟨B2, G2, rfl, oo2, en4, _⟩ := en3.pop
    cases oo2 with
    | da hh =>
      obtain ⟨q', kvs', e1', h3, h6⟩ := en4.dm hx hv
      rw [e1] at e1'
      cases e1'
      obtain ⟨a', rfl⟩ := kk.ref hh
      obtain ⟨g1, g2, g3⟩ := nput_rp (k := k) (a := a') h3.keys h3.krp h3.vrp hh (hd.mono st2.inc)
      obtain ⟨F5, en5, st5⟩ := h6 _ _ g1 g2 g3
      exact ⟨I2, q, kvs', ks, k, a', rfl, rfl, en4.sub, h3, ko, hh, kk, by rw [h3.nat.len]; exact hz, hq I2 _ σ F5 en5 D (ek.step ((st1.trans st2).trans st5))⟩
/-- {k: v} -/
theorem pe_ndisp1 {ta tb : TE} (hu : X.A.units + 16 < cLine) (ha : PE X a ta) (hb : PE X b tb) : PE X (.Dict [some a] [b] pos) (fun σ H Q => ∀ p, H p = none → ta σ (upd H p (DN X.tc p [])) fun y H1 => tb σ H1 fun z H2 => ∃ I k a', y = .ref a' ∧ Same I H2 ∧ Rp X.tc I y (NestedKey.data k) ∧ KOk k ∧ H2 p = some (DN X.tc p []) ∧ Q (.ref p) (upd H2 p (DN X.tc p [(k, a', z)]))) := by
  refine ⟨fun pins s σ H Q I h => ?_⟩
  have hn := I.hok.fresh (Nat.le_refl s.heap.objs.size)
  have lo : (s.heap.objs.size == sysModules) = false := beq_eq_false_iff_ne.mpr (Ne.symm (Nat.ne_of_lt I.big))
  have new : DnOk X.tc s.heap.objs.size [] (s.heap.push { cls := .type "dict", data := .dict #[] }) := ⟨Nat.zero_le _, lo, [], .nil, _, #[], 0, Heap.get?_push_size _ rfl, ⟨rfl, rfl, rfl⟩, rfl, rfl, List.nodup_nil⟩
  have I1 := I.laid (a := s.heap.objs.size) (o := DN X.tc s.heap.objs.size []) (t' := s.toks) (fun _ _ q => Heap.get?_push_of_some _ q) (Nat.le_refl _) ⟨new, ⟨_, Heap.get?_push_size _ rfl⟩, fun h1 h2 q e => dn_stay q e⟩
  rw [arm_eval_Dict]
  show wpAny _ _ (do standAt pos; dictDisplay ([((eval a X.env : Sem Value), (do let x ← eval b X.env; standAt pos; pure x : Sem Value))].map fun p => (some p.1, p.2))) _ _ _
  rw [dictDisplay_pairs _ (by simp) (by simp)]
  refine wpAny_bind (wpAny_standAt (wpAny_bind (wpAny_subDictH (knd := nestedKind X.prog X.w) (show X.A.units + 8 < cLine by omega) (by simp) ?_)))
  refine evalPairs_cons (thn (ha.run pins _ σ _ _ I1 (h _ hn)) fun u s1 ⟨y, H1, J1, ry, q1⟩ => ?_)
  refine wpAny_bind (thn (hb.run pins s1 σ H1 _ J1 q1) fun w s2 ⟨z, H2, J2, rz, q2⟩ => ?_)
  refine wpAny_bind (wpAny_standAt (wpAny_pure ?_))
  refine evalPairs_nil ?_
  obtain ⟨I0, k, a', rfl, sub, hk, kk, hp, q⟩ := q2
  cases ry
  have dn := (J2.hok _ _ hp).1
  obtain ⟨_, _, xs, rp, o, es, ep, g1, g2, g3, g4, g5⟩ := dn
  have hx : xs = [] := by
    have l2 : ([] : NKV).length = xs.length := Paired.length rp
    exact List.eq_nil_of_length_eq_zero l2.symm
  subst hx
  have hkey : (nestedKind X.prog X.w).is s2.heap k a' := ⟨nested_is J2 k (hk.mono sub) rfl, kk.d8⟩
  refine ⟨[(k, a', w)], ⟨rfl, rfl, hkey, trivial⟩, ⟨o, es, ep, g1, g2, g3, g4, by simp, by simp⟩, fun h' tk dd hs => wpAny_pure ?_⟩
  have new2 : DnOk X.tc s.heap.objs.size [(k, a', z)] h' := dn_new (T := X.tc) (xs := [(k, a', w)]) (by show 1 ≤ sizeLine; decide) lo (.cons ⟨rfl, rfl, rz⟩ .nil) dd
  exact ⟨.ref s.heap.objs.size, _, d_write (t' := tk) J2 (by rw [hp]; exact True.intro) hs (dn_at new2) (ob := DN X.tc s.heap.objs.size [(k, a', z)]) ⟨new2, dn_at new2, fun h1 h2 q e => dn_stay q e⟩, rfl, q⟩
theorem xe_ndict1 (hu : X.A.units + 16 < cLine) (kk : KOk k) (ha : XE X a Γ (.da k.data) Γ1) (hb : XE X b Γ1 (.da d) Γ2) : XE X (.Dict [some a] [b] pos) Γ (.dm [(k, d)]) Γ2 := fun Ψ hq I H σ F en Q kq => by
  refine ⟨_, pe_ndisp1 hu wpE_ok wpE_ok, fun p hp => ?_⟩
  obtain ⟨en0, st0⟩ := en.use (B := []) (by simpa using en.nd) (step_new (F := []) hp) (Own.dm (kvs := []) (ds := []) upd_same (en.sub.free hp) rfl .nil .nil) (by simp) (upd_sub en.sub hp)
  obtain ⟨B0, G0, e0, o0, en0', up0⟩ := en0.pop
  refine ha (fun r Γ' => r = .da k.data ∧ Γ' = Γ1) ⟨rfl, rfl⟩ I (upd H p (DN X.tc p [])) σ G0 en0' _ ?_
  rintro _ _ I1 H1 u F1 ⟨rfl, rfl⟩ st1 en1
  obtain ⟨B1, G1, rfl, o1, en1', up1⟩ := en1.pop
  cases o1 with
  | da hk =>
    refine hb (fun r Γ' => r = .da d ∧ Γ' = Γ2) ⟨rfl, rfl⟩ I1 H1 σ G1 en1' _ ?_
    rintro _ Γ2' I2 H2 w F2 ⟨rfl, e2⟩ st2 en2
    subst e2
    obtain ⟨B2, G2, rfl, o2, en2', _⟩ := en2.pop
    cases o2 with
    | da hd =>
      obtain ⟨en3, st3, o3⟩ := up0 (st1.trans st2) en2'
      have hB : B0 = [p] := by
        cases o0
        rfl
      subst hB
      cases o3 with
      | dm h1 h2 h3 h4 h5 =>
        rename_i kvs
        have hk0 : kvs = [] := by simpa using h3
        subst hk0
        obtain ⟨a', rfl⟩ := kk.ref hk
        have hk2 := hk.mono st2.inc
        refine ⟨I2, k, a', rfl, en2'.sub, hk2, kk, h1, ?_⟩
        have nd := en3.nd
        have np : p ∉ G2 := (List.nodup_cons.mp (show (p :: G2).Nodup from nd)).1
        have en4 : EnvF X.tc I2 (upd H2 p (DN X.tc p [(k, a', w)])) σ Γ2' G2 := ⟨en2'.env.frame (Same.refl I2) fun b hb => ⟨upd_ne fun q => np (q ▸ hb), (en2'.env.cells b hb).2⟩, en2'.nd, fun b u e => by
          rw [upd_ne fun q => by
            subst q
            rw [h2] at e
            cases e]
          exact en2'.sub b u e⟩
        refine kq _ _ I2 _ _ ([p] ++ G2) hq ?_ ⟨.cons (.dm upd_same h2 rfl (.cons hk2 .nil) (.cons hd .nil)) en4.env, nd, en4.sub⟩
        exact (st0.trans st3).trans ((step_upd (F := [p] ++ G2) (by simp)).of_mem (fun b hb => hb) fun b hb => hb)

/-! ### truth -/
theorem len_bool {α : Type} (xs : List α) : ((xs.length : Int) != 0) = !xs.isEmpty := by
  cases xs with
  | nil => rfl
  | cons x xs =>
    exact bne_iff_ne.mpr (by rw [List.length_cons]; omega)
theorem heap_truth {prog : Program} {w : World} {κ : Type} [DecidableEq κ] {knd : HeapKind prog w κ} {A : Around} {E : Value → Shared → Prop} {s : Shared} {d : Addr} {xs : List (κ × Addr × Value)} {Q : Bool → Shared → Prop} (hd : (d == sysModules) = false) (hm : s.heap.DictOfH knd d xs) (hz : (xs.length : Int) < 2 ^ 63) (h : Q (!xs.isEmpty) { s with toks := s.toks + 1 + 1 }) : wpAny (model prog w) A (truthy (.ref d)) Q E s := by
  have lenCall : wpAny (model prog w) A (runValue (.builtin "len" ⟨[.ref d], []⟩)) (fun r s' => r = .int xs.length (s.toks + 1) ∧ Q (!xs.isEmpty) s') E s := by
    refine wpAny_runValue (codeAny_builtin entry_len ?_)
    rw [Around.under_plainId plain_len _]
    refine wpAny_mono (wpAny_len_body_dictH (Q := fun r s' => r = .int xs.length (s.toks + 1) ∧ Q (!xs.isEmpty) s') hd hm hz ⟨rfl, h⟩) ?_ fun _ _ e => e
    rintro fin s' ⟨r, rfl, hq⟩
    exact hq
  unfold truthy
  first
    | refine wpAny_bind (wpAny_callSpecial?_none (name := Str.ofString "__bool__") hm.typeIs noBool_dict (wpAny_bind (wpAny_specialOf (name := Str.ofString "__len__") hm.typeIs PySem.F.slot_dict_len.lookup ?_)))
    | refine wpAny_bind (wpAny_callSpecial?_none (name := Str.ofString "__bool__") hm.typeIs noBool_dict ?_)
  all_goals (refine wpAny_bind (wpAny_mono lenCall ?_ fun _ _ e => e); rintro r s' ⟨rfl, hq⟩; exact wpAny_pure (by rw [show ((Nat.cast xs.length : Int) != 0) = !xs.isEmpty from len_bool xs]; exact hq))
def rTruN (T : TC) (v : V) (H : Hp) (k : Bool) : Prop := ∃ I p kvs ks, v = .ref p ∧ Same I H ∧ NAt T I H p kvs ks ∧ KsOk ks ∧ k = !ks.isEmpty
theorem tru_n : TruR X (fun x H Q => ∃ k, rTruN X.tc x H k ∧ Q k H) := by
  rintro pins s σ H x v Q I rx ⟨k, ⟨I0, p, kvs, ks, rfl, sub, at_, ko, rfl⟩, q⟩
  cases rx
  obtain ⟨z, hd, xs, rp, dd⟩ := dn_heap I at_ sub ko
  have hl : kvs.length = xs.length := Paired.length rp
  refine heap_truth hd dd (by rw [← hl]; rw [sizeLine_eq] at z; omega) ?_
  rw [isEmpty_len (hl.symm.trans at_.len)]
  exact ⟨H, I.tok _, q⟩
theorem pt_truthN {ta : TE} (ha : PE X a ta) (he : ∀ whole, isTrue a X.env whole = (do let v ← whole; standAt a.pos; holding [v] (truthy v)) := by intro _; rfl) : PT X a (fun σ H Q => ta σ H fun x H' => ∃ k, rTruN X.tc x H' k ∧ Q k H') := by
  refine ⟨fun pins s σ H Q I h => ?_⟩
  show wpAny _ _ (isTrue a X.env (eval a X.env)) _ _ _
  rw [he]
  refine wpAny_bind (thn (ha.run pins s σ H _ I h) fun v s1 ⟨x, H1, I1, rx, q⟩ => ?_)
  exact wpAny_bind (wpAny_standAt (wpAny_holding (tru_n pins s1 σ H1 x v Q I1 rx q)))
theorem xt_truN (j : Nat) (ko : KsOk ks) (hx : Γ[j]? = some (some x) := by rfl) (hv : VN x ks := by first | exact .dm | exact .pin | exact .da) (hN : X.N[j]? = some nm := by rfl) (hvs : Vis X.env.scope nm := by first | exact Or.inl rfl | exact Or.inr (Or.inl rfl) | exact Or.inr (Or.inr rfl)) (h1 : (nm == ("__debug__" : Str)) = false := by decide) (h2 : (nm == ("__classdict__" : Str)) = false := by decide)
    (he : ∀ whole, isTrue (.Name nm p) X.env whole = (do let v ← whole; standAt (Expr.Name nm p).pos; holding [v] (truthy v)) := by intro _; rfl) : XT X (.Name nm p) Γ (!ks.isEmpty) Γ := fun Ψ hq I H σ F en Q kq => by
  obtain ⟨v, B, e1, o⟩ := en.see hx
  obtain ⟨p, kvs, rfl, at_⟩ := hv.rd ko o en.sub
  exact ⟨_, pt_truthN (pe_var hN hvs h1 h2) he, _, e1, _, ⟨I, p, kvs, ks, rfl, en.sub, at_, ko, rfl⟩, kq _ Γ I H F hq .refl en⟩
end
end TL

/-! TL29: dicts whose keys are tuples: locked, walked. -/
namespace TL
open PySem PySem.Spec PyProof.Rows L2

/-! ### locked -/
theorem EnvF.lockA {T : TC} {I H : Hp} {σ : L2.St} {Γ : Sl} {G : List Addr} {p : Addr} {u : HO} (en : EnvF T I H σ Γ G) (hI : I p = none) (np : p ∉ G) :
    EnvF T (upd I p u) (upd H p u) σ Γ G ∧ Step I H (p :: G) (upd I p u) (upd H p u) G :=
  ⟨⟨en.env.frame (upd_up hI) fun b hb => ⟨upd_ne fun q => np (q ▸ hb), by rw [upd_ne (b := b) (fun q : b = p => np (q ▸ hb))]; exact (en.env.cells b hb).2⟩, en.nd, upd_both en.sub⟩,
    upd_up hI, fun b ob e1 e2 n => by
      rw [List.mem_cons, not_or] at n
      exact ⟨by rw [upd_ne n.1]; exact e1, by rw [upd_ne n.1]; exact e2, n.2⟩⟩
/-- what a dict with tuple keys is locked as -/
def lockN (T : TC) (p : Addr) (kvs : NKV) (od : Obj) : HO := if kvs = [] then .frz od (.dK []) else .frz od (DN T p kvs)
theorem Inv_lockN {X : Cx} {pins : List (Addr × Obj)} {σ : L2.St} {H : Hp} {s : Shared} {p : Addr} {kvs : NKV} (I : Inv X pins σ H s) (h : H p = some (DN X.tc p kvs)) : ∃ od, Inv X pins σ (upd H p (lockN X.tc p kvs od)) s := by
  unfold lockN
  by_cases hk : kvs = []
  · subst hk
    obtain ⟨z, hd, xs, rp, o, es, ep, g1, g2, g3, g4, g5⟩ := (I.hok p _ h).1
    have hx : xs = [] := by
      have l2 : ([] : NKV).length = xs.length := Paired.length rp
      exact List.eq_nil_of_length_eq_zero l2.symm
    subst hx
    have g4' : es.toList = [] := g4
    have hes : es = #[] := by
      cases es
      simpa using g4'
    subst hes
    have new : ObjOk X.prog X.w (upd H p (.dK [])) s.heap p (.dK []) := ⟨Nat.zero_le _, hd, [], .nil, o, #[], ep, g1, g2, g3, by intro x hx; simp at hx, by constructor, List.nodup_nil⟩
    have I1 := d_write (t' := s.toks) I (a := p) (by rw [h]; exact True.intro) (Heap.SameBut.refl _ _) ⟨o, g1⟩ (ob := .dK []) new
    obtain ⟨od, I2⟩ := I1.lock (d := p) (u := .dK []) upd_same True.intro
    rw [upd_upd] at I2
    exact ⟨od, by rw [if_pos rfl]; exact I2⟩
  · obtain ⟨od, I2⟩ := I.lock h True.intro
    exact ⟨od, by rw [if_neg hk]; exact I2⟩
theorem pe_lockN {X : Cx} {e : Expr} {t : TE} (h : PE X e t) : PE X e (fun σ H Q => t σ H fun v H1 => ∃ p kvs, v = .ref p ∧ H1 p = some (DN X.tc p kvs) ∧ ∀ od, Q v (upd H1 p (lockN X.tc p kvs od))) := ⟨fun pins s σ H Q I hw =>
  thn (h.run pins s σ H _ I hw) fun v s1 ⟨x, H1, I1, rx, p, kvs, ex, hd, q⟩ => by
    obtain ⟨od, I2⟩ := Inv_lockN I1 hd
    exact ⟨x, _, I2, rx, q od⟩⟩
theorem frz_dm {T : TC} {I H : Hp} {v : V} {B : List Addr} {ks : NL} (ko : KsOk ks) (o : Own T I H v (.dm ks) B) : ∃ p kvs, v = .ref p ∧ B = [p] ∧ H p = some (DN T p kvs) ∧ I p = none ∧ ∀ od, Rp T (upd I p (lockN T p kvs od)) v (dnD ks) := by
  cases o with
  | @dm p kvs _ h1 h2 h3 h4 h5 =>
    refine ⟨p, kvs, rfl, rfl, h1, h2, fun od => ?_⟩
    unfold lockN
    by_cases hk : kvs = []
    · subst hk
      have hn : ks = [] := by
        have := congrArg List.length h3
        exact List.eq_nil_of_length_eq_zero (by simpa using this.symm)
      subst hn
      rw [if_pos rfl]
      exact .dk upd_same rfl .nil
    · rw [if_neg hk]
      have up : Same I (upd I p (.frz od (DN T p kvs))) := upd_up h2
      refine .dn (kvs := kvs) upd_same ?_ ?_ ?_ ?_
      · rw [List.map_map]
        have e : (kvs.map Prod.fst).map NestedKey.data = (ks.map Prod.fst).map NestedKey.data := by rw [h3]
        rw [List.map_map, List.map_map] at e
        exact e.symm
      · rw [List.map_map]
        exact h4.mono up
      · rw [List.map_map]
        exact h5.mono up
      · cases kvs with
        | nil => exact absurd rfl hk
        | cons q kvs =>
          cases ks with
          | nil => simp at h3
          | cons r ks =>
            rw [List.map_cons, List.map_cons, List.cons.injEq] at h3
            exact ⟨q, List.mem_cons_self, fun j => by rw [h3.1]; exact (ko r List.mem_cons_self).simple j⟩
section
variable {X : Cx} {e a b c o it tg : Expr} {es elts : List Expr} {ss rest : List Stmt} {Γ Γ' Γ1 Γ2 Γ3 : Sl} {Ψ : OD → Sl → Prop} {Φ : Out → Prop} {pos p apos cpos p2 tpos : Pos} {r x y z : OD} {nm n2 : Str} {ds es' : List PyData} {d d' g : PyData} {kk i : Nat} {ks : NL} {mk : NL → OD} {k : NestedKey}
theorem we_frzN (h : WE X e Γ fun r Γ1 => ∃ ks, r = .dm ks ∧ KsOk ks ∧ Ψ (.da (dnD ks)) Γ1) : WE X e Γ Ψ := fun I H σ F en Q k => ⟨_, pe_lockN wpE_ok, h I H σ F en _ fun r Γ1 I1 H1 v F1 ⟨ks, hr, ko, hq⟩ st1 en1 => by
  subst hr
  obtain ⟨B, G, rfl, o, en2, _⟩ := en1.pop
  obtain ⟨p, kvs, rfl, rfl, h1, h2, h3⟩ := frz_dm ko o
  refine ⟨p, kvs, rfl, h1, fun od => ?_⟩
  have np : p ∉ G := (List.nodup_cons.mp (show (p :: G).Nodup from en1.nd)).1
  obtain ⟨en3, st3⟩ := en2.lockA (u := lockN X.tc p kvs od) h2 np
  exact k _ Γ1 _ _ _ G hq (st1.trans st3) (en3.da (h3 od))⟩
theorem xe_frzN (ko : KsOk ks) (h : XE X e Γ (.dm ks) Γ1) : XE X e Γ (.da (dnD ks)) Γ1 := fun _ hq => we_frzN (h _ ⟨ks, rfl, ko, hq⟩)
theorem ws_frzN (i : Nat) (ko : KsOk ks) (h : WSs X ss (Γ.set i (some (.da (dnD ks)))) Φ) (hx : Γ[i]? = some (some (.dm ks)) := by rfl) : WSs X ss Γ Φ := fun I H σ F en D ek => by
  refine ⟨fun D σ H => ∃ d kvs, H d = some (DN X.tc d kvs) ∧ ∀ od, wpSs X ss D σ (upd H d (lockN X.tc d kvs od)), ⟨fun pins s σ H D I ⟨d, kvs, hd, q⟩ => by
    obtain ⟨od, I1⟩ := Inv_lockN I hd
    exact wpSs_ok.run pins s σ _ D I1 (q od)⟩, ?_⟩
  obtain ⟨v, B, G, e1, o, en', nd, mem⟩ := en.take hx
  obtain ⟨p, kvs, rfl, rfl, h1, h2, h3⟩ := frz_dm ko o
  refine ⟨p, kvs, h1, fun od => ?_⟩
  have np : p ∉ G := (List.nodup_cons.mp (show (p :: G).Nodup from nd)).1
  obtain ⟨en3, st3⟩ := en'.lockA (u := lockN X.tc p kvs od) h2 np
  obtain ⟨F4, en4, nd4, m4⟩ := en3.into (B := []) (x := .da (dnD ks)) e1 (.da (h3 od)) en3.nd
  rw [List.set_set] at en4
  exact h _ _ σ F4 en4 D (ek.step (st3.of_mem (fun b hb => (List.mem_cons.mp hb).elim (fun q => (mem b).mpr (.inl (q ▸ List.mem_cons_self))) fun q => (mem b).mpr (.inr q)) fun b hb => (m4 b hb).elim (fun q => absurd q (by simp)) id))
end

/-! ### walks -/
section
variable {X : Cx} {pins : List (Addr × Obj)} {σ : L2.St} {H : Hp} {s : Shared} {d : Addr} {o : Obj} {kvs : NKV}
theorem frzN (I : Inv X pins σ H s) (h : H d = some (.frz o (DN X.tc d kvs))) : (d == sysModules) = false ∧ s.heap.get? d = some o ∧ o.ExactDict ∧ ∃ (es : Array DictEntry) (ep : Nat), o.data = .dict es ep ∧ es.size = kvs.length ∧
    ∀ (i : Nat) (k : NestedKey) (q : Addr) (v : V), kvs[i]? = some (k, q, v) → ∃ en : DictEntry, es[i]? = some en ∧ en.key = .ref q ∧ RelV v en.val := by
  obtain ⟨hg, ⟨z, hd, xs, rp, o', es, ep, g1, g2, g3, g4, g5⟩, _⟩ := I.hok d _ h
  rw [hg] at g1
  cases g1
  have hl : kvs.length = xs.length := Paired.length rp
  refine ⟨hd, hg, g2, es, ep, g3, by rw [size_of_entries g4, hl], fun i k q v hi => ?_⟩
  obtain ⟨y, hy, np⟩ := LiI.paired_get rp hi
  have h1 := entry_at g4 i
  rw [hy] at h1
  exact ⟨_, h1, by rw [show q = y.2.1 from np.2.1]; rfl, np.2.2⟩
end
def ItNk (T : TC) (d : Addr) (o : Obj) (kvs : NKV) : It :=
  ⟨fun i H => H d = some (.frz o (DN T d kvs)) ∧ i < kvs.length, fun i H x H' => H' = H ∧ ∃ k q v, kvs[i]? = some (k, q, v) ∧ x = .ref q, fun i H => H d = some (.frz o (DN T d kvs)) ∧ kvs.length ≤ i⟩
def ItNi (T : TC) (d : Addr) (o : Obj) (kvs : NKV) : It :=
  ⟨fun i H => H d = some (.frz o (DN T d kvs)) ∧ i < kvs.length, fun i H x H' => ∃ t k q v, kvs[i]? = some (k, q, v) ∧ x = .ref t ∧ H t = none ∧ H' = upd H t (.tup [.ref q, v]), fun i H => H d = some (.frz o (DN T d kvs)) ∧ kvs.length ≤ i⟩
theorem data_eq {o : Obj} {es es' : Array DictEntry} {ep ep' : Nat} (h : o.data = .dict es ep) (h' : o.data = .dict es' ep') : es' = es ∧ ep' = ep := by
  have := h.symm.trans h'
  injection this with a b
  exact ⟨a.symm, b.symm⟩
section
variable {P : Program} {w : World} {K : PySem.W.Frag} {tg : Expr} {d : Addr} {o : Obj} {es : Array DictEntry} {ep : Nat} {kvs : NKV}
theorem turnNk (it : Addr) (hod : o.data = .dict es ep) : Turn P w K tg (ItNk ⟨P, w, K⟩ d o kvs) [it] it (fun i h => h.IsKeyIter it d i kvs.length ep) where
  mem := List.mem_singleton.mpr rfl
  obj := fun i h st b hb => by
    rw [List.mem_singleton] at hb
    subst hb
    obtain ⟨oi, e, c, dd⟩ := st
    exact ⟨oi, e, fun v z => nomatch dd.symm.trans z⟩
  keep := fun i h h' st k => by
    obtain ⟨oi, e, r⟩ := st
    exact ⟨oi, k it (List.mem_singleton.mpr rfl) oi e, r⟩
  item := by
    rintro X rfl rfl rfl hc i pins s σ H E I hf st ⟨hd, hi⟩
    obtain ⟨f0, f1, f2, f3, f4, f5⟩ := hf it (List.mem_singleton.mpr rfl)
    obtain ⟨hs, hgd, hx, es', ep', hdt, hsz, ent⟩ := frzN I hd
    obtain ⟨rfl, rfl⟩ := data_eq hod hdt
    obtain ⟨⟨k, q, v⟩, hkv⟩ : ∃ p, kvs[i]? = some p := ⟨kvs[i], List.getElem?_eq_getElem hi⟩
    obtain ⟨en, hen, hkey, hv⟩ := ent i k q v hkv
    refine next_key_item st hgd hdt hsz hen fun h' st' sb => ?_
    have J := I.turned (t' := s.toks) (fun b ob hb e => (sb.2 b hb).trans e) f0 f1 f3 f4 f5
    obtain ⟨oi, e, c, dd⟩ := id st'
    exact ⟨en.key, rfl, go_of (s := { s with heap := h' }) e c dd (by decide) ⟨.ref q, H, J, hkey, ⟨rfl, k, q, v, hkv, rfl⟩, st', fun b hb => (hf b hb).1⟩⟩
  done := by
    rintro X rfl rfl rfl hc i pins s σ H E I hf st ⟨hd, hi⟩
    obtain ⟨f0, f1, f2, f3, f4, f5⟩ := hf it (List.mem_singleton.mpr rfl)
    obtain ⟨hs, hgd, hx, es', ep', hdt, hsz, ent⟩ := frzN I hd
    obtain ⟨rfl, rfl⟩ := data_eq hod hdt
    exact next_key_end (I.ok.hd hc) st hgd hdt hsz hi fun h' eb => ⟨rfl, I.turned (t' := s.toks) (fun b ob hb e => eb b ob hb e) f0 f1 f3 f4 f5⟩
  self := fun A i s Q E st h => wpAny_pyIter_keyiter st h
theorem turnNi {elts : List Expr} {kk : Nat} {tpos : Pos} (it : Addr) (hod : o.data = .dict es ep) : Turn P w K (.Tuple elts kk tpos) (ItNi ⟨P, w, K⟩ d o kvs) [it] it (fun i h => ∃ ok ov, IsItemIter h it d i kvs.length ep ok ov) where
  mem := List.mem_singleton.mpr rfl
  obj := fun i h st b hb => by
    rw [List.mem_singleton] at hb
    subst hb
    obtain ⟨ok, ov, e⟩ := st
    exact ⟨_, e, nofun⟩
  keep := fun i h h' ⟨ok, ov, e⟩ k => ⟨ok, ov, k it (List.mem_singleton.mpr rfl) _ e⟩
  item := by
    rintro X rfl rfl rfl hc i pins s σ H E I hf ⟨ok, ov, he⟩ ⟨hd, hi⟩
    obtain ⟨hs, hgd, hx, es', ep', hdt, hsz, ent⟩ := frzN I hd
    obtain ⟨rfl, rfl⟩ := data_eq hod hdt
    obtain ⟨⟨k, q, v⟩, hkv⟩ : ∃ p, kvs[i]? = some p := ⟨kvs[i], List.getElem?_eq_getElem hi⟩
    obtain ⟨en, hen, hkey, hv⟩ := ent i k q v hkv
    rw [← hsz] at he hi
    have hen2 : es'[i] = en := by
      have := Array.getElem?_eq_getElem hi
      rw [hen] at this
      exact (Option.some.inj this).symm
    have hlt : it < s.heap.objs.size := Heap.lt_size he
    refine DT.nextI he ⟨o, hgd, hx, hod⟩ hi fun h' ho hT hz hk => ?_
    refine ⟨_, rfl, wpAny_letOwnedTupleGo_items (s := { s with heap := h' }) ho fun h'' he' sb => ?_⟩
    rw [hen2] at hT he'
    have hT2 : h''.get? s.heap.objs.size = some { cls := .type "tuple", data := .seq #[en.key, en.val] } := (sb.2 _ (Nat.ne_of_gt hlt)).trans hT
    have new : ObjOk X.prog X.w (upd H s.heap.objs.size (.tup [.ref q, v])) h'' s.heap.objs.size (.tup [.ref q, v]) :=
      ⟨by show 2 ≤ sizeLine; decide, [en.key, en.val], .cons (show RelV (V.ref q) en.key from hkey) (.cons hv .nil), _, hT2, rfl, _, rfl⟩
    have J := I.turnedNew (t' := s.toks) (ch := [it]) (fun b ob hb e => (sb.2 b fun z => hb (List.mem_singleton.mpr z)).trans (hk b ob (fun z => hb (List.mem_singleton.mpr z)) e)) hf (Nat.le_refl _) new
    refine ⟨.ref s.heap.objs.size, _, J, rfl, ⟨_, k, q, v, hkv, rfl, I.hok.fresh (Nat.le_refl _), rfl⟩, ⟨en.key, en.val, ?_⟩, fun b hb => ?_⟩
    · rw [← hsz]; exact he'
    · rw [List.mem_singleton] at hb
      rw [hb, upd_ne (Nat.ne_of_lt hlt)]
      exact (hf it (List.mem_singleton.mpr rfl)).1
  done := by
    rintro X rfl rfl rfl hc i pins s σ H E I hf ⟨ok, ov, he⟩ ⟨hd, hi⟩
    obtain ⟨f0, f1, f2, f3, f4, f5⟩ := hf it (List.mem_singleton.mpr rfl)
    obtain ⟨hs, hgd, hx, es', ep', hdt, hsz, ent⟩ := frzN I hd
    obtain ⟨rfl, rfl⟩ := data_eq hod hdt
    rw [← hsz] at he hi
    exact DT.endI (I.ok.hd hc) he ⟨o, hgd, hx, hod⟩ hi fun h' eb => ⟨rfl, I.turned (t' := s.toks) (fun b ob hb e => eb b ob hb e) f0 f1 f3 f4 f5⟩
  self := fun A i s Q E ⟨ok, ov, e⟩ h => by
    have ii : s.TypeIs (.ref it) "dict_itemiterator" := ⟨_, e, rfl⟩
    exact (turn_items (P := P) (w := w) (K := K) (elts := elts) (kk := kk) (tpos := tpos) (d := d) (o := o) (kvs := kvs.map fun p => ((.inl 0 : Key), p.2.2)) it hod).self A i s Q E ⟨ok, ov, by rw [List.length_map]; exact e⟩ h
end
section
variable {X : Cx} {it tg : Expr} {td : TE} {apos cpos tpos : Pos} {elts : List Expr} {kk : Nat}
theorem pi_keysN (he : PE X it td) : PI X tg it (fun σ H R => td σ H fun x H1 => ∃ d o kvs, x = .ref d ∧ H1 d = some (.frz o (DN X.tc d kvs)) ∧ R (ItNk X.tc d o kvs) H1) := ⟨fun pins s σ H R I h =>
  thn (he.run pins s σ H _ I h) fun u s1 ⟨x, H1, I1, rx, d, o, kvs, ex, hd, q⟩ => by
    subst ex
    cases rx
    obtain ⟨hs, hgd, hx, es, ep, hdt, hsz, ent⟩ := frzN I1 hd
    refine iter_keys hs hgd hx hdt (pi_one (tk := s1.toks) I1 _ (turnNk _ hdt) ⟨_, Heap.get?_push_size _ rfl, rfl, ?_⟩ q)
    rw [hsz] <;> rfl⟩
theorem pi_itemsN (he : PE X it td) (hbase : attributeBase it "items" X.env (eval it X.env) = eval it X.env := by rfl) (hline : (apos.endLine == cpos.line) = true := by rfl) : PI X (.Tuple elts kk tpos) (.Call (.Attribute it "items" apos) [] [] cpos)
    (fun σ H R => td σ H fun x H1 => ∃ d o kvs, x = .ref d ∧ H1 d = some (.frz o (DN X.tc d kvs)) ∧ R (ItNi X.tc d o kvs) H1) := by
  refine ⟨fun pins s σ H R I h => wpAny_Call_method (T := "dict") (id := "dict.items") hbase rfl hline PySem.F.plainAttrs_dict PySem.F.slot_dict_items PySem.F.type_dict_items (thn (he.run pins s σ H _ I h) ?_)⟩
  rintro u s1 ⟨x, H1, J, rx, d, o, kvs, rfl, hd, q⟩
  cases rx
  obtain ⟨hs, hgd, hx, es, ep, hdt, hsz, ent⟩ := frzN J hd
  have raw : DT.Raw s1.heap d es ep := ⟨o, hgd, hx, hdt⟩
  have K1 : Inv X pins σ H1 { s1 with heap := s1.heap.push { cls := .type "dict_items", data := .fields #[.ref d] } } := J.kept (t' := s1.toks) fun b ob z => Heap.get?_push_of_some _ z
  have fin : wpAny (model X.prog X.w) X.A (pyIter (.ref s1.heap.objs.size)) (PIE X pins σ (.Tuple elts kk tpos) R) X.xe { s1 with heap := s1.heap.push { cls := .type "dict_items", data := .fields #[.ref d] } } :=
    DT.iterI (d := d) ⟨_, Heap.get?_push_size _ rfl, rfl, rfl⟩ (raw.push _) (pi_one (tk := s1.toks) K1 _ (turnNi _ hdt) ⟨.none, .none, by rw [← hsz]; exact Heap.get?_push_size _ rfl⟩ q)
  refine ⟨raw.typeIs, fun b' e' => by cases e'; exact ⟨o, hgd, hx.2.1⟩, ?_⟩
  show wpAny _ _ (callWith cpos (.builtin "dict.items") [.ref d] [] []) _ X.xe s1
  exact method_meetsIn PySem.F.slot_dict_items PySem.F.entry_dict_items rfl (PySem.evalArgs_none ⟨rfl, raw.typeIs, PySem.F.args_dict_items_1 _, _, DT.meetsItems (es := es) (ep := ep) hs, raw, fin⟩)
end
section
variable {X : Cx} {e a b c o it tg : Expr} {es elts : List Expr} {ss rest : List Stmt} {Γ Γ' Γ1 Γ2 Γ3 : Sl} {Ψ : OD → Sl → Prop} {Φ : Out → Prop} {pos p apos cpos p2 tpos : Pos} {kk : Nat} {ks : NL}
theorem nk_len {kvs : NKV} (h : kvs.map Prod.fst = ks.map Prod.fst) : kvs.length = ks.length := by
  have := congrArg List.length h
  rwa [List.length_map, List.length_map] at this
theorem nk_get {kvs : NKV} (h : kvs.map Prod.fst = ks.map Prod.fst) {i : Nat} {k : NestedKey} {q : Addr} {v : V} (hi : kvs[i]? = some (k, q, v)) : ∃ d, ks[i]? = some (k, d) := by
  have e : (kvs.map Prod.fst)[i]? = some k := by rw [List.getElem?_map, hi]; rfl
  rw [h, List.getElem?_map] at e
  obtain ⟨⟨k', d⟩, h1, h2⟩ := Option.map_eq_some_iff.mp e
  exact ⟨d, by rw [h1]; simpa using h2⟩
theorem isit_keysN {T : TC} {I : Hp} {a : Addr} {ob : Obj} {kvs : NKV} (h : I a = some (.frz ob (DN T a kvs))) (hk : kvs.map Prod.fst = ks.map Prod.fst) (hr : RpL T I (kvs.map fun p => V.ref p.2.1) (ks.map fun q => q.1.data)) : IsIt T (ItNk T a ob kvs) (ks.map fun p => p.1.data) I where
  go := fun i I' H s1 s2 hl => ⟨s2 _ _ (s1 _ _ h), by rw [nk_len hk]; simpa using hl⟩
  stop := fun I' H s1 s2 => ⟨s2 _ _ (s1 _ _ h), by rw [nk_len hk]; simp⟩
  yld := fun i I' H v H' s1 s2 hl hy => by
    obtain ⟨rfl, k, q, w, hi, rfl⟩ := hy
    obtain ⟨d, hd, hh⟩ := hr.get' (i := i) (v := .ref q) (by rw [List.getElem?_map, hi]; rfl)
    exact ⟨I', d, hd, .refl, s2, hh.mono s1⟩
theorem isit_itemsN {T : TC} {I : Hp} {a : Addr} {ob : Obj} {kvs : NKV} (h : I a = some (.frz ob (DN T a kvs))) (hk : kvs.map Prod.fst = ks.map Prod.fst) (hr : RpL T I (kvs.map fun p => V.ref p.2.1) (ks.map fun q => q.1.data)) (hv : RpL T I (kvs.map fun p => p.2.2) (ks.map Prod.snd)) : IsIt T (ItNi T a ob kvs) (ks.map fun p => .tuple [p.1.data, p.2]) I where
  go := fun i I' H s1 s2 hl => ⟨s2 _ _ (s1 _ _ h), by rw [nk_len hk]; simpa using hl⟩
  stop := fun I' H s1 s2 => ⟨s2 _ _ (s1 _ _ h), by rw [nk_len hk]; simp⟩
  yld := fun i I' H v H' s1 s2 hl hy => by
    obtain ⟨t, k, q, w, hi, rfl, hp, rfl⟩ := hy
    obtain ⟨d, hd⟩ := nk_get hk hi
    obtain ⟨d1, hd1, q1⟩ := hr.get' (i := i) (v := .ref q) (by rw [List.getElem?_map, hi]; rfl)
    obtain ⟨d2, hd2, q2⟩ := hv.get' (i := i) (v := w) (by rw [List.getElem?_map, hi]; rfl)
    rw [List.getElem?_map, hd] at hd1 hd2
    cases hd1
    cases hd2
    exact ⟨upd I' t (.tup [.ref q, w]), _, by rw [List.getElem?_map, hd]; rfl, step_frz s2 hp, upd_both s2, .tup (SqT.of upd_same) (.cons ((q1.mono s1).mono (upd_up (s2.free hp))) (.cons ((q2.mono s1).mono (upd_up (s2.free hp))) .nil))⟩
theorem rp_dnD' {T : TC} {I : Hp} {v : V} (hk : KsOk ks) (hne : ks ≠ []) (h : Rp T I v (dnD ks)) : ∃ a ob kvs, v = .ref a ∧ I a = some (.frz ob (DN T a kvs)) ∧ kvs.map Prod.fst = ks.map Prod.fst ∧ RpL T I (kvs.map fun p => V.ref p.2.1) (ks.map fun q => q.1.data) ∧ RpL T I (kvs.map fun p => p.2.2) (ks.map Prod.snd) := by
  unfold dnD at h
  cases h with
  | @dk a ob kvs _ h k r =>
    cases ks with
    | nil => exact absurd rfl hne
    | cons q ks =>
      cases kvs with
      | nil => simp at k
      | cons p kvs =>
        simp only [List.map_cons, List.cons.injEq] at k
        exact absurd k.1 ((hk q List.mem_cons_self).simple p.1)
  | @dn a ob kvs _ h k r s n =>
    refine ⟨a, ob, kvs, rfl, h, ?_, ?_, ?_⟩
    · refine map_inj (f := NestedKey.data) (fun _ _ => nkd_inj) ?_
      rw [List.map_map, List.map_map]
      rw [List.map_map] at k
      exact k.symm
    · rw [List.map_map] at r
      exact r
    · rw [List.map_map] at s
      exact s
/-- for k in d, d locked -/
theorem xi_keysP (ko : KsOk ks) (h : XE X it Γ (.da (dnD ks)) Γ1) : XI X tg it Γ (ks.map fun p => p.1.data) Γ1 := by
  by_cases hne : ks = []
  · subst hne
    exact xi_keys (ks := []) h
  · intro Ψ hq I H σ F en R k
    refine ⟨_, pi_keysN wpE_ok, h (fun r Γ' => r = .da (dnD ks) ∧ Γ' = Γ1) ⟨rfl, rfl⟩ I H σ F en _ ?_⟩
    rintro _ _ I1 H1 v F1 ⟨rfl, rfl⟩ st1 en1
    obtain ⟨B, G, rfl, o, en2, _⟩ := en1.pop
    cases o with
    | da o =>
      obtain ⟨a, ob, kvs, rfl, h1, h2, h3, h4⟩ := rp_dnD' ko hne o
      exact ⟨a, ob, kvs, rfl, en2.sub _ _ h1, k _ _ I1 H1 _ _ hq st1 en2 (isit_keysN h1 h2 h3)⟩
/-- for k, v in d.items(), d locked -/
theorem xi_itemsP (ko : KsOk ks) (h : XE X it Γ (.da (dnD ks)) Γ1) (hbase : attributeBase it "items" X.env (eval it X.env) = eval it X.env := by rfl) (hline : (apos.endLine == cpos.line) = true := by rfl) : XI X (.Tuple elts kk tpos) (.Call (.Attribute it "items" apos) [] [] cpos) Γ (ks.map fun p => .tuple [p.1.data, p.2]) Γ1 := by
  by_cases hne : ks = []
  · subst hne
    exact xi_items (ks := []) h hbase hline
  · intro Ψ hq I H σ F en R k
    refine ⟨_, pi_itemsN wpE_ok hbase hline, h (fun r Γ' => r = .da (dnD ks) ∧ Γ' = Γ1) ⟨rfl, rfl⟩ I H σ F en _ ?_⟩
    rintro _ _ I1 H1 v F1 ⟨rfl, rfl⟩ st1 en1
    obtain ⟨B, G, rfl, o, en2, _⟩ := en1.pop
    cases o with
    | da o =>
      obtain ⟨a, ob, kvs, rfl, h1, h2, h3, h4⟩ := rp_dnD' ko hne o
      exact ⟨a, ob, kvs, rfl, en2.sub _ _ h1, k _ _ I1 H1 _ _ hq st1 en2 (isit_itemsN h1 h2 h3 h4)⟩
end
end TL

/-! TL30: instances of the text's own classes: attributes read and stored, methods called, instances made. -/
namespace TL
open PySem PySem.Spec PyProof.Rows L2

inductive VOB : OD → Addr → List (Str × OD) → (List (Str × OD) → OD) → Prop
  | ob {C : Addr} {fs : List (Str × OD)} : VOB (.ob C fs) C fs (.ob C)
  | pin {v : V} {C : Addr} {fs : List (Str × OD)} : VOB (.pin v (.ob C fs)) C fs fun fs => .pin v (.ob C fs)
def putO (f : Str) (x : OD) : List (Str × OD) → List (Str × OD)
  | [] => [(f, x)]
  | (g, y) :: r => if g = f then (g, x) :: r else (g, y) :: putO f x r
section
variable {T : TC} {I H : Hp} {v : V} {x : OD} {B F : List Addr} {C : Addr} {fs : List (Str × OD)} {mk : List (Str × OD) → OD} {f : Str}
theorem VOB.own (h : VOB x C fs mk) (o : Own T I H v x B) : ∃ p dx fv F, v = .ref p ∧ B = p :: F ∧ H p = some (.ins C dx fv) ∧ I p = none ∧ fv.map Prod.fst = fs.map Prod.fst ∧ OwnL T I H (fv.map Prod.snd) (fs.map Prod.snd) F ∧
    ∀ (I' H' : Hp) (fv' : List (Str × V)) (fs' : List (Str × OD)) (F' : List Addr), H' p = some (.ins C dx fv') → I' p = none → fv'.map Prod.fst = fs'.map Prod.fst → OwnL T I' H' (fv'.map Prod.snd) (fs'.map Prod.snd) F' → Own T I' H' v (mk fs') (p :: F') := by
  cases h with
  | ob => cases o with
    | ob h1 h2 h3 h4 => exact ⟨_, _, _, _, rfl, rfl, h1, h2, h3, h4, fun I' H' fv' fs' F' a b c d => .ob a b c d⟩
  | pin => cases o with
    | pin o => cases o with
      | ob h1 h2 h3 h4 => exact ⟨_, _, _, _, rfl, rfl, h1, h2, h3, h4, fun I' H' fv' fs' F' a b c d => .pin (.ob a b c d)⟩
theorem ob_lookup : ∀ {fv : List (Str × V)} {fs : List (Str × OD)} {F : List Addr} {x : OD}, fv.map Prod.fst = fs.map Prod.fst → OwnL T I H (fv.map Prod.snd) (fs.map Prod.snd) F → fs.lookup f = some x → ∃ v B, fv.lookup f = some v ∧ Own T I H v x B ∧ ∀ b ∈ B, b ∈ F
  | [], [], _, _, _, _, h => by simp at h
  | [], _ :: _, _, _, e, _, _ => by simp at e
  | _ :: _, [], _, _, e, _, _ => by simp at e
  | (g, v) :: fv, (g', y) :: fs, _, x, e, o, h => by
    rw [List.map_cons, List.map_cons, List.cons.injEq] at e
    obtain rfl : g = g' := e.1
    rw [List.map_cons, List.map_cons] at o
    cases o with
    | cons o1 o2 =>
      rw [List.lookup_cons] at h ⊢
      cases hb : f == g with
      | true =>
        rw [hb] at h
        cases h
        exact ⟨v, _, rfl, o1, fun b hb => List.mem_append_left _ hb⟩
      | false =>
        rw [hb] at h
        obtain ⟨w, B, h1, h2, h3⟩ := ob_lookup e.2 o2 h
        exact ⟨w, B, h1, h2, fun b hb => List.mem_append_right _ (h3 b hb)⟩
theorem ob_none : ∀ {fv : List (Str × V)} {fs : List (Str × OD)}, fv.map Prod.fst = fs.map Prod.fst → fs.lookup f = none → fv.lookup f = none
  | [], [], _, _ => rfl
  | [], _ :: _, e, _ => by simp at e
  | _ :: _, [], e, _ => by simp at e
  | (g, v) :: fv, (g', y) :: fs, e, h => by
    rw [List.map_cons, List.map_cons, List.cons.injEq] at e
    obtain rfl : g = g' := e.1
    rw [List.lookup_cons] at h ⊢
    cases hb : f == g with
    | true =>
      rw [hb] at h
      cases h
    | false =>
      rw [hb] at h
      exact ob_none e.2 h
theorem ob_put {r : OD} : ∀ {fv : List (Str × V)} {fs : List (Str × OD)} {F : List Addr}, fv.map Prod.fst = fs.map Prod.fst → OwnL T I H (fv.map Prod.snd) (fs.map Prod.snd) F → Own T I H v r B → (B ++ F).Nodup →
    ∃ F', (putF f v fv).map Prod.fst = (putO f r fs).map Prod.fst ∧ OwnL T I H ((putF f v fv).map Prod.snd) ((putO f r fs).map Prod.snd) F' ∧ F'.Nodup ∧ ∀ b ∈ F', b ∈ B ++ F
  | [], [], _, _, o, ob, nd => by
    cases o
    exact ⟨B ++ [], rfl, .cons ob .nil, nd, fun b hb => hb⟩
  | [], _ :: _, _, e, _, _, _ => by simp at e
  | _ :: _, [], _, e, _, _, _ => by simp at e
  | (g, w) :: fv, (g', y) :: fs, _, e, o, ob, nd => by
    rw [List.map_cons, List.map_cons, List.cons.injEq] at e
    obtain rfl : g = g' := e.1
    rw [List.map_cons, List.map_cons] at o
    cases o with
    | @cons _ _ _ _ B1 F1 o1 o2 =>
      unfold putF putO
      by_cases hg : g = f
      · rw [if_pos hg, if_pos hg]
        refine ⟨B ++ F1, by rw [List.map_cons, List.map_cons, e.2], .cons ob o2, nd.sublist ((List.Sublist.refl B).append (List.sublist_append_right B1 F1)), fun b hb => ?_⟩
        exact (List.mem_append.mp hb).elim (List.mem_append_left _) fun q => List.mem_append_right _ (List.mem_append_right _ q)
      · rw [if_neg hg, if_neg hg]
        obtain ⟨F', h1, h2, h3, h4⟩ := ob_put (r := r) e.2 o2 ob (nd.sublist ((List.Sublist.refl B).append (List.sublist_append_right B1 F1)))
        have hd := List.nodup_append.mp nd
        have hd2 := List.nodup_append.mp hd.2.1
        refine ⟨B1 ++ F', by rw [List.map_cons, List.map_cons, h1], .cons o1 h2, List.nodup_append.mpr ⟨hd2.1, h3, fun a ha b hb q => ?_⟩, fun b hb => ?_⟩
        · subst q
          rcases List.mem_append.mp (h4 a hb) with z | z
          · exact hd.2.2 a z a (List.mem_append_left _ ha) rfl
          · exact hd2.2.2 a ha a z rfl
        · rcases List.mem_append.mp hb with z | z
          · exact List.mem_append_right _ (List.mem_append_left _ z)
          · exact (List.mem_append.mp (h4 b z)).elim (List.mem_append_left _) fun q => List.mem_append_right _ (List.mem_append_right _ q)
end
section
variable {X : Cx} {e a b c o : Expr} {es : List Expr} {rest : List Stmt} {Γ Γ' Γ1 Γ2 : Sl} {Ψ : OD → Sl → Prop} {Φ : Out → Prop} {pos p apos : Pos} {r x y z : OD} {nm f m : Str} {d : PyData} {C : Addr} {fs : List (Str × OD)} {mk : List (Str × OD) → OD}
/-- x.f, x in the i-th slot, f data -/
theorem xe_fld (i : Nat) (c : Cls X.K C) (n : NoAttr X.K C f) (hf : fs.lookup f = some (.da d)) (hx : Γ[i]? = some (some x) := by rfl) (hv : VOB x C fs mk := by first | exact .ob | exact .pin)
    (hN : X.N[i]? = some nm := by rfl) (hvs : Vis X.env.scope nm := by first | exact Or.inl rfl | exact Or.inr (Or.inl rfl) | exact Or.inr (Or.inr rfl)) (h1 : (nm == ("__debug__" : Str)) = false := by decide) (h2 : (nm == ("__classdict__" : Str)) = false := by decide)
    (hb : attributeBase (.Name nm p) f X.env (eval (.Name nm p) X.env) = eval (.Name nm p) X.env := by rfl) : XE X (.Attribute (.Name nm p) f pos) Γ (.da d) Γ := fun Ψ hq I H σ F en Q k => by
  obtain ⟨v, B, e1, o⟩ := en.see hx
  obtain ⟨q, dx, fv, F1, rfl, rfl, g1, g2, g3, g4, _⟩ := hv.own o
  obtain ⟨w, B2, l1, l2, _⟩ := ob_lookup g3 g4 hf
  refine ⟨_, pe_fld (pe_var hN hvs h1 h2) hb, _, e1, q, C, dx, fv, w, rfl, g1, c, n, l1, ?_⟩
  cases l2 with
  | da l2 => exact k _ _ I H w F hq .refl (en.da l2)
/-- x.f = e -/
theorem ws_fld (i : Nat) (h : WE X e Γ fun r Γ1 => ∃ x C fs mk, Γ1[i]? = some (some x) ∧ VOB x C fs mk ∧ Cls X.K C ∧ NoAttr X.K C f ∧ fs.length < 1000 ∧ WSs X rest (Γ1.set i (some (mk (putO f r fs)))) Φ)
    (hN : X.N[i]? = some nm := by rfl) (hvs : Vis X.env.scope nm := by first | exact Or.inl rfl | exact Or.inr (Or.inl rfl) | exact Or.inr (Or.inr rfl)) (h1 : (nm == ("__debug__" : Str)) = false := by decide) (h2 : (nm == ("__classdict__" : Str)) = false := by decide)
    (hs : swapsWith e (some (.Attribute (.Name nm p) f pos)) apos.line X.env = pure false := by rfl) : WSs X (.Assign [.Attribute (.Name nm p) f pos] e apos :: rest) Γ Φ := fun I H σ F en D ek => by
  refine ⟨_, pss_cons (ps_fld (pe_var hN hvs h1 h2) wpE_ok hs) wpSs_ok, h I H σ F en _ ?_⟩
  rintro r Γ1 I1 H1 v F1 ⟨x, C, fs, mk, hx, hv, c, n, hz, hq⟩ st1 en1
  obtain ⟨B, G, rfl, o, en2, _⟩ := en1.pop
  obtain ⟨v', Bo, G', e1, ox, en3, nd3, mem⟩ := en2.take hx
  obtain ⟨q, dx, fv, Fo, rfl, rfl, g1, g2, g3, g4, g5⟩ := hv.own ox
  have ndA := List.nodup_append.mp en1.nd
  have ndO := List.nodup_append.mp nd3
  have ndq : q ∉ Fo ∧ Fo.Nodup := List.nodup_cons.mp ndO.1
  have memG : ∀ b, b ∈ q :: Fo ++ G' → b ∈ G := fun b hb => (mem b).mpr (List.mem_append.mp hb)
  have qB : q ∉ B := fun hb => ndA.2.2 q hb q (memG q (by simp)) rfl
  have nd1 : (B ++ Fo).Nodup := List.nodup_append.mpr ⟨ndA.1, ndq.2, fun a ha b hb z => ndA.2.2 a ha b (memG b (by simp [hb])) z⟩
  obtain ⟨F', k1, k2, k3, k4⟩ := ob_put (f := f) g3 g4 o nd1
  have qF : q ∉ F' := fun hb => (List.mem_append.mp (k4 q hb)).elim qB ndq.1
  have qG : q ∉ G' := fun hb => ndO.2.2 q List.mem_cons_self q hb rfl
  have sub2 : Same I1 (upd H1 q (.ins C dx (putF f v fv))) := fun b u z => by
    rw [upd_ne fun w => by
      rw [w, g2] at z
      cases z]
    exact en2.sub b u z
  have own2 : OwnL X.tc I1 (upd H1 q (.ins C dx (putF f v fv))) ((putF f v fv).map Prod.snd) ((putO f r fs).map Prod.snd) F' := k2.frame (Same.refl _) fun b hb => ⟨upd_ne fun z => qF (z ▸ hb), (k2.cells b hb).2⟩
  have en4 : EnvF X.tc I1 (upd H1 q (.ins C dx (putF f v fv))) σ (Γ1.set i none) G' := ⟨en3.env.frame (Same.refl _) fun b hb => ⟨upd_ne fun z => qG (z ▸ hb), (en3.env.cells b hb).2⟩, en3.nd, sub2⟩
  have ndF : (q :: F' ++ G').Nodup := by
    refine List.nodup_append.mpr ⟨List.nodup_cons.mpr ⟨qF, k3⟩, en3.nd, fun a ha b hb z => ?_⟩
    subst z
    rcases List.mem_cons.mp ha with w | w
    · exact qG (w ▸ hb)
    · rcases List.mem_append.mp (k4 a w) with w | w
      · exact ndA.2.2 a w a (memG a (List.mem_append_right _ hb)) rfl
      · exact ndO.2.2 a (List.mem_cons_of_mem _ w) a hb rfl
  obtain ⟨F5, en5, nd5, m5⟩ := en4.into e1 (g5 I1 _ _ _ F' upd_same g2 k1 own2) ndF
  rw [List.set_set] at en5
  refine ⟨_, e1, q, C, dx, fv, rfl, g1, c, n, by
    have := congrArg List.length g3
    rw [List.length_map, List.length_map] at this
    omega, hq I1 _ σ F5 en5 D (ek.step (st1.trans ?_))⟩
  refine (step_upd (F := B ++ G) (a := q) (List.mem_append_right _ (memG q (by simp)))).of_mem (fun b hb => hb) fun b hb => ?_
  rcases m5 b hb with w | w
  · rcases List.mem_cons.mp w with w | w
    · exact List.mem_append_right _ (memG b (by simp [w]))
    · exact (List.mem_append.mp (k4 b w)).elim (List.mem_append_left _) fun z => List.mem_append_right _ (memG b (by simp [z]))
  · exact List.mem_append_right _ (memG b (List.mem_append_right _ w))
end
/-! ### methods -/
/-- a method of the class at C -/
def DefM (P : Program) (w : World) (K : PySem.W.Frag) (mg : Str → Option Value) (bs : Heap) (k : Nat) (C : Addr) (m : Str) (ps : List Str) (sp : SpD) : Prop :=
  ∃ f fd, FnG P w K mg bs CX0 k f fd ps (mkSp ⟨P, w, K⟩ sp) ∧ Meth K C m f ∧ Binds K fd ps [] ∧ Cls K C
section
variable {X : Cx} {CX : CXT} {k : Nat} {f C : Addr} {fd : FuncData} {ps : List Str} {sp : Sp} {E : XK} {x m : Str} {p pos apos : Pos} {e o : Expr} {es : List Expr} {ta : TE} {t : TA}
theorem pe_methG {pl : Sem Bool} (he : PE X o ta) (c : Cls X.K C) (hm : Meth X.K C m f) (F : FnG X.prog X.w X.K X.mg X.base CX k f fd ps sp) (hr : Room k X.A) (hgd : X.A.guards = some []) (hb : Binds X.K fd ps []) (hx : Passes CX X E) (ha : PA X (e :: es) t)
    (hst : starEach (e :: es) X.env = (false, eval e X.env) :: starEach es X.env := by rfl) (hpl : (backTo pos (starEach es X.env)).any (·.1) = false := by rfl)
    (ht : eval (.Call (.Attribute o m apos) (e :: es) [] pos) X.env = (do
      let ov ← eval o X.env
      standAt apos.atName
      let (f, first) ← holding [ov] (getMethod ov m pl)
      callWith pos f first (backTo pos (starEach (e :: es) X.env)) (backToKw pos (keywordEach [] X.env))) := by rfl) : PE X (.Call (.Attribute o m apos) (e :: es) [] pos) (tMeth C m sp [] E ta t) :=
  ⟨fun pins s σ H Q I h => PySem.W.methodCall_KW (pl := pl) (thn (he.run pins s σ H _ I h) fun u s1 ⟨x, H1, I1, rx, a, dx, fs, ex, ea, l, q⟩ => by
    subst ex
    cases rx
    refine getmeth_ok I1 ea c hm l (PySem.W.callWith_K (first := [.ref a]) (h₀ := X.base) I.ok.mod.kin hm.kp (thn (ha.run pos pins s1 σ H1 _ I1 q) ?_) hst hpl)
    rintro us s2 ⟨vs, H2, I2, r, q2⟩
    rw [List.append_nil] at q2
    exact ⟨I2.kIn, runG (us := .ref a :: us) (vs := .ref a :: vs) F hr hgd hb hx I2 (.cons rfl r) q2⟩) ht⟩
theorem pe_methG0 {pl : Sem Bool} (he : PE X o ta) (c : Cls X.K C) (hm : Meth X.K C m f) (F : FnG X.prog X.w X.K X.mg X.base CX k f fd ps sp) (hr : Room k X.A) (hgd : X.A.guards = some []) (hb : Binds X.K fd ps []) (hx : Passes CX X E)
    (ht : eval (.Call (.Attribute o m apos) [] [] pos) X.env = (do
      let ov ← eval o X.env
      standAt apos.atName
      let (f, first) ← holding [ov] (getMethod ov m pl)
      callWith pos f first (backTo pos (starEach [] X.env)) (backToKw pos (keywordEach [] X.env))) := by rfl) : PE X (.Call (.Attribute o m apos) [] [] pos) (tMeth C m sp [] E ta tNil) :=
  ⟨fun pins s σ H Q I h => PySem.W.methodCall_KW (pl := pl) (thn (he.run pins s σ H _ I h) fun u s1 ⟨x, H1, I1, rx, a, dx, fs, ex, ea, l, q⟩ => by
    subst ex
    cases rx
    exact getmeth_ok I1 ea c hm l (PySem.W.callWith_K0 (first := [.ref a]) I1.kIn hm.kp (runG (us := [.ref a]) (vs := [.ref a]) F hr hgd hb hx I1 (.cons rfl .nil) q))) ht⟩
theorem run_makeG {pins : List (Addr × Obj)} {σ : L2.St} {H : Hp} {s : Shared} {Q : VK} {us : List Value} {vs : List V} (M : Mk X.K C f) (F : FnG X.prog X.w X.K X.mg X.base CX k f fd ps sp) (hr : Room (k + 1) X.A) (hgd : X.A.guards = some []) (hb : Binds X.K fd ps [])
    (hx : Passes CX X E) (I : Inv X pins σ H s) (r : Vals vs us)
    (h : ∀ x dx, H x = none → H dx = none → dx ≠ x → sp (.ref x :: vs) (upd (upd H dx (.own x)) x (.ins C dx [])) (fun v H2 => v = .non ∧ Q (.ref x) H2) E) : wpAny (model X.prog X.w) X.A (call (.ref C) us) (EP X pins σ Q) X.xe s := by
  have hq := h (s.heap.objs.size + 1) s.heap.objs.size (I.hok.fresh (Nat.le_succ _)) (I.hok.fresh (Nat.le_refl _)) (Nat.ne_of_lt (Nat.lt_succ_self _))
  have I2 := Inv.made (C := C) I
  have r2 : Vals (V.ref (s.heap.objs.size + 1) :: vs) (Value.ref (s.heap.objs.size + 1) :: us) := .cons rfl r
  have hl : (Value.ref (s.heap.objs.size + 1) :: us ++ []).length = ps.length := by
    rw [List.append_nil, ← r2.length]
    exact F.arity _ _ _ _ hq
  have bd := hb _ (Value.ref (s.heap.objs.size + 1) :: us) I2.kIn hl
  rw [List.append_nil] at bd
  refine wpAny_call (make_map (f := f) I.kIn M.makes M.init (beq_iff_eq.mp M.fn) (codeAny_mono (F.go _ X.stack _ _ ⟨Value.ref (s.heap.objs.size + 1) :: us, []⟩ (Value.ref (s.heap.objs.size + 1) :: us) _ _ E (hr.make C us []) hgd (I2.env0.make C us []) bd r2 hq) ?_))
  rintro (e | fl) s' hq'
  · exact hx pins σ _ _ e s' I2 hq'
  · cases fl with
    | ret u =>
      obtain ⟨v, H', I3, rv, ev, q3⟩ := I2.after hq'
      subst ev
      exact ⟨rv, ⟨V.ref (s.heap.objs.size + 1), H', I3, rfl, q3⟩⟩
    | next => cases hq'
    | brk => cases hq'
    | cont => cases hq'
theorem pe_makeG0 (M : Mk X.K C f) (F : FnG X.prog X.w X.K X.mg X.base CX k f fd ps sp) (hr : Room (k + 1) X.A) (hgd : X.A.guards = some []) (hg : Gl X x) (hm : X.mg x = some (.ref C)) (hb : Binds X.K fd ps []) (hx : Passes CX X E)
    (hdb : (x == ("__debug__" : Str)) = false := by decide) : PE X (.Call (.Name x p) [] [] pos) (tMake C sp [] E tNil) :=
  ⟨fun pins s σ H Q I h => wpAny_Call_Name_kw (ld_glob I hg hm (PySem.W.callWith_K0 I.kIn M.kp (run_makeG (us := []) (vs := []) M F hr hgd hb hx I .nil h)) hdb)⟩
theorem pe_makeG (M : Mk X.K C f) (F : FnG X.prog X.w X.K X.mg X.base CX k f fd ps sp) (hr : Room (k + 1) X.A) (hgd : X.A.guards = some []) (hg : Gl X x) (hm : X.mg x = some (.ref C)) (hb : Binds X.K fd ps []) (hx : Passes CX X E) (ha : PA X (e :: es) t)
    (hdb : (x == ("__debug__" : Str)) = false := by decide) (he : starEach (e :: es) X.env = (false, eval e X.env) :: starEach es X.env := by rfl) (hpl : (backTo pos (starEach es X.env)).any (·.1) = false := by rfl) : PE X (.Call (.Name x p) (e :: es) [] pos) (tMake C sp [] E t) := by
  refine ⟨fun pins s σ H Q I h => wpAny_Call_Name_kw (ld_glob I hg hm (PySem.W.callWith_K (h₀ := X.base) I.ok.mod.kin M.kp (thn (ha.run pos pins s σ H _ I h) ?_) he hpl) hdb)⟩
  rintro us s1 ⟨vs, H1, I1, r, q⟩
  refine ⟨I1.kIn, run_makeG M F hr hgd hb hx I1 r fun x dx a b c => ?_⟩
  have := q x dx a b c
  rwa [List.append_nil] at this
end
section
variable {X : Cx} {e a b c o : Expr} {es : List Expr} {Γ Γ' Γ1 Γ2 : Sl} {Ψ : OD → Sl → Prop} {pos p apos : Pos} {r x y z : OD} {nm m cn : Str} {d : PyData} {k : Nat} {ps : List Str} {sp : SpD} {C : Addr} {fs : List (Str × OD)} {mk : List (Str × OD) → OD}
/-- x.m(e, ..), x in the i-th slot -/
theorem we_meth (i : Nat) (G : DefM X.prog X.w X.K X.mg X.base k C m ps sp) (hr : Room k X.A) (hgd : X.A.guards = some []) (hno : fs.lookup m = none)
    (h : WR X (e :: es) Γ fun rs refs Γ2 => ∃ as Γ3, getR (none :: rs) (some i :: refs) Γ2 = some (as, Γ3) ∧ sp as fun r as' => Ψ r (repin Γ2 (some i :: refs) (putBack (some i :: refs) as' Γ3)))
    (hx : Γ[i]? = some (some x) := by rfl) (hv : VOB x C fs mk := by first | exact .ob | exact .pin) (hN : X.N[i]? = some nm := by rfl)
    (hvs : Vis X.env.scope nm := by first | exact Or.inl rfl | exact Or.inr (Or.inl rfl) | exact Or.inr (Or.inr rfl)) (h1 : (nm == ("__debug__" : Str)) = false := by decide) (h2 : (nm == ("__classdict__" : Str)) = false := by decide)
    (hst : starEach (e :: es) X.env = (false, eval e X.env) :: starEach es X.env := by rfl) (hpl : (backTo pos (starEach es X.env)).any (·.1) = false := by rfl) {pl : Sem Bool}
    (ht : eval (.Call (.Attribute (.Name nm p) m apos) (e :: es) [] pos) X.env = (do
      let ov ← eval (.Name nm p) X.env
      standAt apos.atName
      let (f, first) ← holding [ov] (getMethod ov m pl)
      callWith pos f first (backTo pos (starEach (e :: es) X.env)) (backToKw pos (keywordEach [] X.env))) := by rfl) : WE X (.Call (.Attribute (.Name nm p) m apos) (e :: es) [] pos) Γ Ψ := fun I H σ F en Q kq => by
  obtain ⟨fa, fd, FG, hm, hb, c⟩ := G
  obtain ⟨v, B0, e1, o⟩ := en.see hx
  obtain ⟨q, dx, fv, F0, rfl, rfl, g1, g2, g3, g4, _⟩ := hv.own o
  refine ⟨_, pe_methG (pe_var hN hvs h1 h2) c hm FG hr hgd hb pass0 wpA_ok hst hpl ht, _, e1, q, dx, fv, rfl, g1, ob_none g3 hno, h I H σ F en _ fun rs refs Γ1 I1 H1 vs F1 hh l1 l2 rk st en1 => ?_⟩
  obtain ⟨as, Γ3, hget, hsp⟩ := hh
  have en1' : EnvF X.tc I1 H1 ((V.ref q :: vs).map some ++ σ) ((none :: rs) ++ Γ1) F1 := ⟨.skip en1.env, en1.nd, en1.sub⟩
  have rk' : RefsOk (some i :: refs) (V.ref q :: vs) σ := rk.some e1
  obtain ⟨F2, en2, m2, l3⟩ := getR_env hget en1' (by simp [l1]) rk'
  have hp := fun j v x (hx : Γ1[j]? = some (some (OD.pin v x))) => pins_ok en1 l1 hx
  rw [List.append_nil]
  refine call_fin (Ψ := fun r Γ => Ψ r (repin Γ1 (some i :: refs) Γ)) hsp (by rw [l3]; simp [l1]) rk' (st.trans (Step.less m2)) en2 fun r Γ' I' H' v F' hq st' en' => ?_
  obtain ⟨B, G, rfl, o, en3, up⟩ := en'.pop
  obtain ⟨F5, en5, m5⟩ := repin_env (refs := some i :: refs) hp en3
  obtain ⟨en6, st6, _⟩ := up (Step.less m5) en5
  exact kq r _ I' H' v _ hq (st'.trans st6) en6
theorem we_meth0 (i : Nat) (G : DefM X.prog X.w X.K X.mg X.base k C m ps sp) (hr : Room k X.A) (hgd : X.A.guards = some []) (hno : fs.lookup m = none)
    (h : ∃ as Γ3, getR [none] [some i] Γ = some (as, Γ3) ∧ sp as fun r as' => Ψ r (repin Γ [some i] (putBack [some i] as' Γ3)))
    (hx : Γ[i]? = some (some x) := by rfl) (hv : VOB x C fs mk := by first | exact .ob | exact .pin) (hN : X.N[i]? = some nm := by rfl)
    (hvs : Vis X.env.scope nm := by first | exact Or.inl rfl | exact Or.inr (Or.inl rfl) | exact Or.inr (Or.inr rfl)) (h1 : (nm == ("__debug__" : Str)) = false := by decide) (h2 : (nm == ("__classdict__" : Str)) = false := by decide) {pl : Sem Bool}
    (ht : eval (.Call (.Attribute (.Name nm p) m apos) [] [] pos) X.env = (do
      let ov ← eval (.Name nm p) X.env
      standAt apos.atName
      let (f, first) ← holding [ov] (getMethod ov m pl)
      callWith pos f first (backTo pos (starEach [] X.env)) (backToKw pos (keywordEach [] X.env))) := by rfl) : WE X (.Call (.Attribute (.Name nm p) m apos) [] [] pos) Γ Ψ := fun I H σ F en Q kq => by
  obtain ⟨fa, fd, FG, hm, hb, c⟩ := G
  obtain ⟨v, B0, e1, o⟩ := en.see hx
  obtain ⟨q, dx, fv, F0, rfl, rfl, g1, g2, g3, g4, _⟩ := hv.own o
  refine ⟨_, pe_methG0 (pe_var hN hvs h1 h2) c hm FG hr hgd hb pass0 ht, _, e1, q, dx, fv, rfl, g1, ob_none g3 hno, ?_⟩
  obtain ⟨as, Γ3, hget, hsp⟩ := h
  have en1' : EnvF X.tc I H (([V.ref q] : List V).map some ++ σ) ([none] ++ Γ) F := ⟨.skip en.env, en.nd, en.sub⟩
  have rk' : RefsOk [some i] [V.ref q] σ := RefsOk.some e1 (fun k i e => by simp at e)
  obtain ⟨F2, en2, m2, l3⟩ := getR_env hget en1' rfl rk'
  have hp := fun j v x (hx : Γ[j]? = some (some (OD.pin v x))) => pins_ok (rs := []) (vs := []) (σ := σ) en rfl hx
  refine call_fin (Ψ := fun r Γ' => Ψ r (repin Γ [some i] Γ')) hsp (by rw [l3]; rfl) rk' (Step.less m2) en2 fun r Γ' I' H' v F' hq st' en' => ?_
  obtain ⟨B, G, rfl, o, en3, up⟩ := en'.pop
  obtain ⟨F5, en5, m5⟩ := repin_env (refs := [some i]) hp en3
  obtain ⟨en6, st6, _⟩ := up (Step.less m5) en5
  exact kq r _ I' H' v _ hq (st'.trans st6) en6
/-- the class at C, made by its __init__ -/
def DefI (P : Program) (w : World) (K : PySem.W.Frag) (mg : Str → Option Value) (bs : Heap) (k : Nat) (cn : Str) (C : Addr) (ps : List Str) (sp : SpD) : Prop :=
  ∃ f fd, FnG P w K mg bs CX0 k f fd ps (mkSp ⟨P, w, K⟩ sp) ∧ Mk K C f ∧ Binds K fd ps [] ∧ mg cn = some (.ref C)
/-- what __init__ answers -/
def spNew (C : Addr) (sp : SpD) (rs : List OD) (Ψ : OD → Prop) : Prop := sp (.ob C [] :: rs) fun r as' => r = .da .none ∧ ∃ y ys, as' = y :: ys ∧ Ψ y
theorem make_fin {I H I1 H1 : Hp} {σ : L2.St} {F F1 : List Addr} {Q : VK} {rs : List OD} {vs : List V} {x dx : Addr} (h : spNew C sp rs fun y => Ψ y Γ1) (l1 : vs.length = rs.length) (st : Step I H F I1 H1 F1) (en1 : EnvF X.tc I1 H1 (vs.map some ++ σ) (rs.map some ++ Γ1) F1)
    (hx : H1 x = none) (hdx : H1 dx = none) (ne : dx ≠ x)
    (k : ∀ (r : OD) (Γ' : Sl) (I' H' : Hp) (v : V) (F' : List Addr), Ψ r Γ' → Step I H F I' H' F' → EnvF X.tc I' H' (some v :: σ) (some r :: Γ') F' → Q v H') : mkSp X.tc sp (.ref x :: vs) (upd (upd H1 dx (.own x)) x (.ins C dx [])) (fun v H2 => v = .non ∧ Q (.ref x) H2) E0 := by
  generalize hn : upd (upd H1 dx (.own x)) x (.ins C dx []) = Hn
  have at_ : Hn x = some (.ins C dx []) := by rw [← hn, upd_same]
  have off : ∀ b u, H1 b = some u → Hn b = some u := fun b u e => by rw [← hn, upd_ne (ne_of_none e hx), upd_ne (ne_of_none e hdx)]; exact e
  have sub1 : Same I1 Hn := fun b u e => off b u (en1.sub b u e)
  have Ix : I1 x = none := en1.sub.free hx
  obtain ⟨B, G, rfl, ol, en2⟩ := en1.popL l1
  have hd := List.nodup_append.mp en1.nd
  have keep : ∀ b ∈ B ++ G, Hn b = H1 b ∧ I1 b = none := fun b hb => by
    rcases List.mem_append.mp hb with z | z
    · obtain ⟨⟨u, e⟩, i⟩ := ol.cells b z
      exact ⟨(off b u e).trans e.symm, i⟩
    · obtain ⟨⟨u, e⟩, i⟩ := en2.env.cells b z
      exact ⟨(off b u e).trans e.symm, i⟩
  have nx : x ∉ B ++ G := fun hb => by
    have := (keep x hb).1
    rw [at_, hx] at this
    cases this
  have ol2 : OwnL X.tc I1 Hn (.ref x :: vs) (.ob C [] :: rs) ([x] ++ B) := .cons (.ob (fv := []) (fs := []) at_ Ix rfl .nil) (ol.frame (Same.refl _) fun b hb => keep b (List.mem_append_left _ hb))
  refine ⟨I1, .ob C [] :: rs, [x] ++ B, _, ol2, List.nodup_cons.mpr ⟨fun z => nx (List.mem_append_left _ z), hd.1⟩, sub1, h, ?_⟩
  rintro r as' I2 H2 v B2 ⟨rfl, y, ys, rfl, hq⟩ st2 o2 nd2 sub2
  cases o2 with
  | cons orr oas => cases orr with
    | da hr =>
      cases hr
      refine ⟨rfl, ?_⟩
      rename_i F2
      cases oas with
      | @cons _ _ _ _ By Bs oy oys =>
        have kp : ∀ b ∈ G, H2 b = Hn b ∧ I2 b = none ∧ b ∉ By := fun b hb => by
          obtain ⟨⟨ob, h3⟩, h4⟩ := en2.env.cells b hb
          obtain ⟨h5, h6, h7⟩ := st2.oth b ob (off b ob h3) h4 fun q => (List.mem_append.mp q).elim (fun z => nx (List.mem_append_right _ (List.mem_singleton.mp z ▸ hb))) fun z => hd.2.2 b z b hb rfl
          exact ⟨h5.trans (off b ob h3).symm, h6, fun z => h7 (by simp [z])⟩
        have nd3 := List.nodup_append.mp (show (By ++ Bs).Nodup from nd2)
        refine k y Γ1 I2 H2 (.ref x) (By ++ G) hq ?_ ⟨.cons oy (en2.env.frame st2.inc fun b hb => ⟨(kp b hb).1.trans (keep b (List.mem_append_right _ hb)).1, (kp b hb).2.1⟩), List.nodup_append.mpr ⟨nd3.1, hd.2.1, fun a ha b hb z => ?_⟩, sub2⟩
        · refine st.trans ⟨st2.inc, fun b ob e i n => ?_⟩
          rw [List.mem_append, not_or] at n
          have nbx : b ≠ x := fun z => by rw [z, hx] at e; cases e
          obtain ⟨h3, h4, h5⟩ := st2.oth b ob (off b ob e) i fun q => (List.mem_append.mp q).elim (fun z => nbx (List.mem_singleton.mp z)) n.1
          exact ⟨h3, h4, fun q => (List.mem_append.mp q).elim (fun z => h5 (by simp [z])) n.2⟩
        · subst z
          exact (kp a hb).2.2 ha
theorem we_make0 (G : DefI X.prog X.w X.K X.mg X.base k cn C ps sp) (hr : Room (k + 1) X.A) (hgd : X.A.guards = some []) (h : spNew C sp [] fun y => Ψ y Γ) (hg : Gl X cn := by rfl) (hdb : (cn == ("__debug__" : Str)) = false := by decide) : WE X (.Call (.Name cn p) [] [] pos) Γ Ψ := fun I H σ F en Q kq => by
  obtain ⟨f, fd, FG, M, hb, hm⟩ := G
  exact ⟨_, pe_makeG0 M FG hr hgd hg hm hb pass0 hdb, fun x dx hx hdx ne => make_fin (vs := []) (rs := []) h rfl .refl en hx hdx ne kq⟩
theorem we_make (G : DefI X.prog X.w X.K X.mg X.base k cn C ps sp) (hr : Room (k + 1) X.A) (hgd : X.A.guards = some []) (h : WA X (e :: es) Γ fun rs _ Γ1 => spNew C sp rs fun y => Ψ y Γ1) (hg : Gl X cn := by rfl) (hdb : (cn == ("__debug__" : Str)) = false := by decide)
    (he : starEach (e :: es) X.env = (false, eval e X.env) :: starEach es X.env := by rfl) (hpl : (backTo pos (starEach es X.env)).any (·.1) = false := by rfl) : WE X (.Call (.Name cn p) (e :: es) [] pos) Γ Ψ := fun I H σ F en Q kq => by
  obtain ⟨f, fd, FG, M, hb, hm⟩ := G
  exact ⟨_, pe_makeG M FG hr hgd hg hm hb pass0 wpA_ok hdb he hpl, h I H σ F en _ fun rs refs Γ1 I1 H1 vs F1 hh l1 l2 rk st en1 x dx hx hdx ne => by
    rw [List.append_nil]
    exact make_fin hh l1 st en1 hx hdx ne kq⟩
end
end TL

/-! TL31: isinstance, constants of the module, list.insert, list.pop(i), own things within own lists. -/
namespace TL
open PySem PySem.Spec PyProof.Rows L2

/-! ### isinstance -/
def tyD : PyData → String
  | .none => "NoneType"
  | .bool _ => "bool"
  | .int _ => "int"
  | .str _ => "str"
  | .list _ => "list"
  | .tuple _ => "tuple"
  | .dict _ => "dict"
def noDict : PyData → Bool
  | .dict _ => false
  | _ => true
theorem tyx_of {T : TC} {I H : Hp} {v : V} {d : PyData} (h : Rp T I v d) (hd : noDict d = true) (s : Same I H) : TyX T.K H v (.type (tyD d)) := by
  cases h with
  | non => exact .base .non
  | bl b => exact .base (.bl b)
  | int i => exact .base (.int i)
  | str x => exact .base (.str x)
  | lst q _ =>
    rcases q with (q | ⟨o, q⟩) | ⟨o, its, n, q, c, _⟩
    · exact .base (.lst (s _ _ q))
    · exact .base (.frz (s _ _ q))
    · exact .kList q c
  | tup q _ =>
    rcases q with (q | ⟨o, q⟩) | ⟨o, its, n, q, c, _⟩
    · exact .base (.tup (s _ _ q))
    · exact .fTuple (s _ _ q)
    · exact .kTuple q c
  | dk _ _ _ => cases hd
  | dn _ _ _ _ _ => cases hd
/-- is a value of type t one of type c -/
def isT (t c : String) : Bool := t == c || (t == "bool" && c == "int")
theorem kit_isT {K : PySem.W.Frag} {t c : String} (ht : t ∈ ["NoneType", "bool", "int", "str", "list", "tuple"]) (hc : c ∈ ["int", "bool", "str", "tuple"]) : PySem.W.kitOne K (.type t) (.type c) = some (isT t c) := by
  simp only [List.mem_cons, List.not_mem_nil, or_false] at ht hc
  rcases ht with rfl | rfl | rfl | rfl | rfl | rfl <;> rcases hc with rfl | rfl | rfl | rfl <;> rfl
section
variable {X : Cx} {e a b c o : Expr} {es : List Expr} {rest : List Stmt} {Γ Γ' Γ1 Γ2 : Sl} {Ψ : OD → Sl → Prop} {Φ : Out → Prop} {pos p apos cpos p2 : Pos} {r x y z : OD} {nm n2 f m : Str} {d : PyData} {ds : List PyData} {mk : List PyData → OD}
theorem tyD_mem (hd : noDict d = true) : tyD d ∈ ["NoneType", "bool", "int", "str", "list", "tuple"] := by
  cases d with
  | dict _ => cases hd
  | _ => simp [tyD]
theorem xe_isi {Ty : String} (B : Blt X.mg) (hT : X.mg n2 = none) (hv : bootBuiltins n2 = some (.type Ty)) (hc : Ty ∈ ["int", "bool", "str", "tuple"]) (ha : XE X a Γ (.da d) Γ1) (hd : noDict d = true := by rfl) (hg : Gl X "isinstance" := by rfl) (hg2 : Gl X n2 := by rfl)
    (hn : n2 ≠ "__name__" := by decide) (hdb : (n2 == ("__debug__" : Str)) = false := by decide)
    (he : starEach [a, .Name n2 p2] X.env = (false, eval a X.env) :: starEach [.Name n2 p2] X.env := by rfl) (he2 : starEach [.Name n2 p2] X.env = (false, eval (.Name n2 p2) X.env) :: starEach [] X.env := by rfl) (hpl : (backTo pos (starEach [.Name n2 p2] X.env)).any (·.1) = false := by rfl) :
    XE X (.Call (.Name "isinstance" p) [a, .Name n2 p2] [] pos) Γ (.da (.bool (isT (tyD d) Ty))) Γ1 := fun Ψ hq I H σ F en Q k => by
  refine ⟨_, pe_callB call_isi hg B.isinstance (by decide +kernel) (pa_cons wpE_ok (pa_cons (pe_bltn (v := .ty Ty) hg2 hT hv rfl hn hdb) pa_nil he2) he) (by decide) (by decide) he hpl, ha (fun r Γ' => r = .da d ∧ Γ' = Γ1) ⟨rfl, rfl⟩ I H σ F en _ ?_⟩
  rintro _ _ I1 H1 v F1 ⟨rfl, rfl⟩ st1 en1
  obtain ⟨B', G, rfl, oo, en2, _⟩ := en1.pop
  cases oo with
  | da hh => exact ⟨v, .ty Ty, .type (tyD d), .type Ty, isT (tyD d) Ty, rfl, .ty Ty, tyx_of hh hd en2.sub, kit_isT (tyD_mem hd) hc, k _ _ I1 H1 _ _ hq st1 (en2.da (.bl _))⟩
theorem xe_isInt (B : Blt X.mg) (ha : XE X a Γ (.da d) Γ1) (hd : noDict d = true := by rfl) (hg : Gl X "isinstance" := by rfl) (hg2 : Gl X "int" := by rfl)
    (he : starEach [a, .Name "int" p2] X.env = (false, eval a X.env) :: starEach [.Name "int" p2] X.env := by rfl) (he2 : starEach [.Name "int" p2] X.env = (false, eval (.Name "int" p2) X.env) :: starEach [] X.env := by rfl) (hpl : (backTo pos (starEach [.Name "int" p2] X.env)).any (·.1) = false := by rfl) :
    XE X (.Call (.Name "isinstance" p) [a, .Name "int" p2] [] pos) Γ (.da (.bool (isT (tyD d) "int"))) Γ1 := xe_isi B B.int (by decide +kernel) (by decide) ha hd hg hg2 (by decide) (by decide) he he2 hpl
theorem xe_isBool (B : Blt X.mg) (ha : XE X a Γ (.da d) Γ1) (hd : noDict d = true := by rfl) (hg : Gl X "isinstance" := by rfl) (hg2 : Gl X "bool" := by rfl)
    (he : starEach [a, .Name "bool" p2] X.env = (false, eval a X.env) :: starEach [.Name "bool" p2] X.env := by rfl) (he2 : starEach [.Name "bool" p2] X.env = (false, eval (.Name "bool" p2) X.env) :: starEach [] X.env := by rfl) (hpl : (backTo pos (starEach [.Name "bool" p2] X.env)).any (·.1) = false := by rfl) :
    XE X (.Call (.Name "isinstance" p) [a, .Name "bool" p2] [] pos) Γ (.da (.bool (isT (tyD d) "bool"))) Γ1 := xe_isi B B.bool (by decide +kernel) (by decide) ha hd hg hg2 (by decide) (by decide) he he2 hpl
theorem xe_isStr (B : Blt X.mg) (ha : XE X a Γ (.da d) Γ1) (hd : noDict d = true := by rfl) (hg : Gl X "isinstance" := by rfl) (hg2 : Gl X "str" := by rfl)
    (he : starEach [a, .Name "str" p2] X.env = (false, eval a X.env) :: starEach [.Name "str" p2] X.env := by rfl) (he2 : starEach [.Name "str" p2] X.env = (false, eval (.Name "str" p2) X.env) :: starEach [] X.env := by rfl) (hpl : (backTo pos (starEach [.Name "str" p2] X.env)).any (·.1) = false := by rfl) :
    XE X (.Call (.Name "isinstance" p) [a, .Name "str" p2] [] pos) Γ (.da (.bool (isT (tyD d) "str"))) Γ1 := xe_isi B B.str (by decide +kernel) (by decide) ha hd hg hg2 (by decide) (by decide) he he2 hpl
theorem xe_isTup (B : Blt X.mg) (ha : XE X a Γ (.da d) Γ1) (hd : noDict d = true := by rfl) (hg : Gl X "isinstance" := by rfl) (hg2 : Gl X "tuple" := by rfl)
    (he : starEach [a, .Name "tuple" p2] X.env = (false, eval a X.env) :: starEach [.Name "tuple" p2] X.env := by rfl) (he2 : starEach [.Name "tuple" p2] X.env = (false, eval (.Name "tuple" p2) X.env) :: starEach [] X.env := by rfl) (hpl : (backTo pos (starEach [.Name "tuple" p2] X.env)).any (·.1) = false := by rfl) :
    XE X (.Call (.Name "isinstance" p) [a, .Name "tuple" p2] [] pos) Γ (.da (.bool (isT (tyD d) "tuple"))) Γ1 := xe_isi B B.tuple (by decide +kernel) (by decide) ha hd hg hg2 (by decide) (by decide) he he2 hpl

/-! ### a number of the module -/
theorem xe_globI {i : Int} (hm : ∃ t, X.mg nm = some (.int i t)) (hg : Gl X nm := by rfl) (hdb : (nm == ("__debug__" : Str)) = false := by decide) : XE X (.Name nm p) Γ (.da (.int i)) Γ := fun Ψ hq => by
  obtain ⟨t, hm⟩ := hm
  exact we_const (fun _ => .int i) (pe_glob (v := .int i) hg hm ⟨t, rfl⟩ hdb) hq

/-! ### list.insert, list.pop(i) -/
theorem RpL.insertAt {T : TC} {I : Hp} {v : V} {d : PyData} (h : Rp T I v d) {vs : List V} {ds : List PyData} (r : RpL T I vs ds) (n : Nat) : RpL T I (vs.take n ++ [v] ++ vs.drop n) (ds.take n ++ [d] ++ ds.drop n) :=
  RpL.append (RpL.append (r.take n) (.cons h .nil)) (r.drop n)
theorem RpL.eraseAt {T : TC} {I : Hp} : ∀ {vs : List V} {ds : List PyData} (_ : RpL T I vs ds) (n : Nat), RpL T I (vs.eraseIdx n) (ds.eraseIdx n)
  | _, _, .nil, _ => .nil
  | _, _, .cons _ r, 0 => r
  | _, _, .cons h r, n + 1 => .cons h (RpL.eraseAt r n)
/-- xs.insert(a, b), xs an own list in a slot, its place and its item drawn -/
theorem we_insert (i : Nat) (h : WE X a Γ fun r Γ1 => ∃ j : Int, r = .da (.int j) ∧ WE X b Γ1 fun r2 Γ2 => ∃ d x ds mk, r2 = .da d ∧ Γ2[i]? = some (some x) ∧ VLL x ds mk ∧ ds.length < sizeLine ∧ 0 ≤ j ∧ j < 2 ^ 63 ∧ Ψ (.da .none) (Γ2.set i (some (mk (ds.take j.toNat ++ [d] ++ ds.drop j.toNat)))))
    (hx : Γ[i]? = some (some x) := by rfl) (hv : VLL x ds mk := by first | exact .ll | exact .pin) (hN : X.N[i]? = some nm := by rfl) (hvs : Vis X.env.scope nm := by first | exact Or.inl rfl | exact Or.inr (Or.inl rfl) | exact Or.inr (Or.inr rfl)) (h1 : (nm == ("__debug__" : Str)) = false := by decide) (h2 : (nm == ("__classdict__" : Str)) = false := by decide)
    (hst : starEach [a, b] X.env = (false, eval a X.env) :: starEach [b] X.env := by rfl) (hst2 : starEach [b] X.env = (false, eval b X.env) :: starEach [] X.env := by rfl)
    (hb : attributeBase (.Name nm p) "insert" X.env (eval (.Name nm p) X.env) = eval (.Name nm p) X.env := by rfl)
    (hfew : ((backTo pos (starEach [a, b] X.env)).all (fun x => !x.1) && (backToKw pos (keywordEach [] X.env)).all (fun x => x.1.isSome)
      && decide (([a, b] : List Expr).length + ([] : List Keyword).length + (if ([] : List Keyword).isEmpty then 0 else 1) < 30)) = true := by rfl) (hline : (apos.endLine == pos.line) = true := by rfl) (hs2 : (backTo pos (starEach [b] X.env)).any (·.1) = false := by rfl) :
    WE X (.Call (.Attribute (.Name nm p) "insert" apos) [a, b] [] pos) Γ Ψ := fun I H σ F en Q k => by
  refine ⟨_, pe_bm PySem.F.plainAttrs_list PySem.F.slot_list_insert PySem.F.type_list_insert mt_insert (pe_var hN hvs h1 h2) (pa_cons wpE_ok (pa_cons wpE_ok pa_nil hst2) hst) hb hfew hline hst hs2, ?_⟩
  obtain ⟨q, vs, e1, g1, _, _⟩ := en.ll hx hv
  refine ⟨_, e1, .inl ⟨rfl, _, SqL.of g1⟩, h I H σ F en _ ?_⟩
  rintro r Γ1 I1 H1 v F1 ⟨j, rfl, h3⟩ st1 en1
  obtain ⟨B, G, rfl, oo, en2, _⟩ := en1.pop
  cases oo with
  | da hj =>
    cases hj
    refine h3 I1 H1 σ _ en2 _ ?_
    rintro r2 Γ2 I2 H2 u F2 ⟨d, x, ds, mk, rfl, hx2, hv2, hz, j0, j1, hq⟩ st2 en3
    obtain ⟨B2, G2, rfl, o2, en4, _⟩ := en3.pop
    cases o2 with
    | da hd =>
      obtain ⟨q', vs', e1', g3, g4, g5⟩ := en4.ll hx2 hv2
      rw [e1] at e1'
      cases e1'
      obtain ⟨F5, en5, st5⟩ := g5 _ _ (RpL.insertAt hd g4 j.toNat)
      exact ⟨q, vs', j, u, rfl, rfl, g3, by rw [g4.length]; exact hz, j0, j1, k _ _ I2 _ _ F5 hq ((st1.trans st2).trans st5) (en5.da .non)⟩
end

/-! ### own things within an own list -/
section
variable {T : TC} {I H : Hp}
theorem ownL_at : ∀ {vs : List V} {xs : List OD} {F : List Addr} {j : Nat} {x : OD}, OwnL T I H vs xs F → xs[j]? = some x → ∃ v B G, vs[j]? = some v ∧ Own T I H v x B ∧ F.Perm (B ++ G) ∧ (∀ b ∈ G, (∃ o, H b = some o) ∧ I b = none) ∧
    ∀ {I' H' : Hp} {x' : OD} {B' : List Addr}, Same I I' → (∀ b ∈ G, H' b = H b ∧ I' b = none) → Own T I' H' v x' B' → ∃ F', OwnL T I' H' vs (xs.set j x') F' ∧ F'.Perm (B' ++ G)
  | _, _, _, j, x, .nil, e => by simp at e
  | _, _, _, 0, x, .cons (F := F) (G := G) o r, e => by
    simp at e
    subst e
    exact ⟨_, F, G, rfl, o, List.Perm.refl _, r.cells, fun s k o' => ⟨_, .cons o' (r.frame s k), List.Perm.refl _⟩⟩
  | _, _, _, j + 1, x, .cons (F := F) (G := G) o r, e => by
    obtain ⟨v, B, G', h1, h2, h3, h4, h5⟩ := ownL_at (j := j) r (by simpa using e)
    have p1 : ∀ B' : List Addr, (F ++ (B' ++ G')).Perm (B' ++ (F ++ G')) := fun B' => by
      rw [← List.append_assoc, ← List.append_assoc]
      exact List.perm_append_comm.append_right G'
    refine ⟨v, B, F ++ G', by simpa using h1, h2, ((List.Perm.refl F).append h3).trans (p1 B), fun b hb => (List.mem_append.mp hb).elim (o.cells b) (h4 b), fun s k o' => ?_⟩
    obtain ⟨F', q1, q2⟩ := h5 s (fun b hb => k b (List.mem_append_right _ hb)) o'
    exact ⟨_, .cons (o.frame s fun b hb => k b (List.mem_append_left _ hb)) q1, ((List.Perm.refl F).append q2).trans (p1 _)⟩
/-- the j-th item of the own list in the i-th slot -/
theorem EnvF.item {σ : L2.St} {Γ : Sl} {F : List Addr} {i j : Nat} {xs : List OD} {x : OD} (en : EnvF T I H σ Γ F) (hx : Γ[i]? = some (some (.ls xs))) (hj : xs[j]? = some x) : ∃ p vs v B G, σ[i]? = some (some (.ref p)) ∧ H p = some (.lst vs) ∧ vs.length = xs.length ∧ vs[j]? = some v ∧ Own T I H v x B ∧ F.Perm (B ++ G) ∧
    (∀ b ∈ G, (∃ o, H b = some o) ∧ I b = none) ∧ ∀ {I' H' : Hp} {x' : OD} {B' : List Addr}, Same I I' → (∀ b ∈ G, H' b = H b ∧ I' b = none) → Same I' H' → Own T I' H' v x' B' → (B' ++ G).Nodup → ∃ F', EnvF T I' H' σ (Γ.set i (some (.ls (xs.set j x')))) F' ∧ ∀ b ∈ F', b ∈ B' ∨ b ∈ G := by
  have hl : i < Γ.length := (List.getElem?_eq_some_iff.mp hx).1
  obtain ⟨v0, A, B0, C, e1, rfl, o, _⟩ := en.env.at hx
  obtain ⟨A2, B2, C2, e2, kk, _, _⟩ := en.env.put hl
  cases o with
  | @ls p vs _ F1 h1 h2 h3 =>
    obtain ⟨v, B, G1, g1, g2, g3, g4, g5⟩ := ownL_at h3 hj
    -- the frame apart from the list
    obtain ⟨v9, B9, G9, e9, o9, en9, nd9, mem9⟩ := en.take hx
    rw [e1] at e9
    cases e9
    cases o9 with
    | @ls _ vs9 _ F9 k1 k2 k3 =>
      rw [h1] at k1
      cases k1
      obtain ⟨v8, B8, G8, l1, l2, l3, l4, l5⟩ := ownL_at k3 hj
      have p9 : (A ++ (p :: F1 ++ C)).Perm (p :: F9 ++ G9) := by
        refine (List.perm_ext_iff_of_nodup en.nd nd9).mpr fun b => ?_
        rw [mem9 b, List.mem_append]
      have pm : (p :: F9 ++ G9).Perm (B8 ++ (p :: (G8 ++ G9))) := by
        have q1 : (p :: F9 ++ G9).Perm (p :: (B8 ++ G8) ++ G9) := (l3.cons p).append_right G9
        refine q1.trans ?_
        rw [List.cons_append, List.append_assoc]
        exact List.perm_middle.symm
      refine ⟨p, vs, v8, B8, p :: (G8 ++ G9), e1, h1, h3.length, l1, l2, p9.trans pm, fun b hb => ?_, fun {I' H' x' B'} s k sub o' nd' => ?_⟩
      · rcases List.mem_cons.mp hb with rfl | hb
        · exact ⟨⟨_, h1⟩, h2⟩
        · exact (List.mem_append.mp hb).elim (l4 b) (en9.env.cells b)
      · obtain ⟨F', q1, q2⟩ := l5 s (fun b hb => k b (List.mem_cons_of_mem _ (List.mem_append_left _ hb))) o'
        have own' : Own T I' H' (.ref p) (.ls (xs.set j x')) (p :: F') := .ls ((k p List.mem_cons_self).1.trans h1) (k p List.mem_cons_self).2 q1
        have en' : EnvF T I' H' σ (Γ.set i none) G9 := ⟨en9.env.frame s fun b hb => k b (List.mem_cons_of_mem _ (List.mem_append_right _ hb)), en9.nd, sub⟩
        have pn : (p :: F' ++ G9).Perm (B' ++ (p :: (G8 ++ G9))) := by
          have r1 : (p :: F' ++ G9).Perm (p :: (B' ++ G8) ++ G9) := (q2.cons p).append_right G9
          refine r1.trans ?_
          rw [List.cons_append, List.append_assoc]
          exact List.perm_middle.symm
        have ndn : (p :: F' ++ G9).Nodup := pn.nodup_iff.mpr nd'
        obtain ⟨F3, en3, nd3, m3⟩ := en'.into e1 own' ndn
        rw [List.set_set] at en3
        refine ⟨F3, en3, fun b hb => ?_⟩
        exact List.mem_append.mp (pn.subset ((m3 b hb).elim (List.mem_append_left _) (List.mem_append_right _)))
/-- the j-th item of the own list in the i-th slot, seen otherwise -/
theorem we_itemConv {X : Cx} {e : Expr} {Γ : Sl} {Ψ : OD → Sl → Prop} (i j : Nat) {xs : List OD} {x : OD} {ι : Type} {y : ι → OD} (cv : ∀ (I H : Hp) (v : V) (B : List Addr), Own X.tc I H v x B → ∃ k, Own X.tc I H v (y k) B) (hx : Γ[i]? = some (some (.ls xs))) (hj : xs[j]? = some x)
    (h : ∀ k, WE X e (Γ.set i (some (.ls (xs.set j (y k))))) Ψ) : WE X e Γ Ψ := fun I H σ F en Q kq => by
  obtain ⟨p, vs, v, B, G, e1, h1, l1, hv, o, pm, cl, up⟩ := en.item hx hj
  obtain ⟨k, oy⟩ := cv I H v B o
  obtain ⟨F', en', m⟩ := up (Same.refl I) (fun b hb => ⟨rfl, (cl b hb).2⟩) en.sub oy (pm.nodup_iff.mp en.nd)
  exact h k I H σ F' en' Q fun r Γ' I' H' v F2 q st => kq r Γ' I' H' v F2 q ((Step.less fun b hb => pm.symm.subset (List.mem_append.mpr (m b hb))).trans st)
end
section
variable {X : Cx} {e a b c o : Expr} {es : List Expr} {Γ Γ' Γ1 Γ2 : Sl} {Ψ : OD → Sl → Prop} {pos p apos cpos p2 : Pos} {r x y z : OD} {nm fnm : Str} {d : PyData} {ds : List PyData} {xs : List OD} {k : Nat} {ps : List Str} {sp : SpD}
/-- f(xs[b], e, ..): the item handed over, the rest data -/
theorem we_fnIx (i j : Nat) (G : Def X.prog X.w X.K X.mg X.base k fnm ps sp) (hr : Room k X.A) (hgd : X.A.guards = some []) (hx : Γ[i]? = some (some (.ls xs))) (hj : xs[j]? = some x) (hb : XE X b Γ (.da (.int (j : Nat))) Γ)
    (hds : ∀ v : V, XD X es (Γ.set i (some (.ls (xs.set j (.pin v x))))) ds (Γ.set i (some (.ls (xs.set j (.pin v x))))))
    (hsp : sp (x :: ds.map .da) fun r as' => ∃ x' ys, as' = x' :: ys ∧ Ψ r (Γ.set i (some (.ls (xs.set j x'))))) (hN : X.N[i]? = some nm := by rfl)
    (hvs : Vis X.env.scope nm := by first | exact Or.inl rfl | exact Or.inr (Or.inl rfl) | exact Or.inr (Or.inr rfl)) (h1 : (nm == ("__debug__" : Str)) = false := by decide) (h2 : (nm == ("__classdict__" : Str)) = false := by decide) (hs : PlainIx b := by exact fun _ _ => rfl)
    (hg : Gl X fnm := by rfl) (hdb : (fnm == ("__debug__" : Str)) = false := by decide) (he : starEach (.Subscript (.Name nm p2) b apos :: es) X.env = (false, eval (.Subscript (.Name nm p2) b apos) X.env) :: starEach es X.env := by rfl) (hpl : (backTo pos (starEach es X.env)).any (·.1) = false := by rfl)
    (hst : ∀ (e : Expr) (r : List Expr), (e :: r) <:+ es → starEach (e :: r) X.env = (false, eval e X.env) :: starEach r X.env := by intro e r h; simp [List.suffix_cons_iff] at h; rcases h with h | h | h | h <;> (obtain ⟨rfl, rfl⟩ := h; rfl)) : WE X (.Call (.Name fnm p) (.Subscript (.Name nm p2) b apos :: es) [] pos) Γ Ψ := fun I H σ F en Q kq => by
  obtain ⟨_, _, FG, hm, hk, hbd⟩ := G
  refine ⟨_, pe_callG FG hr hgd hg hm hk hbd pass0 (pa_cons (pe_ix ix_list (pe_var hN hvs h1 h2) wpE_ok hs) wpA_ok he) hdb he hpl, ?_⟩
  obtain ⟨p0, vs0, v0, B0, G0, e1, g1, l1, gv, go, _, _, _⟩ := en.item hx hj
  refine ⟨_, e1, hb (fun r Γ' => r = .da (.int (j : Nat)) ∧ Γ' = Γ) ⟨rfl, rfl⟩ I H σ F en _ ?_⟩
  rintro _ Γb I1 H1 w F1 ⟨rfl, eΓ⟩ st1 en1
  subst eΓ
  obtain ⟨Bw, Gw, rfl, ow, en2, _⟩ := en1.pop
  cases ow with
  | da hw =>
    cases hw
    obtain ⟨p1, vs1, v1, B1, G1, e1', g1', l1', gv', go', pm', cl', up'⟩ := en2.item hx hj
    rw [e1] at e1'
    cases e1'
    have hjl : j < vs1.length := (List.getElem?_eq_some_iff.mp gv').1
    refine ⟨p0, vs1, (j : Nat), v1, rfl, rfl, SqL.of g1', atI_nat gv', ?_⟩
    obtain ⟨Fp, enp, mp⟩ := up' (Same.refl I1) (fun b hb => ⟨rfl, (cl' b hb).2⟩) en2.sub (.pin go' : Own X.tc I1 H1 v1 (.pin v1 x) B1) (pm'.nodup_iff.mp en2.nd)
    have stp : Step I1 H1 Gw I1 H1 Fp := Step.less fun b hb => pm'.symm.subset (List.mem_append.mpr (mp b hb))
    refine (hds v1).wa (Ψa := fun rs _ Γ' => rs = ds.map .da ∧ Γ' = Γb.set i (some (.ls (xs.set j (.pin v1 x))))) (fun refs => ⟨rfl, rfl⟩) hst I1 H1 σ Fp enp _ ?_
    rintro _ refs _ I3 H3 us F3 ⟨rfl, rfl⟩ m1 m2 rk st3 en3
    obtain ⟨Bd, G3, rfl, od, en4⟩ := en3.popL m1
    obtain ⟨rfl, rd⟩ := ownL_da od
    have hxs : (xs.set j (.pin v1 x))[j]? = some (.pin v1 x) := List.getElem?_set_self (List.getElem?_eq_some_iff.mp hj).1
    have hil : i < Γb.length := (List.getElem?_eq_some_iff.mp hx).1
    obtain ⟨p4, vs4, v4, B4, G4, e4, g4, l4, gv4, go4, pm4, cl4, up4⟩ := en4.item (i := i) (j := j) (List.getElem?_set_self hil) hxs
    cases go4 with
    | pin go4 =>
      have nd4 := pm4.nodup_iff.mp en4.nd
      have hd4 := List.nodup_append.mp nd4
      rw [List.append_nil]
      refine ⟨I3, x :: ds.map .da, B4 ++ [], _, .cons go4 od, by rw [List.append_nil]; exact hd4.1, en4.sub, hsp, ?_⟩
      rintro r as' I5 H5 v F5 ⟨x', ys, rfl, hq⟩ st5 o5 nd5 sub5
      cases o5 with
      | cons orr oas => cases oas with
        | @cons _ _ _ _ Bx By ox oys =>
          rename_i Br
          have kp : ∀ b ∈ G4, H5 b = H3 b ∧ I5 b = none ∧ b ∉ Br ++ (Bx ++ By) := fun b hb => by
            obtain ⟨⟨ob, h3⟩, h4⟩ := cl4 b hb
            obtain ⟨h5, h6, h7⟩ := st5.oth b ob h3 h4 fun q => hd4.2.2 b (by simpa using q) b hb rfl
            exact ⟨h5.trans h3.symm, h6, h7⟩
          have ndA := List.nodup_append.mp nd5
          have ndB := List.nodup_append.mp ndA.2.1
          have nd6 : (Bx ++ G4).Nodup := List.nodup_append.mpr ⟨ndB.1, hd4.2.1, fun a ha b hb z => by
            subst z
            exact (kp a hb).2.2 (by simp [ha])⟩
          obtain ⟨F6, en6, m6⟩ := up4 st5.inc (fun b hb => ⟨(kp b hb).1, (kp b hb).2.1⟩) sub5 ox nd6
          rw [List.set_set, List.set_set] at en6
          have stq : Step I3 H3 G3 I5 H5 (Br ++ F6) := ⟨st5.inc, fun b ob e i n => by
            have nb : b ∉ B4 ++ G4 := fun z => n (pm4.symm.subset z)
            rw [List.mem_append, not_or] at nb
            obtain ⟨h3, h4, h5⟩ := st5.oth b ob e i (by simpa using nb.1)
            refine ⟨h3, h4, fun q => ?_⟩
            rcases List.mem_append.mp q with q | q
            · exact h5 (by simp [q])
            · exact (m6 b q).elim (fun z => h5 (by simp [z])) nb.2⟩
          refine kq r _ I5 H5 v (Br ++ F6) hq ((((st1.trans (Step.less fun b hb => by simpa using hb)).trans stp).trans st3).trans (by simpa using stq)) ⟨.cons orr en6.env, List.nodup_append.mpr ⟨ndA.1, en6.nd, fun a ha b hb z => ?_⟩, en6.sub⟩
          subst z
          rcases m6 a hb with w | w
          · exact ndA.2.2 a ha a (List.mem_append_left _ w) rfl
          · exact (kp a w).2.2 (by simp [ha])
end
end TL

/-! TL32: drawn bounds and arguments, max of an answer, lists within lists read and shortened. -/
namespace TL
open PySem PySem.Spec PyProof.Rows L2
section
variable {X : Cx} {e a b c o : Expr} {es : List Expr} {rest : List Stmt} {Γ Γ' Γ1 Γ2 Γ3 : Sl} {Ψ : OD → Sl → Prop} {Φ : Out → Prop} {pos p apos cpos p2 p3 : Pos} {r x y z : OD} {nm n2 f m : Str} {d : PyData} {ds : List PyData} {xs : List OD} {mk : List PyData → OD}
/-- a - b, of answers -/
theorem we_sub (h : WE X a Γ fun x Γ1 => ∃ i, x = .da (.int i) ∧ WE X b Γ1 fun y Γ2 => ∃ j, y = .da (.int j) ∧ Ψ (.da (.int (i - j))) Γ2) : WE X (.BinOp a .Sub b pos) Γ Ψ :=
  we_bin op_sub (h.mono fun x Γ1 ⟨i, e, h2⟩ => h2.mono fun y Γ2 ⟨j, e2, hq⟩ => ⟨_, by rw [e, e2]; exact o2_I0 fun _ => .int _, hq⟩)
theorem we_max2 (B : Blt X.mg) (hc : X.calm = true) (h : WE X a Γ fun x Γ1 => ∃ i : Int, x = .da (.int i) ∧ WE X b Γ1 fun y Γ2 => ∃ j : Int, y = .da (.int j) ∧ Ψ (.da (.int (if j > i then j else i))) Γ2) (hg : Gl X "max" := by rfl) (he : starEach [a, b] X.env = (false, eval a X.env) :: starEach [b] X.env := by rfl)
    (he2 : starEach [b] X.env = (false, eval b X.env) :: starEach [] X.env := by rfl) (hpl : (backTo pos (starEach [b] X.env)).any (·.1) = false := by rfl) : WE X (.Call (.Name "max" p) [a, b] [] pos) Γ Ψ :=
  we_callB (call_max2 hc) hg B.max (by decide +kernel) (wa_cons (h.mono fun x Γ1 ⟨i, e, h2⟩ => wa_cons (h2.mono fun y Γ2 ⟨j, e2, hq⟩ => wa_nil ⟨_, by
      subst e e2
      exact OpL.pure (ds := [.int i, .int j]) fun I H vs r _ Q k => by
        obtain ⟨v, u, rfl, h, h'⟩ := rpL2 r
        cases h
        cases h'
        exact ⟨i, j, rfl, k _ (.int _)⟩, hq⟩) he2) he) (he := he) (hpl := hpl)
theorem xe_maxE {ns : List Int} {m : Int} (B : Blt X.mg) (hc : X.calm = true) (ha : XE X a Γ (.da (.list (ns.map .int))) Γ1) (hm : m ∈ ns) (hx : ∀ y ∈ ns, y ≤ m) (hg : Gl X "max" := by rfl) (he : starEach [a] X.env = (false, eval a X.env) :: starEach [] X.env := by rfl) (hpl : (backTo pos (starEach [] X.env)).any (·.1) = false := by rfl) :
    XE X (.Call (.Name "max" p) [a] [] pos) Γ (.da (.int m)) Γ1 := xe_callB1 (wl := rMax X.K) (cr_max hc) (rd_max (T := X.tc) .da hm hx).opl hg B.max (by decide +kernel) ha (he := he) (hpl := hpl)
theorem xt_lt_le {i j k : Int} (ha : XE X a Γ (.da (.int i)) Γ) (hb : XE X b Γ (.da (.int j)) Γ) (hc : XE X c Γ (.da (.int k)) Γ) (hm : lastMarks [.Lt, .LtE] [b, c] = false := by with_unfolding_all rfl) :
    XT X (.Compare a [.Lt, .LtE] [b, c] pos) Γ (decide (i < j) && decide (j ≤ k)) Γ := xt_chain op_lt op_le o2_bl o2_bl ha hb hc hm
/-- t[:e], t a tuple that is data, the bound drawn -/
theorem we_sliceTo {hi : Expr} (ha : XE X a Γ (.da (.tuple ds)) Γ1) (h : WE X hi Γ1 fun r Γ2 => ∃ j : Int, r = .da (.int j) ∧ Ψ (.da (.tuple (cutD ds none (some j)))) Γ2) : WE X (.Subscript a (.Slice none (some hi) none p2) pos) Γ Ψ := fun I H σ F en Q k => by
  refine ⟨_, pe_slice sl_tupA wpE_ok wpO_ok wpO_ok, ha (fun r Γ' => r = .da (.tuple ds) ∧ Γ' = Γ1) ⟨rfl, rfl⟩ I H σ F en _ ?_⟩
  rintro _ Γ1' I1 H1 v F1 ⟨rfl, e1⟩ st1 en1
  subst e1
  obtain ⟨B, G, rfl, o, en1', _⟩ := en1.pop
  cases o with
  | da o =>
    refine XO.none.go en1' _ fun I2 H2 F2 st2 en2 => h I2 H2 σ F2 en2 _ ?_
    rintro r Γ2 I3 H3 w F3 ⟨j, rfl, hq⟩ st3 en3'
    obtain ⟨B3, G3, rfl, o3, en3, _⟩ := en3'.pop
    cases o3 with
    | da o3 =>
      cases o3
      refine ⟨j, rfl, ?_⟩
      have o' := (o.mono st2.inc).mono st3.inc
      cases o' with
      | @tup a' vs _ q r =>
        have st := (st1.trans st2).trans st3
        refine ⟨a', vs, rfl, sqT_mono en3.sub q, fun hw => ?_, fun _ p hp => ?_⟩
        · have e : cutD ds none (some j) = ds := by
            rw [r.length] at hw
            unfold cutD
            rw [hw.1, hw.2, List.drop_zero, Nat.sub_zero, List.take_length]
          exact k _ _ I3 H3 _ _ hq st (en3.da (by rw [e]; exact .tup q r))
        · obtain ⟨en4, st4⟩ := en3.grow (step_frz (o := .tup (cutV vs none (some j))) en3.sub hp) (upd_both en3.sub)
          exact k _ _ _ _ _ _ hq (st.trans st4) (en4.da (.tup (SqT.of upd_same) ((rpL_cut r none (some j)).mono (upd_up (en3.sub.free hp)))))
/-- len(xs[b]), a list within an own list -/
theorem xe_lenIx (i j : Nat) (B : Blt X.mg) (hx : Γ[i]? = some (some (.ls xs))) (hj : xs[j]? = some (.ll ds)) (hb : XE X b Γ (.da (.int (j : Nat))) Γ) (hN : X.N[i]? = some nm := by rfl)
    (hvs : Vis X.env.scope nm := by first | exact Or.inl rfl | exact Or.inr (Or.inl rfl) | exact Or.inr (Or.inr rfl)) (h1 : (nm == ("__debug__" : Str)) = false := by decide) (h2 : (nm == ("__classdict__" : Str)) = false := by decide) (hs : PlainIx b := by exact fun _ _ => rfl)
    (hg : Gl X "len" := by rfl) (he : starEach [.Subscript (.Name nm p2) b apos] X.env = (false, eval (.Subscript (.Name nm p2) b apos) X.env) :: starEach [] X.env := by rfl) (hpl : (backTo pos (starEach [] X.env)).any (·.1) = false := by rfl) :
    XE X (.Call (.Name "len" p) [.Subscript (.Name nm p2) b apos] [] pos) Γ (.da (.int ds.length)) Γ := fun Ψ hq I H σ F en Q k => by
  refine ⟨_, pe_callB call_len_seq hg B.len PySem.boot_len (pa_cons (pe_ix ix_list (pe_var hN hvs h1 h2) wpE_ok hs) pa_nil he) (by decide) (by decide) he hpl, ?_⟩
  obtain ⟨p0, vs0, v0, B0, G0, e1, g1, l1, gv, go, _, _, _⟩ := en.item hx hj
  refine ⟨_, e1, hb (fun r Γ' => r = .da (.int (j : Nat)) ∧ Γ' = Γ) ⟨rfl, rfl⟩ I H σ F en _ ?_⟩
  rintro _ Γb I1 H1 w F1 ⟨rfl, eΓ⟩ st1 en1
  subst eΓ
  obtain ⟨Bw, Gw, rfl, ow, en2, _⟩ := en1.pop
  cases ow with
  | da hw =>
    cases hw
    obtain ⟨p1, vs1, v1, B1, G1, e1', g1', l1', gv', go', _, _, _⟩ := en2.item hx hj
    rw [e1] at e1'
    cases e1'
    cases go' with
    | @ll q ws _ k1 k2 k3 =>
      refine ⟨p0, vs1, (j : Nat), _, rfl, rfl, SqL.of g1', atI_nat gv', q, ws, rfl, .inl (SqL.of k1), ?_⟩
      rw [k3.length]
      exact k _ _ I1 H1 _ _ hq st1 (en2.da (.int _))
/-- xs[b].pop(0), a list within an own list -/
theorem we_pop0Ix (i j : Nat) (hx : Γ[i]? = some (some (.ls xs))) (hj : xs[j]? = some (.ll (d :: ds))) (hb : XE X b Γ (.da (.int (j : Nat))) Γ) (hq : Ψ (.da d) (Γ.set i (some (.ls (xs.set j (.ll ds)))))) {kk : Nat} (hN : X.N[i]? = some nm := by rfl)
    (hvs : Vis X.env.scope nm := by first | exact Or.inl rfl | exact Or.inr (Or.inl rfl) | exact Or.inr (Or.inr rfl)) (h1 : (nm == ("__debug__" : Str)) = false := by decide) (h2 : (nm == ("__classdict__" : Str)) = false := by decide) (hs : PlainIx b := by exact fun _ _ => rfl)
    (hst : starEach [.Constant (.int 0) kk p3] X.env = (false, eval (.Constant (.int 0) kk p3) X.env) :: starEach [] X.env := by rfl)
    (hbase : attributeBase (.Subscript (.Name nm p2) b p) "pop" X.env (eval (.Subscript (.Name nm p2) b p) X.env) = eval (.Subscript (.Name nm p2) b p) X.env := by rfl)
    (hfew : ((backTo pos (starEach [.Constant (.int 0) kk p3] X.env)).all (fun x => !x.1) && (backToKw pos (keywordEach [] X.env)).all (fun x => x.1.isSome)
      && decide (([.Constant (.int 0) kk p3] : List Expr).length + ([] : List Keyword).length + (if ([] : List Keyword).isEmpty then 0 else 1) < 30)) = true := by rfl) (hline : (apos.endLine == pos.line) = true := by rfl) (hs2 : (backTo pos (starEach [] X.env)).any (·.1) = false := by rfl) :
    WE X (.Call (.Attribute (.Subscript (.Name nm p2) b p) "pop" apos) [.Constant (.int 0) kk p3] [] pos) Γ Ψ := fun I H σ F en Q k => by
  refine ⟨_, pe_bm PySem.F.plainAttrs_list PySem.F.slot_list_pop PySem.F.type_list_pop mt_popAt (pe_ix ix_list (pe_var hN hvs h1 h2) wpE_ok hs) (pa_cons pe_int pa_nil hst) hbase hfew hline hst hs2, ?_⟩
  obtain ⟨p0, vs0, v0, B0, G0, e1, g1, l1, gv, go, _, _, _⟩ := en.item hx hj
  refine ⟨_, e1, hb (fun r Γ' => r = .da (.int (j : Nat)) ∧ Γ' = Γ) ⟨rfl, rfl⟩ I H σ F en _ ?_⟩
  rintro _ Γb I1 H1 w F1 ⟨rfl, eΓ⟩ st1 en1
  subst eΓ
  obtain ⟨Bw, Gw, rfl, ow, en2, _⟩ := en1.pop
  cases ow with
  | da hw =>
    cases hw
    obtain ⟨p1, vs1, v1, B1, G1, e1', g1', l1', gv', go', pm, cl, up⟩ := en2.item hx hj
    rw [e1] at e1'
    cases e1'
    cases go' with
    | @ll q ws _ k1 k2 k3 =>
      cases k3 with
      | @cons u ws' _ _ r1 r2 =>
        have nd := pm.nodup_iff.mp en2.nd
        have qG : q ∉ G1 := (List.nodup_cons.mp (show (q :: G1).Nodup from nd)).1
        obtain ⟨F5, en5, m5⟩ := up (I' := I1) (H' := upd H1 q (.lst ws')) (x' := .ll ds) (B' := [q]) (Same.refl I1) (fun b hb => ⟨upd_ne fun z => qG (z ▸ hb), (cl b hb).2⟩) (fun b u z => by
          rw [upd_ne fun w => by
            rw [w, k2] at z
            cases z]
          exact en2.sub b u z) (.ll upd_same k2 r2) nd
        refine ⟨p0, vs1, (j : Nat), _, rfl, rfl, SqL.of g1', atI_nat gv', .inl ⟨rfl, _, SqL.of k1⟩, q, u :: ws', 0, 0, u, rfl, rfl, k1, by decide, by decide, by simp [seqIndex?], rfl, ?_⟩
        exact k _ _ I1 _ u F5 hq (st1.trans ((step_upd (F := Gw) (a := q) (pm.symm.subset (by simp))).of_mem (fun b hb => hb) fun b hb => pm.symm.subset (List.mem_append.mpr (m5 b hb)))) (en5.da r1)
/-- xs.pop(e), xs an own list in a slot, the place drawn -/
theorem we_popAt (i : Nat) (h : WE X a Γ fun r Γ1 => ∃ (j : Nat) (x : OD) (ds : List PyData) (mk : List PyData → OD) (d : PyData), r = .da (.int j) ∧ Γ1[i]? = some (some x) ∧ VLL x ds mk ∧ ds[j]? = some d ∧ ds.length ≤ 2 ^ 62 ∧ Ψ (.da d) (Γ1.set i (some (mk (ds.eraseIdx j)))))
    (hx : Γ[i]? = some (some x) := by rfl) (hv : VLL x ds mk := by first | exact .ll | exact .pin) (hN : X.N[i]? = some nm := by rfl) (hvs : Vis X.env.scope nm := by first | exact Or.inl rfl | exact Or.inr (Or.inl rfl) | exact Or.inr (Or.inr rfl)) (h1 : (nm == ("__debug__" : Str)) = false := by decide) (h2 : (nm == ("__classdict__" : Str)) = false := by decide)
    (hst : starEach [a] X.env = (false, eval a X.env) :: starEach [] X.env := by rfl) (hb : attributeBase (.Name nm p) "pop" X.env (eval (.Name nm p) X.env) = eval (.Name nm p) X.env := by rfl)
    (hfew : ((backTo pos (starEach [a] X.env)).all (fun x => !x.1) && (backToKw pos (keywordEach [] X.env)).all (fun x => x.1.isSome)
      && decide (([a] : List Expr).length + ([] : List Keyword).length + (if ([] : List Keyword).isEmpty then 0 else 1) < 30)) = true := by rfl) (hline : (apos.endLine == pos.line) = true := by rfl) (hs2 : (backTo pos (starEach [] X.env)).any (·.1) = false := by rfl) :
    WE X (.Call (.Attribute (.Name nm p) "pop" apos) [a] [] pos) Γ Ψ := fun I H σ F en Q k => by
  refine ⟨_, pe_bm PySem.F.plainAttrs_list PySem.F.slot_list_pop PySem.F.type_list_pop mt_popAt (pe_var hN hvs h1 h2) (pa_cons wpE_ok pa_nil hst) hb hfew hline hst hs2, ?_⟩
  obtain ⟨q, vs, e1, g1, _, _⟩ := en.ll hx hv
  refine ⟨_, e1, .inl ⟨rfl, _, SqL.of g1⟩, h I H σ F en _ ?_⟩
  rintro r Γ1 I1 H1 v F1 ⟨j, x, ds, mk, d, rfl, hx2, hv2, hj, hz, hq⟩ st1 en1
  obtain ⟨B, G, rfl, oo, en2, _⟩ := en1.pop
  cases oo with
  | da hj' =>
    cases hj'
    obtain ⟨q', vs', e1', g3, g4, g5⟩ := en2.ll hx2 hv2
    rw [e1] at e1'
    cases e1'
    obtain ⟨u, hu, ru⟩ := g4.get hj
    have hl : j < vs'.length := (List.getElem?_eq_some_iff.mp hu).1
    have hl2 := g4.length
    obtain ⟨F5, en5, st5⟩ := g5 _ _ (RpL.eraseAt g4 j)
    have six : seqIndex? (j : Int) vs'.length = some j := (ixN_seq (show ixN vs'.length (j : Int) = some j by
      unfold ixN
      rw [if_pos (by omega), if_pos (by omega), Int.toNat_natCast])).1
    exact ⟨q, vs', j, j, u, rfl, rfl, g3, by omega, by omega, six, hu, k _ _ I1 _ u F5 hq (st1.trans st5) (en5.da ru)⟩
end
end TL

/-! TL33: methods by their bodies, drawn comprehensions, bounds of slices. -/
namespace TL
open PySem PySem.Spec PyProof.Rows L2
/-- the method m of the class at C stands in the text as st -/
def DKM (K : PySem.W.Frag) (C : Addr) (m qual : Str) (st : Stmt) : Prop := ∃ f fd, Fun K m qual st f fd ∧ Meth K C m f
/-- the class's __init__ -/
def DKI (K : PySem.W.Frag) (C : Addr) (cn qual : Str) (st : Stmt) : Prop := ∃ f fd, Fun K "__init__" qual st f fd ∧ Mk K C f ∧ PySem.W.nsIn K mainGlobals cn = some (some (.ref C))
theorem meth_ok {P : Program} {w : World} {K : PySem.W.Frag} {mg : Str → Option Value} {bs : Heap} {k : Nat} {C : Addr} {m qual : Str} {st : Stmt} {N ps : List Str} {sp : SpD} (D : DKM K C m qual st) (c : Cls K C) (S : FnScope N ps (defScope st))
    (b : ∀ f fd, Fun K m qual st f fd → Binds K fd ps []) (ln : ∀ as Ψ, sp as Ψ → as.length = ps.length)
    (hb : ∀ (f : Addr) (cdv : Value) (A : Around) (fr : List PySem.Env) (s : Shared) (H : Hp) (E : XK), TL.Fr (dcx P w K mg bs N qual st f cdv A fr s H E) k → ∀ (as : List OD) (Ψ : OD → List OD → Prop) (vs : List V), sp as Ψ → vs.length = ps.length →
      WSs (dcx P w K mg bs N qual st f cdv A fr s H E) (defBody st) (start0 N as vs) (fnΦ as vs Ψ)) : DefM P w K mg bs (k + 1) C m ps sp := by
  obtain ⟨f, fd, F, M⟩ := D
  refine ⟨f, fd, fn_ok F S ln fun X' cdv A fr s H E hX hr hg as Ψ vs hsp hl => ?_, M, b f fd F, c⟩
  subst hX
  exact hb f cdv A fr s H E ⟨S.nd, rfl, PassesOwn.never, hr, hg⟩ as Ψ vs hsp (by rw [hl, ln as Ψ hsp])
theorem init_ok {P : Program} {w : World} {K : PySem.W.Frag} {mg : Str → Option Value} {bs h : Heap} {k : Nat} {C : Addr} {cn qual : Str} {st : Stmt} {N ps : List Str} {sp : SpD} (X : K.In h) (G : h.Ns mainGlobals mg) (D : DKI K C cn qual st) (S : FnScope N ps (defScope st))
    (b : ∀ f fd, Fun K "__init__" qual st f fd → Binds K fd ps []) (ln : ∀ as Ψ, sp as Ψ → as.length = ps.length)
    (hb : ∀ (f : Addr) (cdv : Value) (A : Around) (fr : List PySem.Env) (s : Shared) (H : Hp) (E : XK), TL.Fr (dcx P w K mg bs N qual st f cdv A fr s H E) k → ∀ (as : List OD) (Ψ : OD → List OD → Prop) (vs : List V), sp as Ψ → vs.length = ps.length →
      WSs (dcx P w K mg bs N qual st f cdv A fr s H E) (defBody st) (start0 N as vs) (fnΦ as vs Ψ)) : DefI P w K mg bs (k + 1) cn C ps sp := by
  obtain ⟨f, fd, F, M, a⟩ := D
  refine ⟨f, fd, fn_ok F S ln fun X' cdv A fr s H E hX hr hg as Ψ vs hsp hl => ?_, M, b f fd F, PySem.W.mg_of X G a⟩
  subst hX
  exact hb f cdv A fr s H E ⟨S.nd, rfl, PassesOwn.never, hr, hg⟩ as Ψ vs hsp (by rw [hl, ln as Ψ hsp])
/-- a number of the module's top -/
def DKC (K : PySem.W.Frag) (nm : Str) (i : Int) : Prop := ∃ t, PySem.W.nsIn K mainGlobals nm = some (some (.int i t))
theorem DKC.mg {K : PySem.W.Frag} {h : Heap} {mg : Str → Option Value} {nm : Str} {i : Int} (d : DKC K nm i) (X : K.In h) (G : h.Ns mainGlobals mg) : ∃ t, mg nm = some (.int i t) := let ⟨t, e⟩ := d; ⟨t, PySem.W.mg_of X G e⟩
/-! ### slices -/
theorem cutD_nat {ds : List PyData} {lo hi : Nat} : cutD ds (some (lo : Int)) (some (hi : Int)) = (ds.drop (min lo ds.length)).take (min hi ds.length - min lo ds.length) := by
  unfold cutD
  rw [HT.sIx_nat, HT.sIx_nat]
theorem cutD_to {ds : List PyData} {hi : Nat} : cutD ds none (some (hi : Int)) = ds.take hi := by
  unfold cutD
  rw [HT.sIx_none, HT.sIx_nat, List.drop_zero, Nat.sub_zero]
  rcases Nat.le_total hi ds.length with h | h
  · rw [Nat.min_eq_left h]
  · rw [Nat.min_eq_right h, List.take_length, List.take_of_length_le h]
theorem cutD_from {ds : List PyData} {lo : Nat} : cutD ds (some (lo : Int)) none = ds.drop lo := by
  unfold cutD
  rw [HT.sIx_nat, HT.sIx_none]
  rcases Nat.le_total lo ds.length with h | h
  · rw [Nat.min_eq_left h, List.take_of_length_le (by simp)]
  · rw [Nat.min_eq_right h, List.drop_length, List.drop_eq_nil_of_le h]
    simp
theorem cutD_le {ds : List PyData} {lo hi : Nat} (h1 : lo ≤ hi) (h2 : hi ≤ ds.length) : cutD ds (some (lo : Int)) (some (hi : Int)) = (ds.drop lo).take (hi - lo) := by
  rw [cutD_nat, Nat.min_eq_left h2, Nat.min_eq_left (Nat.le_trans h1 h2)]
section
variable {X : Cx} {k : Nat} {scope : Scope} {it tg elt : Expr} {Γ : Sl} {Ψ : OD → Sl → Prop} {pos : Pos} {α β : Type}
/-- [elt for .. in it], what it walks and what it answers drawn -/
theorem we_lcWA (own : List (Str × Nat)) (u : α → Sl → Sl) (E : α → PyData) (F : β → PyData) (P : List α → Prop) (Pb : β → Prop) (fx : Fr X k) (h : WI X tg it Γ fun ds Γ1 => Γ1 = Γ ∧ ∃ xs : List α, P xs ∧ ds = xs.map E ∧ xs.length ≤ sizeLine)
    (hg : ∀ xs x, P xs → x ∈ xs → GB X scope own tg (E x) Γ (u x Γ)) (he : ∀ xs x, P xs → x ∈ xs → ∀ s H C cl fp, WE (Blk X scope s H C cl fp) elt (u x Γ) fun r Γ' => ∃ b, Frz r (F b) ∧ Pb b ∧ Γ' = u x Γ)
    (hq : ∀ (xs : List α) (bs : List β), P xs → bs.length = xs.length → (∀ b ∈ bs, Pb b) → Ψ (.ll (bs.map F)) Γ)
    (hd3 : ∀ x, dropΓ (own.map (·.2)) (u x Γ) = Γ := by intro x; rfl) (hd : dropΓ (own.map (·.2)) Γ = Γ := by rfl) (ok : blkC X.N X.env.scope scope own = true := by rfl) (hs : ∀ x, foldedSetIterable it X.env x = pure x := by intro _; rfl) : WE X (.ListComp elt [⟨tg, it, [], 0⟩] scope pos) Γ Ψ := by
  refine we_lc own (fun ds n Γ' acc => ∃ (xs : List α) (bs : List β), P xs ∧ ds = xs.map E ∧ Γ' = Γ ∧ acc = bs.map F ∧ bs.length = n ∧ ∀ b ∈ bs, Pb b) fx.calm fx.nd ?_ ok hs
  intro I H σ F1 en R' k'
  refine h I H σ F1 en R' fun ds Γ1 I1 H1 F2 J ⟨e1, xs, hp, hds, hsz⟩ st1 en1 => k' ds Γ1 I1 H1 F2 J ⟨by rw [hds, List.length_map]; exact hsz, ⟨xs, [], hp, hds, by rw [e1]; exact hd, rfl, rfl, by simp⟩, ?_, ?_⟩ st1 en1
  · rintro n d Γ2 acc hn ⟨ys, bs, hp', hds', rfl, rfl, hl, hb⟩
    rw [hds', List.getElem?_map] at hn
    obtain ⟨x, hx, rfl⟩ := Option.map_eq_some_iff.mp hn
    have hm := List.mem_of_getElem? hx
    refine ⟨u x _, hg ys x hp' hm, fun k Γ4 => k = true ∧ Γ4 = u x _, fun s H C cl fp => wts_nil ⟨rfl, rfl⟩, ?_⟩
    rintro k Γ4 ⟨rfl, rfl⟩
    refine ⟨fun _ s H C cl fp => (he ys x hp' hm s H C cl fp).mono fun r Γ5 ⟨b, fz, pb, e5⟩ => ⟨F b, fz, ys, bs ++ [b], hp', hds', by rw [e5]; exact hd3 x, by simp, by simp [hl], fun b' hb' => ?_⟩, fun q => Bool.noConfusion q⟩
    rcases List.mem_append.mp hb' with z | z
    · exact hb b' z
    · simp at z
      rw [z]
      exact pb
  · rintro Γ2 acc ⟨ys, bs, hp', hds', rfl, rfl, hl, hb⟩
    rw [hd]
    rw [hds', List.length_map] at hl
    exact hq ys bs hp' hl hb
end
end TL

/-! TL34: and, or, not as values. -/
namespace TL
open PySem PySem.Spec PyProof.Rows L2
section
variable {X : Cx} {e a b c o : Expr} {es rest : List Expr} {Γ Γ' Γ1 Γ2 : Sl} {Ψ : OD → Sl → Prop} {pos p : Pos} {r x y z : OD} {k k2 k3 : Bool}
theorem bool_top {I H : Hp} {σ : L2.St} {F : List Addr} {v : V} (en : EnvF X.tc I H (some v :: σ) (some (.da (.bool k)) :: Γ) F) : v = .bl k ∧ EnvF X.tc I H σ Γ F := by
  obtain ⟨B, G, rfl, o, en2, _⟩ := en.pop
  cases o with
  | da o =>
    cases o
    exact ⟨rfl, en2⟩
theorem we_andB (h : WE X a Γ fun r Γ1 => ∃ k, r = .da (.bool k) ∧ (k = true → WE X (.BoolOp .And (b :: rest) pos) Γ1 Ψ) ∧ (k = false → Ψ (.da (.bool false)) Γ1)) : WE X (.BoolOp .And (a :: b :: rest) pos) Γ Ψ := fun I H σ F en Q kq =>
  ⟨_, pe_andT wpE_ok wpE_ok, h I H σ F en _ fun r Γ1 I1 H1 v F1 ⟨k, hr, h1, h2⟩ st1 en1 => by
    subst hr
    obtain ⟨rfl, en2⟩ := bool_top en1
    refine ⟨k, rfl, ?_⟩
    cases k with
    | true =>
      rw [if_pos rfl]
      exact h1 rfl I1 H1 σ F1 en2 Q fun r Γ' I' H' v F' q st => kq r Γ' I' H' v F' q (st1.trans st)
    | false =>
      rw [if_neg (by decide)]
      exact kq _ Γ1 I1 H1 _ F1 (h2 rfl) st1 en1⟩
theorem we_orB (h : WE X a Γ fun r Γ1 => ∃ k, r = .da (.bool k) ∧ (k = false → WE X (.BoolOp .Or (b :: rest) pos) Γ1 Ψ) ∧ (k = true → Ψ (.da (.bool true)) Γ1)) : WE X (.BoolOp .Or (a :: b :: rest) pos) Γ Ψ := fun I H σ F en Q kq =>
  ⟨_, pe_orT wpE_ok wpE_ok, h I H σ F en _ fun r Γ1 I1 H1 v F1 ⟨k, hr, h1, h2⟩ st1 en1 => by
    subst hr
    obtain ⟨rfl, en2⟩ := bool_top en1
    refine ⟨k, rfl, ?_⟩
    cases k with
    | false =>
      rw [if_neg (by decide)]
      exact h1 rfl I1 H1 σ F1 en2 Q fun r Γ' I' H' v F' q st => kq r Γ' I' H' v F' q (st1.trans st)
    | true =>
      rw [if_pos rfl]
      exact kq _ Γ1 I1 H1 _ F1 (h2 rfl) st1 en1⟩
theorem we_notB (h : WE X a Γ fun r Γ1 => ∃ k, r = .da (.bool k) ∧ Ψ (.da (.bool (!k))) Γ1) : WE X (.UnaryOp .Not a pos) Γ Ψ := fun I H σ F en Q kq =>
  ⟨_, pe_notT wpE_ok, h I H σ F en _ fun r Γ1 I1 H1 v F1 ⟨k, hr, h1⟩ st1 en1 => by
    subst hr
    obtain ⟨rfl, en2⟩ := bool_top en1
    exact ⟨k, rfl, kq _ Γ1 I1 H1 _ F1 h1 st1 (en2.da (.bl _))⟩⟩
theorem xe_notB (ha : XE X a Γ (.da (.bool k)) Γ1) : XE X (.UnaryOp .Not a pos) Γ (.da (.bool (!k))) Γ1 := fun _ hq => we_notB (ha _ ⟨k, rfl, hq⟩)
theorem pe_boolOne {op : BoolOp} {ta : TE} (h : PE X a ta) : PE X (.BoolOp op [a] pos) ta := ⟨fun pins s σ H Q I q => BoolOp_one (h.run pins s σ H Q I q)⟩
theorem we_and1B (h : WE X a Γ Ψ) : WE X (.BoolOp .And [a] pos) Γ Ψ := fun I H σ F en Q kq => ⟨_, pe_boolOne wpE_ok, h I H σ F en Q kq⟩
theorem we_or1B (h : WE X a Γ Ψ) : WE X (.BoolOp .Or [a] pos) Γ Ψ := fun I H σ F en Q kq => ⟨_, pe_boolOne wpE_ok, h I H σ F en Q kq⟩
theorem xe_andB (ha : XE X a Γ (.da (.bool k)) Γ) (hb : k = true → XE X b Γ (.da (.bool k2)) Γ) : XE X (.BoolOp .And [a, b] pos) Γ (.da (.bool (k && k2))) Γ := fun _ hq => we_andB (ha _ ⟨k, rfl, fun e => we_and1B (hb e _ (by rw [e, Bool.true_and] at hq; exact hq)), fun e => by rw [e, Bool.false_and] at hq; exact hq⟩)
theorem xe_orB (ha : XE X a Γ (.da (.bool k)) Γ) (hb : k = false → XE X b Γ (.da (.bool k2)) Γ) : XE X (.BoolOp .Or [a, b] pos) Γ (.da (.bool (k || k2))) Γ := fun _ hq => we_orB (ha _ ⟨k, rfl, fun e => we_or1B (hb e _ (by rw [e, Bool.false_or] at hq; exact hq)), fun e => by rw [e, Bool.true_or] at hq; exact hq⟩)
theorem xe_and3B (ha : XE X a Γ (.da (.bool k)) Γ) (hb : k = true → XE X b Γ (.da (.bool k2)) Γ) (hc : k = true → k2 = true → XE X c Γ (.da (.bool k3)) Γ) : XE X (.BoolOp .And [a, b, c] pos) Γ (.da (.bool (k && (k2 && k3)))) Γ :=
  fun _ hq => we_andB (ha _ ⟨k, rfl, fun e => xe_andB (hb e) (hc e) _ (by rw [e, Bool.true_and] at hq; exact hq), fun e => by rw [e, Bool.false_and] at hq; exact hq⟩)
theorem eqv_self {d : PyData} (h : d.plain = true) : PyData.eqv d d = true := PySem.SeqAt.eqv_refl_plain d h
end
end TL

/-! TL35: y = [..] with a drawn walk, for over a drawn walk, a method of a thing just made. -/
namespace TL
open PySem PySem.Spec PyProof.Rows L2
section
variable {X : Cx} {k : Nat} {scope : Scope} {it tg elt : Expr} {rest body : List Stmt} {Γ : Sl} {Ψ : OD → Sl → Prop} {Φ : Out → Prop} {pos spos py : Pos} {α β : Type} {nm : Str}
theorem lc_wany (own : List (Str × Nat)) (u : α → Sl → Sl) (E : α → PyData) (F : β → PyData) (P : List α → Prop) (Pb : β → Prop) (h : WI X tg it Γ fun ds Γ1 => Γ1 = Γ ∧ ∃ xs : List α, P xs ∧ ds = xs.map E ∧ xs.length ≤ sizeLine)
    (hg : ∀ xs x, P xs → x ∈ xs → GB X scope own tg (E x) Γ (u x Γ)) (he : ∀ xs x, P xs → x ∈ xs → ∀ s H C cl fp, WE (Blk X scope s H C cl fp) elt (u x Γ) fun r Γ' => ∃ b, Frz r (F b) ∧ Pb b ∧ Γ' = u x Γ)
    (hq : ∀ (xs : List α) (bs : List β), P xs → bs.length = xs.length → (∀ b ∈ bs, Pb b) → Ψ (.ll (bs.map F)) Γ)
    (hd3 : ∀ x, dropΓ (own.map (·.2)) (u x Γ) = Γ) (hd : dropΓ (own.map (·.2)) Γ = Γ) :
    LcWI X scope own tg it elt [] Γ (fun ds n Γ' acc => ∃ (xs : List α) (bs : List β), P xs ∧ ds = xs.map E ∧ Γ' = Γ ∧ acc = bs.map F ∧ bs.length = n ∧ ∀ b ∈ bs, Pb b) Ψ := by
  intro I H σ F1 en R' k'
  refine h I H σ F1 en R' fun ds Γ1 I1 H1 F2 J ⟨e1, xs, hp, hds, hsz⟩ st1 en1 => k' ds Γ1 I1 H1 F2 J ⟨by rw [hds, List.length_map]; exact hsz, ⟨xs, [], hp, hds, by rw [e1]; exact hd, rfl, rfl, by simp⟩, ?_, ?_⟩ st1 en1
  · rintro n d Γ2 acc hn ⟨ys, bs, hp', hds', rfl, rfl, hl, hb⟩
    rw [hds', List.getElem?_map] at hn
    obtain ⟨x, hx, rfl⟩ := Option.map_eq_some_iff.mp hn
    have hm := List.mem_of_getElem? hx
    refine ⟨u x _, hg ys x hp' hm, fun k Γ4 => k = true ∧ Γ4 = u x _, fun s H C cl fp => wts_nil ⟨rfl, rfl⟩, ?_⟩
    rintro k Γ4 ⟨rfl, rfl⟩
    refine ⟨fun _ s H C cl fp => (he ys x hp' hm s H C cl fp).mono fun r Γ5 ⟨b, fz, pb, e5⟩ => ⟨F b, fz, ys, bs ++ [b], hp', hds', by rw [e5]; exact hd3 x, by simp, by simp [hl], fun b' hb' => ?_⟩, fun q => Bool.noConfusion q⟩
    rcases List.mem_append.mp hb' with z | z
    · exact hb b' z
    · simp at z
      rw [z]
      exact pb
  · rintro Γ2 acc ⟨ys, bs, hp', hds', rfl, rfl, hl, hb⟩
    rw [hd]
    rw [hds', List.length_map] at hl
    exact hq ys bs hp' hl hb
/-- y = [elt for .. in it], what it walks and what it answers drawn -/
theorem ws_setLcWA (i : Nat) (own : List (Str × Nat)) (u : α → Sl → Sl) (E : α → PyData) (F : β → PyData) (P : List α → Prop) (Pb : β → Prop) (fx : Fr X k) (h : WI X tg it Γ fun ds Γ1 => Γ1 = Γ ∧ ∃ xs : List α, P xs ∧ ds = xs.map E ∧ xs.length ≤ sizeLine)
    (hg : ∀ xs x, P xs → x ∈ xs → GB X scope own tg (E x) Γ (u x Γ)) (he : ∀ xs x, P xs → x ∈ xs → ∀ s H C cl fp, WE (Blk X scope s H C cl fp) elt (u x Γ) fun r Γ' => ∃ b, Frz r (F b) ∧ Pb b ∧ Γ' = u x Γ)
    (hq : ∀ (xs : List α) (bs : List β), P xs → bs.length = xs.length → (∀ b ∈ bs, Pb b) → WSs X rest (Γ.set i (some (.ll (bs.map F)))) Φ)
    (hd3 : ∀ x, dropΓ (own.map (·.2)) (u x Γ) = Γ := by intro x; rfl) (hd : dropΓ (own.map (·.2)) Γ = Γ := by rfl)
    (hN : X.N[i]? = some nm := by rfl) (hyl : X.env.scope.names.lookup nm = some .local := by rfl) (hl : Nat.blt i Γ.length = true := by rfl) (hsw : swapsWith (.ListComp elt [⟨tg, it, [], 0⟩] scope pos) (some (.Name nm py)) spos.line X.env = pure true := by rfl)
    (ok : blkC X.N X.env.scope scope own = true := by rfl) (hs : ∀ x, foldedSetIterable it X.env x = pure x := by intro _; rfl) : WSs X (.Assign [.Name nm py] (.ListComp elt [⟨tg, it, [], 0⟩] scope pos) spos :: rest) Γ Φ :=
  ws_setLc i own _ fx.calm fx.nd (lc_wany (Ψ := fun r Γ1 => WSs X rest (Γ1.set i (some r)) Φ) own u E F P Pb h hg he hq hd3 hd) hN hyl hl hsw ok hs
/-- for over a drawn walk -/
theorem ws_forW {kk : Nat} (f : Fr X kk) (E : α → PyData) (P : List α → Prop) (st : β → Sl) (Inv : List α → Nat → β → Prop) (hi : WI X tg it Γ fun ds Γ1 => ∃ (xs : List α) (b0 : β), P xs ∧ ds = xs.map E ∧ Inv xs 0 b0 ∧ Γ1 = st b0)
    (turn : ∀ (xs : List α) (n : Nat) (x : α) (b : β), P xs → xs[n]? = some x → Inv xs n b → WG X tg (.da (E x)) (st b) fun Γ3 => WSs X body Γ3 (loopΦ (fun Γ4 => ∃ b', Inv xs (n + 1) b' ∧ Γ4 = st b') (thn2 X rest Φ)))
    (fin : ∀ xs b, P xs → Inv xs xs.length b → WSs X rest (st b) Φ) (hs : ∀ x, foldedSetIterable it X.env x = pure x := by intro _; rfl) : WSs X (.For tg it body [] pos :: rest) Γ Φ := by
  refine ws_for (fun ds n Γ' => ∃ (xs : List α) (b' : β), P xs ∧ ds = xs.map E ∧ Inv xs n b' ∧ Γ' = st b') f.own f.calm ?_ hs
  intro I H σ F en R k
  refine hi I H σ F en R fun ds Γ1 I1 H1 F1 J ⟨xs, b0, hp, hds, h0, e0⟩ st1 en1 => k ds Γ1 I1 H1 F1 J ⟨⟨xs, b0, hp, hds, h0, e0⟩, ?_, ?_⟩ st1 en1
  · rintro n d Γ2 hn ⟨ys, b', hp', hds', hb, rfl⟩
    rw [hds', List.getElem?_map] at hn
    obtain ⟨x, hx, rfl⟩ := Option.map_eq_some_iff.mp hn
    intro I H σ F v en Q k
    refine turn ys n x b' hp' hx hb I H σ F v en Q fun Γ3 I' H' σ' F' h3 => k Γ3 I' H' σ' F' (h3.mono fun o ho => ?_)
    cases o with
    | nx Γ4 => exact ⟨ys, ho.choose, hp', hds', ho.choose_spec⟩
    | ct Γ4 => exact ⟨ys, ho.choose, hp', hds', ho.choose_spec⟩
    | bk Γ4 => exact ho
    | rt r Γ4 => exact ho
  · rintro Γ2 ⟨ys, b', hp', hds', hb, rfl⟩
    rw [hds', List.length_map] at hb
    exact fin ys b' hp' hb
end
section
variable {X : Cx} {e a b c o : Expr} {es : List Expr} {Γ Γ' Γ1 Γ2 : Sl} {Ψ : OD → Sl → Prop} {pos p apos : Pos} {m : Str} {k : Nat} {ps : List Str} {sp : SpD} {C : Addr}
/-- o.m(), o a thing just made -/
theorem we_methE0 (G : DefM X.prog X.w X.K X.mg X.base k C m ps sp) (hr : Room k X.A) (hgd : X.A.guards = some [])
    (h : WE X o Γ fun r Γ1 => ∃ fs, r = .ob C fs ∧ fs.lookup m = none ∧ sp [r] fun r as' => Ψ r (putBack [none] as' Γ1)) {pl : Sem Bool}
    (ht : eval (.Call (.Attribute o m apos) [] [] pos) X.env = (do
      let ov ← eval o X.env
      standAt apos.atName
      let (f, first) ← holding [ov] (getMethod ov m pl)
      callWith pos f first (backTo pos (starEach [] X.env)) (backToKw pos (keywordEach [] X.env))) := by rfl) : WE X (.Call (.Attribute o m apos) [] [] pos) Γ Ψ := fun I H σ F en Q kq => by
  obtain ⟨fa, fd, FG, hm, hb, c⟩ := G
  refine ⟨_, pe_methG0 wpE_ok c hm FG hr hgd hb pass0 ht, h I H σ F en _ ?_⟩
  rintro _ Γ1 I1 H1 v F1 ⟨fs, rfl, hno, hsp⟩ st1 en1
  obtain ⟨B0, G0, hF, o, en2, up⟩ := en1.pop
  obtain ⟨q, dx, fv, F0, rfl, hB, g1, g2, g3, g4, _⟩ := VOB.ob.own o
  exact ⟨q, dx, fv, rfl, g1, ob_none g3 hno, call_fin (Ψ := Ψ) (rs := [.ob C fs]) (refs := [none]) (vs := [V.ref q]) hsp rfl (RefsOk.none (fun k i e => by simp at e)) st1 en1 kq⟩
end
end TL

/-! TL36: the law's own def, by its body. -/
namespace TL
open PySem PySem.Spec PyProof.Rows L2
theorem fn_def {P : Program} {w : World} {K : PySem.W.Frag} {mg : Str → Option Value} {bs : Heap} {k : Nat} {nm : Str} {st : Stmt} {N ps : List Str} {sp : SpD} (S : FnScope N ps (defScope st)) (ln : ∀ as Ψ, sp as Ψ → as.length = ps.length)
    (hb : ∀ (f : Addr) (cdv : Value) (A : Around) (fr : List PySem.Env) (s : Shared) (H : Hp) (E : XK), TL.Fr (dcx P w K mg bs N nm st f cdv A fr s H E) k → ∀ (as : List OD) (Ψ : OD → List OD → Prop) (vs : List V), sp as Ψ → vs.length = ps.length →
      WSs (dcx P w K mg bs N nm st f cdv A fr s H E) (defBody st) (start0 N as vs) (fnΦ as vs Ψ)) : ∀ f fd, Fun K nm nm st f fd → FnG P w K mg bs CX0 (k + 1) f fd ps (mkSp ⟨P, w, K⟩ sp) :=
  fun f fd F => fn_ok F S ln fun X' cdv A fr s H E hX hr hg as Ψ vs hsp hl => by
    subst hX
    exact hb f cdv A fr s H E ⟨S.nd, rfl, PassesOwn.never, hr, hg⟩ as Ψ vs hsp (by rw [hl, ln as Ψ hsp])
theorem dkm_mk {K : PySem.W.Frag} {m qual : Str} {st : Stmt} {C f : Addr} {od an : Option Addr} {sl : Array (Option Value)} {oc kV dc pm cd ct : Value} (a : PySem.W.findIn K (.ref C) m = some (some (.ref f))) (i : PySem.W.isFn K (.ref f) = true)
    (l : K.lookup f = some ⟨oc, od, .func (PySem.W.fnOf m qual (defArgs st) (defBody st) (defScope st) .none kV dc pm an cd ct), sl⟩) (c : PySem.W.codeIn K cd qual = true) (k : PySem.W.keepIn K (.ref f) = true) : DKM K C m qual st := ⟨_, _, fun_mk (st := st) l c k, ⟨a, i, k⟩⟩
theorem dki_mk {K : PySem.W.Frag} {cn qual : Str} {st : Stmt} {C f : Addr} {od an : Option Addr} {sl : Array (Option Value)} {oc kV dc pm cd ct : Value} (aC : PySem.W.nsIn K mainGlobals cn = some (some (.ref C))) (a : PySem.W.findIn K (.ref C) "__init__" = some (some (.ref f))) (i : PySem.W.isFn K (.ref f) = true)
    (l : K.lookup f = some ⟨oc, od, .func (PySem.W.fnOf "__init__" qual (defArgs st) (defBody st) (defScope st) .none kV dc pm an cd ct), sl⟩) (c : PySem.W.codeIn K cd qual = true) (k : PySem.W.keepIn K (.ref f) = true) (mk : PySem.W.makesIn K C = true) (kc : PySem.W.keepIn K (.ref C) = true) : DKI K C cn qual st :=
  ⟨_, _, fun_mk (st := st) l c k, ⟨mk, a, i, kc⟩, aC⟩
theorem dkc_mk {K : PySem.W.Frag} {nm : Str} {i : Int} {t : _} (a : PySem.W.nsIn K mainGlobals nm = some (some (.int i t))) : DKC K nm i := ⟨t, a⟩
end TL

namespace Law
open PySem PySem.Spec PyProof.Rows L2 TL
/-! the text of law_k68_whole_streams by places -/
def top (i : Nat) : Stmt := PySem.Challenge.pw_tellgarner_k68_whole_streams.main.body.getD i (.Pass ⟨0, 0, 0, 0⟩)
abbrev s_framed : Stmt := top 2
theorem sc_framed : FnScope ["data", "high", "low"] ["data"] (defScope s_framed) := ⟨rfl, rfl, rfl, by decide +kernel, rfl, by decide +kernel, by decide +kernel⟩
abbrev s_Feed___init__ : Stmt := inClass (top 3) 0
theorem sc_Feed___init__ : FnScope ["self"] ["self"] (defScope s_Feed___init__) := ⟨rfl, rfl, rfl, by decide +kernel, rfl, by decide +kernel, by decide +kernel⟩
abbrev s_Feed_hear : Stmt := inClass (top 3) 1
theorem sc_Feed_hear : FnScope ["self", "piece", "rest", "found", "at", "end"] ["self", "piece"] (defScope s_Feed_hear) := ⟨rfl, rfl, rfl, by decide +kernel, rfl, by decide +kernel, by decide +kernel⟩
abbrev s_Feed_held : Stmt := inClass (top 3) 2
theorem sc_Feed_held : FnScope ["self"] ["self"] (defScope s_Feed_held) := ⟨rfl, rfl, rfl, by decide +kernel, rfl, by decide +kernel, by decide +kernel⟩
abbrev s_length_at : Stmt := top 4
theorem sc_length_at : FnScope ["rest", "at"] ["rest", "at"] (defScope s_length_at) := ⟨rfl, rfl, rfl, by decide +kernel, rfl, by decide +kernel, by decide +kernel⟩
abbrev s_l_begin : Stmt := top 6
theorem sc_l_begin : FnScope ["script"] ["script"] (defScope s_l_begin) := ⟨rfl, rfl, rfl, by decide +kernel, rfl, by decide +kernel, by decide +kernel⟩
abbrev s_l_mix : Stmt := top 7
theorem sc_l_mix : FnScope ["d", "number", "word"] ["d", "number"] (defScope s_l_mix) := ⟨rfl, rfl, rfl, by decide +kernel, rfl, by decide +kernel, by decide +kernel⟩
abbrev s_l_draw : Stmt := top 8
theorem sc_l_draw : FnScope ["d", "many", "cell", "left", "digit"] ["d", "many"] (defScope s_l_draw) := ⟨rfl, rfl, rfl, by decide +kernel, rfl, by decide +kernel, by decide +kernel⟩
abbrev s_l_pick : Stmt := top 9
theorem sc_l_pick : FnScope ["d", "row"] ["d", "row"] (defScope s_l_pick) := ⟨rfl, rfl, rfl, by decide +kernel, rfl, by decide +kernel, by decide +kernel⟩
abbrev s_l_rare : Stmt := top 10
theorem sc_l_rare : FnScope ["d", "many"] ["d", "many"] (defScope s_l_rare) := ⟨rfl, rfl, rfl, by decide +kernel, rfl, by decide +kernel, by decide +kernel⟩
abbrev s_l_row_right : Stmt := top 11
theorem sc_l_row_right : FnScope ["told", "due", "one"] ["told", "due"] (defScope s_l_row_right) := ⟨rfl, rfl, rfl, by decide +kernel, rfl, by decide +kernel, by decide +kernel⟩
abbrev s_l_rows_right : Stmt := top 12
theorem sc_l_rows_right : FnScope ["told", "due", "one", "two"] ["told", "due"] (defScope s_l_rows_right) := ⟨rfl, rfl, rfl, by decide +kernel, rfl, by decide +kernel, by decide +kernel⟩
abbrev s_l_count_right : Stmt := top 13
theorem sc_l_count_right : FnScope ["told", "due"] ["told", "due"] (defScope s_l_count_right) := ⟨rfl, rfl, rfl, by decide +kernel, rfl, by decide +kernel, by decide +kernel⟩
abbrev s_l_some_data : Stmt := top 14
theorem sc_l_some_data : FnScope ["d", "dear", "size", "seed", "place"] ["d", "dear"] (defScope s_l_some_data) := ⟨rfl, rfl, rfl, by decide +kernel, rfl, by decide +kernel, by decide +kernel⟩
abbrev s_l_framed : Stmt := top 15
theorem sc_l_framed : FnScope ["data"] ["data"] (defScope s_l_framed) := ⟨rfl, rfl, rfl, by decide +kernel, rfl, by decide +kernel, by decide +kernel⟩
abbrev s_l_stream : Stmt := top 16
theorem sc_l_stream : FnScope ["d", "dear", "rows", "whole", "ends", "data", "torn", "turn"] ["d", "dear"] (defScope s_l_stream) := ⟨rfl, rfl, rfl, by decide +kernel, rfl, by decide +kernel, by decide +kernel⟩
abbrev s_l_due : Stmt := top 17
theorem sc_l_due : FnScope ["stream", "start", "end", "whole", "rows", "ends", "data", "place"] ["stream", "start", "end"] (defScope s_l_due) := ⟨rfl, rfl, rfl, by decide +kernel, rfl, by decide +kernel, by decide +kernel⟩
abbrev s_l_due_held : Stmt := top 18
theorem sc_l_due_held : FnScope ["stream", "end", "place"] ["stream", "end"] (defScope s_l_due_held) := ⟨rfl, rfl, rfl, by decide +kernel, rfl, by decide +kernel, by decide +kernel⟩
abbrev s_l_piece_right : Stmt := top 19
theorem sc_l_piece_right : FnScope ["feed", "stream", "start", "end"] ["feed", "stream", "start", "end"] (defScope s_l_piece_right) := ⟨rfl, rfl, rfl, by decide +kernel, rfl, by decide +kernel, by decide +kernel⟩
abbrev s_l_cuts_right : Stmt := top 20
theorem sc_l_cuts_right : FnScope ["stream", "cuts", "feed", "start", "end"] ["stream", "cuts"] (defScope s_l_cuts_right) := ⟨rfl, rfl, rfl, by decide +kernel, rfl, by decide +kernel, by decide +kernel⟩
abbrev s_l_all_cuts_right : Stmt := top 21
theorem sc_l_all_cuts_right : FnScope ["stream", "size", "one", "two"] ["stream"] (defScope s_l_all_cuts_right) := ⟨rfl, rfl, rfl, by decide +kernel, rfl, by decide +kernel, by decide +kernel⟩
abbrev s_l_some_cuts : Stmt := top 22
theorem sc_l_some_cuts : FnScope ["d", "stream", "size", "near", "cuts", "turn", "place"] ["d", "stream"] (defScope s_l_some_cuts) := ⟨rfl, rfl, rfl, by decide +kernel, rfl, by decide +kernel, by decide +kernel⟩
abbrev s_l_turns_right : Stmt := top 23
theorem sc_l_turns_right : FnScope ["d", "one", "two", "feeds", "streams", "cuts", "starts", "turn", "who", "end"] ["d", "one", "two"] (defScope s_l_turns_right) := ⟨rfl, rfl, rfl, by decide +kernel, rfl, by decide +kernel, by decide +kernel⟩
abbrev s_law : Stmt := top 24
theorem sc_law : FnScope ["script", "d", "dear", "one", "two", "data"] ["script"] (defScope s_law) := ⟨rfl, rfl, rfl, by decide +kernel, rfl, by decide +kernel, by decide +kernel⟩
section
variable {P : Program} {w : World} {K : PySem.W.Frag} {mg : Str → Option Value} {bs h : Heap} (X : K.In h) (G : h.Ns mainGlobals mg) (B : Blt mg)
include X G B
theorem d_begin (D : DK K "_law_begin" s_l_begin) : Def P w K mg bs 1 "_law_begin" ["script"] (spBegin ⟨P, w, K⟩) := by
  refine def_ok X G D sc_l_begin (fun f fd F => F.binds (ps := ["script"]) fun _ _ _ _ _ _ us hl => match us, hl with | [_], _ => rfl) (fun as Ψ h => by obtain ⟨_, rfl, _⟩ := h; rfl) fun f cdv A fr s H E fx as Ψ vs hsp hl => ?_
  obtain ⟨ns, rfl, hq⟩ := hsp
  obtain ⟨v0, rfl⟩ := ar1 hl
  show WSs _ _ [some (.da (.list (ns.map .int)))] _
  refine ws_ret (we_conv (x := .ll (dS ns 0 0 271828 0)) (dw_new (Int.le_refl 0)) ?_)
  refine we_lst (wa_cons (xe_frz (xe_lstOfS 0 B) _ (wa_cons (xe_int _ (wa_cons (xe_int _ (wa_cons (xe_int _ (wa_cons (xe_int _ (wa_nil ⟨dS ns 0 0 271828 0, rfl, by show 5 ≤ sizeLine; decide, rfl, ?_⟩)))))))))))
  exact ⟨_, .da .nil, hq⟩
theorem d_mix (D : DK K "_law_mix" s_l_mix) : Def P w K mg bs 1 "_law_mix" ["d", "number"] spMix := by
  refine def_ok X G D sc_l_mix (fun f fd F => F.binds (ps := ["d", "number"]) fun _ _ _ _ _ _ us hl => match us, hl with | [_, _], _ => rfl) (fun as Ψ h => by obtain ⟨_, _, _, _, _, _, rfl, _⟩ := h; rfl) fun f cdv A fr s H E fx as Ψ vs hsp hl => ?_
  obtain ⟨sc, p, c, w0, n, m, rfl, hq⟩ := hsp
  obtain ⟨v0, v1, rfl⟩ := ar2 hl
  show WSs _ _ [some (.pin v0 (.ll (dS sc p c w0 n))), some (.da (.int m)), none] _
  have nd := fx.nd
  refine ws_setll 0 (j := 4) (n := 4) (xe_add (xe_ixll 0 (j := 4) xe_int) xe_int _ ⟨_, _, _, _, rfl, rfl, .pin, rfl, xe_int, ?_⟩)
  refine xs_set 2 nd (xe_mod (by decide) (xe_int1 B (xe_add (xe_add (xe_add (xe_mul (.inr ⟨by decide, by decide⟩) (xe_ixll 0 (j := 3) xe_int) xe_int) (xe_mul (.inr ⟨by decide, by decide⟩) (xv 1) xe_int)) (xe_mul (.inr ⟨by decide, by decide⟩) (xe_ixll 0 (j := 4) xe_int) xe_int)) xe_int)) xe_int) ?_
  refine xs_set 2 nd (xe_mod (by decide) (xe_int1 B (xe_add (xe_mul (.inr ⟨by decide, by decide⟩) (xe_xor (xv 2) (xe_shr (by decide) (xv 2) xe_int)) xe_int) (xe_mul (.inr ⟨by decide, by decide⟩) (xe_ixll 0 (j := 4) xe_int) xe_int))) xe_int) ?_
  refine xs_set 2 nd (xe_mod (by decide) (xe_int1 B (xe_add (xe_mul (.inr ⟨by decide, by decide⟩) (xe_xor (xv 2) (xe_shr (by decide) (xv 2) xe_int)) xe_int) xe_int)) xe_int) ?_
  refine ws_setll 0 (j := 3) (n := 3) (xe_xor (xv 2) (xe_shr (by decide) (xv 2) xe_int) _ ⟨_, _, _, _, rfl, rfl, .pin, rfl, xe_int, ?_⟩)
  exact ws_nil ⟨_, .own (.da .nil), hq _⟩
/-- _law_mix(d, e) -/
theorem d_draw (D : DK K "_law_draw" s_l_draw) (gM : Def P w K mg bs 1 "_law_mix" ["d", "number"] spMix) : Def P w K mg bs 2 "_law_draw" ["d", "many"] (spDraw ⟨P, w, K⟩) := by
  refine def_ok X G D sc_l_draw (fun f fd F => F.binds (ps := ["d", "many"]) fun _ _ _ _ _ _ us hl => match us, hl with | [_, _], _ => rfl) (fun as Ψ h => by obtain ⟨_, rfl, _⟩ := h; rfl) fun f cdv A fr s H E fx as Ψ vs hsp hl => ?_
  obtain ⟨m, rfl, m0, m1, hq⟩ := hsp
  obtain ⟨v0, v1, rfl⟩ := ar2 hl
  show WSs _ _ [some (.pin v0 (.op (dw ⟨P, w, K⟩))), some (.da (.int m)), none, none, none] _
  have nd := fx.nd
  refine ws_convE 0 (y := fun j : {q : List Int × Int × Int × Int × Int // 0 ≤ q.2.1} => .pin v0 (.ll (dS j.1.1 j.1.2.1 j.1.2.2.1 j.1.2.2.2.1 j.1.2.2.2.2))) (fun I H v B o => dw_open I H v v0 B o) ?_
  rintro ⟨⟨sc, p, c, w0, n⟩, p0⟩
  have p0 : 0 ≤ p := p0
  show WSs _ _ [some (.pin v0 (.ll (dS sc p c w0 n))), some (.da (.int m)), none, none, none] _
  -- behind the first if: a state whose place is not negative
  have tail : ∀ (p c w0 n : Int) (o2 : Option OD), 0 ≤ p → WSs (dcx P w K mg bs ["d", "many", "cell", "left", "digit"] "_law_draw" s_l_draw f cdv A fr s H E) ((defBody s_l_draw).drop 1) [some (.pin v0 (.ll (dS sc p c w0 n))), some (.da (.int m)), o2, none, none] (fnΦ [.op (dw ⟨P, w, K⟩), .da (.int m)] [v0, v1] Ψ) := by
    intro p c w0 n o2 p0
    refine xs_if (xt_gt (xe_ixll 0 (j := 2) xe_int) xe_int) (fun hc => ?_) fun hc => ?_
    · refine ws_asgT (we_pure (xe_divmod B m0 m1 (xe_ixll 0 (j := 2) xe_int) (xv 1)) (wg_tup rfl (wgs_cons (wg_name 3 nd (wgs_cons (wg_name 4 nd (wgs_nil ?_)))))))
      refine ws_setll 0 (j := 2) (n := 2) (we_pure (xv 3) ⟨_, _, _, _, rfl, rfl, .pin, rfl, xe_int, ?_⟩)
      refine ws_conv 0 (y := .pin v0 (.op (dw ⟨P, w, K⟩))) (fun I H v B o => dw_shut p0 I H v v0 B o) ?_
      exact xs_ret (xv 4) ⟨_, .own (.da .nil), hq _ (Int.emod_nonneg _ (by omega)) (Int.emod_lt_of_pos _ m0)⟩
    · refine ws_nil ?_
      show WSs _ _ [some (.pin v0 (.ll (dS sc p c w0 n))), some (.da (.int m)), o2, none, none] _
      refine ws_expr (we_unpin 0 rfl (we_fn gM (fx.room.mono (by decide)) fx.gd (wa_ref 0 (wa_cons (we_pure (xv 1) (wa_nil ⟨sc, p, c, w0, n, m, rfl, fun w' => ⟨_, rfl, ?_⟩⟩))))))
      show WSs _ _ [some (.pin v0 (.ll (dS sc p c w' (n + 1)))), some (.da (.int m)), o2, none, none] _
      refine ws_ret (we_convAt 0 (we_pure (xe_mod m0 (xe_int1 B (xe_shr (by decide) (xe_ixll 0 (j := 3) xe_int) xe_int)) (xv 1)) ⟨_, .pin v0 (.op (dw ⟨P, w, K⟩)), rfl, fun I H v B o => dw_shut p0 I H v v0 B o, ?_⟩))
      exact ⟨_, .own (.da .nil), hq _ (Int.emod_nonneg _ (by omega)) (Int.emod_lt_of_pos _ m0)⟩
  refine xs_if (xt_and2 (xt_eqI fx.u (xe_ixll 0 (j := 2) xe_int) xe_int) fun _ => xt_lt (xe_ixll 0 (j := 1) xe_int) (xe_len B (xe_ixll 0 (j := 0) xe_int) (.inl rfl))) (fun hc => ?_) fun _ => ws_nil (tail p c w0 n none p0)
  rw [Bool.and_eq_true, decide_eq_true_eq, decide_eq_true_eq, List.length_map] at hc
  obtain ⟨v, hv⟩ := atI_int (sc := sc) p0 hc.2
  refine xs_set 2 nd (xe_band (xe_abs B (xe_ix (xe_ixll 0 (j := 0) xe_int) (xe_ixll 0 (j := 1) xe_int) (.inl rfl) hv)) (xe_sub (xe_shl ⟨by decide, by decide, by decide⟩ xe_int xe_int) xe_int)) ?_
  show WSs _ _ [some (.pin v0 (.ll (dS sc p c w0 n))), some (.da (.int m)), some (.da (.int _)), none, none] _
  refine ws_expr (we_fnR gM (fx.room.mono (by decide)) fx.gd (wr_ref 0 (wr_da (xe_add (xe_mul (.inl ⟨by decide, by decide⟩) xe_int (xv 2)) (xe_ifI (xt_lt (xe_ix (xe_ixll 0 (j := 0) xe_int) (xe_ixll 0 (j := 1) xe_int) (.inl rfl) hv) xe_int) (fun _ => xe_int) fun _ => xe_int)) (wr_nil ⟨_, _, rfl, sc, p, c, w0, n, _, rfl, fun w' => ?_⟩))))
  show WSs _ _ [some (.pin v0 (.ll (dS sc p c w' (n + 1)))), some (.da (.int m)), some (.da (.int _)), none, none] _
  refine ws_setll 0 (j := 1) (n := 1) (we_pure (xe_add (xe_ixll 0 (j := 1) xe_int) xe_int) ⟨_, _, _, _, rfl, rfl, .pin, rfl, xe_int, ?_⟩)
  show WSs _ _ [some (.pin v0 (.ll (dS sc (p + 1) c w' (n + 1)))), some (.da (.int m)), some (.da (.int _)), none, none] _
  refine ws_setll 0 (j := 2) (n := 2) (we_pure (xe_ifI (xt_ge (xv 2) xe_int) (fun _ => xv 2) fun _ => xe_int) ⟨_, _, _, _, rfl, rfl, .pin, rfl, xe_int, ?_⟩)
  exact ws_nil (tail (p + 1) _ w' (n + 1) _ (by omega))
theorem d_rare (D : DK K "_law_rare" s_l_rare) (gD : Def P w K mg bs 2 "_law_draw" ["d", "many"] (spDraw ⟨P, w, K⟩)) : Def P w K mg bs 3 "_law_rare" ["d", "many"] (spRare ⟨P, w, K⟩) := by
  refine def_ok X G D sc_l_rare (fun f fd F => F.binds (ps := ["d", "many"]) fun _ _ _ _ _ _ us hl => match us, hl with | [_, _], _ => rfl) (fun as Ψ h => by obtain ⟨_, rfl, _⟩ := h; rfl) fun f cdv A fr s H E fx as Ψ vs hsp hl => ?_
  obtain ⟨m, rfl, m0, m1, hq⟩ := hsp
  obtain ⟨v0, v1, rfl⟩ := ar2 hl
  show WSs _ _ [some (.pin v0 (.op (dw ⟨P, w, K⟩))), some (.da (.int m))] _
  refine ws_ret (we_cmp (op_eqP fx.u) (nomark _) (we_draw 0 gD (fx.room.mono (by decide)) fx.gd (xv 1) m0 m1 fun r r0 r1 => we_pure (xe_bor (xe_shr (by decide) (xv 1) xe_int) xe_int) ⟨_, o2_eq rfl rfl (Nat.zero_le _), _, .own (.da .nil), hq _⟩))
end
end Law

namespace Law
open PySem PySem.Spec PyProof.Rows L2 TL
/-! ### streams -/
abbrev bt (xs : List Nat) : PyData := .tuple (ilist xs)
def fr (xs : List Nat) : List Nat := xs.length / 256 :: xs.length % 256 :: xs
theorem fr_len (xs : List Nat) : (fr xs).length = xs.length + 2 := rfl
def flat (rs : List (List Nat)) : List Nat := (rs.map fr).flatten
def endAt (rs : List (List Nat)) (k : Nat) : Nat := (flat (rs.take k)).length
theorem flat_app (a b : List (List Nat)) : flat (a ++ b) = flat a ++ flat b := by simp [flat]
theorem flat_one (a : List Nat) : flat [a] = fr a := by simp [flat]
theorem endAt_zero (rs : List (List Nat)) : endAt rs 0 = 0 := rfl
theorem endAt_succ {rs : List (List Nat)} {k : Nat} {r : List Nat} (h : rs[k]? = some r) : endAt rs (k + 1) = endAt rs k + (r.length + 2) := by
  unfold endAt
  rw [List.take_succ, h, flat_app, List.length_append]
  simp [flat_one, fr_len]
theorem endAt_mono {rs : List (List Nat)} : ∀ {i j : Nat}, i ≤ j → j ≤ rs.length → endAt rs i ≤ endAt rs j
  | i, 0, h, _ => by
    obtain rfl : i = 0 := by omega
    exact Nat.le_refl _
  | i, j + 1, h, hj => by
    rcases Nat.lt_or_ge i (j + 1) with q | q
    · have := endAt_mono (rs := rs) (show i ≤ j by omega) (by omega)
      have e := endAt_succ (rs := rs) (k := j) (r := rs[j]'(by omega)) (List.getElem?_eq_getElem (by omega))
      omega
    · obtain rfl : i = j + 1 := by omega
      exact Nat.le_refl _
theorem endAt_lt {rs : List (List Nat)} {i j : Nat} (h : i < j) (hj : j ≤ rs.length) : endAt rs i + 2 ≤ endAt rs j := by
  have h1 := endAt_mono (rs := rs) (show i + 1 ≤ j by omega) hj
  have e := endAt_succ (rs := rs) (k := i) (r := rs[i]'(by omega)) (List.getElem?_eq_getElem (by omega))
  omega
theorem endAt_le {rs : List (List Nat)} {k : Nat} : endAt rs k ≤ (flat rs).length := by
  unfold endAt
  have : flat rs = flat (rs.take k) ++ flat (rs.drop k) := by rw [← flat_app, List.take_append_drop]
  rw [this, List.length_append]
  omega
theorem flat_drop {rs : List (List Nat)} {k : Nat} {r : List Nat} (h : rs[k]? = some r) : (flat rs).drop (endAt rs k) = fr r ++ flat (rs.drop (k + 1)) := by
  have hl := (List.getElem?_eq_some_iff.mp h).1
  have e : rs = rs.take k ++ ([r] ++ rs.drop (k + 1)) := by
    have h2 : rs.drop k = r :: rs.drop (k + 1) := by
      rw [List.drop_eq_getElem_cons hl]
      obtain ⟨_, h3⟩ := List.getElem?_eq_some_iff.mp h
      rw [h3]
    rw [List.singleton_append, ← h2, List.take_append_drop]
  conv => lhs; rw [e, flat_app, flat_app, flat_one]
  unfold endAt
  have : rs.take k = (rs.take k ++ ([r] ++ rs.drop (k + 1))).take k := by rw [← e]
  rw [← this, List.drop_left]
structure Stm where
  rows : List (List Nat)
  torn : List Nat
  w : Nat
def Stm.all (s : Stm) : List (List Nat) := s.rows ++ [s.torn]
abbrev Stm.n (s : Stm) : Nat := s.rows.length
def Stm.E (s : Stm) (k : Nat) : Nat := endAt s.all k
def Stm.whole (s : Stm) : List Nat := (flat s.all).take s.w
def Stm.ends (s : Stm) : List Nat := (List.range s.n).map fun k => s.E (k + 1)
structure Stm.Ok (s : Stm) : Prop where
  few : s.n ≤ 6
  short : ∀ r ∈ s.all, r.length ≤ 65535
  lo : s.E s.n ≤ s.w
  hi : s.w < s.E (s.n + 1)
def Stm.data (s : Stm) : PyData := .tuple [bt s.whole, .list (s.rows.map bt), .list (ilist s.ends)]
section
variable {s : Stm}
theorem Stm.all_len : s.all.length = s.n + 1 := by simp [Stm.all]
theorem Stm.E0 : s.E 0 = 0 := rfl
theorem Stm.E_succ {k : Nat} {r : List Nat} (h : s.all[k]? = some r) : s.E (k + 1) = s.E k + (r.length + 2) := endAt_succ h
theorem Stm.E_mono {i j : Nat} (h : i ≤ j) (hj : j ≤ s.n + 1) : s.E i ≤ s.E j := endAt_mono h (by rw [Stm.all_len]; exact hj)
theorem Stm.E_lt {i j : Nat} (h : i < j) (hj : j ≤ s.n + 1) : s.E i + 2 ≤ s.E j := endAt_lt h (by rw [Stm.all_len]; exact hj)
theorem Stm.flat_len : (flat s.all).length = s.E (s.n + 1) := by
  unfold Stm.E endAt
  rw [List.take_of_length_le (by rw [Stm.all_len]; omega)]
theorem Stm.Ok.wlen (ok : s.Ok) : s.whole.length = s.w := by
  unfold Stm.whole
  rw [List.length_take, Stm.flat_len, Nat.min_eq_left (Nat.le_of_lt ok.hi)]
theorem Stm.Ok.bnd (ok : s.Ok) : ∀ k, k ≤ s.n + 1 → s.E k ≤ 65537 * k
  | 0, _ => by rw [Stm.E0]; omega
  | k + 1, h => by
    have h1 := ok.bnd k (by omega)
    have hl : k < s.all.length := by rw [Stm.all_len]; omega
    have h2 := Stm.E_succ (s := s) (List.getElem?_eq_getElem hl)
    have h3 := ok.short _ (List.getElem_mem hl)
    omega
theorem Stm.Ok.w_le (ok : s.Ok) : s.w ≤ 500000 := by
  have h1 := ok.bnd (s.n + 1) (Nat.le_refl _)
  have h2 := ok.few
  have h3 := ok.hi
  have : 65537 * (s.n + 1) ≤ 65537 * 7 := Nat.mul_le_mul_left _ (by omega)
  omega
/-- the bytes from the k-th row on -/
theorem Stm.at_row {k : Nat} {r : List Nat} (h : s.all[k]? = some r) (j : Nat) (hj : s.E k + j < s.w) : s.whole[s.E k + j]? = (fr r ++ flat (s.all.drop (k + 1)))[j]? := by
  unfold Stm.whole
  rw [List.getElem?_take_of_lt hj, ← flat_drop h, List.getElem?_drop]
  rfl
def Stm.cut (s : Stm) (a b : Nat) : List Nat := (s.whole.drop a).take (b - a)
theorem Stm.Ok.cut_len (ok : s.Ok) {a b : Nat} (h1 : a ≤ b) (h2 : b ≤ s.w) : (s.cut a b).length = b - a := by
  unfold Stm.cut
  rw [List.length_take, List.length_drop, ok.wlen, Nat.min_eq_left (by omega)]
theorem Stm.cut_get {a b j : Nat} (hj : a + j < b) : (s.cut a b)[j]? = s.whole[a + j]? := by
  unfold Stm.cut
  rw [List.getElem?_take_of_lt (by omega), List.getElem?_drop]
theorem Stm.cut_app {a b c : Nat} (h1 : a ≤ b) (h2 : b ≤ c) : s.cut a b ++ s.cut b c = s.cut a c := by
  unfold Stm.cut
  have e : c - a = (b - a) + (c - b) := by omega
  have e2 : s.whole.drop b = (s.whole.drop a).drop (b - a) := by rw [List.drop_drop]; congr 1; omega
  rw [e, List.take_add, e2]
theorem Stm.cut_cut {a b c d : Nat} (h : a + d ≤ b) : ((s.cut a b).drop c).take (d - c) = s.cut (a + c) (a + d) := by
  unfold Stm.cut
  rw [List.drop_take, List.take_take, List.drop_drop]
  congr 1
  omega
theorem Stm.cut_drop {a b c : Nat} (h : a + c ≤ b) : (s.cut a b).drop c = s.cut (a + c) b := by
  unfold Stm.cut
  rw [List.drop_take, List.drop_drop]
  congr 1
  omega
/-- the row's bytes -/
theorem Stm.Ok.row_cut (ok : s.Ok) {k : Nat} {r : List Nat} (h : s.all[k]? = some r) (hk : s.E (k + 1) ≤ s.w) : s.cut (s.E k + 2) (s.E (k + 1)) = r := by
  have e := Stm.E_succ h
  refine List.ext_getElem? fun i => ?_
  by_cases hi : i < r.length
  · rw [Stm.cut_get (by omega), show s.E k + 2 + i = s.E k + (i + 2) by omega, Stm.at_row h _ (by omega), List.getElem?_append_left (by rw [fr_len]; omega)]
    rfl
  · rw [List.getElem?_eq_none (by rw [ok.cut_len (by omega) hk]; omega), List.getElem?_eq_none (by omega)]
theorem Stm.row_hi {k : Nat} {r : List Nat} (h : s.all[k]? = some r) (hk : s.E k + 2 ≤ s.w) : s.whole[s.E k]? = some (r.length / 256) ∧ s.whole[s.E k + 1]? = some (r.length % 256) := by
  have h0 := Stm.at_row h 0 (by omega)
  have h1 := Stm.at_row h 1 (by omega)
  exact ⟨h0, h1⟩
/-- how many rows end at or ahead of e -/
def Stm.cntTo (s : Stm) (e : Nat) : Nat → Nat
  | 0 => 0
  | m + 1 => if s.E (m + 1) ≤ e then m + 1 else s.cntTo e m
def Stm.cnt (s : Stm) (e : Nat) : Nat := s.cntTo e s.n
theorem Stm.cntTo_spec (e : Nat) : ∀ m, s.cntTo e m ≤ m ∧ s.E (s.cntTo e m) ≤ e ∧ (s.cntTo e m = m ∨ e < s.E (s.cntTo e m + 1))
  | 0 => ⟨Nat.le_refl _, Nat.zero_le _, .inl rfl⟩
  | m + 1 => by
    unfold Stm.cntTo
    by_cases h : s.E (m + 1) ≤ e
    · rw [if_pos h]
      exact ⟨Nat.le_refl _, h, .inl rfl⟩
    · rw [if_neg h]
      obtain ⟨h1, h2, h3⟩ := Stm.cntTo_spec e m
      refine ⟨by omega, h2, .inr ?_⟩
      rcases h3 with h3 | h3
      · rw [h3]; omega
      · exact h3
theorem Stm.cnt_le (s : Stm) (e : Nat) : s.cnt e ≤ s.n := (Stm.cntTo_spec e s.n).1
theorem Stm.cnt_E (s : Stm) (e : Nat) : s.E (s.cnt e) ≤ e := (Stm.cntTo_spec e s.n).2.1
theorem Stm.cnt_next (s : Stm) (e : Nat) : s.cnt e = s.n ∨ e < s.E (s.cnt e + 1) := (Stm.cntTo_spec e s.n).2.2
/-- a row ends at or ahead of e, exactly if it is counted -/
theorem Stm.cnt_iff {e k : Nat} (hk : k < s.n) : s.E (k + 1) ≤ e ↔ k < s.cnt e := by
  refine ⟨fun h => ?_, fun h => ?_⟩
  · refine Decidable.byContradiction fun q => ?_
    have h1 := s.cnt_le e
    rcases s.cnt_next e with h2 | h2
    · omega
    · have := Stm.E_mono (s := s) (show s.cnt e + 1 ≤ k + 1 by omega) (by omega)
      omega
  · have := Stm.E_mono (s := s) (show k + 1 ≤ s.cnt e by omega) (by have := s.cnt_le e; omega)
    have h2 := s.cnt_E e
    omega
theorem Stm.cnt_mono {a b : Nat} (h : a ≤ b) : s.cnt a ≤ s.cnt b := by
  refine Decidable.byContradiction fun q => ?_
  have h1 := s.cnt_le a
  have h2 : s.cnt b < s.n := by omega
  have h3 := (Stm.cnt_iff (s := s) (e := a) h2).mpr (by omega)
  have h4 := (Stm.cnt_iff (s := s) (e := b) h2).mp (by omega)
  omega
theorem Stm.cnt_uniq {e k : Nat} (h1 : k ≤ s.n) (h2 : s.E k ≤ e) (h3 : k = s.n ∨ e < s.E (k + 1)) : k = s.cnt e := by
  have c1 := s.cnt_le e
  rcases Nat.lt_trichotomy k (s.cnt e) with h | h | h
  · have h4 := (Stm.cnt_iff (s := s) (e := e) (k := k) (by omega)).mpr h
    omega
  · exact h
  · have h4 := (Stm.cnt_iff (s := s) (e := e) (k := k - 1) (by omega)).mp (by rw [show k - 1 + 1 = k by omega]; exact h2)
    omega
/-- what the law's own listing gives -/
theorem Stm.due_rows {a b : Nat} (h : a ≤ b) : ((s.rows.zip s.ends).filter fun p => decide (a < p.2) && decide (p.2 ≤ b)).map (·.1) = (s.rows.drop (s.cnt a)).take (s.cnt b - s.cnt a) := by
  have hz : s.rows.zip s.ends = (List.range s.n).map fun k => (s.rows.getD k [], s.E (k + 1)) := by
    refine List.ext_getElem? fun i => ?_
    rw [List.getElem?_map]
    by_cases hi : i < s.n
    · rw [List.getElem?_range hi]
      refine List.getElem?_zip_eq_some.mpr ⟨?_, ?_⟩
      · simp [List.getD, show i < s.rows.length from hi]
      · unfold Stm.ends
        rw [List.getElem?_map, List.getElem?_range hi]
        rfl
    · have hn : s.n = s.rows.length := rfl
      rw [List.getElem?_eq_none (by simp [Stm.ends]; omega), List.getElem?_eq_none (by simp; omega)]
      rfl
  rw [hz, List.filter_map, List.map_map]
  have hf : (List.range s.n).filter ((fun p : List Nat × Nat => decide (a < p.2) && decide (p.2 ≤ b)) ∘ fun k => (s.rows.getD k [], s.E (k + 1))) = List.range' (s.cnt a) (s.cnt b - s.cnt a) := by
    have h1 := Stm.cnt_mono (s := s) h
    have h2 := s.cnt_le b
    have e : List.range s.n = List.range' 0 (s.cnt a) ++ (List.range' (s.cnt a) (s.cnt b - s.cnt a) ++ List.range' (s.cnt b) (s.n - s.cnt b)) := by
      rw [List.range_eq_range']
      have q1 := List.range'_append_1 (s := s.cnt a) (m := s.cnt b - s.cnt a) (n := s.n - s.cnt b)
      rw [show s.cnt a + (s.cnt b - s.cnt a) = s.cnt b by omega] at q1
      rw [q1]
      have q2 := List.range'_append_1 (s := 0) (m := s.cnt a) (n := s.cnt b - s.cnt a + (s.n - s.cnt b))
      rw [Nat.zero_add] at q2
      rw [q2]
      congr 1
      omega
    rw [e, List.filter_append, List.filter_append]
    have f1 : (List.range' 0 (s.cnt a)).filter ((fun p : List Nat × Nat => decide (a < p.2) && decide (p.2 ≤ b)) ∘ fun k => (s.rows.getD k [], s.E (k + 1))) = [] := by
      refine List.filter_eq_nil_iff.mpr fun k hk => ?_
      have := List.mem_range'_1.mp hk
      have := (Stm.cnt_iff (s := s) (e := a) (k := k) (by omega)).mpr (by omega)
      simp
      omega
    have f2 : (List.range' (s.cnt a) (s.cnt b - s.cnt a)).filter ((fun p : List Nat × Nat => decide (a < p.2) && decide (p.2 ≤ b)) ∘ fun k => (s.rows.getD k [], s.E (k + 1))) = List.range' (s.cnt a) (s.cnt b - s.cnt a) := by
      refine List.filter_eq_self.mpr fun k hk => ?_
      have hk := List.mem_range'_1.mp hk
      have q1 := (Stm.cnt_iff (s := s) (e := b) (k := k) (by omega)).mpr (by omega)
      have q2 : ¬ s.E (k + 1) ≤ a := fun z => by
        have := (Stm.cnt_iff (s := s) (e := a) (k := k) (by omega)).mp z
        omega
      simp
      omega
    have f3 : (List.range' (s.cnt b) (s.n - s.cnt b)).filter ((fun p : List Nat × Nat => decide (a < p.2) && decide (p.2 ≤ b)) ∘ fun k => (s.rows.getD k [], s.E (k + 1))) = [] := by
      refine List.filter_eq_nil_iff.mpr fun k hk => ?_
      have hk := List.mem_range'_1.mp hk
      have q2 : ¬ s.E (k + 1) ≤ b := fun z => by
        have := (Stm.cnt_iff (s := s) (e := b) (k := k) (by omega)).mp z
        omega
      simp
      omega
    rw [f1, f2, f3]
    simp
  rw [hf]
  refine List.ext_getElem? fun i => ?_
  have h1 := Stm.cnt_mono (s := s) h
  have h2 := s.cnt_le b
  rw [List.getElem?_map]
  by_cases hi : i < s.cnt b - s.cnt a
  · rw [List.getElem?_range' (by simpa using hi), List.getElem?_take_of_lt hi, List.getElem?_drop]
    have hl : s.cnt a + i < s.rows.length := by have : s.n = s.rows.length := rfl; omega
    simp [List.getD, hl]
  · rw [List.getElem?_eq_none (by simp; omega), List.getElem?_eq_none (by simp; omega)]
    rfl
/-- the greatest end at or ahead of e -/
theorem Stm.last_end (e : Nat) : s.E (s.cnt e) ∈ 0 :: s.ends.filter (fun p => decide (p ≤ e)) ∧ ∀ p ∈ 0 :: s.ends.filter (fun p => decide (p ≤ e)), p ≤ s.E (s.cnt e) := by
  have c1 := s.cnt_le e
  refine ⟨?_, fun p hp => ?_⟩
  · cases hc : s.cnt e with
    | zero => rw [Stm.E0]; exact List.mem_cons_self
    | succ k =>
      refine List.mem_cons_of_mem _ (List.mem_filter.mpr ⟨List.mem_map.mpr ⟨k, List.mem_range.mpr (by omega), rfl⟩, ?_⟩)
      have := s.cnt_E e
      rw [hc] at this
      simpa using this
  · rcases List.mem_cons.mp hp with rfl | hp
    · exact Nat.zero_le _
    · obtain ⟨hp, he⟩ := List.mem_filter.mp hp
      obtain ⟨k, hk, rfl⟩ := List.mem_map.mp hp
      have hk := List.mem_range.mp hk
      have := (Stm.cnt_iff (s := s) hk).mp (by simpa using he)
      exact Stm.E_mono (by omega) (by omega)
end
end Law

namespace Law
open PySem PySem.Spec PyProof.Rows L2 TL
theorem sz {n : Nat} (h : n ≤ 1000000) : n ≤ sizeLine := by rw [sizeLine_eq]; omega
theorem ilist_len {xs : List Nat} : (ilist xs).length = xs.length := List.length_map ..
theorem ilist_app {xs ys : List Nat} : ilist (xs ++ ys) = ilist xs ++ ilist ys := List.map_append ..
theorem ilist_at {xs : List Nat} {i h : Nat} (e : xs[i]? = some h) : (ilist xs)[i]? = some (.int (h : Nat)) := by
  show (List.map _ _)[i]? = _
  rw [List.getElem?_map, e]
  rfl
theorem ilist_drop {xs : List Nat} {n : Nat} : (ilist xs).drop n = ilist (xs.drop n) := (List.map_drop ..).symm
theorem ilist_take {xs : List Nat} {n : Nat} : (ilist xs).take n = ilist (xs.take n) := (List.map_take ..).symm
def feed (C : Addr) (r : List Nat) : OD := .ob C [("_rest", .da (bt r))]
def FeedAt (C : Addr) (s : Stm) (e : Nat) : OD := feed C (s.cut (s.E (s.cnt e)) e)
def rowsD (s : Stm) (a b : Nat) : List PyData := ((s.rows.drop (s.cnt a)).take (s.cnt b - s.cnt a)).map bt
def spFramed : SpD := fun as Ψ => ∃ xs : List Nat, as = [.da (bt xs)] ∧ xs.length ≤ 65535 ∧ Ψ (.da (bt (fr xs))) as
def spLenAt : SpD := fun as Ψ => ∃ (xs : List Nat) (i h l : Nat), as = [.da (bt xs), .da (.int (i : Nat))] ∧ xs[i]? = some h ∧ xs[i + 1]? = some l ∧ Ψ (.da (.int ((h * 256 + l : Nat) : Int))) as
def spInit (C : Addr) : SpD := fun as Ψ => as = [.ob C []] ∧ Ψ (.da .none) [feed C []]
def spHear (C : Addr) : SpD := fun as Ψ => ∃ (s : Stm) (a b : Nat), as = [FeedAt C s a, .da (bt (s.cut a b))] ∧ s.Ok ∧ a ≤ b ∧ b ≤ s.w ∧ Ψ (.da (.tuple (rowsD s a b))) [FeedAt C s b, .da (bt (s.cut a b))]
def spHeld (C : Addr) : SpD := fun as Ψ => ∃ r : List Nat, as = [feed C r] ∧ Ψ (.da (.int (r.length : Nat))) as
theorem fr_data (xs : List Nat) : PyData.tuple ([PyData.int ((xs.length : Int) / 256), PyData.int ((xs.length : Int) % 256)] ++ ilist xs) = bt (fr xs) := by
  show _ = PyData.tuple (PyData.int ((xs.length / 256 : Nat) : Int) :: PyData.int ((xs.length % 256 : Nat) : Int) :: ilist xs)
  rw [show ((xs.length / 256 : Nat) : Int) = (xs.length : Int) / 256 by omega, show ((xs.length % 256 : Nat) : Int) = (xs.length : Int) % 256 by omega]
  rfl
section
variable {P : Program} {w : World} {K : PySem.W.Frag} {mg : Str → Option Value} {bs h : Heap} (X : K.In h) (G : h.Ns mainGlobals mg) (B : Blt mg) {C : Addr} (cF : Cls K C) (nR : NoAttr K C "_rest") (bB : ∃ t, mg "BASE" = some (.int 256 t))
include X G B bB in
theorem d_framed (D : DK K "framed" s_framed) : Def P w K mg bs 1 "framed" ["data"] spFramed := by
  refine def_ok X G D sc_framed (fun f fd F => F.binds (ps := ["data"]) fun _ _ _ _ _ _ us hl => match us, hl with | [_], _ => rfl) (fun as Ψ h => by obtain ⟨_, rfl, _⟩ := h; rfl) fun f cdv A fr s H E fx as Ψ us hsp hl => ?_
  obtain ⟨xs, rfl, hz, hq⟩ := hsp
  obtain ⟨v0, rfl⟩ := ar1 hl
  show WSs _ _ [some (.da (bt xs)), none, none] _
  have nd := fx.nd
  refine ws_asgT (we_pure (xe_divmod B (j := 256) (by decide) (by decide) (xe_lenS 0 B) (xe_globI bB)) (wg_tup rfl (wgs_cons (wg_name 1 nd (wgs_cons (wg_name 2 nd (wgs_nil ?_)))))))
  rw [ilist_len]
  show WSs _ _ [some (.da (bt xs)), some (.da (.int ((xs.length : Int) / 256))), some (.da (.int ((xs.length : Int) % 256)))] _
  refine xs_ret (xe_castD (xe_catT (by rw [ilist_len]; show 2 + _ ≤ _; exact sz (by omega)) (xe_tup2 (xv 1) (xv 2)) (xe_tupOfS 0 B)) (fr_data xs)) ⟨_, .da .nil, hq⟩
include X G B bB in
theorem d_lenat (D : DK K "length_at" s_length_at) : Def P w K mg bs 1 "length_at" ["rest", "at"] spLenAt := by
  refine def_ok X G D sc_length_at (fun f fd F => F.binds (ps := ["rest", "at"]) fun _ _ _ _ _ _ us hl => match us, hl with | [_, _], _ => rfl) (fun as Ψ h => by obtain ⟨_, _, _, _, rfl, _⟩ := h; rfl) fun f cdv A fr s H E fx as Ψ us hsp hl => ?_
  obtain ⟨xs, i, h, l, rfl, h1, h2, hq⟩ := hsp
  obtain ⟨v0, v1, rfl⟩ := ar2 hl
  show WSs _ _ [some (.da (bt xs)), some (.da (.int (i : Nat)))] _
  refine xs_ret (xe_cast (xe_add (xe_mul (.inr ⟨by decide, by decide⟩) (xe_ix (xv 0) (xv 1) (.inr rfl) (atI_nat (ilist_at h1))) (xe_globI bB)) (xe_ix (xv 0) (xe_cast (xe_add (xv 1) xe_int) (show (i : Int) + 1 = ((i + 1 : Nat) : Int) by omega)) (.inr rfl) (atI_nat (ilist_at h2)))) ?_) ⟨_, .da (.da .nil), hq⟩
  omega
include B cF nR in
theorem d_init (X : K.In h) (G : h.Ns mainGlobals mg) (D : DKI K C "Feed" "Feed.__init__" s_Feed___init__) : DefI P w K mg bs 1 "Feed" C ["self"] (spInit C) := by
  refine init_ok X G D sc_Feed___init__ (fun f fd F => F.binds (ps := ["self"]) fun _ _ _ _ _ _ us hl => match us, hl with | [_], _ => rfl) (fun as Ψ h => by obtain ⟨rfl, _⟩ := h; rfl) fun f cdv A fr s H E fx as Ψ us hsp hl => ?_
  obtain ⟨rfl, hq⟩ := hsp
  obtain ⟨v0, rfl⟩ := ar1 hl
  show WSs _ _ [some (.pin v0 (.ob C []))] _
  exact ws_fld 0 (we_pure xe_tup0 ⟨_, C, [], _, rfl, .pin, cF, nR, by decide, ws_nil ⟨_, .own .nil, hq⟩⟩)
include B cF nR in
theorem d_held (D : DKM K C "held" "Feed.held" s_Feed_held) : DefM P w K mg bs 1 C "held" ["self"] (spHeld C) := by
  refine meth_ok D cF sc_Feed_held (fun f fd F => F.binds (ps := ["self"]) fun _ _ _ _ _ _ us hl => match us, hl with | [_], _ => rfl) (fun as Ψ h => by obtain ⟨_, rfl, _⟩ := h; rfl) fun f cdv A fr s H E fx as Ψ us hsp hl => ?_
  obtain ⟨r, rfl, hq⟩ := hsp
  obtain ⟨v0, rfl⟩ := ar1 hl
  show WSs _ _ [some (.pin v0 (.ob C [("_rest", .da (bt r))]))] _
  refine xs_ret (xe_len B (xe_fld 0 cF nR rfl) (.inr rfl)) ?_
  rw [ilist_len]
  exact ⟨_, .own .nil, hq⟩
include B cF nR in
theorem d_hear (D : DKM K C "hear" "Feed.hear" s_Feed_hear) (gL : Def P w K mg bs 1 "length_at" ["rest", "at"] spLenAt) : DefM P w K mg bs 2 C "hear" ["self", "piece"] (spHear C) := by
  refine meth_ok D cF sc_Feed_hear (fun f fd F => F.binds (ps := ["self", "piece"]) fun _ _ _ _ _ _ us hl => match us, hl with | [_, _], _ => rfl) (fun as Ψ h => by obtain ⟨_, _, _, rfl, _⟩ := h; rfl) fun f cdv A fr' s' H E fx as Ψ us hsp hl => ?_
  obtain ⟨s, a, b, rfl, ok, hab, hb, hq⟩ := hsp
  obtain ⟨v0, v1, rfl⟩ := ar2 hl
  have nd := fx.nd
  have hca := s.cnt_le a
  have hcb := s.cnt_le b
  have hcm := Stm.cnt_mono (s := s) hab
  have hEa := s.cnt_E a
  have hEb := s.cnt_E b
  have wle := ok.w_le
  generalize hj : s.cnt a = j at *
  have hself : FeedAt C s a = .ob C [("_rest", .da (bt (s.cut (s.E j) a)))] := by unfold FeedAt feed; rw [hj]
  rw [hself]
  have rl : (s.cut (s.E j) b).length = b - s.E j := ok.cut_len (by omega) hb
  show WSs _ _ [some (.pin v0 (.ob C [("_rest", .da (bt (s.cut (s.E j) a)))])), some (.da (bt (s.cut a b))), none, none, none, none] _
  refine xs_set 2 nd (xe_castD (xe_catT (ds := ilist (s.cut (s.E j) a)) (es' := ilist (s.cut a b)) (by rw [ilist_len, ilist_len, ok.cut_len hEa (by omega), ok.cut_len hab hb]; exact sz (by omega)) (xe_fld 0 cF nR rfl) (xe_tupOfS 1 B)) (show _ = bt (s.cut (s.E j) b) by rw [← ilist_app, Stm.cut_app hEa hab])) ?_
  refine xs_set 3 nd xe_lst0 ?_
  refine xs_set 4 nd xe_int ?_
  refine ws_whileT fx (fun t : Nat => [some (.pin v0 (.ob C [("_rest", .da (bt (s.cut (s.E j) a)))])), some (.da (bt (s.cut a b))), some (.da (bt (s.cut (s.E j) b))), some (.ll (((s.rows.drop j).take (t - j)).map bt)), some (.da (.int ((s.E t - s.E j : Nat) : Int))), none]) (fun t => j ≤ t ∧ t ≤ s.cnt b) (fun t => s.n - t) j ⟨Nat.le_refl _, hcm⟩ (by rw [Nat.sub_self, Nat.sub_self]; rfl) fun t ⟨t1, t2⟩ => ?_
  have htl : t < s.all.length := by rw [Stm.all_len]; omega
  obtain ⟨r, hr⟩ : ∃ r, s.all[t]? = some r := ⟨_, List.getElem?_eq_getElem htl⟩
  have eS := Stm.E_succ hr
  have eM := Stm.E_mono (s := s) t1 (by omega)
  have eB := Stm.E_mono (s := s) t2 (by omega)
  have hb2 : s.E t + 2 ≤ b → (s.cut (s.E j) b)[s.E t - s.E j]? = some (r.length / 256) ∧ (s.cut (s.E j) b)[s.E t - s.E j + 1]? = some (r.length % 256) := fun h => by
    obtain ⟨g1, g2⟩ := Stm.row_hi hr (by omega)
    rw [Stm.cut_get (by omega), Stm.cut_get (by omega), show s.E j + (s.E t - s.E j) = s.E t by omega, show s.E j + (s.E t - s.E j + 1) = s.E t + 1 by omega]
    exact ⟨g1, g2⟩
  have hdm : r.length / 256 * 256 + r.length % 256 = r.length := by omega
  have fin : b < s.E (t + 1) → WSs (dcx P w K mg bs ["self", "piece", "rest", "found", "at", "end"] "Feed.hear" s_Feed_hear f cdv A fr' s' H E) ((defBody s_Feed_hear).drop 4) [some (.pin v0 (.ob C [("_rest", .da (bt (s.cut (s.E j) a)))])), some (.da (bt (s.cut a b))), some (.da (bt (s.cut (s.E j) b))), some (.ll (((s.rows.drop j).take (t - j)).map bt)), some (.da (.int ((s.E t - s.E j : Nat) : Int))), none] (fnΦ [.ob C [("_rest", .da (bt (s.cut (s.E j) a)))], .da (bt (s.cut a b))] [v0, v1] Ψ) := fun hlt => by
    have hk : t = s.cnt b := Stm.cnt_uniq (by omega) (by omega) (.inr hlt)
    refine ws_fld 0 (we_pure (xe_castD (d' := bt (s.cut (s.E t) b)) (xe_sliceT (xv 2) (.some (xv 4)) .none) ?e) ⟨_, C, _, _, rfl, .pin, cF, nR, (by show 1 < 1000; decide), ?_⟩)
    case e =>
      rw [cutD_from, ilist_drop, Stm.cut_drop (by omega), show s.E j + (s.E t - s.E j) = s.E t by omega]
    show WSs _ _ [some (.pin v0 (.ob C [("_rest", .da (bt (s.cut (s.E t) b)))])), some (.da (bt (s.cut a b))), some (.da (bt (s.cut (s.E j) b))), some (.ll (((s.rows.drop j).take (t - j)).map bt)), some (.da (.int ((s.E t - s.E j : Nat) : Int))), none] _
    refine xs_ret (xe_tupOfS 3 B) ⟨_, .own (.da .nil), ?_⟩
    unfold FeedAt feed rowsD at hq
    rw [hj, ← hk] at hq
    exact hq
  -- the test
  refine WW.wt (ww_and (xt_le (xe_add (xv 4) xe_int) (xe_lenS 2 B) _ ⟨fun h1 => ?two, fun h1 => ⟨(fun h => by cases h), fun _ => ?done2⟩⟩))
  case done2 =>
    rw [decide_eq_false_iff_not, ilist_len, rl] at h1
    exact fin (by omega)
  rw [decide_eq_true_eq, ilist_len, rl] at h1
  have call : ∀ {p1 p2 p3 p4 : Pos}, XE (dcx P w K mg bs ["self", "piece", "rest", "found", "at", "end"] "Feed.hear" s_Feed_hear f cdv A fr' s' H E) (.Call (.Name "length_at" p1) [.Name "rest" p2, .Name "at" p3] [] p4) [some (.pin v0 (.ob C [("_rest", .da (bt (s.cut (s.E j) a)))])), some (.da (bt (s.cut a b))), some (.da (bt (s.cut (s.E j) b))), some (.ll (((s.rows.drop j).take (t - j)).map bt)), some (.da (.int ((s.E t - s.E j : Nat) : Int))), none] (.da (.int ((r.length / 256 * 256 + r.length % 256 : Nat) : Int)))
      [some (.pin v0 (.ob C [("_rest", .da (bt (s.cut (s.E j) a)))])), some (.da (bt (s.cut a b))), some (.da (bt (s.cut (s.E j) b))), some (.ll (((s.rows.drop j).take (t - j)).map bt)), some (.da (.int ((s.E t - s.E j : Nat) : Int))), none] := fun {_ _ _ _} Ψ' hq' => we_fnR gL (fx.room.mono (by decide)) fx.gd (wr_da (xv 2) (wr_da (xv 4) (wr_nil ⟨_, _, rfl, _, _, _, _, rfl, (hb2 (by omega)).1, (hb2 (by omega)).2, hq'⟩)))
  refine ww_and1 (xt_le (xe_add (xe_add (xv 4) xe_int) call) (xe_lenS 2 B) _ ⟨fun h2 => ?body, fun h2 => ?done⟩)
  case done =>
    rw [decide_eq_false_iff_not, ilist_len, rl, hdm] at h2
    exact fin (by omega)
  case body =>
    rw [decide_eq_true_eq, ilist_len, rl, hdm] at h2
    have hE1 : s.E (t + 1) ≤ b := by omega
    have htn : t < s.n := by
      refine Decidable.byContradiction fun q => ?_
      have := ok.hi
      have : t = s.n := by omega
      subst this
      omega
    have hrr : s.rows[t]? = some r := by
      have := hr
      unfold Stm.all at this
      rwa [List.getElem?_append_left htn] at this
    have hct : t < s.cnt b := (Stm.cnt_iff (s := s) htn).mp hE1
    refine xs_set 5 nd (xe_cast (j := ((s.E (t + 1) - s.E j : Nat) : Int)) (xe_add (xe_add (xv 4) xe_int) call) (by rw [hdm]; omega)) ?_
    refine ws_expr (we_append 3 (we_pure (xe_castD (d' := bt r) (xe_sliceT (xv 2) (.some (xe_cast (j := ((s.E t - s.E j + 2 : Nat) : Int)) (xe_add (xv 4) xe_int) (by omega))) (.some (xv 5))) ?e) ⟨_, _, _, _, rfl, rfl, .ll, ?l, ?_⟩))
    case e =>
      rw [cutD_le (by omega) (by rw [ilist_len, rl]; omega), ilist_drop, ilist_take, Stm.cut_cut (by omega), show s.E j + (s.E t - s.E j + 2) = s.E t + 2 by omega, show s.E j + (s.E (t + 1) - s.E j) = s.E (t + 1) by omega, ok.row_cut hr (by omega)]
    case l =>
      rw [List.length_map, List.length_take]
      have := ok.few
      exact Nat.lt_of_le_of_lt (Nat.le_trans (Nat.min_le_right ..) (by rw [List.length_drop]; have : s.n = s.rows.length := rfl; omega)) (show 6 < sizeLine by decide)
    refine xs_set 4 nd (xv 5) ?_
    refine ws_drop 5 (ws_nil ⟨t + 1, ⟨by omega, by omega⟩, by omega, ?_⟩)
    have e2 : (s.rows.drop j).take (t + 1 - j) = (s.rows.drop j).take (t - j) ++ [r] := by
      rw [show t + 1 - j = t - j + 1 by omega, List.take_succ, List.getElem?_drop, show j + (t - j) = t by omega, hrr]
      rfl
    rw [e2, List.map_append]
    rfl
end
end Law

namespace Law
open PySem PySem.Spec PyProof.Rows L2 TL
theorem plain_bt {xs : List Nat} : (bt xs).plain = true := by
  show PyData.plain (.tuple _) = true
  unfold PyData.plain
  exact plain_ilist
theorem depth_bt {xs : List Nat} : (bt xs).depth ≤ 60 := by
  have h : ∀ ys : List Nat, PyData.depthAll (ilist ys) = 0 := fun ys => by
    induction ys with
    | nil => rfl
    | cons y ys ih =>
      show PyData.depthAll (.int y :: ilist ys) = 0
      unfold PyData.depthAll
      rw [ih]
      rfl
  show PyData.depth (.tuple _) ≤ 60
  unfold PyData.depth
  rw [h]
  decide
def spRowRight : SpD := fun as Ψ => ∃ xs : List Nat, as = [.da (bt xs), .da (bt xs)] ∧ xs.length ≤ 65540 ∧ Ψ (.da (.bool true)) as
def spRowsRight : SpD := fun as Ψ => ∃ rs : List (List Nat), as = [.da (.tuple (rs.map bt)), .da (.tuple (rs.map bt))] ∧ rs.length ≤ 1000 ∧ (∀ r ∈ rs, r.length ≤ 65540) ∧ Ψ (.da (.bool true)) as
def spCountRight : SpD := fun as Ψ => ∃ n : Int, as = [.da (.int n), .da (.int n)] ∧ Ψ (.da (.bool true)) as
def spSome (T : TC) : SpD := fun as Ψ => ∃ dear : Bool, as = [.op (dw T), .da (.bool dear)] ∧ ∀ xs : List Nat, xs.length ≤ 65535 → Ψ (.da (bt xs)) as
def spPick (T : TC) : SpD := fun as Ψ => ∃ ds : List PyData, as = [.op (dw T), .da (.list ds)] ∧ 0 < ds.length ∧ ds.length ≤ sizeLine ∧ ∀ d ∈ ds, Ψ (.da d) as
section
variable {P : Program} {w : World} {K : PySem.W.Frag} {mg : Str → Option Value} {bs h : Heap} (X : K.In h) (G : h.Ns mainGlobals mg) (B : Blt mg)
include X G B
theorem d_pick (D : DK K "_law_pick" s_l_pick) (gD : Def P w K mg bs 2 "_law_draw" ["d", "many"] (spDraw ⟨P, w, K⟩)) : Def P w K mg bs 3 "_law_pick" ["d", "row"] (spPick ⟨P, w, K⟩) := by
  refine def_ok X G D sc_l_pick (fun f fd F => F.binds (ps := ["d", "row"]) fun _ _ _ _ _ _ us hl => match us, hl with | [_, _], _ => rfl) (fun as Ψ h => by obtain ⟨_, rfl, _⟩ := h; rfl) fun f cdv A fr s H E fx as Ψ us hsp hl => ?_
  obtain ⟨ds, rfl, h0, hz, hq⟩ := hsp
  obtain ⟨v0, v1, rfl⟩ := ar2 hl
  show WSs _ _ [some (.pin v0 (.op (dw ⟨P, w, K⟩))), some (.da (.list ds))] _
  refine ws_ret (we_ix (we_pure (xv 1) ⟨_, ds, rfl, .inl rfl, we_draw 0 gD (fx.room.mono (by decide)) fx.gd (xe_lenS 1 B) (by omega) (by rw [sizeLine_eq] at hz; omega) fun r r0 r1 => ?_⟩))
  obtain ⟨r, rfl⟩ := Int.eq_ofNat_of_zero_le r0
  have hr : r < ds.length := by omega
  exact ⟨_, _, rfl, atI_nat (List.getElem?_eq_getElem hr), _, .own (.da .nil), hq _ (List.getElem_mem hr)⟩
theorem d_rowRight (D : DK K "_law_row_right" s_l_row_right) : Def P w K mg bs 1 "_law_row_right" ["told", "due"] spRowRight := by
  refine def_ok X G D sc_l_row_right (fun f fd F => F.binds (ps := ["told", "due"]) fun _ _ _ _ _ _ us hl => match us, hl with | [_, _], _ => rfl) (fun as Ψ h => by obtain ⟨_, rfl, _⟩ := h; rfl) fun f cdv A fr s H E fx as Ψ us hsp hl => ?_
  obtain ⟨xs, rfl, hz, hq⟩ := hsp
  obtain ⟨v0, v1, rfl⟩ := ar2 hl
  show WSs _ _ [some (.da (bt xs)), some (.da (bt xs)), none] _
  have nd := fx.nd
  refine xs_if (xt_or2 (xt_not (xt_val (xe_isTup B (xv 0)))) fun _ => xt_neP fx.u (xv 0) (xv 1) plain_bt plain_bt depth_bt) (fun he => ?_) fun _ => ws_nil ?_
  · rw [eqv_self plain_bt] at he
    cases he
  · refine xs_ret (xe_castD (xe_allM (fun _ => true) xs B rfl (xe_lcM [("one", 2)] (fun (n : Nat) Γ => Γ.set 2 (some (.da (.int n)))) xs (fun n => .int n) (fun _ => .bool true) fx (R := fun _ => .da (.bool true)) (xi_tup (xv 0)) (sz (by omega)) (fun x hx s H C cl fp => gc_name 2 nd rfl) fun i hi s H C cl fp => xe_castD (xe_andB (xe_isInt B (xv 2)) fun _ => xe_notB (xe_isBool B (xv 2))) rfl)) (by simp)) ⟨_, .da (.da .nil), hq⟩
theorem d_rowsRight (D : DK K "_law_rows_right" s_l_rows_right) (gR : Def P w K mg bs 1 "_law_row_right" ["told", "due"] spRowRight) : Def P w K mg bs 2 "_law_rows_right" ["told", "due"] spRowsRight := by
  refine def_ok X G D sc_l_rows_right (fun f fd F => F.binds (ps := ["told", "due"]) fun _ _ _ _ _ _ us hl => match us, hl with | [_, _], _ => rfl) (fun as Ψ h => by obtain ⟨_, rfl, _⟩ := h; rfl) fun f cdv A fr s H E fx as Ψ us hsp hl => ?_
  obtain ⟨rs, rfl, hz, hr, hq⟩ := hsp
  obtain ⟨v0, v1, rfl⟩ := ar2 hl
  show WSs _ _ [some (.da (.tuple (rs.map bt))), some (.da (.tuple (rs.map bt))), none, none] _
  have nd := fx.nd
  refine xs_if (xt_or2 (xt_not (xt_val (xe_isTup B (xv 0)))) fun _ => xt_neI fx.u (xe_lenS 0 B) (xe_lenS 1 B)) (fun he => ?_) fun _ => ws_nil ?_
  · rw [decide_eq_true rfl] at he
    cases he
  · refine xs_ret (xe_castD (xe_allM (fun _ => true) (rs.zip rs) B rfl (xe_lcM [("one", 2), ("two", 3)] (fun (q : List Nat × List Nat) Γ => (Γ.set 2 (some (.da (bt q.1)))).set 3 (some (.da (bt q.2)))) (rs.zip rs) (fun q => .tuple [bt q.1, bt q.2]) (fun _ => .bool true) fx (R := fun _ => .da (.bool true)) (xi_zipU B (xv 0) (xv 1)) (by rw [List.length_zip, Nat.min_self]; exact sz (by omega)) (fun x hx s H C cl fp => gc_tup rfl (gsc_cons (gc_name 2 nd (gsc_cons (gc_name 3 nd (gsc_nil rfl)))))) fun q hq s H C cl fp => ?_)) (by simp)) ⟨_, .da (.da .nil), hq⟩
    have e : q.1 = q.2 := by
      obtain ⟨i, hi⟩ := List.mem_iff_getElem?.mp hq
      obtain ⟨h1, h2⟩ := List.getElem?_zip_eq_some.mp hi
      rw [h1] at h2
      exact Option.some.inj h2
    have hm : q.1 ∈ rs := (List.of_mem_zip (a := q.1) (b := q.2) hq).1
    exact fun Ψ' hq' => we_fnR gR (fx.room.mono (by decide)) fx.gd (wr_da (xv 2) (wr_da (xv 3) (wr_nil ⟨_, _, rfl, q.1, by rw [← e], hr _ hm, hq'⟩)))
theorem d_countRight (D : DK K "_law_count_right" s_l_count_right) : Def P w K mg bs 1 "_law_count_right" ["told", "due"] spCountRight := by
  refine def_ok X G D sc_l_count_right (fun f fd F => F.binds (ps := ["told", "due"]) fun _ _ _ _ _ _ us hl => match us, hl with | [_, _], _ => rfl) (fun as Ψ h => by obtain ⟨_, rfl, _⟩ := h; rfl) fun f cdv A fr s H E fx as Ψ us hsp hl => ?_
  obtain ⟨n, rfl, hq⟩ := hsp
  obtain ⟨v0, v1, rfl⟩ := ar2 hl
  show WSs _ _ [some (.da (.int n)), some (.da (.int n))] _
  refine xs_ret (xe_castD (d' := .bool true) (xe_and3B (xe_isInt B (xv 0)) (fun _ => xe_notB (xe_isBool B (xv 0))) fun _ _ => xe_eqI fx.u (xv 0) (xv 1)) (by rw [decide_eq_true rfl]; rfl)) ⟨_, .da (.da .nil), hq⟩
theorem d_lframed (D : DK K "_law_framed" s_l_framed) : Def P w K mg bs 1 "_law_framed" ["data"] spFramed := by
  refine def_ok X G D sc_l_framed (fun f fd F => F.binds (ps := ["data"]) fun _ _ _ _ _ _ us hl => match us, hl with | [_], _ => rfl) (fun as Ψ h => by obtain ⟨_, rfl, _⟩ := h; rfl) fun f cdv A fr s H E fx as Ψ us hsp hl => ?_
  obtain ⟨xs, rfl, hz, hq⟩ := hsp
  obtain ⟨v0, rfl⟩ := ar1 hl
  show WSs _ _ [some (.da (bt xs))] _
  refine xs_ret (xe_castD (xe_catT (ds := [PyData.int _, PyData.int _]) (es' := ilist xs) (by rw [ilist_len]; show 2 + _ ≤ _; exact sz (by omega)) (xe_tup2 (xe_shr (by decide) (xe_lenS 0 B) xe_int) (xe_band (xe_lenS 0 B) xe_int)) (xv 0)) ?_) ⟨_, .da .nil, hq⟩
  rw [bitAnd_m8, ilist_len]
  exact fr_data xs
theorem d_some (D : DK K "_law_some_data" s_l_some_data) (gD : Def P w K mg bs 2 "_law_draw" ["d", "many"] (spDraw ⟨P, w, K⟩)) : Def P w K mg bs 3 "_law_some_data" ["d", "dear"] (spSome ⟨P, w, K⟩) := by
  refine def_ok X G D sc_l_some_data (fun f fd F => F.binds (ps := ["d", "dear"]) fun _ _ _ _ _ _ us hl => match us, hl with | [_, _], _ => rfl) (fun as Ψ h => by obtain ⟨_, rfl, _⟩ := h; rfl) fun f cdv A fr s H E fx as Ψ us hsp hl => ?_
  obtain ⟨dear, rfl, hq⟩ := hsp
  obtain ⟨v0, v1, rfl⟩ := ar2 hl
  have nd := fx.nd
  have r2 := fx.room.mono (show 2 ≤ 2 by decide)
  show WSs _ _ [some (.pin v0 (.op (dw ⟨P, w, K⟩))), some (.da (.bool dear)), none, none, none] _
  -- the size known: a number
  have tail2 : ∀ n : Nat, n ≤ 65535 → WSs (dcx P w K mg bs ["d", "dear", "size", "seed", "place"] "_law_some_data" s_l_some_data f cdv A fr s H E) ((defBody s_l_some_data).drop 3) [some (.pin v0 (.op (dw ⟨P, w, K⟩))), some (.da (.bool dear)), some (.da (.int (n : Nat))), none, none] (fnΦ [.op (dw ⟨P, w, K⟩), .da (.bool dear)] [v0, v1] Ψ) := fun n hn => by
    refine xs_if (xt_lt (xv 2) xe_int) (fun h5 => ?_) fun _ => ws_nil ?_
    · refine ws_ret (we_tupOf B (we_lcA [("place", 4)] (fun (i : Nat) Γ => Γ.set 4 (some (.da (.int i)))) (List.range n) (fun i => .int i) (fun (x : Nat) => .int x) (fun _ _ _ => True) fx (xi_rangeN B (xv 2) (by omega)) (by rw [List.length_range]; exact sz (by omega)) (fun x hx s H C cl fp => gc_name 4 nd rfl) (fun i x hx s H C cl fp => we_draw 0 gD r2 fx.gd xe_int (by decide) (by decide) fun r r0 r1 => ⟨r.toNat, ?_, trivial, rfl⟩) fun bs hl _ => ⟨_, rfl, _, .own (.da .nil), hq bs (by rw [hl, List.length_range]; exact hn)⟩))
      rw [Int.toNat_of_nonneg r0]
      exact .da
    · refine ws_set 3 nd (we_draw 0 gD r2 fx.gd xe_int (by decide) (by decide) fun sd s0 s1 => ?_)
      obtain ⟨sd, rfl⟩ := Int.eq_ofNat_of_zero_le s0
      refine xs_ret (xe_tupL B (xe_lcM [("place", 4)] (fun (i : Nat) Γ => Γ.set 4 (some (.da (.int i)))) (List.range n) (fun i => .int i) (fun i => .int (((sd + 7 * i) % 256 : Nat) : Int)) fx (R := fun i => .da (.int (((sd + 7 * i) % 256 : Nat) : Int))) (xi_rangeN B (xv 2) (by omega)) (by rw [List.length_range]; exact sz (by omega)) (fun x hx s H C cl fp => gc_name 4 nd rfl) fun i hi s H C cl fp => xe_cast (xe_band (xe_add (xv 3) (xe_mul (.inl ⟨by decide, by decide⟩) xe_int (xv 4))) xe_int) ?_)) ⟨_, .own (.da .nil), ?_⟩
      · rw [bitAnd_m8]
        omega
      · have := hq ((List.range n).map fun i => (sd + 7 * i) % 256) (by simp [hn])
        have e : ilist ((List.range n).map fun i => (sd + 7 * i) % 256) = (List.range n).map fun i => .int (((sd + 7 * i) % 256 : Nat) : Int) := by
          show List.map _ _ = _
          rw [List.map_map]
          rfl
        unfold bt at this
        rw [e] at this
        exact this
  have tail : ∀ n : Nat, n ≤ 65535 → WSs (dcx P w K mg bs ["d", "dear", "size", "seed", "place"] "_law_some_data" s_l_some_data f cdv A fr s H E) ((defBody s_l_some_data).drop 2) [some (.pin v0 (.op (dw ⟨P, w, K⟩))), some (.da (.bool dear)), some (.da (.int (n : Nat))), none, none] (fnΦ [.op (dw ⟨P, w, K⟩), .da (.bool dear)] [v0, v1] Ψ) := fun n hn => by
    refine xs_if (xt_val (xv 1)) (fun _ => ?_) fun _ => ws_nil (tail2 n hn)
    refine ws_set 2 nd (we_sub (we_pure xe_int ⟨_, rfl, we_draw 0 gD r2 fx.gd xe_int (by decide) (by decide) fun r r0 r1 => ⟨r, rfl, ws_nil ?_⟩⟩))
    have := tail2 (65535 - r.toNat) (by omega)
    rw [show ((65535 - r.toNat : Nat) : Int) = 65535 - r by omega] at this
    exact this
  refine ws_set 2 nd (we_draw 0 gD r2 fx.gd xe_int (by decide) (by decide) fun n n0 n1 => ?_)
  obtain ⟨n, rfl⟩ := Int.eq_ofNat_of_zero_le n0
  show WSs _ _ [some (.pin v0 (.op (dw ⟨P, w, K⟩))), some (.da (.bool dear)), some (.da (.int (n : Nat))), none, none] _
  refine ws_if (wt_cmp (op_eqP fx.u) (nomark _) (we_draw 0 gD r2 fx.gd xe_int (by decide) (by decide) fun r r0 r1 => we_pure xe_int ⟨_, o2_eq rfl rfl (Nat.zero_le _), fun _ => ?_, fun _ => ws_nil (tail n (by omega))⟩))
  refine ws_set 2 nd (we_add (we_pure xe_int ⟨_, rfl, we_draw 0 gD r2 fx.gd xe_int (by decide) (by decide) fun r r0 r1 => ⟨r, rfl, ws_nil ?_⟩⟩))
  have := tail (254 + r.toNat) (by omega)
  rw [show ((254 + r.toNat : Nat) : Int) = 254 + r by omega] at this
  exact this
end
end Law

namespace Law
open PySem PySem.Spec PyProof.Rows L2 TL
theorem endAt_app {rs t : List (List Nat)} {k : Nat} (h : k ≤ rs.length) : endAt (rs ++ t) k = endAt rs k := by
  unfold endAt
  rw [List.take_append_of_le_length h]
def endsTo (rs : List (List Nat)) (n : Nat) : List Nat := (List.range n).map fun k => endAt rs (k + 1)
theorem endAt_all (rs : List (List Nat)) : endAt rs rs.length = (flat rs).length := by
  unfold endAt
  rw [List.take_length]
theorem mk_stm {rs : List (List Nat)} {torn : List Nat} {j : Nat} (hn : rs.length ≤ 6) (hs : ∀ r ∈ rs, r.length ≤ 65535) (ht : torn.length ≤ 65535) (hj : j < torn.length + 2) :
    (Stm.mk rs torn ((flat rs).length + j)).Ok ∧ (Stm.mk rs torn ((flat rs).length + j)).data = .tuple [bt (flat rs ++ (fr torn).take j), .list (rs.map bt), .list (ilist (endsTo rs rs.length))] := by
  refine ⟨⟨hn, fun r hr => ?_, ?_, ?_⟩, ?_⟩
  · rcases List.mem_append.mp (show r ∈ rs ++ [torn] from hr) with z | z
    · exact hs r z
    · rw [List.mem_singleton.mp z]; exact ht
  · show endAt (rs ++ [torn]) rs.length ≤ (flat rs).length + j
    rw [endAt_app (Nat.le_refl _), endAt_all]
    omega
  · show (flat rs).length + j < endAt (rs ++ [torn]) (rs.length + 1)
    rw [endAt_succ (r := torn) (by simp), endAt_app (Nat.le_refl _), endAt_all]
    omega
  · have e1 : (Stm.mk rs torn ((flat rs).length + j)).whole = flat rs ++ (fr torn).take j := by
      show (flat (rs ++ [torn])).take _ = _
      rw [flat_app, flat_one, List.take_length_add_append]
    have e2 : (Stm.mk rs torn ((flat rs).length + j)).ends = endsTo rs rs.length := by
      show (List.range rs.length).map _ = _
      refine List.map_congr_left fun k hk => ?_
      have hk : k < rs.length := List.mem_range.mp hk
      exact endAt_app (show k + 1 ≤ rs.length by omega)
    unfold Stm.data
    rw [e1, e2]
def spStream (T : TC) : SpD := fun as Ψ => ∃ dear : Bool, as = [.op (dw T), .da (.bool dear)] ∧ ∀ s : Stm, s.Ok → Ψ (.da s.data) as
def spDue : SpD := fun as Ψ => ∃ (s : Stm) (a b : Nat), as = [.da s.data, .da (.int (a : Nat)), .da (.int (b : Nat))] ∧ s.Ok ∧ a ≤ b ∧ Ψ (.da (.tuple (rowsD s a b))) as
def spDueHeld : SpD := fun as Ψ => ∃ (s : Stm) (b : Nat), as = [.da s.data, .da (.int (b : Nat))] ∧ s.Ok ∧ Ψ (.da (.int ((b - s.E (s.cnt b) : Nat) : Int))) as
theorem flat_le {rs : List (List Nat)} (h : ∀ r ∈ rs, r.length ≤ 65535) : ∀ k, k ≤ rs.length → endAt rs k ≤ 65537 * k
  | 0, _ => by rw [endAt_zero]; omega
  | k + 1, hk => by
    have h1 := flat_le h k (by omega)
    have e := endAt_succ (rs := rs) (k := k) (r := rs[k]'(by omega)) (List.getElem?_eq_getElem (by omega))
    have h2 := h _ (List.getElem_mem (show k < rs.length by omega))
    omega
theorem take_app_one {rs : List (List Nat)} {n : Nat} {r : List Nat} (h : rs[n]? = some r) : flat (rs.take n) ++ fr r = flat (rs.take (n + 1)) := by
  rw [List.take_succ, h, flat_app]
  simp [flat_one]
theorem endsTo_succ {rs : List (List Nat)} {n : Nat} : endsTo rs (n + 1) = endsTo rs n ++ [endAt rs (n + 1)] := by
  unfold endsTo
  rw [List.range_succ, List.map_append]
  rfl
section
variable {P : Program} {w : World} {K : PySem.W.Frag} {mg : Str → Option Value} {bs h : Heap} (X : K.In h) (G : h.Ns mainGlobals mg) (B : Blt mg)
include X G B
theorem d_stream (D : DK K "_law_stream" s_l_stream) (gD : Def P w K mg bs 2 "_law_draw" ["d", "many"] (spDraw ⟨P, w, K⟩)) (gS : Def P w K mg bs 3 "_law_some_data" ["d", "dear"] (spSome ⟨P, w, K⟩)) (gF : Def P w K mg bs 1 "_law_framed" ["data"] spFramed) : Def P w K mg bs 4 "_law_stream" ["d", "dear"] (spStream ⟨P, w, K⟩) := by
  refine def_ok X G D sc_l_stream (fun f fd F => F.binds (ps := ["d", "dear"]) fun _ _ _ _ _ _ us hl => match us, hl with | [_, _], _ => rfl) (fun as Ψ h => by obtain ⟨_, rfl, _⟩ := h; rfl) fun f cdv A fr' s' H E fx as Ψ us hsp hl => ?_
  obtain ⟨dear, rfl, hq⟩ := hsp
  obtain ⟨v0, v1, rfl⟩ := ar2 hl
  have nd := fx.nd
  have r2 := fx.room.mono (show 2 ≤ 3 by decide)
  have r3 := fx.room.mono (show 3 ≤ 3 by decide)
  have r1 := fx.room.mono (show 1 ≤ 3 by decide)
  show WSs _ _ [some (.pin v0 (.op (dw ⟨P, w, K⟩))), some (.da (.bool dear)), none, none, none, none, none, none] _
  -- the rows known
  have tail : ∀ rs : List (List Nat), rs.length ≤ 6 → (∀ r ∈ rs, r.length ≤ 65535) → WSs (dcx P w K mg bs ["d", "dear", "rows", "whole", "ends", "data", "torn", "turn"] "_law_stream" s_l_stream f cdv A fr' s' H E) ((defBody s_l_stream).drop 2) [some (.pin v0 (.op (dw ⟨P, w, K⟩))), some (.da (.bool dear)), some (.ll (rs.map bt)), none, none, none, none, none] (fnΦ [.op (dw ⟨P, w, K⟩), .da (.bool dear)] [v0, v1] Ψ) := fun rs hn hs => by
    refine xs_set 3 nd xe_tup0 ?_
    refine xs_set 4 nd xe_lst0 ?_
    refine ws_frz 2 .ll ?_
    refine ws_forT fx rs bt (fun n : Nat => [some (.pin v0 (.op (dw ⟨P, w, K⟩))), some (.da (.bool dear)), some (.da (.list (rs.map bt))), some (.da (bt (flat (rs.take n)))), some (.ll (ilist (endsTo rs n))), none, none, none]) (fun n b => b = n ∧ n ≤ rs.length) 0 (xi_lst (xv 2)) ⟨rfl, Nat.zero_le _⟩ rfl ?_ ?_
    · rintro n r b hr ⟨rfl, _⟩
      have hb : b < rs.length := (List.getElem?_eq_some_iff.mp hr).1
      have hlr := hs r (List.mem_of_getElem? hr)
      have hle := flat_le hs b (by omega)
      have eb : (flat (rs.take b)).length = endAt rs b := rfl
      refine wg_name 5 nd ?_
      show WSs _ _ [some (.pin v0 (.op (dw ⟨P, w, K⟩))), some (.da (.bool dear)), some (.da (.list (rs.map bt))), some (.da (bt (flat (rs.take b)))), some (.ll (ilist (endsTo rs b))), some (.da (bt r)), none, none] _
      refine xs_set 3 nd (xe_castD (d' := bt (flat (rs.take (b + 1)))) (xe_catT (ds := ilist (flat (rs.take b))) (es' := ilist (fr r)) (by rw [ilist_len, ilist_len, eb, fr_len]; exact sz (by omega)) (xv 3) (fun Ψ' hq' => we_fnR gF r1 fx.gd (wr_da (xv 5) (wr_nil ⟨_, _, rfl, r, rfl, hlr, hq'⟩)))) (by rw [← ilist_app, take_app_one hr])) ?_
      show WSs _ _ [some (.pin v0 (.op (dw ⟨P, w, K⟩))), some (.da (.bool dear)), some (.da (.list (rs.map bt))), some (.da (bt (flat (rs.take (b + 1))))), some (.ll (ilist (endsTo rs b))), some (.da (bt r)), none, none] _
      refine ws_expr (we_append 4 (we_pure (xe_lenS 3 B) ⟨_, _, _, _, rfl, rfl, .ll, ?_, ?_⟩))
      · rw [ilist_len]
        show ((List.range b).map _).length < _
        rw [List.length_map, List.length_range]
        exact Nat.lt_of_lt_of_le (show b < 7 by omega) (sz (by omega))
      · refine ws_drop 5 (ws_nil ⟨b + 1, ⟨rfl, by omega⟩, ?_⟩)
        rw [ilist_len]
        show _ = ([some (.pin v0 (.op (dw ⟨P, w, K⟩))), some (.da (.bool dear)), some (.da (.list (rs.map bt))), some (.da (bt (flat (rs.take (b + 1))))), some (.ll (ilist (endsTo rs (b + 1)))), none, none, none] : Sl)
        rw [endsTo_succ, ilist_app]
        rfl
    rintro _ ⟨rfl, _⟩
    rw [List.take_length]
    refine ws_set 6 nd (we_fnR gF r1 fx.gd (wr_cons (we_fnR gS r3 fx.gd (wr_ref 0 (wr_da xe_bl (wr_nil ⟨_, _, rfl, false, rfl, fun torn ht => wr_nil ⟨_, _, rfl, torn, rfl, ht, ?_⟩⟩))))))
    have hle := flat_le hs rs.length (Nat.le_refl _)
    rw [endAt_all] at hle
    have fin : ∀ j, j < torn.length + 2 → WSs (dcx P w K mg bs ["d", "dear", "rows", "whole", "ends", "data", "torn", "turn"] "_law_stream" s_l_stream f cdv A fr' s' H E) ((defBody s_l_stream).drop 7) [some (.pin v0 (.op (dw ⟨P, w, K⟩))), some (.da (.bool dear)), some (.da (.list (rs.map bt))), some (.da (bt (flat rs ++ (fr torn).take j))), some (.ll (ilist (endsTo rs rs.length))), none, some (.da (bt (fr torn))), none] (fnΦ [.op (dw ⟨P, w, K⟩), .da (.bool dear)] [v0, v1] Ψ) := fun j hj => by
      obtain ⟨ok, e⟩ := mk_stm hn hs ht hj
      have := hq _ ok
      rw [e] at this
      exact xs_ret (xe_tup3 (xv 3) (xv 2) (xe_frz (xe_move 4))) ⟨_, .own (.da .nil), this⟩
    show WSs _ _ [some (.pin v0 (.op (dw ⟨P, w, K⟩))), some (.da (.bool dear)), some (.da (.list (rs.map bt))), some (.da (bt (flat rs))), some (.ll (ilist (endsTo rs rs.length))), none, some (.da (bt (fr torn))), none] _
    refine ws_if (wt_cmp (op_eqP fx.u) (nomark _) (we_draw 0 gD r2 fx.gd xe_int (by decide) (by decide) fun r r0 r1 => we_pure xe_int ⟨_, o2_eq rfl rfl (Nat.zero_le _), fun _ => ?_, fun _ => ws_nil ?_⟩))
    · refine ws_set 3 nd (we_bin op_catA (we_pure (xv 3) (we_sliceTo (ds := ilist (fr torn)) (xv 6) (we_draw 0 gD r2 fx.gd (xe_lenS 6 B) (by rw [ilist_len, fr_len]; omega) (by rw [ilist_len, fr_len]; omega) fun j j0 j1 => ⟨j, rfl, _, op2_catT (ds := ilist (flat rs)) ?_, ws_nil ?_⟩))))
      · have hc : (TL.cutD (ilist (fr torn)) none (some j)).length ≤ 65537 := by
          unfold TL.cutD
          rw [List.length_take, List.length_drop, ilist_len, fr_len]
          omega
        exact sz (by rw [ilist_len]; omega)
      · obtain ⟨j, rfl⟩ := Int.eq_ofNat_of_zero_le j0
        rw [ilist_len, fr_len] at j1
        have := fin j (by omega)
        have e : ilist (flat rs) ++ TL.cutD (ilist (fr torn)) none (some (Int.ofNat j)) = ilist (flat rs ++ (fr torn).take j) := by
          rw [show (Int.ofNat j) = ((j : Nat) : Int) from rfl, cutD_to, ilist_take, ilist_app]
        show WSs _ _ [some (.pin v0 (.op (dw ⟨P, w, K⟩))), some (.da (.bool dear)), some (.da (.list (rs.map bt))), some (.da (.tuple (ilist (flat rs) ++ TL.cutD (ilist (fr torn)) none (some (Int.ofNat j))))), some (.ll (ilist (endsTo rs rs.length))), none, some (.da (bt (fr torn))), none] _
        rw [e]
        exact this
    · have := fin 0 (by omega)
      rw [List.take_zero, List.append_nil] at this
      exact this
  refine ws_setLcWA 2 [("turn", 7)] (fun (i : Nat) Γ => Γ.set 7 (some (.da (.int i)))) (fun i => .int i) bt (fun xs : List Nat => xs.length ≤ 5) (fun xs : List Nat => xs.length ≤ 65535) fx (wi_rangeN B (we_draw 0 gD r2 fx.gd xe_int (by decide) (by decide) fun r r0 r1 => ⟨r.toNat, by rw [Int.toNat_of_nonneg r0], by omega, rfl, _, ?_, rfl, ?_⟩)) (fun xs x hp hx s H C cl fp => gc_name 7 nd rfl) (fun xs x hp hx s H C cl fp => we_fnR gS r3 fx.gd (wr_ref 0 (wr_da xe_bl (wr_nil ⟨_, _, rfl, false, rfl, fun ys hy => ⟨ys, .da, hy, rfl⟩⟩)))) fun xs rs hp hl hs => ?_
  · rw [List.length_range]; omega
  · rw [List.length_range]; exact sz (by omega)
  have hn : rs.length ≤ 5 := by rw [hl]; exact hp
  show WSs _ _ [some (.pin v0 (.op (dw ⟨P, w, K⟩))), some (.da (.bool dear)), some (.ll (rs.map bt)), none, none, none, none, none] _
  refine xs_if (xt_val (xv 1)) (fun _ => ?_) fun _ => ws_nil (tail rs (by omega) hs)
  refine ws_expr (we_insert 2 (we_draw 0 gD r2 fx.gd (xe_add (xe_lenS 2 B) xe_int) (by rw [List.length_map]; omega) (by rw [List.length_map]; omega) fun r r0 r1 => ⟨r, rfl, we_fnR gS r3 fx.gd (wr_ref 0 (wr_da xe_bl (wr_nil ⟨_, _, rfl, true, rfl, fun xs hx => ⟨_, _, _, _, rfl, rfl, .ll, ?_, r0, ?_, ws_nil ?_⟩⟩)))⟩))
  · rw [List.length_map]
    exact Nat.lt_of_lt_of_le (show rs.length < 7 by omega) (sz (by omega))
  · rw [List.length_map] at r1
    omega
  · have := tail (rs.take r.toNat ++ [xs] ++ rs.drop r.toNat) (by simp; omega) (fun q hq => by
      simp only [List.mem_append, List.mem_singleton] at hq
      rcases hq with (z | rfl) | z
      · exact hs q (List.mem_of_mem_take z)
      · exact hx
      · exact hs q (List.mem_of_mem_drop z))
    rw [List.map_append, List.map_append, List.map_take, List.map_drop] at this
    exact this
theorem d_due (D : DK K "_law_due" s_l_due) : Def P w K mg bs 1 "_law_due" ["stream", "start", "end"] spDue := by
  refine def_ok X G D sc_l_due (fun f fd F => F.binds (ps := ["stream", "start", "end"]) fun _ _ _ _ _ _ us hl => match us, hl with | [_, _, _], _ => rfl) (fun as Ψ h => by obtain ⟨_, _, _, rfl, _⟩ := h; rfl) fun f cdv A fr s' H E fx as Ψ us hsp hl => ?_
  obtain ⟨s, a, b, rfl, ok, hab, hq⟩ := hsp
  obtain ⟨v0, v1, v2, rfl⟩ := ar3 hl
  have nd := fx.nd
  show WSs _ _ [some (.da s.data), some (.da (.int (a : Nat))), some (.da (.int (b : Nat))), none, none, none, none, none] _
  refine ws_asgT (we_pure (xv 0) (wg_tup rfl (wgs_cons (wg_name 3 nd (wgs_cons (wg_name 4 nd (wgs_cons (wg_name 5 nd (wgs_nil ?_)))))))))
  show WSs _ _ [some (.da s.data), some (.da (.int (a : Nat))), some (.da (.int (b : Nat))), some (.da (bt s.whole)), some (.da (.list (s.rows.map bt))), some (.da (.list (ilist s.ends))), none, none] _
  have hz : (s.rows.zip s.ends).length ≤ sizeLine := by
    rw [List.length_zip]
    exact sz (Nat.le_trans (Nat.min_le_left ..) (by have := ok.few; have : s.n = s.rows.length := rfl; omega))
  refine xs_ret (xe_castD (xe_tupL B (xe_lcF [("data", 6), ("place", 7)] (fun (q : List Nat × Nat) Γ => (Γ.set 6 (some (.da (bt q.1)))).set 7 (some (.da (.int (q.2 : Nat))))) (s.rows.zip s.ends) (fun q => .tuple [bt q.1, .int (q.2 : Nat)]) (fun q => bt q.1) (fun q => decide (a < q.2) && decide (q.2 ≤ b)) fx (R := fun q => .da (bt q.1)) (xi_zipL (xs := s.rows) (ys := s.ends) (E := bt) (E' := fun (n : Nat) => .int n) B (xv 4) (xv 5)) hz (fun x hx s H C cl fp => gc_tup rfl (gsc_cons (gc_name 6 nd (gsc_cons (gc_name 7 nd (gsc_nil rfl)))))) (fun q hq s H C cl fp => xt_cast (xt_lt_le (xv 1) (xv 7) (xv 2)) (by rw [Bool.eq_iff_iff]; simp)) fun q hq hp s H C cl fp => xv 6)) ?_) ⟨_, .da (.da (.da .nil)), hq⟩
  unfold rowsD
  rw [← Stm.due_rows hab, List.map_map]
  rfl
theorem d_dueHeld (D : DK K "_law_due_held" s_l_due_held) : Def P w K mg bs 1 "_law_due_held" ["stream", "end"] spDueHeld := by
  refine def_ok X G D sc_l_due_held (fun f fd F => F.binds (ps := ["stream", "end"]) fun _ _ _ _ _ _ us hl => match us, hl with | [_, _], _ => rfl) (fun as Ψ h => by obtain ⟨_, _, rfl, _⟩ := h; rfl) fun f cdv A fr s' H E fx as Ψ us hsp hl => ?_
  obtain ⟨s, b, rfl, ok, hq⟩ := hsp
  obtain ⟨v0, v1, rfl⟩ := ar2 hl
  have nd := fx.nd
  show WSs _ _ [some (.da s.data), some (.da (.int (b : Nat))), none] _
  have hn := ok.few
  have he : s.ends.length = s.n := by unfold Stm.ends; rw [List.length_map, List.length_range]
  obtain ⟨m1, m2⟩ := s.last_end b
  have hz : s.ends.length ≤ sizeLine := by rw [he]; exact sz (by omega)
  have hf : ((s.ends.filter fun p => decide (p ≤ b)).map fun (p : Nat) => PyData.int p).length ≤ 6 := by
    rw [List.length_map]
    exact Nat.le_trans (List.length_filter_le ..) (by omega)
  refine xs_ret (xe_cast (xe_sub (xv 1) (xe_maxE (ns := (0 :: s.ends.filter fun p => decide (p ≤ b)).map fun (p : Nat) => (p : Int)) (m := ((s.E (s.cnt b) : Nat) : Int)) B rfl (xe_castD (xe_frz (xe_catL (ds := [.int 0]) (es' := (s.ends.filter fun p => decide (p ≤ b)).map fun (p : Nat) => PyData.int p) (by show 1 + _ ≤ _; exact sz (by omega)) (xe_frz fun Ψ' hq' => we_lst (wa_cons (xe_int _ (wa_nil ⟨[.int 0], rfl, by show 1 ≤ _; exact sz (by omega), hq'⟩)))) (xe_frz (xe_lcF [("place", 2)] (fun (n : Nat) Γ => Γ.set 2 (some (.da (.int n)))) s.ends (fun n => .int n) (fun n => .int n) (fun n => decide (n ≤ b)) fx (R := fun n => .da (.int n)) (xi_lst (xe_ix (xv 0) xe_int (.inr rfl) rfl)) hz (fun x hx s H C cl fp => gc_name 2 nd rfl) (fun q hq s H C cl fp => xt_cast (xt_le (xv 2) (xv 1)) (by rw [Bool.eq_iff_iff]; simp)) fun q hq hp s H C cl fp => xv 2)))) ?_) (List.mem_map_of_mem m1) ?_)) ?_) ⟨_, .da (.da .nil), hq⟩
  · rw [List.map_cons, List.map_cons, List.map_map]
    rfl
  · intro y hy
    obtain ⟨q, hq, rfl⟩ := List.mem_map.mp hy
    exact Int.ofNat_le.mpr (m2 q hq)
  · have := s.cnt_E b
    omega
end
end Law

namespace Law
open PySem PySem.Spec PyProof.Rows L2 TL
def spPiece (C : Addr) : SpD := fun as Ψ => ∃ (s : Stm) (a b : Nat), as = [FeedAt C s a, .da s.data, .da (.int (a : Nat)), .da (.int (b : Nat))] ∧ s.Ok ∧ a ≤ b ∧ b ≤ s.w ∧ Ψ (.da (.bool true)) [FeedAt C s b, .da s.data, .da (.int (a : Nat)), .da (.int (b : Nat))]
structure CutOk (s : Stm) (cs : List Nat) : Prop where
  asc : cs.Pairwise (· ≤ ·)
  top : ∀ c ∈ cs, c ≤ s.w
  len : cs.length ≤ 1000
def spCuts : SpD := fun as Ψ => ∃ (s : Stm) (cs : List Nat), as = [.da s.data, .da (.list (ilist cs))] ∧ s.Ok ∧ CutOk s cs ∧ Ψ (.da (.bool true)) as
def spAllCuts : SpD := fun as Ψ => ∃ s : Stm, as = [.da s.data] ∧ s.Ok ∧ Ψ (.da (.bool true)) as
def spSomeCuts (T : TC) : SpD := fun as Ψ => ∃ s : Stm, as = [.op (dw T), .da s.data] ∧ s.Ok ∧ ∀ cs, CutOk s cs → cs.length ≤ 8 → Ψ (.ll (ilist cs)) as
theorem feedAt_zero (C : Addr) (s : Stm) : FeedAt C s 0 = feed C [] := by
  have h := s.cnt_E 0
  unfold FeedAt
  rw [show s.E (s.cnt 0) = 0 by omega]
  rfl
theorem cut_in {s : Stm} {a b : Nat} (ok : s.Ok) (h : a ≤ b) (hb : b ≤ s.w) : TL.cutD (ilist s.whole) (some (a : Int)) (some (b : Int)) = ilist (s.cut a b) := by
  rw [cutD_le h (by rw [ilist_len, ok.wlen]; exact hb), ilist_drop, ilist_take]
  rfl
theorem rowsD_spec {s : Stm} (ok : s.Ok) (a b : Nat) : ∃ rs : List (List Nat), rowsD s a b = rs.map bt ∧ rs.length ≤ 1000 ∧ ∀ r ∈ rs, r.length ≤ 65540 := by
  refine ⟨_, rfl, ?_, fun r hr => ?_⟩
  · have := ok.few
    have : s.n = s.rows.length := rfl
    rw [List.length_take, List.length_drop]
    omega
  · exact Nat.le_trans (ok.short r (List.mem_append_left _ (List.mem_of_mem_drop (List.mem_of_mem_take hr)))) (by omega)
section
variable {X : Cx} {a b : Expr} {Γ Γ1 Γ2 : Sl} {d d2 : PyData} {pos : Pos}
theorem xe_lsD1 (h : XE X a Γ (.da d) Γ1) (e1 : starEach [a] X.env = (false, eval a X.env) :: starEach [] X.env := by rfl) : XE X (.List [a] pos) Γ (.da (.list [d])) Γ1 := xe_frz fun Ψ' hq' => we_lst (wa_cons (h _ (wa_nil ⟨[d], rfl, by show 1 ≤ _; exact sz (by omega), hq'⟩)) e1)
theorem xe_lsD2 (h : XE X a Γ (.da d) Γ1) (h2 : XE X b Γ1 (.da d2) Γ2) (e1 : starEach [a, b] X.env = (false, eval a X.env) :: starEach [b] X.env := by rfl) (e2 : starEach [b] X.env = (false, eval b X.env) :: starEach [] X.env := by rfl) : XE X (.List [a, b] pos) Γ (.da (.list [d, d2])) Γ2 := xe_frz fun Ψ' hq' => we_lst (wa_cons (h _ (wa_cons (h2 _ (wa_nil ⟨[d, d2], rfl, by show 2 ≤ _; exact sz (by omega), hq'⟩)) e2)) e1)
end
section
variable {P : Program} {w : World} {K : PySem.W.Frag} {mg : Str → Option Value} {bs h : Heap} (X : K.In h) (G : h.Ns mainGlobals mg) (B : Blt mg) {C : Addr}
include X G B
theorem d_piece (D : DK K "_law_piece_right" s_l_piece_right) (gRR : Def P w K mg bs 2 "_law_rows_right" ["told", "due"] spRowsRight) (gCR : Def P w K mg bs 1 "_law_count_right" ["told", "due"] spCountRight) (gDu : Def P w K mg bs 1 "_law_due" ["stream", "start", "end"] spDue) (gDH : Def P w K mg bs 1 "_law_due_held" ["stream", "end"] spDueHeld)
    (gH : DefM P w K mg bs 2 C "hear" ["self", "piece"] (spHear C)) (gHe : DefM P w K mg bs 1 C "held" ["self"] (spHeld C)) : Def P w K mg bs 3 "_law_piece_right" ["feed", "stream", "start", "end"] (spPiece C) := by
  refine def_ok X G D sc_l_piece_right (fun f fd F => F.binds (ps := ["feed", "stream", "start", "end"]) fun _ _ _ _ _ _ us hl => match us, hl with | [_, _, _, _], _ => rfl) (fun as Ψ h => by obtain ⟨_, _, _, rfl, _⟩ := h; rfl) fun f cdv A fr' s' H E fx as Ψ us hsp hl => ?_
  obtain ⟨s, a, b, rfl, ok, hab, hb, hq⟩ := hsp
  obtain ⟨v0, v1, v2, v3, rfl⟩ := ar4 hl
  have nd := fx.nd
  have r2 := fx.room.mono (show 2 ≤ 2 by decide)
  have r1 := fx.room.mono (show 1 ≤ 2 by decide)
  show WSs _ _ [some (.pin v0 (FeedAt C s a)), some (.da s.data), some (.da (.int (a : Nat))), some (.da (.int (b : Nat)))] _
  obtain ⟨rs, hrs, h1, h2⟩ := rowsD_spec ok a b
  refine ws_if (wt_not (wt_val (we_fnR gRR r2 fx.gd (wr_cons (we_meth 0 gH r2 fx.gd (fs := [("_rest", .da (bt (s.cut (s.E (s.cnt a)) a)))]) rfl (wr_da (xe_castD (xe_sliceT (ds := ilist s.whole) (xe_ix (xv 1) xe_int (.inr rfl) rfl) (.some (xv 2)) (.some (xv 3))) (by rw [cut_in ok hab hb])) (wr_nil ⟨_, _, rfl, s, a, b, rfl, ok, hab, hb, ?_⟩)))))))
  refine wr_da (fun Ψ' hq' => we_fnR gDu r1 fx.gd (wr_da (xv 1) (wr_da (xv 2) (wr_da (xv 3) (wr_nil ⟨_, _, rfl, s, a, b, rfl, ok, hab, hq'⟩))))) (wr_nil ⟨_, _, rfl, rs, by rw [hrs], h1, h2, true, rfl, ⟨fun e => (by cases e), fun _ => ws_nil ?_⟩⟩)
  show WSs _ _ [some (.pin v0 (FeedAt C s b)), some (.da s.data), some (.da (.int (a : Nat))), some (.da (.int (b : Nat)))] _
  refine ws_ret (we_fnR gCR r1 fx.gd (wr_cons (we_meth0 0 gHe r1 fx.gd (fs := [("_rest", .da (bt (s.cut (s.E (s.cnt b)) b)))]) rfl ⟨_, _, rfl, _, rfl, ?_⟩)))
  refine wr_da (fun Ψ' hq' => we_fnR gDH r1 fx.gd (wr_da (xv 1) (wr_da (xv 3) (wr_nil ⟨_, _, rfl, s, b, rfl, ok, hq'⟩)))) (wr_nil ⟨_, _, rfl, ((b - s.E (s.cnt b) : Nat) : Int), by rw [ok.cut_len (s.cnt_E b) hb], ?_⟩)
  exact ⟨_, .own (.da (.da (.da .nil))), hq⟩
theorem d_cuts (D : DK K "_law_cuts_right" s_l_cuts_right) (gI : DefI P w K mg bs 1 "Feed" C ["self"] (spInit C)) (gP : Def P w K mg bs 3 "_law_piece_right" ["feed", "stream", "start", "end"] (spPiece C)) : Def P w K mg bs 4 "_law_cuts_right" ["stream", "cuts"] spCuts := by
  refine def_ok X G D sc_l_cuts_right (fun f fd F => F.binds (ps := ["stream", "cuts"]) fun _ _ _ _ _ _ us hl => match us, hl with | [_, _], _ => rfl) (fun as Ψ h => by obtain ⟨_, _, rfl, _⟩ := h; rfl) fun f cdv A fr' s' H E fx as Ψ us hsp hl => ?_
  obtain ⟨s, cs, rfl, ok, hc, hq⟩ := hsp
  obtain ⟨v0, v1, rfl⟩ := ar2 hl
  have nd := fx.nd
  have r3 := fx.room.mono (show 3 ≤ 3 by decide)
  have hl := hc.len
  show WSs _ _ [some (.da s.data), some (.da (.list (ilist cs))), none, none, none] _
  refine ws_set 2 nd (we_make0 gI (fx.room.mono (by decide)) fx.gd ⟨rfl, rfl, _, _, rfl, ?_⟩)
  refine xs_set 3 nd xe_int ?_
  rw [← feedAt_zero C s]
  have pw : (0 :: (cs ++ [s.w])).Pairwise (· ≤ ·) := by
    refine List.pairwise_cons.mpr ⟨fun _ _ => Nat.zero_le _, List.pairwise_append.mpr ⟨hc.asc, by simp, fun a ha b hb => ?_⟩⟩
    rw [List.mem_singleton.mp hb]
    exact hc.top a ha
  refine ws_forT fx (cs ++ [s.w]) (fun n => .int n) (fun b : Nat => [some (.da s.data), some (.da (.list (ilist cs))), some (FeedAt C s b), some (.da (.int (b : Nat))), none]) (fun n b => (0 :: (cs ++ [s.w]))[n]? = some b) 0 (xi_lst (xe_castD (xe_frz (xe_catL (ds := ilist cs) (es' := [.int (s.w : Nat)]) (by rw [ilist_len]; exact sz (by show cs.length + 1 ≤ _; omega)) (xv 1) (xe_lsD1 (xe_cast (xe_len B (ds := ilist s.whole) (xe_ix (xv 0) xe_int (.inr rfl) rfl) (.inr rfl)) (by rw [ilist_len, ok.wlen]))))) (by rw [List.map_append]; rfl))) rfl rfl ?_ ?_
  · intro n e b he hb
    refine wg_name 4 nd ?_
    show WSs _ _ [some (.da s.data), some (.da (.list (ilist cs))), some (FeedAt C s b), some (.da (.int (b : Nat))), some (.da (.int (e : Nat)))] _
    have he' : (0 :: (cs ++ [s.w]))[n + 1]? = some e := he
    have hbe : b ≤ e := by
      obtain ⟨i1, e1⟩ := List.getElem?_eq_some_iff.mp hb
      obtain ⟨i2, e2⟩ := List.getElem?_eq_some_iff.mp he'
      have := List.pairwise_iff_getElem.mp pw n (n + 1) i1 i2 (by omega)
      rwa [e1, e2] at this
    have hew : e ≤ s.w := by
      rcases List.mem_append.mp (List.mem_of_getElem? he) with z | z
      · exact hc.top e z
      · rw [List.mem_singleton.mp z]; exact Nat.le_refl _
    refine ws_if (wt_not (wt_val (we_fnR gP r3 fx.gd (wr_ref 2 (wr_da (xv 0) (wr_da (xv 3) (wr_da (xv 4) (wr_nil ⟨_, _, rfl, s, b, e, rfl, ok, hbe, hew, true, rfl, fun e => (by cases e), fun _ => ws_nil ?_⟩))))))))
    show WSs _ _ [some (.da s.data), some (.da (.list (ilist cs))), some (FeedAt C s e), some (.da (.int (b : Nat))), some (.da (.int (e : Nat)))] _
    refine xs_set 3 nd (xv 4) (ws_drop 4 (ws_nil ⟨e, he', rfl⟩))
  · intro b hb
    exact xs_ret xe_bl ⟨_, .da (.da .nil), hq⟩
theorem d_allCuts (D : DK K "_law_all_cuts_right" s_l_all_cuts_right) (gC : Def P w K mg bs 4 "_law_cuts_right" ["stream", "cuts"] spCuts) : Def P w K mg bs 5 "_law_all_cuts_right" ["stream"] spAllCuts := by
  refine def_ok X G D sc_l_all_cuts_right (fun f fd F => F.binds (ps := ["stream"]) fun _ _ _ _ _ _ us hl => match us, hl with | [_], _ => rfl) (fun as Ψ h => by obtain ⟨_, rfl, _⟩ := h; rfl) fun f cdv A fr' s' H E fx as Ψ us hsp hl => ?_
  obtain ⟨s, rfl, ok, hq⟩ := hsp
  obtain ⟨v0, rfl⟩ := ar1 hl
  have nd := fx.nd
  have r4 := fx.room.mono (show 4 ≤ 4 by decide)
  show WSs _ _ [some (.da s.data), none, none, none] _
  refine xs_set 1 nd (xe_cast (xe_len B (ds := ilist s.whole) (xe_ix (xv 0) xe_int (.inr rfl) rfl) (.inr rfl)) (by rw [ilist_len, ok.wlen])) ?_
  show WSs _ _ [some (.da s.data), some (.da (.int (s.w : Nat))), none, none] _
  -- the end
  have tail3 : WSs (dcx P w K mg bs ["stream", "size", "one", "two"] "_law_all_cuts_right" s_l_all_cuts_right f cdv A fr' s' H E) ((defBody s_l_all_cuts_right).drop 3) [some (.da s.data), some (.da (.int (s.w : Nat))), none, none] (fnΦ [.da s.data] [v0] Ψ) := by
    refine xs_if (xt_le (xv 1) xe_int) (fun h3 => ?_) fun _ => ws_nil (xs_ret xe_bl ⟨_, .da .nil, hq⟩)
    rw [decide_eq_true_eq] at h3
    refine ws_ret (we_fnR gC r4 fx.gd (wr_da (xv 0) (wr_da (xe_castD (d' := .list (ilist (List.range (s.w + 1)))) (xe_frz (xe_listRg1 B rfl (xe_add (xv 1) xe_int) (by omega) (by omega))) ?_) (wr_nil ⟨_, _, rfl, s, _, rfl, ok, ⟨?_, fun c hc => ?_, ?_⟩, _, .da .nil, hq⟩))))
    · unfold rangeD
      rw [show ((s.w : Int) + 1).toNat = s.w + 1 by omega]
      exact congrArg PyData.list (List.map_congr_left fun i _ => by rw [Int.zero_add])
    · exact List.pairwise_le_range
    · have := List.mem_range.mp hc
      omega
    · rw [List.length_range]; omega
  have tail2 : WSs (dcx P w K mg bs ["stream", "size", "one", "two"] "_law_all_cuts_right" s_l_all_cuts_right f cdv A fr' s' H E) ((defBody s_l_all_cuts_right).drop 2) [some (.da s.data), some (.da (.int (s.w : Nat))), none, none] (fnΦ [.da s.data] [v0] Ψ) := by
    refine xs_if (xt_lt_le xe_int (xv 1) xe_int) (fun h2 => ?_) fun _ => ws_nil tail3
    rw [Bool.and_eq_true, decide_eq_true_eq, decide_eq_true_eq] at h2
    refine ws_forT fx (List.range (s.w + 1)) (fun i => .int i) (fun _ : Unit => [some (.da s.data), some (.da (.int (s.w : Nat))), none, none]) (fun _ _ => True) () (xi_rangeN B (xe_cast (xe_add (xv 1) xe_int) (show (s.w : Int) + 1 = ((s.w + 1 : Nat) : Int) by omega)) (by omega)) trivial rfl ?_ fun _ _ => ws_nil tail3
    intro n c _ hc _
    have hc := List.mem_range.mp (List.mem_of_getElem? hc)
    refine wg_name 2 nd ?_
    show WSs _ _ [some (.da s.data), some (.da (.int (s.w : Nat))), some (.da (.int (c : Nat))), none] _
    refine ws_if (wt_not (wt_val (we_fnR gC r4 fx.gd (wr_da (xv 0) (wr_da (xe_lsD1 (xv 2)) (wr_nil ⟨_, _, rfl, s, [c], rfl, ok, ⟨by simp, fun x hx => by rw [List.mem_singleton.mp hx]; omega, by simp⟩, true, rfl, fun e => (by cases e), fun _ => ws_nil (ws_drop 2 (ws_nil ⟨(), trivial, rfl⟩))⟩))))))
  refine xs_if (xt_le (xv 1) xe_int) (fun h1 => ?_) fun _ => ws_nil tail2
  rw [decide_eq_true_eq] at h1
  refine ws_forT fx (List.range (s.w + 1)) (fun i => .int i) (fun _ : Unit => [some (.da s.data), some (.da (.int (s.w : Nat))), none, none]) (fun _ _ => True) () (xi_rangeN B (xe_cast (xe_add (xv 1) xe_int) (show (s.w : Int) + 1 = ((s.w + 1 : Nat) : Int) by omega)) (by omega)) trivial rfl ?_ fun _ _ => ws_nil tail2
  intro n c _ hc _
  have hc := List.mem_range.mp (List.mem_of_getElem? hc)
  refine wg_name 2 nd ?_
  show WSs _ _ [some (.da s.data), some (.da (.int (s.w : Nat))), some (.da (.int (c : Nat))), none] _
  refine ws_forT fx (List.range (s.w + 1 - c)) (fun i => .int ((c + i : Nat) : Int)) (fun _ : Unit => [some (.da s.data), some (.da (.int (s.w : Nat))), some (.da (.int (c : Nat))), none]) (fun _ _ => True) () (xi_rangeMN B (xv 2) (xe_cast (xe_add (xv 1) xe_int) (show (s.w : Int) + 1 = ((s.w + 1 : Nat) : Int) by omega)) (by omega) (by omega)) trivial rfl ?_ fun _ _ => ws_drop 2 (ws_nil ⟨(), trivial, rfl⟩)
  intro m e _ he _
  have he := List.mem_range.mp (List.mem_of_getElem? he)
  refine wg_name 3 nd ?_
  show WSs _ _ [some (.da s.data), some (.da (.int (s.w : Nat))), some (.da (.int (c : Nat))), some (.da (.int ((c + e : Nat) : Int)))] _
  refine ws_if (wt_not (wt_val (we_fnR gC r4 fx.gd (wr_da (xv 0) (wr_da (xe_lsD2 (xv 2) (xv 3)) (wr_nil ⟨_, _, rfl, s, [c, c + e], rfl, ok, ⟨by simp, fun x hx => by simp at hx; omega, by simp⟩, true, rfl, fun e => (by cases e), fun _ => ws_nil (ws_drop 3 (ws_nil ⟨(), trivial, rfl⟩))⟩))))))
end
end Law

namespace Law
open PySem PySem.Spec PyProof.Rows L2 TL
def loopBody : Stmt → List Stmt
  | .For _ _ b _ _ => b
  | _ => []
def spTurns (T : TC) : SpD := fun as Ψ => ∃ s1 s2 : Stm, as = [.op (dw T), .da s1.data, .da s2.data] ∧ s1.Ok ∧ s2.Ok ∧ Ψ (.da (.bool true)) as
/-- where a feed stands, and what is still to come -/
structure Run (s : Stm) (a : Nat) (c : List Nat) : Prop where
  asc : (a :: c).Pairwise (· ≤ ·)
  top : ∀ x ∈ c, x ≤ s.w
theorem Run.next {s : Stm} {a e : Nat} {c : List Nat} (r : Run s a (e :: c)) : a ≤ e ∧ e ≤ s.w ∧ Run s e c :=
  ⟨(List.pairwise_cons.mp r.asc).1 e List.mem_cons_self, r.top e List.mem_cons_self, (List.pairwise_cons.mp r.asc).2, fun x h => r.top x (List.mem_cons_of_mem _ h)⟩
theorem Run.start {s : Stm} {c : List Nat} (h : CutOk s c) : Run s 0 (c ++ [s.w]) :=
  ⟨List.pairwise_cons.mpr ⟨fun _ _ => Nat.zero_le _, List.pairwise_append.mpr ⟨h.asc, by simp, fun a ha b hb => by rw [List.mem_singleton.mp hb]; exact h.top a ha⟩⟩, fun x hx => by
    rcases List.mem_append.mp hx with z | z
    · exact h.top x z
    · rw [List.mem_singleton.mp z]; exact Nat.le_refl _⟩
theorem Stm.Ok.ends_le {s : Stm} (ok : s.Ok) : ∀ e ∈ s.ends, e ≤ s.w := fun e he => by
  obtain ⟨k, hk, rfl⟩ := List.mem_map.mp he
  have hk := List.mem_range.mp hk
  exact Nat.le_trans (Stm.E_mono (by omega) (by omega)) ok.lo
section
variable {P : Program} {w : World} {K : PySem.W.Frag} {mg : Str → Option Value} {bs h : Heap} (X : K.In h) (G : h.Ns mainGlobals mg) (B : Blt mg) {C : Addr}
include X G B
theorem d_someCuts (D : DK K "_law_some_cuts" s_l_some_cuts) (gD : Def P w K mg bs 2 "_law_draw" ["d", "many"] (spDraw ⟨P, w, K⟩)) (gK : Def P w K mg bs 3 "_law_pick" ["d", "row"] (spPick ⟨P, w, K⟩)) : Def P w K mg bs 4 "_law_some_cuts" ["d", "stream"] (spSomeCuts ⟨P, w, K⟩) := by
  refine def_ok X G D sc_l_some_cuts (fun f fd F => F.binds (ps := ["d", "stream"]) fun _ _ _ _ _ _ us hl => match us, hl with | [_, _], _ => rfl) (fun as Ψ h => by obtain ⟨_, rfl, _⟩ := h; rfl) fun f cdv A fr' s' H E fx as Ψ us hsp hl => ?_
  obtain ⟨s, rfl, ok, hq⟩ := hsp
  obtain ⟨v0, v1, rfl⟩ := ar2 hl
  have nd := fx.nd
  have r2 := fx.room.mono (show 2 ≤ 3 by decide)
  have r3 := fx.room.mono (show 3 ≤ 3 by decide)
  have wle := ok.w_le
  have hn := ok.few
  have he : s.ends.length = s.n := by unfold Stm.ends; rw [List.length_map, List.length_range]
  have hz : s.ends.length ≤ sizeLine := by rw [he]; exact sz (by omega)
  show WSs _ _ [some (.pin v0 (.op (dw ⟨P, w, K⟩))), some (.da s.data), none, none, none, none, none] _
  refine xs_set 2 nd (xe_cast (xe_len B (ds := ilist s.whole) (xe_ix (xv 1) xe_int (.inr rfl) rfl) (.inr rfl)) (by rw [ilist_len, ok.wlen])) ?_
  show WSs _ _ [some (.pin v0 (.op (dw ⟨P, w, K⟩))), some (.da s.data), some (.da (.int (s.w : Nat))), none, none, none, none] _
  obtain ⟨near, hnear⟩ : ∃ near, near = (s.ends.filter fun p => decide (0 < p)) ++ [s.w] := ⟨_, rfl⟩
  have hnl : near.length ≤ 7 := by
    rw [hnear, List.length_append]
    have := List.length_filter_le (fun p => decide (0 < p)) s.ends
    show _ + 1 ≤ 7
    omega
  have hn0 : 0 < near.length := by rw [hnear]; simp
  have hnt : ∀ e ∈ near, e ≤ s.w := fun e h => by
    rw [hnear] at h
    rcases List.mem_append.mp h with z | z
    · exact ok.ends_le e (List.mem_filter.mp z).1
    · rw [List.mem_singleton.mp z]; exact Nat.le_refl _
  refine xs_set 3 nd (xe_castD (d' := .list (ilist near)) (xe_frz (xe_catL (ds := (s.ends.filter fun p => decide (0 < p)).map fun (p : Nat) => PyData.int p) (es' := [.int (s.w : Nat)]) ?hl (xe_frz (xe_lcF [("place", 6)] (fun (n : Nat) Γ => Γ.set 6 (some (.da (.int n)))) s.ends (fun n => .int n) (fun n => .int n) (fun n => decide (0 < n)) fx (R := fun n => .da (.int n)) (xi_lst (xe_ix (xv 1) xe_int (.inr rfl) rfl)) hz (fun x hx s H C cl fp => gc_name 6 nd rfl) (fun q hq s H C cl fp => xt_cast (xt_gt (xv 6) xe_int) (by rw [Bool.eq_iff_iff]; simp)) fun q hq hp s H C cl fp => xv 6)) (xe_lsD1 (xv 2)))) (by rw [hnear, ilist_app]; rfl)) ?_
  case hl =>
    rw [List.length_map]
    have := List.length_filter_le (fun p => decide (0 < p)) s.ends
    exact sz (by show _ + 1 ≤ _; omega)
  show WSs _ _ [some (.pin v0 (.op (dw ⟨P, w, K⟩))), some (.da s.data), some (.da (.int (s.w : Nat))), some (.da (.list (ilist near))), none, none, none] _
  refine ws_setLcWA 4 [("turn", 5)] (fun (i : Nat) Γ => Γ.set 5 (some (.da (.int i)))) (fun i => .int i) (fun (n : Nat) => .int n) (fun xs : List Nat => xs.length ≤ 4) (fun n : Nat => n ≤ s.w) fx (wi_rangeN B (we_draw 0 gD r2 fx.gd xe_int (by decide) (by decide) fun r r0 r1 => ⟨r.toNat, by rw [Int.toNat_of_nonneg r0], by omega, rfl, _, ?_, rfl, ?_⟩)) (fun xs x hp hx s H C cl fp => gc_name 5 nd rfl) (fun xs x hp hx s' H C cl fp => we_draw 0 gD r2 fx.gd (xe_add (xv 2) xe_int) (by omega) (by omega) fun r r0 r1 => ⟨r.toNat, by rw [Int.toNat_of_nonneg r0]; exact .da, by omega, rfl⟩) fun xs cs hp hlc hcs => ?_
  · rw [List.length_range]; omega
  · rw [List.length_range]; exact sz (by omega)
  have hp : xs.length ≤ 4 := hp
  refine ws_forW fx (fun i : Nat => .int i) (fun xs : List Nat => xs.length ≤ 3) (fun cs : List Nat => [some (.pin v0 (.op (dw ⟨P, w, K⟩))), some (.da s.data), some (.da (.int (s.w : Nat))), some (.da (.list (ilist near))), some (.ll (ilist cs)), none, none]) (fun xs n cs => cs.length ≤ 4 + n ∧ ∀ c ∈ cs, c ≤ s.w) (wi_rangeN B (we_draw 0 gD r2 fx.gd xe_int (by decide) (by decide) fun r r0 r1 => ⟨r.toNat, by rw [Int.toNat_of_nonneg r0], by omega, List.range r.toNat, cs, by rw [List.length_range]; omega, rfl, ⟨by omega, hcs⟩, rfl⟩)) ?_ ?_
  · intro xs' n x cs' hp' hx ⟨hc1, hc2⟩
    refine wg_name 5 nd ?_
    have hnx := (List.getElem?_eq_some_iff.mp hx).1
    have hp' : xs'.length ≤ 3 := hp'
    show WSs _ _ [some (.pin v0 (.op (dw ⟨P, w, K⟩))), some (.da s.data), some (.da (.int (s.w : Nat))), some (.da (.list (ilist near))), some (.ll (ilist cs')), some (.da (.int (x : Nat))), none] _
    refine ws_expr (we_append 4 (we_max2 B rfl (we_pure xe_int ⟨0, rfl, we_sub (we_fnR gK r3 fx.gd (wr_ref 0 (wr_da (xv 3) (wr_nil ⟨_, _, rfl, ilist near, rfl, by rw [ilist_len]; exact hn0, by rw [ilist_len]; exact sz (by omega), fun dd hdd => ?_⟩))))⟩)))
    obtain ⟨e, hem, rfl⟩ := List.mem_map.mp hdd
    have hew := hnt e hem
    refine ⟨(e : Nat), rfl, we_draw 0 gD r2 fx.gd xe_int (by decide) (by decide) fun r r0 r1 => ⟨r, rfl, _, rfl, _, _, _, _, rfl, rfl, .ll, ?_, ?_⟩⟩
    · rw [ilist_len]
      exact Nat.lt_of_lt_of_le (show cs'.length < 9 by omega) (sz (by omega))
    · refine ws_drop 5 (ws_nil ⟨cs' ++ [e - r.toNat], ⟨by rw [List.length_append]; show _ + 1 ≤ _; omega, fun c hc => ?_⟩, ?_⟩)
      · rcases List.mem_append.mp hc with z | z
        · exact hc2 c z
        · rw [List.mem_singleton.mp z]; omega
      · have ee : (if (e : Int) - r > 0 then (e : Int) - r else 0) = ((e - r.toNat : Nat) : Int) := by split <;> omega
        rw [ee, ilist_app]
        rfl
  · intro xs' cs' hp' ⟨hc1, hc2⟩
    have hp' : xs'.length ≤ 3 := hp'
    refine xs_ret (xe_sorted (ds := ilist cs') B fx.u70 (srt_ilist (xs := cs') (sz (by omega))) (xe_frz (xe_move 4))) ⟨_, .own (.da .nil), ?_⟩
    rw [sortD_ilist]
    have pm := sortN_perm cs'
    exact hq _ ⟨sortN_pw cs', fun c hc => hc2 c (pm.subset hc), by rw [pm.length_eq]; omega⟩ (by rw [pm.length_eq]; omega)
theorem d_turns (D : DK K "_law_turns_right" s_l_turns_right) (gD : Def P w K mg bs 2 "_law_draw" ["d", "many"] (spDraw ⟨P, w, K⟩)) (gSC : Def P w K mg bs 4 "_law_some_cuts" ["d", "stream"] (spSomeCuts ⟨P, w, K⟩)) (gI : DefI P w K mg bs 1 "Feed" C ["self"] (spInit C)) (gP : Def P w K mg bs 3 "_law_piece_right" ["feed", "stream", "start", "end"] (spPiece C)) : Def P w K mg bs 5 "_law_turns_right" ["d", "one", "two"] (spTurns ⟨P, w, K⟩) := by
  refine def_ok X G D sc_l_turns_right (fun f fd F => F.binds (ps := ["d", "one", "two"]) fun _ _ _ _ _ _ us hl => match us, hl with | [_, _, _], _ => rfl) (fun as Ψ h => by obtain ⟨_, _, rfl, _⟩ := h; rfl) fun f cdv A fr' s' H E fx as Ψ us hsp hl => ?_
  obtain ⟨s1, s2, rfl, ok1, ok2, hq⟩ := hsp
  obtain ⟨v0, v1, v2, rfl⟩ := ar3 hl
  have nd := fx.nd
  have r2 := fx.room.mono (show 2 ≤ 4 by decide)
  have r3 := fx.room.mono (show 3 ≤ 4 by decide)
  have r4 := fx.room.mono (show 4 ≤ 4 by decide)
  show WSs _ _ [some (.pin v0 (.op (dw ⟨P, w, K⟩))), some (.da s1.data), some (.da s2.data), none, none, none, none, none, none, none] _
  refine ws_set 3 nd (we_ls (wa_cons (we_make0 gI (fx.room.mono (by decide)) fx.gd ⟨rfl, rfl, _, _, rfl, wa_cons (we_make0 gI (fx.room.mono (by decide)) fx.gd ⟨rfl, rfl, _, _, rfl, wa_nil ⟨by show 2 ≤ _; exact sz (by omega), ?_⟩⟩)⟩)))
  refine xs_set 4 nd (xe_lsD2 (xv 1) (xv 2)) ?_
  refine ws_set 5 nd (we_ls (wa_cons (we_catL (we_fnR gSC r4 fx.gd (wr_ref 0 (wr_da (xv 1) (wr_nil ⟨_, _, rfl, s1, rfl, ok1, fun c1 hc1 l1 => ⟨ilist c1, .ll, we_pure (xe_lsD1 (xe_cast (xe_len B (ds := ilist s1.whole) (xe_ix (xv 1) xe_int (.inr rfl) rfl) (.inr rfl)) (by rw [ilist_len, ok1.wlen]))) ⟨_, .da, ?_, ?_⟩⟩⟩)))))))
  · rw [ilist_len]
    exact sz (by show _ + 1 ≤ _; omega)
  refine wa_cons (we_catL (we_fnR gSC r4 fx.gd (wr_ref 0 (wr_da (xv 2) (wr_nil ⟨_, _, rfl, s2, rfl, ok2, fun c2 hc2 l2 => ⟨ilist c2, .ll, we_pure (xe_lsD1 (xe_cast (xe_len B (ds := ilist s2.whole) (xe_ix (xv 2) xe_int (.inr rfl) rfl) (.inr rfl)) (by rw [ilist_len, ok2.wlen]))) ⟨_, .da, ?_, wa_nil ⟨by show 2 ≤ _; exact sz (by omega), ?_⟩⟩⟩⟩)))))
  · rw [ilist_len]
    exact sz (by show _ + 1 ≤ _; omega)
  refine ws_set 6 nd (we_lst (wa_cons (xe_int _ (wa_cons (xe_int _ (wa_nil ⟨[.int 0, .int 0], rfl, by show 2 ≤ _; exact sz (by omega), ?_⟩)))))) 
  have q1 : ilist c1 ++ [PyData.int (s1.w : Nat)] = ilist (c1 ++ [s1.w]) := by rw [ilist_app]; rfl
  have q2 : ilist c2 ++ [PyData.int (s2.w : Nat)] = ilist (c2 ++ [s2.w]) := by rw [ilist_app]; rfl
  show WSs _ _ [some (.pin v0 (.op (dw ⟨P, w, K⟩))), some (.da s1.data), some (.da s2.data), some (.ls [feed C [], feed C []]), some (.da (.list [s1.data, s2.data])), some (.ls [.ll (ilist c1 ++ [PyData.int (s1.w : Nat)]), .ll (ilist c2 ++ [PyData.int (s2.w : Nat)])]), some (.ll [.int ((0 : Nat) : Int), .int ((0 : Nat) : Int)]), none, none, none] _
  rw [q1, q2]
  have f1 := feedAt_zero C s1
  have f2 := feedAt_zero C s2
  have st1 := Run.start hc1
  have st2 := Run.start hc2
  have len1 : (c1 ++ [s1.w]).length ≤ 9 := by rw [List.length_append]; show _ + 1 ≤ _; omega
  have len2 : (c2 ++ [s2.w]).length ≤ 9 := by rw [List.length_append]; show _ + 1 ≤ _; omega
  generalize c1 ++ [s1.w] = d1 at *
  generalize c2 ++ [s2.w] = d2 at *
  -- one turn, the client known
  have step : ∀ (Φ : Out → Prop) (j : Nat) (s : Stm) (a e : Nat) (c : List Nat) (fL cL : List OD) (sL aL : List PyData) (o7 o9 : Option OD), s.Ok → a ≤ e → e ≤ s.w → fL[j]? = some (FeedAt C s a) → cL[j]? = some (.ll (ilist (e :: c))) → sL[j]? = some s.data → aL[j]? = some (.int (a : Nat)) → ixN aL.length (j : Int) = some j →
      Φ (.nx [some (.pin v0 (.op (dw ⟨P, w, K⟩))), some (.da s1.data), some (.da s2.data), some (.ls (fL.set j (FeedAt C s e))), some (.da (.list sL)), some (.ls (cL.set j (.ll (ilist c)))), some (.ll (aL.set j (.int (e : Nat)))), none, none, none]) →
      WSs (dcx P w K mg bs ["d", "one", "two", "feeds", "streams", "cuts", "starts", "turn", "who", "end"] "_law_turns_right" s_l_turns_right f cdv A fr' s' H E) ((loopBody ((defBody s_l_turns_right).getD 4 (.Pass ⟨0, 0, 0, 0⟩))).drop 2) [some (.pin v0 (.op (dw ⟨P, w, K⟩))), some (.da s1.data), some (.da s2.data), some (.ls fL), some (.da (.list sL)), some (.ls cL), some (.ll aL), o7, some (.da (.int (j : Nat))), o9] Φ := by
    intro Φ j s a e c fL cL sL aL o7 o9 ok hae hew hf hc hs ha hix hΦ
    refine ws_set 9 nd (we_pop0Ix 5 j (d := .int (e : Nat)) (ds := ilist c) rfl hc (xv 8) ?_)
    show WSs _ _ [some (.pin v0 (.op (dw ⟨P, w, K⟩))), some (.da s1.data), some (.da s2.data), some (.ls fL), some (.da (.list sL)), some (.ls (cL.set j (.ll (ilist c)))), some (.ll aL), o7, some (.da (.int (j : Nat))), some (.da (.int (e : Nat)))] _
    refine ws_if (wt_not (wt_val (we_fnIx 3 j gP r3 fx.gd rfl hf (xv 8) (ds := [s.data, .int (a : Nat), .int (e : Nat)]) (fun v => .cons (xe_ix (xv 4) (xv 8) (.inl rfl) (atI_nat hs)) (.cons (xe_ixll 6 (xv 8) (hd := atI_nat ha)) (.cons (xv 9) .nil))) ⟨s, a, e, rfl, ok, hae, hew, _, _, rfl, true, rfl, fun e => (by cases e), fun _ => ws_nil ?_⟩ (hst := by intro e r q; simp [List.suffix_cons_iff] at q; rcases q with q | q | q <;> (obtain ⟨rfl, rfl⟩ := q; rfl)))))
    show WSs _ _ [some (.pin v0 (.op (dw ⟨P, w, K⟩))), some (.da s1.data), some (.da s2.data), some (.ls (fL.set j (FeedAt C s e))), some (.da (.list sL)), some (.ls (cL.set j (.ll (ilist c)))), some (.ll aL), o7, some (.da (.int (j : Nat))), some (.da (.int (e : Nat)))] _
    exact ws_setll 6 (n := j) (we_pure (xv 9) ⟨_, _, _, _, rfl, rfl, .ll, hix, xv 8, ws_drop 7 (ws_drop 8 (ws_drop 9 (ws_nil hΦ)))⟩)
  refine ws_forT fx (List.range (d1.length + d2.length)) (fun i => .int i) (fun q : (Nat × List Nat) × Nat × List Nat => [some (.pin v0 (.op (dw ⟨P, w, K⟩))), some (.da s1.data), some (.da s2.data), some (.ls [FeedAt C s1 q.1.1, FeedAt C s2 q.2.1]), some (.da (.list [s1.data, s2.data])), some (.ls [.ll (ilist q.1.2), .ll (ilist q.2.2)]), some (.ll [.int (q.1.1 : Nat), .int (q.2.1 : Nat)]), none, none, none])
    (fun n q => Run s1 q.1.1 q.1.2 ∧ Run s2 q.2.1 q.2.2 ∧ q.1.2.length + q.2.2.length + n = d1.length + d2.length) ((0, d1), 0, d2) (xi_rangeN B (xe_cast (xe_add (xe_lenIx 5 0 B (ds := ilist d1) rfl rfl xe_int) (xe_lenIx 5 1 B (ds := ilist d2) rfl rfl xe_int)) (by rw [ilist_len, ilist_len]; omega)) (by omega)) ⟨st1, st2, show d1.length + d2.length + 0 = _ from rfl⟩ (by rw [f1, f2]) ?_ fun _ _ => xs_ret xe_bl ⟨_, .own (.da (.da .nil)), hq⟩
  rintro n x ⟨⟨a1, e1⟩, a2, e2⟩ hx ⟨run1, run2, htot⟩
  have hn : n < d1.length + d2.length := by simpa using (List.getElem?_eq_some_iff.mp hx).1
  have run1 : Run s1 a1 e1 := run1
  have run2 : Run s2 a2 e2 := run2
  have htot : e1.length + e2.length + n = d1.length + d2.length := htot
  refine wg_name 7 nd ?_
  show WSs _ _ [some (.pin v0 (.op (dw ⟨P, w, K⟩))), some (.da s1.data), some (.da s2.data), some (.ls [FeedAt C s1 a1, FeedAt C s2 a2]), some (.da (.list [s1.data, s2.data])), some (.ls [.ll (ilist e1), .ll (ilist e2)]), some (.ll [.int (a1 : Nat), .int (a2 : Nat)]), some (.da (.int (x : Nat))), none, none] _
  have go : ∀ (j : Nat) (Φ' : Out → Prop), (∀ (b1 b2 : Nat) (g1 g2 : List Nat), Run s1 b1 g1 → Run s2 b2 g2 → g1.length + g2.length + (n + 1) = d1.length + d2.length → Φ' (.nx [some (.pin v0 (.op (dw ⟨P, w, K⟩))), some (.da s1.data), some (.da s2.data), some (.ls [FeedAt C s1 b1, FeedAt C s2 b2]), some (.da (.list [s1.data, s2.data])), some (.ls [.ll (ilist g1), .ll (ilist g2)]), some (.ll [.int (b1 : Nat), .int (b2 : Nat)]), none, none, none])) → (j = 0 ∧ e1 ≠ [] ∨ j = 1 ∧ e2 ≠ []) →
      WSs (dcx P w K mg bs ["d", "one", "two", "feeds", "streams", "cuts", "starts", "turn", "who", "end"] "_law_turns_right" s_l_turns_right f cdv A fr' s' H E) ((loopBody ((defBody s_l_turns_right).getD 4 (.Pass ⟨0, 0, 0, 0⟩))).drop 2) [some (.pin v0 (.op (dw ⟨P, w, K⟩))), some (.da s1.data), some (.da s2.data), some (.ls [FeedAt C s1 a1, FeedAt C s2 a2]), some (.da (.list [s1.data, s2.data])), some (.ls [.ll (ilist e1), .ll (ilist e2)]), some (.ll [.int (a1 : Nat), .int (a2 : Nat)]), some (.da (.int (x : Nat))), some (.da (.int (j : Nat))), none] Φ' := by
    rintro j Φ' hΦ (⟨rfl, hne⟩ | ⟨rfl, hne⟩)
    · obtain ⟨e, c, rfl⟩ : ∃ e c, e1 = e :: c := by
        cases e1 with
        | nil => exact absurd rfl hne
        | cons e c => exact ⟨e, c, rfl⟩
      obtain ⟨h1, h2, h3⟩ := run1.next
      rw [List.length_cons] at htot
      exact step Φ' 0 s1 a1 e c _ _ _ _ _ _ ok1 h1 h2 rfl rfl rfl rfl rfl (hΦ e a2 c e2 h3 run2 (by omega))
    · obtain ⟨e, c, rfl⟩ : ∃ e c, e2 = e :: c := by
        cases e2 with
        | nil => exact absurd rfl hne
        | cons e c => exact ⟨e, c, rfl⟩
      obtain ⟨h1, h2, h3⟩ := run2.next
      rw [List.length_cons] at htot
      exact step Φ' 1 s2 a2 e c _ _ _ _ _ _ ok2 h1 h2 rfl rfl rfl rfl rfl (hΦ a1 e e1 c run1 h3 (by omega))
  refine ws_set 8 nd (we_draw 0 gD r2 fx.gd xe_int (by decide) (by decide) fun r r0 r1 => ?_)
  have hr : r = ((0 : Nat) : Int) ∨ r = ((1 : Nat) : Int) := by omega
  rcases hr with rfl | rfl
  · refine xs_if (xt_eqI fx.u (xe_lenIx 5 0 B (ds := ilist e1) rfl rfl (xv 8)) xe_int) (fun h => ?_) fun h => ?_
    · rw [decide_eq_true_eq, ilist_len] at h
      refine xs_set 8 nd (xe_cast (j := ((1 : Nat) : Int)) (xe_sub xe_int (xv 8)) rfl) (ws_nil (go 1 _ (fun b1 b2 g1 g2 q1 q2 q3 => ⟨((b1, g1), b2, g2), ⟨q1, q2, q3⟩, rfl⟩) (.inr ⟨rfl, fun z => ?_⟩)))
      rw [z] at htot
      simp only [List.length_nil] at htot
      omega
    · rw [decide_eq_false_iff_not, ilist_len] at h
      exact ws_nil (go 0 _ (fun b1 b2 g1 g2 q1 q2 q3 => ⟨((b1, g1), b2, g2), ⟨q1, q2, q3⟩, rfl⟩) (.inl ⟨rfl, fun z => h (by rw [z]; rfl)⟩))
  · refine xs_if (xt_eqI fx.u (xe_lenIx 5 1 B (ds := ilist e2) rfl rfl (xv 8)) xe_int) (fun h => ?_) fun h => ?_
    · rw [decide_eq_true_eq, ilist_len] at h
      refine xs_set 8 nd (xe_cast (j := ((0 : Nat) : Int)) (xe_sub xe_int (xv 8)) rfl) (ws_nil (go 0 _ (fun b1 b2 g1 g2 q1 q2 q3 => ⟨((b1, g1), b2, g2), ⟨q1, q2, q3⟩, rfl⟩) (.inl ⟨rfl, fun z => ?_⟩)))
      rw [z] at htot
      simp only [List.length_nil] at htot
      omega
    · rw [decide_eq_false_iff_not, ilist_len] at h
      exact ws_nil (go 1 _ (fun b1 b2 g1 g2 q1 q2 q3 => ⟨((b1, g1), b2, g2), ⟨q1, q2, q3⟩, rfl⟩) (.inr ⟨rfl, fun z => h (by rw [z]; rfl)⟩))
end
end Law

namespace Law
open PySem PySem.Spec PyProof.Rows L2 TL
section
variable {P : Program} {w : World} {K : PySem.W.Frag} {mg : Str → Option Value} {bs h : Heap} (X : K.In h) (G : h.Ns mainGlobals mg) (B : Blt mg) {C : Addr}
include X G B
theorem d_law (gB : Def P w K mg bs 1 "_law_begin" ["script"] (spBegin ⟨P, w, K⟩)) (gR : Def P w K mg bs 3 "_law_rare" ["d", "many"] (spRare ⟨P, w, K⟩)) (gS : Def P w K mg bs 4 "_law_stream" ["d", "dear"] (spStream ⟨P, w, K⟩)) (gRR : Def P w K mg bs 1 "_law_row_right" ["told", "due"] spRowRight)
    (gF : Def P w K mg bs 1 "framed" ["data"] spFramed) (gLF : Def P w K mg bs 1 "_law_framed" ["data"] spFramed) (gA : Def P w K mg bs 5 "_law_all_cuts_right" ["stream"] spAllCuts) (gT : Def P w K mg bs 5 "_law_turns_right" ["d", "one", "two"] (spTurns ⟨P, w, K⟩)) (gC : Def P w K mg bs 1 "_law_count_right" ["told", "due"] spCountRight)
    (gI : DefI P w K mg bs 1 "Feed" C ["self"] (spInit C)) (gH : DefM P w K mg bs 1 C "held" ["self"] (spHeld C)) : ∀ f fd, Fun K "law" "law" s_law f fd → FnG P w K mg bs CX0 6 f fd ["script"] (mkSp ⟨P, w, K⟩ spLaw) := by
  refine fn_def sc_law (fun as Ψ h => by obtain ⟨_, rfl, _⟩ := h; rfl) fun f cdv A fr' s' H E fx as Ψ us hsp hl => ?_
  obtain ⟨ns, rfl, hns, hq⟩ := hsp
  obtain ⟨v0, rfl⟩ := ar1 hl
  have nd := fx.nd
  have r1 := fx.room.mono (show 1 ≤ 5 by decide)
  have r3 := fx.room.mono (show 3 ≤ 5 by decide)
  have r4 := fx.room.mono (show 4 ≤ 5 by decide)
  have r5 := fx.room.mono (show 5 ≤ 5 by decide)
  show WSs _ _ [some (.da (.list (ns.map .int))), none, none, none, none, none] _
  refine ws_set 1 nd (we_fnR gB r1 fx.gd (wr_da (xv 0) (wr_nil ⟨_, _, rfl, ns, rfl, ?_⟩)))
  refine ws_set 2 nd (we_rare 1 gR r3 fx.gd xe_int (by decide) (by decide) fun dear => ?_)
  show WSs _ _ [some (.da (.list (ns.map .int))), some (.op (dw ⟨P, w, K⟩)), some (.da (.bool dear)), none, none, none] _
  refine ws_set 3 nd (we_fnR gS r4 fx.gd (wr_ref 1 (wr_da (xv 2) (wr_nil ⟨_, _, rfl, dear, rfl, fun s1 ok1 => ?_⟩))))
  show WSs _ _ [some (.da (.list (ns.map .int))), some (.op (dw ⟨P, w, K⟩)), some (.da (.bool dear)), some (.da s1.data), none, none] _
  refine ws_set 4 nd (we_fnR gS r4 fx.gd (wr_ref 1 (wr_da xe_bl (wr_nil ⟨_, _, rfl, false, rfl, fun s2 ok2 => ?_⟩))))
  show WSs _ _ [some (.da (.list (ns.map .int))), some (.op (dw ⟨P, w, K⟩)), some (.da (.bool dear)), some (.da s1.data), some (.da s2.data), none] _
  have n1 := ok1.few
  have n2 := ok2.few
  have e1 : s1.n = s1.rows.length := rfl
  have e2 : s2.n = s2.rows.length := rfl
  have big : ∀ r ∈ s1.rows ++ s2.rows, r.length ≤ 65535 := fun r hr => by
    rcases List.mem_append.mp hr with z | z
    · exact ok1.short r (List.mem_append_left _ z)
    · exact ok2.short r (List.mem_append_left _ z)
  refine ws_forT fx (s1.rows ++ s2.rows) bt (fun _ : Unit => [some (.da (.list (ns.map .int))), some (.op (dw ⟨P, w, K⟩)), some (.da (.bool dear)), some (.da s1.data), some (.da s2.data), none]) (fun _ _ => True) () (xi_lst (xe_castD (xe_frz (xe_catL (ds := s1.rows.map bt) (es' := s2.rows.map bt) (by rw [List.length_map, List.length_map]; exact sz (by omega)) (xe_ix (xv 3) xe_int (.inr rfl) rfl) (xe_ix (xv 4) xe_int (.inr rfl) rfl))) (by rw [List.map_append]))) trivial rfl ?_ ?_
  · rintro n x _ hx _
    have hb := big x (List.mem_of_getElem? hx)
    refine wg_name 5 nd ?_
    show WSs _ _ [some (.da (.list (ns.map .int))), some (.op (dw ⟨P, w, K⟩)), some (.da (.bool dear)), some (.da s1.data), some (.da s2.data), some (.da (bt x))] _
    refine ws_if (wt_not (wt_val (we_fnR gRR r1 fx.gd (wr_da (fun Ψ' hq' => we_fnR gF r1 fx.gd (wr_da (xv 5) (wr_nil ⟨_, _, rfl, x, rfl, hb, hq'⟩))) (wr_da (fun Ψ' hq' => we_fnR gLF r1 fx.gd (wr_da (xv 5) (wr_nil ⟨_, _, rfl, x, rfl, hb, hq'⟩))) (wr_nil ⟨_, _, rfl, fr x, rfl, by rw [fr_len]; omega, true, rfl, fun e => (by cases e), fun _ => ws_nil (ws_drop 5 (ws_nil ⟨(), trivial, rfl⟩))⟩))))))
  · rintro _ _
    refine ws_if (WW.wt (ww_or (wt_not (wt_val (we_fnR gA r5 fx.gd (wr_da (xv 3) (wr_nil ⟨_, _, rfl, s1, rfl, ok1, true, rfl, fun e => (by cases e), fun _ => ?_⟩)))))))
    refine ww_or1 (wt_not (wt_val (we_fnR gT r5 fx.gd (wr_ref 1 (wr_da (xv 3) (wr_da (xv 4) (wr_nil ⟨_, _, rfl, s1, s2, rfl, ok1, ok2, true, rfl, fun e => (by cases e), fun _ => ws_nil ?_⟩)))))))
    refine ws_ret (we_fnR gC r1 fx.gd (wr_cons (we_methE0 gH r1 fx.gd (we_make0 gI (fx.room.mono (by decide)) fx.gd ⟨rfl, rfl, _, _, rfl, _, rfl, rfl, [], rfl, wr_da xe_int (wr_nil ⟨_, _, rfl, 0, rfl, _, .da .nil, hq _⟩)⟩))))
end
theorem all_mk {P : Program} {w : World} {K : PySem.W.Frag} {h : Heap} {mg : Str → Option Value} {fa C : Addr} (X : K.In h) (G : h.Ns mainGlobals mg) (hfa : mg "law" = some (.ref fa)) (Dbegin : DK K "_law_begin" s_l_begin) (Dmix : DK K "_law_mix" s_l_mix) (Ddraw : DK K "_law_draw" s_l_draw) (Drare : DK K "_law_rare" s_l_rare) (Dpick : DK K "_law_pick" s_l_pick) (Drow_right : DK K "_law_row_right" s_l_row_right) (Drows_right : DK K "_law_rows_right" s_l_rows_right) (Dcount_right : DK K "_law_count_right" s_l_count_right) (Dsome_data : DK K "_law_some_data" s_l_some_data) (Dframed : DK K "_law_framed" s_l_framed) (Dstream : DK K "_law_stream" s_l_stream) (Ddue : DK K "_law_due" s_l_due) (Ddue_held : DK K "_law_due_held" s_l_due_held) (Dpiece_right : DK K "_law_piece_right" s_l_piece_right) (Dcuts_right : DK K "_law_cuts_right" s_l_cuts_right) (Dall_cuts_right : DK K "_law_all_cuts_right" s_l_all_cuts_right) (Dsome_cuts : DK K "_law_some_cuts" s_l_some_cuts) (Dturns_right : DK K "_law_turns_right" s_l_turns_right) (Dframed0 : DK K "framed" s_framed) (Dlenat : DK K "length_at" s_length_at) (Dlaw : DK K "law" s_law)
  (DI : DKI K C "Feed" "Feed.__init__" s_Feed___init__) (DHear : DKM K C "hear" "Feed.hear" s_Feed_hear) (DHeld : DKM K C "held" "Feed.held" s_Feed_held) (cF : Cls K C) (nR : NoAttr K C "_rest") (dB : DKC K "BASE" 256)
  (z : ∀ nm ∈ (["len", "int", "abs", "divmod", "list", "tuple", "range", "zip", "enumerate", "reversed", "sorted", "min", "max", "sum", "all", "any", "set", "repr", "str", "isinstance", "bool", "dict"] : List Str), NoG K nm) :
    ∃ fd : FuncData, (∀ (s : Shared) (v : Value), BindsTo s fd ⟨[v], []⟩ [("script", v)]) ∧ ∀ base : Heap, K.In base → base.Ns mainGlobals mg → FnG P w K mg base CX0 10 fa fd ["script"] (mkSp ⟨P, w, K⟩ spLaw) := by
  have B := blt_mk X G z
  have bB := dB.mg X G
  obtain ⟨f, fd, F, a⟩ := Dlaw
  have e : fa = f := by
    have := hfa.symm.trans (PySem.W.mg_of X G a)
    injection this with this
    injection this
  subst e
  refine ⟨fd, fun s v => ?_, fun bs _ _ => ?_⟩
  · obtain ⟨oc, od, kV, doc, pm, an, cdv, ct, osl, rfl, lk, hcd⟩ := F.ex
    exact .of_eq rfl
  · skip
    have gbegin := d_begin (P := P) (w := w) (bs := bs) X G B Dbegin
    have gmix := d_mix (P := P) (w := w) (bs := bs) X G B Dmix
    have gdraw := d_draw (P := P) (w := w) (bs := bs) X G B Ddraw gmix
    have grare := d_rare (P := P) (w := w) (bs := bs) X G B Drare gdraw
    have gpick := d_pick (P := P) (w := w) (bs := bs) X G B Dpick gdraw
    have growr := d_rowRight (P := P) (w := w) (bs := bs) X G B Drow_right
    have growsr := d_rowsRight (P := P) (w := w) (bs := bs) X G B Drows_right growr
    have gcountr := d_countRight (P := P) (w := w) (bs := bs) X G B Dcount_right
    have glframed := d_lframed (P := P) (w := w) (bs := bs) X G B Dframed
    have gsome := d_some (P := P) (w := w) (bs := bs) X G B Dsome_data gdraw
    have gstream := d_stream (P := P) (w := w) (bs := bs) X G B Dstream gdraw gsome glframed
    have gdue := d_due (P := P) (w := w) (bs := bs) X G B Ddue
    have gheldD := d_dueHeld (P := P) (w := w) (bs := bs) X G B Ddue_held
    have gframed := d_framed (P := P) (w := w) (bs := bs) X G B bB Dframed0
    have glenat := d_lenat (P := P) (w := w) (bs := bs) X G B bB Dlenat
    have ginit := d_init (P := P) (w := w) (bs := bs) B cF nR X G DI
    have gheld := d_held (P := P) (w := w) (mg := mg) (bs := bs) B cF nR DHeld
    have ghear := d_hear (P := P) (w := w) (bs := bs) B cF nR DHear glenat
    have gpiece := d_piece (P := P) (w := w) (bs := bs) X G B Dpiece_right growsr gcountr gdue gheldD ghear gheld
    have gcuts := d_cuts (P := P) (w := w) (bs := bs) X G B Dcuts_right ginit gpiece
    have gall := d_allCuts (P := P) (w := w) (bs := bs) X G B Dall_cuts_right gcuts
    have gsomec := d_someCuts (P := P) (w := w) (bs := bs) X G B Dsome_cuts gdraw gpick
    have gturns := d_turns (P := P) (w := w) (bs := bs) X G B Dturns_right gdraw gsomec ginit gpiece
    have glaw := d_law (P := P) (w := w) (bs := bs) X G B gbegin grare gstream growr gframed glframed gall gturns gcountr ginit gheld
    exact (glaw _ _ F).mono (by decide)
end Law

open PySem PySem.W PyProof.Rows
set_option maxRecDepth 100000 in
set_option maxHeartbeats 0 in
theorem PySem.Challenge.cw_tellgarner_k68_whole_streams_holds : PySem.Challenge.rw_tellgarner_k68_whole_streams.Holds := by
  w_on; o_law; k_head; (case hw => w_witness2)
  k_fill
  refine TL.walkG (l := PySem.Challenge.rw_tellgarner_k68_whole_streams) (n := 63) (k := 10) rfl (by decide) rfl ⟨rfl, by decide, by decide⟩ (fun w h Y => PySem.W.kIn_of Y) ?F
  case F =>
    intro w mg fa h KX G hmg
    refine' Law.all_mk KX G hmg (TL.dk_mk ?a0 ?l0 ?c0 ?k0) (TL.dk_mk ?a1 ?l1 ?c1 ?k1) (TL.dk_mk ?a2 ?l2 ?c2 ?k2) (TL.dk_mk ?a3 ?l3 ?c3 ?k3) (TL.dk_mk ?a4 ?l4 ?c4 ?k4) (TL.dk_mk ?a5 ?l5 ?c5 ?k5) (TL.dk_mk ?a6 ?l6 ?c6 ?k6) (TL.dk_mk ?a7 ?l7 ?c7 ?k7) (TL.dk_mk ?a8 ?l8 ?c8 ?k8) (TL.dk_mk ?a9 ?l9 ?c9 ?k9) (TL.dk_mk ?a10 ?l10 ?c10 ?k10) (TL.dk_mk ?a11 ?l11 ?c11 ?k11) (TL.dk_mk ?a12 ?l12 ?c12 ?k12) (TL.dk_mk ?a13 ?l13 ?c13 ?k13) (TL.dk_mk ?a14 ?l14 ?c14 ?k14) (TL.dk_mk ?a15 ?l15 ?c15 ?k15) (TL.dk_mk ?a16 ?l16 ?c16 ?k16) (TL.dk_mk ?a17 ?l17 ?c17 ?k17) (TL.dk_mk ?a18 ?l18 ?c18 ?k18) (TL.dk_mk ?a19 ?l19 ?c19 ?k19) (TL.dk_mk ?a20 ?l20 ?c20 ?k20) (TL.dki_mk ?aC ?fi ?ii ?li ?ci ?ki ?mi ?kC) (TL.dkm_mk ?fh ?ih ?lh ?ch ?kh) (TL.dkm_mk ?fq ?iq ?lq ?cq ?kq) ⟨?pg, ?hd, ?po, ?sa⟩ ?nR (TL.dkc_mk ?bB) ?z
    (case aC => k_is)
    (case a0 => k_is); (case l0 => k_is); (case c0 => k_is); (case k0 => k_is)
    (case a1 => k_is); (case l1 => k_is); (case c1 => k_is); (case k1 => k_is)
    (case a2 => k_is); (case l2 => k_is); (case c2 => k_is); (case k2 => k_is)
    (case a3 => k_is); (case l3 => k_is); (case c3 => k_is); (case k3 => k_is)
    (case a4 => k_is); (case l4 => k_is); (case c4 => k_is); (case k4 => k_is)
    (case a5 => k_is); (case l5 => k_is); (case c5 => k_is); (case k5 => k_is)
    (case a6 => k_is); (case l6 => k_is); (case c6 => k_is); (case k6 => k_is)
    (case a7 => k_is); (case l7 => k_is); (case c7 => k_is); (case k7 => k_is)
    (case a8 => k_is); (case l8 => k_is); (case c8 => k_is); (case k8 => k_is)
    (case a9 => k_is); (case l9 => k_is); (case c9 => k_is); (case k9 => k_is)
    (case a10 => k_is); (case l10 => k_is); (case c10 => k_is); (case k10 => k_is)
    (case a11 => k_is); (case l11 => k_is); (case c11 => k_is); (case k11 => k_is)
    (case a12 => k_is); (case l12 => k_is); (case c12 => k_is); (case k12 => k_is)
    (case a13 => k_is); (case l13 => k_is); (case c13 => k_is); (case k13 => k_is)
    (case a14 => k_is); (case l14 => k_is); (case c14 => k_is); (case k14 => k_is)
    (case a15 => k_is); (case l15 => k_is); (case c15 => k_is); (case k15 => k_is)
    (case a16 => k_is); (case l16 => k_is); (case c16 => k_is); (case k16 => k_is)
    (case a17 => k_is); (case l17 => k_is); (case c17 => k_is); (case k17 => k_is)
    (case a18 => k_is); (case l18 => k_is); (case c18 => k_is); (case k18 => k_is)
    (case a19 => k_is); (case l19 => k_is); (case c19 => k_is); (case k19 => k_is)
    (case a20 => k_is); (case l20 => k_is); (case c20 => k_is); (case k20 => k_is)
    (case fi => k_is); (case ii => k_is); (case li => k_is); (case ci => k_is); (case ki => k_is); (case mi => k_is); (case kC => k_is)
    (case fh => k_is); (case ih => k_is); (case lh => k_is); (case ch => k_is); (case kh => k_is)
    (case fq => k_is); (case iq => k_is); (case lq => k_is); (case cq => k_is); (case kq => k_is)
    (case pg => k_is); (case hd => k_is); (case po => k_is); (case sa => k_is); (case nR => (unfold L2.NoAttr; k_is)); (case bB => k_is)
    case z =>
      intro nm hn
      simp only [List.mem_cons, List.not_mem_nil, or_false] at hn
      rcases hn with rfl | rfl | rfl | rfl | rfl | rfl | rfl | rfl | rfl | rfl | rfl | rfl | rfl | rfl | rfl | rfl | rfl | rfl | rfl | rfl | rfl | rfl <;> (unfold TL.NoG; k_is)
