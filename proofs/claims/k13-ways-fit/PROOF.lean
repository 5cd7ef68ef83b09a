import PyProof.Rows.All
import Wide.All
import OpenK.AllK
import Wide.FinOn
import HandS.ForMost
import KE.KDictKeyed
import HandS.TupAny
import HandS.WideBits
import HandS.Zip
import HandS.Rev
import HandS.Flow
import KE.SortData
import KE.DataEq
import PyProof.ReprRoads
import PyProof.CallFns
import HandS.Walk
import HandS.More
import HandS.ListItems
import HandS.Conv
import HandS.Deep
import HandS.TupLen
import PyProof.FitsInt
import HandS.RevTup
import HandS.DictTup
import KE.KDictDisplayH
import HandS.IsInst
import HandS.SetBool
import HandS.Strs
import HandS.SetFor
import KE.DataMinMax
import KE.KDictCopyH
import PyProof.DictRoadsH
import KE.GoesMore
import KE.GoesEnum
import HandS.TupSets
import KE.KLam
import KE.SortKeyHeap
import HandS.Lambda
import HandS.SortKw
import HandS.EndTab
import KE.KNestM
import HandS.SortOrd
import KE.LtData
import KE.LtSeq
import KE.KSortAsk
import HandS.Text
import HandS.Wide
import HandS.WideMore
import HandS.FStr
import HandS.TupLe
import HandS.TupMul
import HandS.SetTxt0
import HandS.Defaults
import HandS.Flt
import PyProof.AutoSeq1
import PySem.Challenge.RW_tellgarner_k13_ways_fit
set_option Elab.async false
set_option linter.all false
set_option maxRecDepth 100000
set_option maxHeartbeats 4000000
/-! TL0: immutable data (Rp), owned trees (Own), the frame's slots (EnvL, EnvF), steps of the heap. -/
namespace TL
open PySem L2
structure TC where
  P : Program
  w : World
  K : PySem.W.Frag
/-- a dict with nested keys: keys, the keys' addresses, values -/
abbrev NKV := List (NestedKey × Addr × V)
def NPair (p : NestedKey × Addr × V) (q : NestedKey × Addr × Value) : Prop := p.1 = q.1 ∧ p.2.1 = q.2.1 ∧ RelV p.2.2 q.2.2
def DnOk (T : TC) (p : Addr) (kvs : NKV) (h : Heap) : Prop :=
  kvs.length ≤ sizeLine ∧ (p == sysModules) = false ∧ ∃ xs : List (NestedKey × Addr × Value), Paired NPair kvs xs ∧
    ∃ o es ep, h.get? p = some o ∧ o.ExactDict ∧ o.data = .dict es ep ∧ es.toList = xs.map (entryOfKey (nestedKind T.P T.w)) ∧ (xs.map (·.1)).Nodup
def DN (T : TC) (p : Addr) (kvs : NKV) : HO := .ext (DnOk T p kvs)
def keyD : Key → PyData
  | .inl i => .int i
  | .inr s => .str s
/-! ### immutable data -/
mutual
inductive Rp (T : TC) (I : Hp) : V → PyData → Prop
  | non : Rp T I .non .none
  | bl (b : Bool) : Rp T I (.bl b) (.bool b)
  | int (i : Int) : Rp T I (.int i) (.int i)
  | str (x : Str) : Rp T I (.str x) (.str x)
  | lst {a : Addr} {vs : List V} {ds : List PyData} : SqL T.K I a vs → RpL T I vs ds → Rp T I (.ref a) (.list ds)
  | tup {a : Addr} {vs : List V} {ds : List PyData} : SqT T.K I a vs → RpL T I vs ds → Rp T I (.ref a) (.tuple ds)
  | dk {a : Addr} {ob : Obj} {kvs : List (Key × V)} {ds : List (PyData × PyData)} : I a = some (.frz ob (.dK kvs)) → ds.map Prod.fst = kvs.map (fun p => keyD p.1) → RpL T I (kvs.map Prod.snd) (ds.map Prod.snd) → Rp T I (.ref a) (.dict ds)
  | dn {a : Addr} {ob : Obj} {kvs : NKV} {ds : List (PyData × PyData)} : I a = some (.frz ob (DN T a kvs)) → ds.map Prod.fst = kvs.map (fun p => p.1.data) → RpL T I (kvs.map fun p => V.ref p.2.1) (ds.map Prod.fst) → RpL T I (kvs.map fun p => p.2.2) (ds.map Prod.snd) → (∃ p ∈ kvs, ∀ k : Key, p.1.data ≠ keyD k) → Rp T I (.ref a) (.dict ds)
  | tn {a : Addr} {ob : Obj} {vs : List V} {ds : List PyData} {ds' : List (PyData × PyData)} : I a = some (.frz ob (.tup vs)) → ob.dict = none → RpL T I vs ds → ds' = [(.list [], .tuple ds)] → Rp T I (.ref a) (.dict ds')
inductive RpL (T : TC) (I : Hp) : List V → List PyData → Prop
  | nil : RpL T I [] []
  | cons {v : V} {vs : List V} {d : PyData} {ds : List PyData} : Rp T I v d → RpL T I vs ds → RpL T I (v :: vs) (d :: ds)
end
theorem sqT_mono {K : PySem.W.Frag} {H H' : Hp} {a : Addr} {xs : List V} (e : Same H H') (h : SqT K H a xs) : SqT K H' a xs := by
  rcases h with (h | ⟨o, h⟩) | h
  · exact .inl (.inl (e _ _ h))
  · exact .inl (.inr ⟨o, e _ _ h⟩)
  · exact .inr h
mutual
theorem Rp.mono {T : TC} {I I' : Hp} (e : Same I I') : ∀ {v : V} {d : PyData}, Rp T I v d → Rp T I' v d
  | _, _, .non => .non
  | _, _, .bl b => .bl b
  | _, _, .int i => .int i
  | _, _, .str x => .str x
  | _, _, .lst h r => .lst (e.seq h) (RpL.mono e r)
  | _, _, .tup h r => .tup (sqT_mono e h) (RpL.mono e r)
  | _, _, .dk h k r => .dk (e _ _ h) k (RpL.mono e r)
  | _, _, .dn h k r s n => .dn (e _ _ h) k (RpL.mono e r) (RpL.mono e s) n
  | _, _, .tn h k r q => .tn (e _ _ h) k (RpL.mono e r) q
theorem RpL.mono {T : TC} {I I' : Hp} (e : Same I I') : ∀ {vs : List V} {ds : List PyData}, RpL T I vs ds → RpL T I' vs ds
  | _, _, .nil => .nil
  | _, _, .cons h r => .cons (Rp.mono e h) (RpL.mono e r)
end
theorem RpL.length {T : TC} {I : Hp} : ∀ {vs : List V} {ds : List PyData}, RpL T I vs ds → vs.length = ds.length
  | _, _, .nil => rfl
  | _, _, .cons _ r => by rw [List.length_cons, List.length_cons, RpL.length r]
theorem RpL.get {T : TC} {I : Hp} : ∀ {vs : List V} {ds : List PyData} {i : Nat} {d : PyData}, RpL T I vs ds → ds[i]? = some d → ∃ v, vs[i]? = some v ∧ Rp T I v d
  | _, _, i, d, .nil, e => by simp at e
  | _, _, 0, d, .cons h _, e => by
    simp at e
    subst e
    exact ⟨_, rfl, h⟩
  | _, _, i + 1, d, .cons _ r, e => by
    obtain ⟨v, h1, h2⟩ := RpL.get (i := i) r (by simpa using e)
    exact ⟨v, by simpa using h1, h2⟩
theorem RpL.get' {T : TC} {I : Hp} : ∀ {vs : List V} {ds : List PyData} {i : Nat} {v : V}, RpL T I vs ds → vs[i]? = some v → ∃ d, ds[i]? = some d ∧ Rp T I v d
  | _, _, i, d, .nil, e => by simp at e
  | _, _, 0, d, .cons h _, e => by
    simp at e
    subst e
    exact ⟨_, rfl, h⟩
  | _, _, i + 1, d, .cons _ r, e => by
    obtain ⟨v, h1, h2⟩ := RpL.get' (i := i) r (by simpa using e)
    exact ⟨v, by simpa using h1, h2⟩
theorem RpL.append {T : TC} {I : Hp} : ∀ {vs ws : List V} {ds es : List PyData}, RpL T I vs ds → RpL T I ws es → RpL T I (vs ++ ws) (ds ++ es)
  | _, _, _, _, .nil, s => s
  | _, _, _, _, .cons h r, s => .cons h (RpL.append r s)
theorem RpL.take {T : TC} {I : Hp} : ∀ {vs : List V} {ds : List PyData} (n : Nat), RpL T I vs ds → RpL T I (vs.take n) (ds.take n)
  | _, _, 0, _ => .nil
  | _, _, _ + 1, .nil => .nil
  | _, _, n + 1, .cons h r => .cons h (RpL.take n r)
theorem RpL.drop {T : TC} {I : Hp} : ∀ {vs : List V} {ds : List PyData} (n : Nat), RpL T I vs ds → RpL T I (vs.drop n) (ds.drop n)
  | _, _, 0, r => r
  | _, _, _ + 1, .nil => .nil
  | _, _, n + 1, .cons _ r => RpL.drop n r
theorem RpL.set {T : TC} {I : Hp} {v : V} {d : PyData} (h : Rp T I v d) : ∀ {vs : List V} {ds : List PyData} (i : Nat), RpL T I vs ds → RpL T I (vs.set i v) (ds.set i d)
  | _, _, _, .nil => .nil
  | _, _, 0, .cons _ r => .cons h r
  | _, _, i + 1, .cons q r => .cons q (RpL.set h i r)
/-! ### owned trees -/
/-- an opaque owned object -/
structure OP where
  own : Hp → Hp → V → List Addr → Prop
  frame : ∀ {I I' H H' : Hp} {v : V} {B : List Addr}, Same I I' → own I H v B → (∀ b ∈ B, H' b = H b ∧ I' b = none) → own I' H' v B
  cells : ∀ {I H : Hp} {v : V} {B : List Addr}, own I H v B → ∀ b ∈ B, (∃ o, H b = some o) ∧ I b = none
inductive OD where
  /-- immutable data -/
  | da (d : PyData)
  /-- an own list of data -/
  | ll (ds : List PyData)
  /-- an own dict of data, keys ints and texts; keys tuples -/
  | dd (kvs : List (Key × PyData))
  | dm (kvs : List (NestedKey × PyData))
  /-- an own list of own things -/
  | ls (xs : List OD)
  /-- an instance: its class, its attributes -/
  | ob (C : Addr) (fs : List (Str × OD))
  | op (R : OP)
  /-- the same, the value itself known -/
  | pin (v : V) (x : OD)
mutual
inductive Own (T : TC) (I H : Hp) : V → OD → List Addr → Prop
  | da {v : V} {d : PyData} : Rp T I v d → Own T I H v (.da d) []
  | ll {p : Addr} {vs : List V} {ds : List PyData} : H p = some (.lst vs) → I p = none → RpL T I vs ds → Own T I H (.ref p) (.ll ds) [p]
  | dd {p : Addr} {kvs : List (Key × V)} {ds : List (Key × PyData)} : H p = some (.dK kvs) → I p = none → kvs.map Prod.fst = ds.map Prod.fst → RpL T I (kvs.map Prod.snd) (ds.map Prod.snd) → Own T I H (.ref p) (.dd ds) [p]
  | dm {p : Addr} {kvs : NKV} {ds : List (NestedKey × PyData)} : H p = some (DN T p kvs) → I p = none → kvs.map Prod.fst = ds.map Prod.fst → RpL T I (kvs.map fun p => V.ref p.2.1) (ds.map fun q => q.1.data) → RpL T I (kvs.map fun p => p.2.2) (ds.map Prod.snd) → Own T I H (.ref p) (.dm ds) [p]
  | ls {p : Addr} {vs : List V} {xs : List OD} {F : List Addr} : H p = some (.lst vs) → I p = none → OwnL T I H vs xs F → Own T I H (.ref p) (.ls xs) (p :: F)
  | ob {p C dx : Addr} {fv : List (Str × V)} {fs : List (Str × OD)} {F : List Addr} : H p = some (.ins C dx fv) → I p = none → fv.map Prod.fst = fs.map Prod.fst → OwnL T I H (fv.map Prod.snd) (fs.map Prod.snd) F → Own T I H (.ref p) (.ob C fs) (p :: F)
  | op {v : V} {B : List Addr} {R : OP} : R.own I H v B → Own T I H v (.op R) B
  | pin {v : V} {x : OD} {F : List Addr} : Own T I H v x F → Own T I H v (.pin v x) F
inductive OwnL (T : TC) (I H : Hp) : List V → List OD → List Addr → Prop
  | nil : OwnL T I H [] [] []
  | cons {v : V} {vs : List V} {x : OD} {xs : List OD} {F G : List Addr} : Own T I H v x F → OwnL T I H vs xs G → OwnL T I H (v :: vs) (x :: xs) (F ++ G)
end
mutual
theorem Own.cells {T : TC} {I H : Hp} : ∀ {v : V} {x : OD} {F : List Addr}, Own T I H v x F → ∀ b ∈ F, (∃ o, H b = some o) ∧ I b = none
  | _, _, _, .da _, b, hb => by cases hb
  | _, _, _, .ll h i _, b, hb => by
    rw [List.mem_singleton] at hb
    subst hb
    exact ⟨⟨_, h⟩, i⟩
  | _, _, _, .dd h i _ _, b, hb => by
    rw [List.mem_singleton] at hb
    subst hb
    exact ⟨⟨_, h⟩, i⟩
  | _, _, _, .dm h i _ _ _, b, hb => by
    rw [List.mem_singleton] at hb
    subst hb
    exact ⟨⟨_, h⟩, i⟩
  | _, _, _, .ls h i r, b, hb => by
    rcases List.mem_cons.mp hb with e | hb
    · subst e
      exact ⟨⟨_, h⟩, i⟩
    · exact OwnL.cells r b hb
  | _, _, _, .ob h i _ r, b, hb => by
    rcases List.mem_cons.mp hb with e | hb
    · subst e
      exact ⟨⟨_, h⟩, i⟩
    · exact OwnL.cells r b hb
  | _, _, _, .op (R := R) h, b, hb => R.cells h b hb
  | _, _, _, .pin r, b, hb => Own.cells r b hb
theorem OwnL.cells {T : TC} {I H : Hp} : ∀ {vs : List V} {xs : List OD} {F : List Addr}, OwnL T I H vs xs F → ∀ b ∈ F, (∃ o, H b = some o) ∧ I b = none
  | _, _, _, .nil, b, hb => by cases hb
  | _, _, _, .cons h r, b, hb => by
    rcases List.mem_append.mp hb with hb | hb
    · exact Own.cells h b hb
    · exact OwnL.cells r b hb
end
mutual
theorem Own.frame {T : TC} {I H I' H' : Hp} (e : Same I I') : ∀ {v : V} {x : OD} {F : List Addr}, Own T I H v x F → (∀ b ∈ F, H' b = H b ∧ I' b = none) → Own T I' H' v x F
  | _, _, _, .da r, _ => .da (r.mono e)
  | _, _, _, .ll h _ r, k => .ll ((k _ (List.mem_singleton.mpr rfl)).1.trans h) (k _ (List.mem_singleton.mpr rfl)).2 (r.mono e)
  | _, _, _, .dd h _ a r, k => .dd ((k _ (List.mem_singleton.mpr rfl)).1.trans h) (k _ (List.mem_singleton.mpr rfl)).2 a (r.mono e)
  | _, _, _, .dm h _ a r s, k => .dm ((k _ (List.mem_singleton.mpr rfl)).1.trans h) (k _ (List.mem_singleton.mpr rfl)).2 a (r.mono e) (s.mono e)
  | _, _, _, .ls h _ r, k => .ls ((k _ List.mem_cons_self).1.trans h) (k _ List.mem_cons_self).2 (OwnL.frame e r fun b hb => k b (List.mem_cons_of_mem _ hb))
  | _, _, _, .ob h _ a r, k => .ob ((k _ List.mem_cons_self).1.trans h) (k _ List.mem_cons_self).2 a (OwnL.frame e r fun b hb => k b (List.mem_cons_of_mem _ hb))
  | _, _, _, .op (R := R) h, k => .op (R.frame e h k)
  | _, _, _, .pin r, k => .pin (Own.frame e r k)
theorem OwnL.frame {T : TC} {I H I' H' : Hp} (e : Same I I') : ∀ {vs : List V} {xs : List OD} {F : List Addr}, OwnL T I H vs xs F → (∀ b ∈ F, H' b = H b ∧ I' b = none) → OwnL T I' H' vs xs F
  | _, _, _, .nil, _ => .nil
  | _, _, _, .cons h r, k => .cons (Own.frame e h fun b hb => k b (List.mem_append_left _ hb)) (OwnL.frame e r fun b hb => k b (List.mem_append_right _ hb))
end
theorem OwnL.length {T : TC} {I H : Hp} : ∀ {vs : List V} {xs : List OD} {F : List Addr}, OwnL T I H vs xs F → vs.length = xs.length
  | _, _, _, .nil => rfl
  | _, _, _, .cons _ r => by rw [List.length_cons, List.length_cons, OwnL.length r]
/-! ### the frame's slots -/
inductive EnvL (T : TC) (I H : Hp) : St → List (Option OD) → List Addr → Prop
  | nil : EnvL T I H [] [] []
  | skip {o : Option V} {σ : St} {Γ : List (Option OD)} {F : List Addr} : EnvL T I H σ Γ F → EnvL T I H (o :: σ) (none :: Γ) F
  | cons {v : V} {σ : St} {x : OD} {Γ : List (Option OD)} {F G : List Addr} : Own T I H v x F → EnvL T I H σ Γ G → EnvL T I H (some v :: σ) (some x :: Γ) (F ++ G)
section
variable {T : TC} {I H I' H' : Hp}
theorem EnvL.cells : ∀ {σ : St} {Γ : List (Option OD)} {F : List Addr}, EnvL T I H σ Γ F → ∀ b ∈ F, (∃ o, H b = some o) ∧ I b = none
  | _, _, _, .nil, b, hb => by cases hb
  | _, _, _, .skip r, b, hb => EnvL.cells r b hb
  | _, _, _, .cons h r, b, hb => by
    rcases List.mem_append.mp hb with hb | hb
    · exact h.cells b hb
    · exact EnvL.cells r b hb
theorem EnvL.frame (e : Same I I') : ∀ {σ : St} {Γ : List (Option OD)} {F : List Addr}, EnvL T I H σ Γ F → (∀ b ∈ F, H' b = H b ∧ I' b = none) → EnvL T I' H' σ Γ F
  | _, _, _, .nil, _ => .nil
  | _, _, _, .skip r, k => .skip (EnvL.frame e r k)
  | _, _, _, .cons h r, k => .cons (h.frame e fun b hb => k b (List.mem_append_left _ hb)) (EnvL.frame e r fun b hb => k b (List.mem_append_right _ hb))
theorem EnvL.length : ∀ {σ : St} {Γ : List (Option OD)} {F : List Addr}, EnvL T I H σ Γ F → σ.length = Γ.length
  | _, _, _, .nil => rfl
  | _, _, _, .skip r => by rw [List.length_cons, List.length_cons, EnvL.length r]
  | _, _, _, .cons _ r => by rw [List.length_cons, List.length_cons, EnvL.length r]
/-- the i-th slot: what it holds, and how it is put anew -/
theorem EnvL.at : ∀ {σ : St} {Γ : List (Option OD)} {F : List Addr} {i : Nat} {x : OD}, EnvL T I H σ Γ F → Γ[i]? = some (some x) → ∃ v A B C, σ[i]? = some (some v) ∧ F = A ++ (B ++ C) ∧ Own T I H v x B ∧ EnvL T I H σ (Γ.set i none) (A ++ C)
  | _, _, _, i, x, .nil, e => by simp at e
  | _, _, _, 0, x, .skip r, e => by simp at e
  | _, _, _, 0, x, .cons (F := F) (G := G) h r, e => by
    simp at e
    subst e
    exact ⟨_, [], F, G, rfl, rfl, h, .skip r⟩
  | _, _, _, i + 1, x, .skip r, e => by
    obtain ⟨v, A, B, C, h1, h2, h3, h4⟩ := EnvL.at (i := i) r (by simpa using e)
    exact ⟨v, A, B, C, by simpa using h1, h2, h3, .skip h4⟩
  | _, _, _, i + 1, x, .cons (F := F) (G := G) h r, e => by
    obtain ⟨v, A, B, C, h1, h2, h3, h4⟩ := EnvL.at (i := i) r (by simpa using e)
    exact ⟨v, F ++ A, B, C, by simpa using h1, by rw [h2, List.append_assoc], h3, by rw [List.append_assoc]; exact .cons h h4⟩
/-- any slot is put anew, or forgotten -/
theorem EnvL.put : ∀ {σ : St} {Γ : List (Option OD)} {F : List Addr} {i : Nat}, EnvL T I H σ Γ F → i < Γ.length → ∃ A B C, F = A ++ (B ++ C) ∧
    (∀ {I' H' : Hp} {v' : V} {y : OD} {B' : List Addr}, Same I I' → (∀ b ∈ A ++ C, H' b = H b ∧ I' b = none) → Own T I' H' v' y B' → EnvL T I' H' (σ.set i (some v')) (Γ.set i (some y)) (A ++ (B' ++ C))) ∧
    (∀ o : Option V, EnvL T I H (σ.set i o) (Γ.set i none) (A ++ C)) ∧ EnvL T I H σ (Γ.set i none) (A ++ C)
  | _, _, _, i, .nil, e => by simp at e
  | _, _, _, 0, .skip (F := F) r, e => ⟨[], [], F, rfl, fun s k o => (by rw [List.nil_append]; exact .cons o (r.frame s fun b hb => k b hb)), fun o => .skip r, .skip r⟩
  | _, _, _, 0, .cons (F := F) (G := G) h r, e => ⟨[], F, G, rfl, fun s k o => (by rw [List.nil_append]; exact .cons o (r.frame s fun b hb => k b hb)), fun o => .skip r, .skip r⟩
  | _, _, _, i + 1, .skip r, e => by
    obtain ⟨A, B, C, h2, h4, h5, h6⟩ := EnvL.put (i := i) r (by simpa using e)
    exact ⟨A, B, C, h2, fun s k o => .skip (h4 s k o), fun o => .skip (h5 o), .skip h6⟩
  | _, _, _, i + 1, .cons (F := F) (G := G) h r, e => by
    obtain ⟨A, B, C, h2, h4, h5, h6⟩ := EnvL.put (i := i) r (by simpa using e)
    refine ⟨F ++ A, B, C, by rw [h2, List.append_assoc], fun s k o => ?_, fun o => ?_, ?_⟩
    · rw [List.append_assoc]
      exact .cons (h.frame s fun b hb => k b (List.mem_append_left _ (List.mem_append_left _ hb))) (h4 s (fun b hb => k b (by
        rcases List.mem_append.mp hb with hb | hb
        · exact List.mem_append_left _ (List.mem_append_right _ hb)
        · exact List.mem_append_right _ hb)) o)
    · rw [List.append_assoc]
      exact .cons h (h5 o)
    · rw [List.append_assoc]
      exact .cons h h6
end
/-- the frame's slots, their own things apart from one another, the frozen heap within the heap -/
structure EnvF (T : TC) (I H : Hp) (σ : St) (Γ : List (Option OD)) (F : List Addr) : Prop where
  env : EnvL T I H σ Γ F
  nd : F.Nodup
  sub : Same I H
/-- from (I, H) to (I', H'): what is frozen stays, what is another's stays -/
structure Step (I H : Hp) (F : List Addr) (I' H' : Hp) (F' : List Addr) : Prop where
  inc : Same I I'
  oth : ∀ b o, H b = some o → I b = none → b ∉ F → H' b = some o ∧ I' b = none ∧ b ∉ F'
theorem Step.refl {I H : Hp} {F : List Addr} : Step I H F I H F := ⟨Same.refl _, fun _ _ h i n => ⟨h, i, n⟩⟩
theorem Step.trans {I H I1 H1 I2 H2 : Hp} {F F1 F2 : List Addr} (a : Step I H F I1 H1 F1) (b : Step I1 H1 F1 I2 H2 F2) : Step I H F I2 H2 F2 :=
  ⟨a.inc.trans b.inc, fun c o h i n => let ⟨h1, i1, n1⟩ := a.oth c o h i n; b.oth c o h1 i1 n1⟩
theorem Step.less {I H : Hp} {F F' : List Addr} (h : ∀ b ∈ F', b ∈ F) : Step I H F I H F' := ⟨Same.refl _, fun b _ e i n => ⟨e, i, fun q => n (h b q)⟩⟩
/-- an own thing taken out of its slot -/
theorem EnvF.take {T : TC} {I H : Hp} {σ : St} {Γ : List (Option OD)} {F : List Addr} {i : Nat} {x : OD} (en : EnvF T I H σ Γ F) (hx : Γ[i]? = some (some x)) :
    ∃ v B G, σ[i]? = some (some v) ∧ Own T I H v x B ∧ EnvF T I H σ (Γ.set i none) G ∧ (B ++ G).Nodup ∧ ∀ b, b ∈ F ↔ b ∈ B ∨ b ∈ G := by
  obtain ⟨v, A, B, C, h1, rfl, h3, h4⟩ := en.env.at hx
  have p : (A ++ (B ++ C)).Perm (B ++ (A ++ C)) := by
    rw [← List.append_assoc, ← List.append_assoc]
    exact List.perm_append_comm.append_right C
  have nd := p.nodup_iff.mp en.nd
  exact ⟨v, B, A ++ C, h1, h3, ⟨h4, (List.nodup_append.mp nd).2.1, en.sub⟩, nd, fun b => by rw [p.mem_iff, List.mem_append]⟩
theorem Step.of_mem {I H I' H' : Hp} {F F' G G' : List Addr} (st : Step I H F I' H' F') (h : ∀ b ∈ F, b ∈ G) (h' : ∀ b ∈ G', b ∈ F') : Step I H G I' H' G' :=
  ⟨st.inc, fun b o e i n => let ⟨h1, h2, h3⟩ := st.oth b o e i (fun q => n (h b q)); ⟨h1, h2, fun q => h3 (h' b q)⟩⟩
end TL
/-! TL1: the judgements WE, WT, WA, WSs over slots. -/
namespace TL
open PySem L2
abbrev _root_.L2.Cx.tc (X : Cx) : TC := ⟨X.prog, X.w, X.K⟩
abbrev Sl := List (Option OD)
/-! ### the canonical readings -/
def wpE (X : Cx) (e : Expr) : TE := fun σ H Q => ∃ t, PE X e t ∧ t σ H Q
def wpT (X : Cx) (e : Expr) : TT := fun σ H Q => ∃ t, PT X e t ∧ t σ H Q
def wpW (X : Cx) (e : Expr) : TT := fun σ H Q => ∃ t, PW X e t ∧ t σ H Q
def wpA (X : Cx) (es : List Expr) : TA := fun σ H Q => ∃ t, PA X es t ∧ t σ H Q
def wpSs (X : Cx) (ss : List Stmt) : TS := fun D σ H => ∃ t, PSs X ss t ∧ t D σ H
section
variable {X : Cx}
theorem wpE_ok {e : Expr} : PE X e (wpE X e) := ⟨fun pins s σ H Q I ⟨_, h, q⟩ => h.run pins s σ H Q I q⟩
theorem wpT_ok {e : Expr} : PT X e (wpT X e) := ⟨fun pins s σ H Q I ⟨_, h, q⟩ => h.run pins s σ H Q I q⟩
theorem wpW_ok {e : Expr} : PW X e (wpW X e) := ⟨fun wh pins s σ H Q I ⟨_, h, q⟩ => h.run wh pins s σ H Q I q⟩
theorem wpA_ok {es : List Expr} : PA X es (wpA X es) := ⟨fun pos pins s σ H Q I ⟨_, h, q⟩ => h.run pos pins s σ H Q I q⟩
theorem wpSs_ok {ss : List Stmt} : PSs X ss (wpSs X ss) := ⟨fun pins s σ H D I ⟨_, h, q⟩ => h.run pins s σ H D I q⟩
end
/-! ### the judgements -/
def WE (X : Cx) (e : Expr) (Γ : Sl) (Ψ : OD → Sl → Prop) : Prop := ∀ (I H : Hp) (σ : St) (F : List Addr), EnvF X.tc I H σ Γ F → ∀ Q : VK,
  (∀ (r : OD) (Γ' : Sl) (I' H' : Hp) (v : V) (F' : List Addr), Ψ r Γ' → Step I H F I' H' F' → EnvF X.tc I' H' (some v :: σ) (some r :: Γ') F' → Q v H') → wpE X e σ H Q
def WT (X : Cx) (e : Expr) (Γ : Sl) (Ψ : Bool → Sl → Prop) : Prop := ∀ (I H : Hp) (σ : St) (F : List Addr), EnvF X.tc I H σ Γ F → ∀ Q : Bool → Hp → Prop,
  (∀ (b : Bool) (Γ' : Sl) (I' H' : Hp) (F' : List Addr), Ψ b Γ' → Step I H F I' H' F' → EnvF X.tc I' H' σ Γ' F' → Q b H') → wpT X e σ H Q
def WW (X : Cx) (e : Expr) (Γ : Sl) (Ψ : Bool → Sl → Prop) : Prop := ∀ (I H : Hp) (σ : St) (F : List Addr), EnvF X.tc I H σ Γ F → ∀ Q : Bool → Hp → Prop,
  (∀ (b : Bool) (Γ' : Sl) (I' H' : Hp) (F' : List Addr), Ψ b Γ' → Step I H F I' H' F' → EnvF X.tc I' H' σ Γ' F' → Q b H') → wpW X e σ H Q
/-- which values are those of slots -/
def RefsOk (refs : List (Option Nat)) (vs : List V) (σ : St) : Prop := ∀ (k i : Nat), refs[k]? = some (some i) → ∃ v, vs[k]? = some v ∧ σ[i]? = some (some v)
def WA (X : Cx) (es : List Expr) (Γ : Sl) (Ψ : List OD → List (Option Nat) → Sl → Prop) : Prop := ∀ (I H : Hp) (σ : St) (F : List Addr), EnvF X.tc I H σ Γ F → ∀ Q : List V → Hp → Prop,
  (∀ (rs : List OD) (refs : List (Option Nat)) (Γ' : Sl) (I' H' : Hp) (vs : List V) (F' : List Addr), Ψ rs refs Γ' → vs.length = rs.length → refs.length = rs.length → RefsOk refs vs σ → Step I H F I' H' F' →
    EnvF X.tc I' H' (vs.map some ++ σ) (rs.map some ++ Γ') F' → Q vs H') → wpA X es σ H Q
/-- one answer -/
def XE (X : Cx) (e : Expr) (Γ : Sl) (r : OD) (Γ' : Sl) : Prop := ∀ Ψ : OD → Sl → Prop, Ψ r Γ' → WE X e Γ Ψ
def XT (X : Cx) (e : Expr) (Γ : Sl) (b : Bool) (Γ' : Sl) : Prop := ∀ Ψ : Bool → Sl → Prop, Ψ b Γ' → WT X e Γ Ψ
section
variable {T : TC} {I H I' H' : Hp} {σ σ' : St} {Γ Γ' : Sl} {F F' G G' : List Addr} {v : V} {r : OD}
/-- the value on top taken off, and laid on again behind a step of the rest -/
theorem EnvF.pop (h : EnvF T I H (some v :: σ) (some r :: Γ) F) : ∃ B G, F = B ++ G ∧ Own T I H v r B ∧ EnvF T I H σ Γ G ∧
    ∀ {I' H' : Hp} {σ' : St} {Γ' : Sl} {G' : List Addr}, Step I H G I' H' G' → EnvF T I' H' σ' Γ' G' → EnvF T I' H' (some v :: σ') (some r :: Γ') (B ++ G') ∧ Step I H F I' H' (B ++ G') ∧ Own T I' H' v r B := by
  obtain ⟨e, nd, sub⟩ := h
  cases e with
  | cons o e =>
    rename_i B G
    have hd := List.nodup_append.mp nd
    refine ⟨B, G, rfl, o, ⟨e, hd.2.1, sub⟩, fun {I' H' σ' Γ' G'} st en => ?_⟩
    have kp : ∀ b ∈ B, H' b = H b ∧ I' b = none ∧ b ∉ G' := fun b hb => by
      obtain ⟨⟨ob, h1⟩, h2⟩ := o.cells b hb
      obtain ⟨h3, h4, h5⟩ := st.oth b ob h1 h2 fun q => hd.2.2 b hb b q rfl
      exact ⟨h3.trans h1.symm, h4, h5⟩
    have o' := o.frame (H' := H') st.inc fun b hb => ⟨(kp b hb).1, (kp b hb).2.1⟩
    refine ⟨⟨.cons o' en.env, List.nodup_append.mpr ⟨hd.1, en.nd, fun a ha b hb q => ?_⟩, en.sub⟩, ⟨st.inc, fun b ob h1 h2 n => ?_⟩, o'⟩
    · subst q
      exact (kp a ha).2.2 hb
    · rw [List.mem_append, not_or] at n
      obtain ⟨h3, h4, h5⟩ := st.oth b ob h1 h2 n.2
      exact ⟨h3, h4, fun q => (List.mem_append.mp q).elim n.1 h5⟩
/-- the value on top used up by an operation: B its own things, B' the answer's -/
theorem EnvF.use {B : List Addr} {y : OD} {u : V} (e : EnvF T I H σ Γ G) (nd : (B ++ G).Nodup) (st : Step I H B I' H' F') (o : Own T I' H' u y F') (ndF : F'.Nodup) (sub : Same I' H') :
    EnvF T I' H' (some u :: σ) (some y :: Γ) (F' ++ G) ∧ Step I H (B ++ G) I' H' (F' ++ G) := by
  have hd := List.nodup_append.mp nd
  have kp : ∀ b ∈ G, H' b = H b ∧ I' b = none ∧ b ∉ F' := fun b hb => by
    obtain ⟨⟨ob, h1⟩, h2⟩ := e.env.cells b hb
    obtain ⟨h3, h4, h5⟩ := st.oth b ob h1 h2 fun q => hd.2.2 b q b hb rfl
    exact ⟨h3.trans h1.symm, h4, h5⟩
  refine ⟨⟨.cons o (e.env.frame st.inc fun b hb => ⟨(kp b hb).1, (kp b hb).2.1⟩), List.nodup_append.mpr ⟨ndF, hd.2.1, fun a ha b hb q => ?_⟩, sub⟩, st.inc, fun b ob h1 h2 n => ?_⟩
  · subst q
    exact (kp a hb).2.2 ha
  · rw [List.mem_append, not_or] at n
    obtain ⟨h3, h4, h5⟩ := st.oth b ob h1 h2 n.1
    exact ⟨h3, h4, fun q => (List.mem_append.mp q).elim h5 n.2⟩
/-- nothing changes but that a new or no own thing is on top -/
theorem EnvF.da {d : PyData} (e : EnvF T I H σ Γ F) (h : Rp T I v d) : EnvF T I H (some v :: σ) (some (.da d) :: Γ) F := ⟨.cons (F := []) (.da h) e.env, e.nd, e.sub⟩
theorem EnvF.grow (e : EnvF T I H σ Γ F) (st : Step I H [] I' H' []) (sub : Same I' H') : EnvF T I' H' σ Γ F ∧ Step I H F I' H' F := by
  have kp : ∀ b ∈ F, H' b = H b ∧ I' b = none := fun b hb => by
    obtain ⟨⟨ob, h1⟩, h2⟩ := e.env.cells b hb
    obtain ⟨h3, h4, _⟩ := st.oth b ob h1 h2 (by simp)
    exact ⟨h3.trans h1.symm, h4⟩
  exact ⟨⟨e.env.frame st.inc kp, e.nd, sub⟩, st.inc, fun b ob h1 h2 n => ⟨(st.oth b ob h1 h2 (by simp)).1, (st.oth b ob h1 h2 (by simp)).2.1, n⟩⟩
end
section
variable {X : Cx} {e a b o : Expr} {es : List Expr} {Γ Γ' Γ1 Γ2 : Sl} {Ψ : OD → Sl → Prop} {Φt : Bool → Sl → Prop} {pos : Pos} {r x y z : OD} {c c' : Bool}
theorem WE.mono {Ψ' : OD → Sl → Prop} (h : WE X e Γ Ψ) (hq : ∀ r Γ', Ψ r Γ' → Ψ' r Γ') : WE X e Γ Ψ' := fun I H σ F en Q k => h I H σ F en Q fun r Γ' I' H' v F' q => k r Γ' I' H' v F' (hq _ _ q)
theorem WT.mono {Ψ' : Bool → Sl → Prop} (h : WT X e Γ Φt) (hq : ∀ r Γ', Φt r Γ' → Ψ' r Γ') : WT X e Γ Ψ' := fun I H σ F en Q k => h I H σ F en Q fun r Γ' I' H' F' q => k r Γ' I' H' F' (hq _ _ q)
theorem XE.of (h : ∀ Ψ : OD → Sl → Prop, Ψ r Γ' → WE X e Γ Ψ) : XE X e Γ r Γ' := h
/-! ### constants, names -/
theorem we_const {d : PyData} {v : V} (hr : ∀ I, Rp X.tc I v d) (h : PE X e (tC v)) (hq : Ψ (.da d) Γ) : WE X e Γ Ψ := fun I H σ F en Q k =>
  ⟨_, h, k _ _ I H v F hq .refl (en.da (hr I))⟩
theorem xe_int {i : Int} {j : Nat} : XE X (.Constant (.int i) j pos) Γ (.da (.int i)) Γ := fun _ hq => we_const (fun _ => .int i) pe_int hq
theorem xe_bl {i : Bool} {j : Nat} : XE X (.Constant (.bool i) j pos) Γ (.da (.bool i)) Γ := fun _ hq => we_const (fun _ => .bl i) pe_bl hq
theorem xe_non {j : Nat} : XE X (.Constant .none j pos) Γ (.da .none) Γ := fun _ hq => we_const (fun _ => .non) pe_non hq
theorem xe_str {i : Str} {j : Nat} : XE X (.Constant (.str i) j pos) Γ (.da (.str i)) Γ := fun _ hq => we_const (fun _ => .str i) pe_str hq
/-- a slot that holds data -/
theorem xe_var {i : Nat} {n : Str} {d : PyData} (hN : X.N[i]? = some n) (hv : Vis X.env.scope n) (hd : Γ[i]? = some (some (.da d))) (h1 : (n == ("__debug__" : Str)) = false := by decide) (h2 : (n == ("__classdict__" : Str)) = false := by decide) :
    XE X (.Name n pos) Γ (.da d) Γ := fun Ψ hq I H σ F en Q k => by
  obtain ⟨v, A, B, C, h3, h4, h5, _⟩ := en.env.at hd
  cases h5 with
  | da h6 => exact ⟨_, pe_var hN hv h1 h2, v, h3, k _ _ I H v F hq .refl (en.da h6)⟩
theorem xv (i : Nat) {n : Str} {d : PyData} (hd : Γ[i]? = some (some (.da d)) := by rfl) (hN : X.N[i]? = some n := by rfl) (hv : Vis X.env.scope n := by first | exact Or.inl rfl | exact Or.inr (Or.inl rfl) | exact Or.inr (Or.inr rfl))
    (h1 : (n == ("__debug__" : Str)) = false := by decide) (h2 : (n == ("__classdict__" : Str)) = false := by decide) : XE X (.Name n pos) Γ (.da d) Γ := xe_var hN hv hd h1 h2
/-! ### operations on two values -/
/-- what an operation by values makes of own things -/
def Op2 (T : TC) (f : R2) (x y z : OD) : Prop := ∀ (I H : Hp) (v u : V) (B : List Addr), OwnL T I H [v, u] [x, y] B → B.Nodup → Same I H → ∀ Q : VK,
  (∀ (I' H' : Hp) (w : V) (B' : List Addr), Step I H B I' H' B' → Own T I' H' w z B' → B'.Nodup → Same I' H' → Q w H') → f v u H Q
/-- .. where both are data and nothing is laid -/
theorem Op2.pure {T : TC} {f : R2} {d e g : PyData} (h : ∀ (I H : Hp) (v u : V), Rp T I v d → Rp T I u e → Same I H → ∀ Q : VK, (∀ w, Rp T I w g → Q w H) → f v u H Q) : Op2 T f (.da d) (.da e) (.da g) := by
  intro I H v u B o nd sub Q k
  cases o with
  | cons o1 o2 =>
    cases o1 with
    | da h1 =>
      cases o2 with
      | cons o2 o3 =>
        cases o2 with
        | da h2 =>
          cases o3
          exact h I H v u h1 h2 sub Q fun w hw => k I H w [] Step.refl (.da hw) List.nodup_nil sub
theorem two_core {wr : R2} (h : WE X a Γ fun x Γ1 => WE X b Γ1 fun y Γ2 => ∃ z, Op2 X.tc wr x y z ∧ Ψ z Γ2) (I H : Hp) (σ : St) (F : List Addr) (en : EnvF X.tc I H σ Γ F) (Q : VK)
    (k : ∀ (r : OD) (Γ' : Sl) (I' H' : Hp) (v : V) (F' : List Addr), Ψ r Γ' → Step I H F I' H' F' → EnvF X.tc I' H' (some v :: σ) (some r :: Γ') F' → Q v H') : tOp wr (wpE X a) (wpE X b) σ H Q := by
  refine h I H σ F en _ fun x Γ1 I1 H1 v F1 h1 st1 en1 => ?_
  obtain ⟨B, G, rfl, o1, en1', up⟩ := en1.pop
  refine h1 I1 H1 σ G en1' _ fun y Γ2 I2 H2 u F2 h2 st2 en2 => ?_
  obtain ⟨z, op, hq⟩ := h2
  obtain ⟨en3, st3, o1'⟩ := up st2 en2
  have st13 := st1.trans st3
  obtain ⟨B2, G2, rfl, o2, en2', _⟩ := en2.pop
  have ndA : ((B ++ B2) ++ G2).Nodup := by rw [List.append_assoc]; exact en3.nd
  have ol : OwnL X.tc I2 H2 [v, u] [x, y] (B ++ B2) := by
    have q := OwnL.cons o1' (OwnL.cons o2 OwnL.nil)
    rwa [List.append_nil] at q
  refine op I2 H2 v u (B ++ B2) ol (List.nodup_append.mp ndA).1 en2.sub _ fun I' H' w B' st o nd sub => ?_
  obtain ⟨en5, st5⟩ := en2'.use ndA st o nd sub
  exact k z Γ2 I' H' w _ hq (st13.trans (by rw [← List.append_assoc]; exact st5)) en5
end
end TL
/-! TL2: defs: contracts that know that no repr runs around (FnG), the def's rule, calls. -/
namespace TL
open PySem PySem.Spec PyProof.Rows L2
/-- as L2.FnOk, where no guard runs -/
structure FnG (P : Program) (w : World) (K : PySem.W.Frag) (mg : Str → Option Value) (bs : Heap) (CX : CXT) (k : Nat) (f : Addr) (fd : FuncData) (ps : List Str) (sp : Sp) : Prop where
  arity : ∀ vs H Q E, sp vs H Q E → vs.length = ps.length
  go : ∀ (A : Around) (fr : List PySem.Env) (s : Shared) (H : Hp) (ar : Args) (us : List Value) (vs : List V) (Q : VK) (E : XK), Room k A → A.guards = some [] → Env0 P w K mg bs A fr s H →
    BindsTo s fd ar (ps.zip us) → Vals vs us → sp vs H Q E → codeAny (model P w) A (.call (.ref f) ar) (CR CX fr P w H s Q E) s
section
variable {P : Program} {w : World} {K : PySem.W.Frag} {mg : Str → Option Value} {bs : Heap} {CX : CXT} {j k : Nat} {f : Addr} {fd : FuncData} {ps : List Str} {sp : Sp}
theorem FnG.mono (F : FnG P w K mg bs CX j f fd ps sp) (h : j ≤ k) : FnG P w K mg bs CX k f fd ps sp :=
  ⟨F.arity, fun A fr s H ar us vs Q E r => F.go A fr s H ar us vs Q E (r.mono h)⟩
/-- a def of the text, by its body -/
theorem fnG_of {x qual : Str} {st : Stmt} {N : List Str} (F : Fun K x qual st f fd) (S : FnScope N ps (defScope st)) (ln : ∀ vs H Q E, sp vs H Q E → vs.length = ps.length)
    (hb : ∀ (cdv : Value) (A : Around) (fr : List PySem.Env) (s : Shared) (H : Hp) (vs : List V) (Q : VK) (E : XK), Room k (A.deeper (envOfC qual (defScope st) s.heap.objs.size f cdv)) → A.guards = some [] → sp vs H Q E →
      wpSs (cxOf CX P w K mg bs N qual (defScope st) f cdv A fr s H E) (defBody st) { nx := fun _ H' => Q .non H', rt := Q } (L2.start N vs) H) : FnG P w K mg bs CX (k + 1) f fd ps sp := by
  obtain ⟨oc, od, kV, doc, pm, an, cdv, ct, osl, rfl, lk, hcd⟩ := F.ex
  refine ⟨ln, fun A fr s H ar us vs Q E hr hg e0 hbd r hsp => ?_⟩
  have hl : vs.length = ps.length := ln _ _ _ _ hsp
  have KX : K.In s.heap := e0.mod.kin.keeps fun b o e => (e0.bs b o e).1
  have kinds : ∀ y ∈ ps.zip us, (defScope st).names.lookup y.1 = some .local ∨ ((defScope st).names.lookup y.1 = some .cell ∧ ((cellsFrom (s.heap.objs.size + 1) (defScope st).names []).lookup y.1).isSome = true) := by
    rintro ⟨n, v⟩ hy
    cases S.par n (List.of_mem_zip hy).1 with
    | inl q => exact .inl q
    | inr q => exact .inr ⟨q, PySem.W.cellsFrom_some _ _ _ (.inl q)⟩
  refine codeAny_call_function hr.depth (KX _ _ lk) rfl S.co S.gen rfl (PySem.W.codeRec_of KX hcd) (hbd _ _ _ _ ?_)
  refine wpAny_newFunctionEnv_cells S.kind kinds fun en hen s1 x => ?_
  subst hen
  refine ⟨(e0.mod.nolimit.keeps fun b o e => (e0.bs b o e).1).keeps x.toInCall.keep, codeAny_func ?_⟩
  have I := inv_start (CX := CX) (E := E) S hr.hd e0 hl r x
  refine wpAny_mono (wpSs_ok.run [] s1 (L2.start N vs) H _ I (hb cdv A fr s H vs Q E (hr.deeper _) hg hsp)) (fun fl s' hs => ?_) fun e s' hs => hs
  cases fl with
  | ret u => exact match hs with | ⟨v, _, H', J, rv, q⟩ => ⟨v, H', J.os, J.bare, J.base, J.hok, rv, q⟩
  | next => exact match hs with | ⟨_, H', J, q⟩ => ⟨V.non, H', J.os, J.bare, J.base, J.hok, rfl, q⟩
  | brk => exact match hs with | ⟨_, _, _, q⟩ => False.elim q
  | cont => exact match hs with | ⟨_, _, _, q⟩ => False.elim q
end
section
variable {X : Cx} {CX : CXT} {k : Nat} {f C : Addr} {fd : FuncData} {ps : List Str} {sp : Sp} {E : XK} {x m : Str} {p pos apos : Pos} {e o : Expr} {es : List Expr} {ta : TE} {t : TA}
theorem runG {pins : List (Addr × Obj)} {σ : L2.St} {H : Hp} {s : Shared} {Q : VK} {us : List Value} {vs : List V} (F : FnG X.prog X.w X.K X.mg X.base CX k f fd ps sp) (hr : Room k X.A) (hg : X.A.guards = some []) (hb : Binds X.K fd ps [])
    (hx : Passes CX X E) (I : Inv X pins σ H s) (r : Vals vs us) (h : sp vs H Q E) : wpAny (model X.prog X.w) X.A (call (.ref f) us) (EP X pins σ Q) X.xe s := by
  have hl : (us ++ ([] : List Value)).length = ps.length := by rw [List.append_nil, ← r.length]; exact F.arity _ _ _ _ h
  have hbd := hb s us I.kIn hl
  rw [List.append_nil] at hbd
  refine wpAny_call (codeAny_mono (F.go X.A X.stack s H ⟨us, []⟩ us vs Q E hr hg I.env0 hbd r h) ?_)
  rintro (e | fl) s' hq
  · exact hx pins σ H s e s' I hq
  · cases fl with
    | ret u => exact I.after hq
    | next => cases hq
    | brk => cases hq
    | cont => cases hq
theorem pe_callG (F : FnG X.prog X.w X.K X.mg X.base CX k f fd ps sp) (hr : Room k X.A) (hgd : X.A.guards = some []) (hg : Gl X x) (hm : X.mg x = some (.ref f)) (hk : PySem.W.keepIn X.K (.ref f) = true) (hb : Binds X.K fd ps [])
    (hx : Passes CX X E) (ha : PA X (e :: es) t) (hdb : (x == ("__debug__" : Str)) = false := by decide) (he : starEach (e :: es) X.env = (false, eval e X.env) :: starEach es X.env := by rfl)
    (hpl : (backTo pos (starEach es X.env)).any (·.1) = false := by rfl) : PE X (.Call (.Name x p) (e :: es) [] pos) (tCall sp [] E t) := by
  constructor
  intro pins s σ H Q I h
  refine wpAny_Call_Name_kw (ld_glob I hg hm ?_ hdb)
  refine PySem.W.callWith_K (h₀ := X.base) I.ok.mod.kin hk ?_ he hpl
  refine thn (ha.run pos pins s σ H _ I h) ?_
  rintro us s1 ⟨vs, H1, I1, r, q⟩
  rw [List.append_nil] at q
  exact ⟨I1.kIn, runG F hr hgd hb hx I1 r q⟩
end
/-! ### contracts over owned things -/
/-- what a def is worth: from its arguments, what it answers and what it leaves of them -/
abbrev SpD := List OD → (OD → List OD → Prop) → Prop
def mkSp (T : TC) (sp : SpD) : Sp := fun vs H Q _ => ∃ (I : Hp) (as : List OD) (F : List Addr) (Ψ : OD → List OD → Prop), OwnL T I H vs as F ∧ F.Nodup ∧ Same I H ∧ sp as Ψ ∧
  ∀ (r : OD) (as' : List OD) (I' H' : Hp) (v : V) (F' : List Addr), Ψ r as' → Step I H F I' H' F' → OwnL T I' H' (v :: vs) (r :: as') F' → F'.Nodup → Same I' H' → Q v H'
/-- the parameters' slots at the entry: data, or an own thing whose value is known -/
def pinned (x : OD) (v : V) : OD := match x with
  | .da d => .da d
  | y => .pin v y
def start0 (N : List Str) (as : List OD) (vs : List V) : Sl := (List.zipWith (fun x v => some (pinned x v)) as vs) ++ List.replicate (N.length - as.length) none
inductive Back : List OD → List V → Sl → List OD → Prop
  | nil {Γ : Sl} : Back [] [] Γ []
  | da {d : PyData} {as as' : List OD} {v : V} {vs : List V} {o : Option OD} {Γ : Sl} : Back as vs Γ as' → Back (.da d :: as) (v :: vs) (o :: Γ) (.da d :: as')
  | own {x y : OD} {as as' : List OD} {v : V} {vs : List V} {Γ : Sl} : Back as vs Γ as' → Back (x :: as) (v :: vs) (some (.pin v y) :: Γ) (y :: as')
/-! ### outcomes of statements -/
inductive Out where
  | nx (Γ : Sl) | rt (r : OD) (Γ : Sl) | bk (Γ : Sl) | ct (Γ : Sl)
structure EndsOk (T : TC) (I H : Hp) (F : List Addr) (Φ : Out → Prop) (D : Ends) : Prop where
  nx : ∀ {Γ' : Sl} {I' H' : Hp} {σ' : L2.St} {F' : List Addr}, Φ (.nx Γ') → Step I H F I' H' F' → EnvF T I' H' σ' Γ' F' → D.nx σ' H'
  rt : ∀ {r : OD} {Γ' : Sl} {I' H' : Hp} {σ' : L2.St} {v : V} {F' : List Addr}, Φ (.rt r Γ') → Step I H F I' H' F' → EnvF T I' H' (some v :: σ') (some r :: Γ') F' → D.rt v H'
  bk : ∀ {Γ' : Sl} {I' H' : Hp} {σ' : L2.St} {F' : List Addr}, Φ (.bk Γ') → Step I H F I' H' F' → EnvF T I' H' σ' Γ' F' → D.bk σ' H'
  ct : ∀ {Γ' : Sl} {I' H' : Hp} {σ' : L2.St} {F' : List Addr}, Φ (.ct Γ') → Step I H F I' H' F' → EnvF T I' H' σ' Γ' F' → D.ct σ' H'
theorem EndsOk.step {T : TC} {I H I1 H1 : Hp} {F F1 : List Addr} {Φ : Out → Prop} {D : Ends} (k : EndsOk T I H F Φ D) (st : Step I H F I1 H1 F1) : EndsOk T I1 H1 F1 Φ D :=
  ⟨fun a b c => k.nx a (st.trans b) c, fun a b c => k.rt a (st.trans b) c, fun a b c => k.bk a (st.trans b) c, fun a b c => k.ct a (st.trans b) c⟩
def WSs (X : Cx) (ss : List Stmt) (Γ : Sl) (Φ : Out → Prop) : Prop := ∀ (I H : Hp) (σ : L2.St) (F : List Addr), EnvF X.tc I H σ Γ F → ∀ D : Ends, EndsOk X.tc I H F Φ D → wpSs X ss D σ H
theorem WSs.mono {X : Cx} {ss : List Stmt} {Γ : Sl} {Φ Φ' : Out → Prop} (h : WSs X ss Γ Φ) (k : ∀ o, Φ o → Φ' o) : WSs X ss Γ Φ' := fun I H σ F en D e =>
  h I H σ F en D ⟨fun a => e.nx (k _ a), fun a => e.rt (k _ a), fun a => e.bk (k _ a), fun a => e.ct (k _ a)⟩
/-- what a def's body is to come to -/
def fnΦ (as : List OD) (vs : List V) (Ψ : OD → List OD → Prop) : Out → Prop
  | .rt r Γ => ∃ as', Back as vs Γ as' ∧ Ψ r as'
  | .nx Γ => ∃ as', Back as vs Γ as' ∧ Ψ (.da .none) as'
  | _ => False
section
variable {T : TC} {I H I' H' : Hp}
theorem env_none : ∀ n : Nat, EnvL T I H (List.replicate n none) (List.replicate n none) []
  | 0 => .nil
  | n + 1 => .skip (env_none n)
theorem own_pinned {x : OD} {v : V} {F : List Addr} (h : Own T I H v x F) : Own T I H v (pinned x v) F := by
  cases h with
  | da h => exact .da h
  | ll a b c => exact .pin (.ll a b c)
  | dd a b c d => exact .pin (.dd a b c d)
  | dm a b c d e => exact .pin (.dm a b c d e)
  | ls a b c => exact .pin (.ls a b c)
  | ob a b c d => exact .pin (.ob a b c d)
  | op a => exact .pin (.op a)
  | pin a => exact .pin (.pin a)
theorem env_start {N : List Str} : ∀ {as : List OD} {vs : List V} {F : List Addr}, OwnL T I H vs as F → ∀ n : Nat, EnvL T I H (vs.map some ++ List.replicate n none) (List.zipWith (fun x v => some (pinned x v)) as vs ++ List.replicate n none) F
  | _, _, _, .nil, n => env_none n
  | _, _, _, .cons h r, n => .cons (own_pinned h) (env_start (N := N) r n)
/-- the arguments behind the body -/
theorem env_back : ∀ {as : List OD} {vs : List V} {Γ : Sl} {as' : List OD}, Back as vs Γ as' → ∀ {σ : L2.St} {F F0 : List Addr}, OwnL T I H vs as F0 → Same I I' → EnvL T I' H' σ Γ F → ∃ G, OwnL T I' H' vs as' G ∧ G.Sublist F
  | _, _, _, _, .nil, _, F, _, _, _, _ => ⟨[], .nil, List.nil_sublist _⟩
  | _, _, _, _, .da b, σ, F, _, .cons h r, e, en => by
    cases h with
    | da hd =>
      cases en with
      | skip en =>
        obtain ⟨G, o, s⟩ := env_back b r e en
        exact ⟨G, .cons (F := []) (.da (hd.mono e)) o, s⟩
      | cons _ en =>
        obtain ⟨G, o, s⟩ := env_back b r e en
        exact ⟨G, .cons (F := []) (.da (hd.mono e)) o, s.trans (List.sublist_append_right _ _)⟩
  | _, _, _, _, .own b, σ, F, _, .cons _ r, e, en => by
    cases en with
    | cons h en =>
      obtain ⟨G, o, s⟩ := env_back b r e en
      cases h with
      | pin h => exact ⟨_, .cons h o, (List.Sublist.refl _).append s⟩
end
theorem step_sub {I H I' H' : Hp} {F F' G : List Addr} (st : Step I H F I' H' F') (s : ∀ b ∈ G, b ∈ F') : Step I H F I' H' G :=
  ⟨st.inc, fun b o e i n => let ⟨h1, h2, h3⟩ := st.oth b o e i n; ⟨h1, h2, fun q => h3 (s b q)⟩⟩
section
variable {P : Program} {w : World} {K : PySem.W.Frag} {mg : Str → Option Value} {bs : Heap} {k : Nat} {f : Addr} {fd : FuncData} {ps : List Str}
/-- THE RULE for a def: its body over slots -/
theorem fn_ok {x qual : Str} {st : Stmt} {N : List Str} {sp : SpD} (F : Fun K x qual st f fd) (S : FnScope N ps (defScope st)) (ln : ∀ as Ψ, sp as Ψ → as.length = ps.length)
    (hb : ∀ (X : Cx) (cdv : Value) (A : Around) (fr : List PySem.Env) (s : Shared) (H : Hp) (E : XK), X = (cxOf CX0 P w K mg bs N qual (defScope st) f cdv A fr s H E).nox → Room k X.A → X.A.guards = some [] →
      ∀ (as : List OD) (Ψ : OD → List OD → Prop) (vs : List V), sp as Ψ → vs.length = as.length → WSs (cxOf CX0 P w K mg bs N qual (defScope st) f cdv A fr s H E).nox (defBody st) (start0 N as vs) (fnΦ as vs Ψ)) :
    FnG P w K mg bs CX0 (k + 1) f fd ps (mkSp ⟨P, w, K⟩ sp) := by
  refine fnG_of F S (fun vs H Q E h => ?_) fun cdv A fr s H vs Q E hr hg h => ?_
  · obtain ⟨I, as, F, Ψ, o, _, _, q, _⟩ := h
    rw [o.length, ln as Ψ q]
  · obtain ⟨I, as, F, Ψ, o, nd, sub, q, kk⟩ := h
    have en : EnvF (⟨P, w, K⟩ : TC) I H (L2.start N vs) (start0 N as vs) F := ⟨by unfold L2.start start0; rw [o.length]; exact env_start (N := N) o _, nd, sub⟩
    have main := hb _ cdv A fr s H E rfl hr hg as Ψ vs q o.length I H (L2.start N vs) F en { nx := fun _ H' => Q .non H', rt := Q } ?_
    · obtain ⟨t, ht, hq⟩ := main
      exact ⟨t, ht.nox, hq⟩
    · refine ⟨fun a st en => ?_, fun a st en => ?_, fun a => a.elim, fun a => a.elim⟩
      · obtain ⟨as', b, hΨ⟩ := a
        obtain ⟨G, o', sl⟩ := env_back b o st.inc en.env
        exact kk _ as' _ _ .non ([] ++ G) hΨ (step_sub st fun b hb => sl.subset hb) (.cons (.da .non) o') (en.nd.sublist sl) en.sub
      · obtain ⟨as', b, hΨ⟩ := a
        obtain ⟨B, G, rfl, ov, en', _⟩ := en.pop
        obtain ⟨G', o', sl⟩ := env_back b o st.inc en'.env
        have sl' : (B ++ G').Sublist (B ++ G) := (List.Sublist.refl B).append sl
        exact kk _ as' _ _ _ (B ++ G') hΨ (step_sub st fun b hb => sl'.subset hb) (.cons ov o') (en.nd.sublist sl') en.sub
end
end TL
/-! TL3: expressions by rules: ints, comparisons, tests, displays, subscripts, calls; small statements. -/
namespace TL
open PySem PySem.Spec PyProof.Rows L2
section
variable {X : Cx} {e a b c o : Expr} {es : List Expr} {Γ Γ' Γ1 Γ2 : Sl} {Ψ : OD → Sl → Prop} {Φt : Bool → Sl → Prop} {pos : Pos} {r x y z : OD} {k k' : Bool} {wr : R2}
/-! ### operations -/
theorem we_bin {op : Operator} (ho : OpR X (binaryOp op) wr) (h : WE X a Γ fun x Γ1 => WE X b Γ1 fun y Γ2 => ∃ z, Op2 X.tc wr x y z ∧ Ψ z Γ2) : WE X (.BinOp a op b pos) Γ Ψ := fun I H σ F en Q k => ⟨_, pe_op ho wpE_ok wpE_ok, two_core h I H σ F en Q k⟩
theorem xe_bin {op : Operator} (ho : OpR X (binaryOp op) wr) (q : Op2 X.tc wr x y z) (ha : XE X a Γ x Γ1) (hb : XE X b Γ1 y Γ2) : XE X (.BinOp a op b pos) Γ z Γ2 := fun _ hq => we_bin ho (ha _ (hb _ ⟨z, q, hq⟩))
theorem o2_I0 {T : TC} {g : Int → Int → V} {i j : Int} {d : PyData} (hg : ∀ I, Rp T I (g i j) d) : Op2 T (rI0 g) (.da (.int i)) (.da (.int j)) (.da d) := Op2.pure fun I H v u hv hu _ Q k => by
  cases hv
  cases hu
  exact ⟨i, j, rfl, rfl, k _ (hg I)⟩
theorem o2_I {T : TC} {C : Int → Int → Prop} {g : Int → Int → V} {i j : Int} {d : PyData} (hc : C i j) (hg : ∀ I, Rp T I (g i j) d) : Op2 T (rI C g) (.da (.int i)) (.da (.int j)) (.da d) := Op2.pure fun I H v u hv hu _ Q k => by
  cases hv
  cases hu
  exact ⟨i, j, rfl, rfl, hc, k _ (hg I)⟩
section
variable {i j : Int}
theorem xe_add (ha : XE X a Γ (.da (.int i)) Γ1) (hb : XE X b Γ1 (.da (.int j)) Γ2) : XE X (.BinOp a .Add b pos) Γ (.da (.int (i + j))) Γ2 := xe_bin op_add (o2_I0 fun _ => .int _) ha hb
theorem xe_sub (ha : XE X a Γ (.da (.int i)) Γ1) (hb : XE X b Γ1 (.da (.int j)) Γ2) : XE X (.BinOp a .Sub b pos) Γ (.da (.int (i - j))) Γ2 := xe_bin op_sub (o2_I0 fun _ => .int _) ha hb
theorem xe_mul (hc : CMul i j) (ha : XE X a Γ (.da (.int i)) Γ1) (hb : XE X b Γ1 (.da (.int j)) Γ2) : XE X (.BinOp a .Mult b pos) Γ (.da (.int (i * j))) Γ2 := xe_bin op_mul (o2_I hc fun _ => .int _) ha hb
theorem xe_mod (hc : 0 < j) (ha : XE X a Γ (.da (.int i)) Γ1) (hb : XE X b Γ1 (.da (.int j)) Γ2) : XE X (.BinOp a .Mod b pos) Γ (.da (.int (i % j))) Γ2 := xe_bin op_mod (o2_I (C := fun _ j => 0 < j) hc fun _ => .int _) ha hb
theorem xe_fdiv (hc : CDiv i j) (ha : XE X a Γ (.da (.int i)) Γ1) (hb : XE X b Γ1 (.da (.int j)) Γ2) : XE X (.BinOp a .FloorDiv b pos) Γ (.da (.int (i / j))) Γ2 := xe_bin op_fdiv (o2_I hc fun _ => .int _) ha hb
theorem xe_pow (hc : CPow i j) (ha : XE X a Γ (.da (.int i)) Γ1) (hb : XE X b Γ1 (.da (.int j)) Γ2) : XE X (.BinOp a .Pow b pos) Γ (.da (.int (i ^ j.toNat))) Γ2 := xe_bin op_pow (o2_I hc fun _ => .int _) ha hb
theorem we_un {op : UnaryOp} {ru : V → Hp → VK → Prop} {d d' : PyData} (ho : UnR X (unaryOp op) ru) (q : ∀ (I H : Hp) (v : V) (Q : VK), Rp X.tc I v d → (∀ u, Rp X.tc I u d' → Q u H) → ru v H Q) (ha : XE X a Γ (.da d) Γ1) : XE X (.UnaryOp op a pos) Γ (.da d') Γ1 := by
  intro Ψ hq I H σ F en Q k
  refine ⟨_, pe_un ho wpE_ok, ha (fun r Γ' => r = .da d ∧ Γ' = Γ1) ⟨rfl, rfl⟩ I H σ F en _ ?_⟩
  rintro _ _ I' H' v F' ⟨rfl, rfl⟩ st en'
  obtain ⟨B, G, rfl, o, en2, up⟩ := en'.pop
  cases o with
  | da h => exact q I' H' v Q h fun u hu => k _ _ I' H' u _ hq st (en2.da hu)
theorem xe_neg (ha : XE X a Γ (.da (.int i)) Γ1) : XE X (.UnaryOp .USub a pos) Γ (.da (.int (-i))) Γ1 := we_un un_neg (fun I H v Q h k => by
  cases h
  exact ⟨i, rfl, k _ (.int _)⟩) ha
end
/-! ### comparisons -/
theorem we_cmp {op : CmpOp} (ho : OpR X (compareOp op) wr) (hm : behindInMarks op b = false) (h : WE X a Γ fun x Γ1 => WE X b Γ1 fun y Γ2 => ∃ z, Op2 X.tc wr x y z ∧ Ψ z Γ2) : WE X (.Compare a [op] [b] pos) Γ Ψ := fun I H σ F en Q k => ⟨_, pe_cmpR ho wpE_ok wpE_ok hm, two_core h I H σ F en Q k⟩
theorem xe_cmp {op : CmpOp} (ho : OpR X (compareOp op) wr) (hm : behindInMarks op b = false) (q : Op2 X.tc wr x y z) (ha : XE X a Γ x Γ1) (hb : XE X b Γ1 y Γ2) : XE X (.Compare a [op] [b] pos) Γ z Γ2 := fun _ hq => we_cmp ho hm (ha _ (hb _ ⟨z, q, hq⟩))
/-- the end of a test by value -/
theorem test_end {I H : Hp} {σ : L2.St} {F : List Addr} {Q : Bool → Hp → Prop} (k : ∀ (b : Bool) (Γ' : Sl) (I' H' : Hp) (F' : List Addr), Φt b Γ' → Step I H F I' H' F' → EnvF X.tc I' H' σ Γ' F' → Q b H') :
    ∀ (r : OD) (Γ' : Sl) (I' H' : Hp) (v : V) (F' : List Addr), (∃ k, r = .da (.bool k) ∧ Φt k Γ') → Step I H F I' H' F' → EnvF X.tc I' H' (some v :: σ) (some r :: Γ') F' → ∃ k, v = .bl k ∧ Q k H' := by
  rintro r Γ' I' H' v F' ⟨kk, rfl, hq⟩ st en'
  obtain ⟨B, G, rfl, o, en2, up⟩ := en'.pop
  cases o with
  | da hh =>
    cases hh
    exact ⟨kk, rfl, k kk Γ' I' H' _ hq st en2⟩
theorem wt_cmp {op : CmpOp} (ho : OpR X (compareOp op) wr) (hm : behindInMarks op b = false) (h : WE X a Γ fun x Γ1 => WE X b Γ1 fun y Γ2 => ∃ k, Op2 X.tc wr x y (.da (.bool k)) ∧ Φt k Γ2) : WT X (.Compare a [op] [b] pos) Γ Φt :=
  fun I H σ F en Q k => ⟨_, pt_cmpR ho wpE_ok wpE_ok hm, two_core (h.mono fun x Γ1 h1 => h1.mono fun y Γ2 ⟨k, q1, q2⟩ => ⟨_, q1, k, rfl, q2⟩) I H σ F en _ (test_end k)⟩
theorem xt_cmp {op : CmpOp} (ho : OpR X (compareOp op) wr) (hm : behindInMarks op b = false) (q : Op2 X.tc wr x y (.da (.bool k))) (ha : XE X a Γ x Γ1) (hb : XE X b Γ1 y Γ2) : XT X (.Compare a [op] [b] pos) Γ k Γ2 := fun _ hq => wt_cmp ho hm (ha _ (hb _ ⟨k, q, hq⟩))
/-- an expression that answers a truth value, as a test -/
theorem wt_val (h : WE X e Γ fun r Γ1 => ∃ k, r = .da (.bool k) ∧ Φt k Γ1) (he : ∀ whole, isTrue e X.env whole = (do let v ← whole; standAt e.pos; holding [v] (truthy v)) := by intro _; rfl) : WT X e Γ Φt :=
  fun I H σ F en Q k => ⟨_, pt_val wpE_ok he, h I H σ F en _ (test_end k)⟩
theorem xt_val (h : XE X e Γ (.da (.bool k)) Γ1) (he : ∀ whole, isTrue e X.env whole = (do let v ← whole; standAt e.pos; holding [v] (truthy v)) := by intro _; rfl) : XT X e Γ k Γ1 := fun _ hq => wt_val (h _ ⟨k, rfl, hq⟩) he
section
variable {i j : Int}
theorem o2_bl {T : TC} {g : Int → Int → Bool} : Op2 T (rI0 fun i j => .bl (g i j)) (.da (.int i)) (.da (.int j)) (.da (.bool (g i j))) := o2_I0 fun _ => .bl _
theorem xt_lt (ha : XE X a Γ (.da (.int i)) Γ1) (hb : XE X b Γ1 (.da (.int j)) Γ2) : XT X (.Compare a [.Lt] [b] pos) Γ (decide (i < j)) Γ2 := xt_cmp op_lt (nomark _) o2_bl ha hb
theorem xt_le (ha : XE X a Γ (.da (.int i)) Γ1) (hb : XE X b Γ1 (.da (.int j)) Γ2) : XT X (.Compare a [.LtE] [b] pos) Γ (decide (i ≤ j)) Γ2 := xt_cmp op_le (nomark _) o2_bl ha hb
theorem xt_gt (ha : XE X a Γ (.da (.int i)) Γ1) (hb : XE X b Γ1 (.da (.int j)) Γ2) : XT X (.Compare a [.Gt] [b] pos) Γ (decide (j < i)) Γ2 := xt_cmp op_gt (nomark _) o2_bl ha hb
end
end
end TL
/-! TL4: arguments, calls, displays, freezing, statements. -/
namespace TL
open PySem PySem.Spec PyProof.Rows L2
section
variable {T : TC} {I H I' H' : Hp} {σ σ' : L2.St} {Γ Γ' : Sl} {F F' G G' B : List Addr} {v : V} {r : OD}
theorem EnvF.popL : ∀ {vs : List V} {rs : List OD} {F : List Addr}, EnvF T I H (vs.map some ++ σ) (rs.map some ++ Γ) F → vs.length = rs.length → ∃ B G, F = B ++ G ∧ OwnL T I H vs rs B ∧ EnvF T I H σ Γ G
  | [], [], F, en, _ => ⟨[], F, rfl, .nil, en⟩
  | v :: vs, r :: rs, F, en, hl => by
    obtain ⟨B, G, rfl, o, en', _⟩ := EnvF.pop (v := v) (r := r) (σ := vs.map some ++ σ) (Γ := rs.map some ++ Γ) en
    obtain ⟨B2, G2, rfl, o2, en2⟩ := EnvF.popL en' (by simpa using hl)
    exact ⟨B ++ B2, G2, by rw [List.append_assoc], .cons o o2, en2⟩
  | [], _ :: _, _, _, hl => by simp at hl
  | _ :: _, [], _, _, hl => by simp at hl
theorem nd_mid {α : Type} {A B C D : List α} (h : (D ++ (A ++ (B ++ C))).Nodup) : (A ++ (D ++ C)).Nodup := by
  have p : (A ++ (D ++ C)).Perm (D ++ (A ++ C)) := by
    rw [← List.append_assoc, ← List.append_assoc]
    exact List.perm_append_comm.append_right C
  refine p.nodup_iff.mpr (h.sublist ?_)
  exact (List.Sublist.refl D).append ((List.Sublist.refl A).append (List.sublist_append_right B C))
/-- an own thing comes into a slot whose value it is -/
theorem EnvF.into {i : Nat} {x : OD} (en : EnvF T I H σ Γ G) (hi : σ[i]? = some (some v)) (o : Own T I H v x B) (nd : (B ++ G).Nodup) : ∃ F', EnvF T I H σ (Γ.set i (some x)) F' ∧ F'.Nodup ∧ ∀ b ∈ F', b ∈ B ∨ b ∈ G := by
  have hl : i < Γ.length := by
    rw [← en.env.length]
    exact (List.getElem?_eq_some_iff.mp hi).1
  obtain ⟨A, B0, C, rfl, k, _, _⟩ := en.env.put hl
  have q := k (Same.refl I) (H' := H) (v' := v) (y := x) (B' := B) (fun b hb => ⟨rfl, (en.env.cells b (by
    rcases List.mem_append.mp hb with hb | hb
    · exact List.mem_append_left _ hb
    · exact List.mem_append_right _ (List.mem_append_right _ hb))).2⟩) o
  have e : σ.set i (some v) = σ := by
    have hs := (List.getElem?_eq_some_iff.mp hi)
    obtain ⟨h1, h2⟩ := hs
    rw [← h2]
    exact List.set_getElem_self h1
  rw [e] at q
  refine ⟨_, ⟨q, nd_mid nd, en.sub⟩, nd_mid nd, fun b hb => ?_⟩
  rcases List.mem_append.mp hb with hb | hb
  · exact .inr (List.mem_append_left _ hb)
  · rcases List.mem_append.mp hb with hb | hb
    · exact .inl hb
    · exact .inr (List.mem_append_right _ (List.mem_append_right _ hb))
end
def putBack : List (Option Nat) → List OD → Sl → Sl
  | some i :: refs, a :: as, Γ => putBack refs as (Γ.set i (some a))
  | none :: refs, _ :: as, Γ => putBack refs as Γ
  | _, _, Γ => Γ
theorem RefsOk.tail {o : Option Nat} {refs : List (Option Nat)} {v : V} {vs : List V} {σ : L2.St} (h : RefsOk (o :: refs) (v :: vs) σ) : RefsOk refs vs σ := fun k i e => by
  obtain ⟨u, h1, h2⟩ := h (k + 1) i (by simpa using e)
  exact ⟨u, by simpa using h1, h2⟩
theorem RefsOk.none {refs : List (Option Nat)} {v : V} {vs : List V} {σ : L2.St} (h : RefsOk refs vs σ) : RefsOk (Option.none :: refs) (v :: vs) σ := fun k i e => by
  cases k with
  | zero => simp at e
  | succ k => exact h k i (by simpa using e)
theorem RefsOk.some {j : Nat} {refs : List (Option Nat)} {v : V} {vs : List V} {σ : L2.St} (hj : σ[j]? = some (some v)) (h : RefsOk refs vs σ) : RefsOk (Option.some j :: refs) (v :: vs) σ := fun k i e => by
  cases k with
  | zero =>
    simp at e
    subst e
    exact ⟨v, rfl, hj⟩
  | succ k => exact h k i (by simpa using e)
theorem putBack_env {T : TC} {I H : Hp} {σ : L2.St} : ∀ {refs : List (Option Nat)} {as : List OD} {vs : List V} {B : List Addr} {Γ : Sl} {G : List Addr}, OwnL T I H vs as B → RefsOk refs vs σ → EnvF T I H σ Γ G → (B ++ G).Nodup →
    ∃ F', EnvF T I H σ (putBack refs as Γ) F' ∧ ∀ b ∈ F', b ∈ B ∨ b ∈ G
  | [], as, _, B, Γ, G, _, _, en, _ => by cases as <;> exact ⟨G, en, fun b hb => .inr hb⟩
  | some i :: refs, [], _, _, Γ, G, .nil, _, en, _ => ⟨G, en, fun b hb => .inr hb⟩
  | none :: refs, [], _, _, Γ, G, .nil, _, en, _ => ⟨G, en, fun b hb => .inr hb⟩
  | none :: refs, a :: as, _, _, Γ, G, .cons (F := B1) (G := B2) o os, hr, en, nd => by
    have nd' : (B2 ++ G).Nodup := by
      rw [List.append_assoc] at nd
      exact (List.nodup_append.mp nd).2.1
    obtain ⟨F', en', k⟩ := putBack_env os hr.tail en nd'
    exact ⟨F', en', fun b hb => (k b hb).imp (List.mem_append_right _) id⟩
  | some i :: refs, a :: as, _, _, Γ, G, .cons (F := B1) (G := B2) (v := v) o os, hr, en, nd => by
    have hi : σ[i]? = some (some v) := by
      obtain ⟨u, h1, h2⟩ := hr 0 i rfl
      simp at h1
      subst h1
      exact h2
    rw [List.append_assoc] at nd
    have nd1 : (B1 ++ G).Nodup := nd.sublist ((List.Sublist.refl B1).append (List.sublist_append_right B2 G))
    obtain ⟨F1, en1, nF, k1⟩ := en.into hi o nd1
    have nd2 : (B2 ++ F1).Nodup := by
      have h := List.nodup_append.mp nd
      have h2 := List.nodup_append.mp h.2.1
      refine List.nodup_append.mpr ⟨h2.1, nF, fun x hx y hy q => ?_⟩
      subst q
      rcases k1 x hy with z | z
      · exact h.2.2 x z x (List.mem_append_left _ hx) rfl
      · exact h2.2.2 x hx x z rfl
    obtain ⟨F', en', k⟩ := putBack_env os hr.tail en1 nd2
    refine ⟨F', en', fun b hb => ?_⟩
    rcases k b hb with z | z
    · exact .inl (List.mem_append_right _ z)
    · rcases k1 b z with z | z
      · exact .inl (List.mem_append_left _ z)
      · exact .inr z
section
variable {X : Cx} {e a b c o : Expr} {es : List Expr} {Γ Γ' Γ1 Γ2 : Sl} {Ψ : OD → Sl → Prop} {Ψa : List OD → List (Option Nat) → Sl → Prop} {Φt : Bool → Sl → Prop} {pos p : Pos} {r x y z : OD} {k k' : Bool} {nm : Str}
/-! ### arguments -/
theorem wa_nil (h : Ψa [] [] Γ) : WA X [] Γ Ψa := fun I H σ F en Q k => ⟨_, pa_nil, k [] [] Γ I H [] F h rfl rfl (fun k i e => by simp at e) .refl en⟩
theorem wa_cons (h : WE X e Γ fun r Γ1 => WA X es Γ1 fun rs refs Γ2 => Ψa (r :: rs) (none :: refs) Γ2) (hs : starEach (e :: es) X.env = (false, eval e X.env) :: starEach es X.env := by rfl) : WA X (e :: es) Γ Ψa := by
  intro I H σ F en Q k
  refine ⟨_, pa_cons wpE_ok wpA_ok hs, h I H σ F en _ fun x Γ1 I1 H1 v F1 h1 st1 en1 => ?_⟩
  obtain ⟨B, G, rfl, o1, en1', up⟩ := en1.pop
  refine h1 I1 H1 σ G en1' _ fun rs refs Γ2 I2 H2 vs F2 h2 l1 l2 rk st2 en2 => ?_
  obtain ⟨en3, st3, _⟩ := up st2 en2
  exact k (x :: rs) (none :: refs) Γ2 I2 H2 (v :: vs) _ h2 (by simp [l1]) (by simp [l2]) rk.none (st1.trans st3) en3
/-- an own thing that stands in a slot, handed over -/
theorem wa_ref (i : Nat) {x : OD} (h : WA X es (Γ.set i none) fun rs refs Γ2 => Ψa (x :: rs) (some i :: refs) Γ2) (hx : Γ[i]? = some (some x) := by rfl) (hN : X.N[i]? = some nm := by rfl)
    (hv : Vis X.env.scope nm := by first | exact Or.inl rfl | exact Or.inr (Or.inl rfl) | exact Or.inr (Or.inr rfl)) (h1 : (nm == ("__debug__" : Str)) = false := by decide) (h2 : (nm == ("__classdict__" : Str)) = false := by decide)
    (hs : starEach (.Name nm p :: es) X.env = (false, eval (.Name nm p) X.env) :: starEach es X.env := by rfl) : WA X (.Name nm p :: es) Γ Ψa := by
  intro I H σ F en Q k
  obtain ⟨v, B, G, e1, o, en', nd, mem⟩ := en.take hx
  refine ⟨_, pa_cons (pe_var hN hv h1 h2) wpA_ok hs, v, e1, ?_⟩
  have en1 : EnvF X.tc I H (some v :: σ) (some x :: Γ.set i none) (B ++ G) := ⟨.cons o en'.env, nd, en.sub⟩
  have st1 : Step I H F I H (B ++ G) := Step.less fun b hb => (mem b).mpr (List.mem_append.mp hb)
  obtain ⟨B', G', e2, o1, en1', up⟩ := en1.pop
  refine h I H σ G' en1' _ fun rs refs Γ2 I2 H2 vs F2 h2 l1 l2 rk st2 en2 => ?_
  obtain ⟨en3, st3, _⟩ := up st2 en2
  exact k (x :: rs) (some i :: refs) Γ2 I2 H2 (v :: vs) _ h2 (by simp [l1]) (by simp [l2]) (rk.some e1) (st1.trans st3) en3
end
end TL
/-! TL5: calls of built-ins and of defs, displays, freezing, small statements. -/
namespace TL
open PySem PySem.Spec PyProof.Rows L2
/-- what a call by values makes of own things -/
def OpL (T : TC) (f : List V → Hp → VK → Prop) (rs : List OD) (z : OD) : Prop := ∀ (I H : Hp) (vs : List V) (B : List Addr), OwnL T I H vs rs B → B.Nodup → Same I H → ∀ Q : VK,
  (∀ (I' H' : Hp) (w : V) (B' : List Addr), Step I H B I' H' B' → Own T I' H' w z B' → B'.Nodup → Same I' H' → Q w H') → f vs H Q
theorem upd_sub {I H : Hp} {a : Addr} {o : HO} (s : Same I H) (h : H a = none) : Same I (upd H a o) := fun b u e => by rw [upd_ne (ne_of_none (s b u e) h)]; exact s b u e
theorem upd_up {H : Hp} {a : Addr} {o : HO} (h : H a = none) : Same H (upd H a o) := fun b u e => by rw [upd_ne (ne_of_none e h)]; exact e
theorem upd_both {I H : Hp} {a : Addr} {o : HO} (s : Same I H) : Same (upd I a o) (upd H a o) := fun b u e => by
  by_cases hb : b = a
  · subst hb
    rw [upd_same] at e ⊢
    exact e
  · rw [upd_ne hb] at e ⊢
    exact s b u e
/-- a new frozen thing -/
theorem step_frz {I H : Hp} {F : List Addr} {a : Addr} {o : HO} (s : Same I H) (h : H a = none) : Step I H F (upd I a o) (upd H a o) F :=
  ⟨upd_up (s.free h), fun b u e i n => by
    have hb : b ≠ a := ne_of_none e h
    exact ⟨by rw [upd_ne hb]; exact e, by rw [upd_ne hb]; exact i, n⟩⟩
/-- a new own thing -/
theorem step_new {I H : Hp} {F : List Addr} {a : Addr} {o : HO} (h : H a = none) : Step I H F I (upd H a o) (a :: F) :=
  ⟨Same.refl I, fun b u e i n => by
    have hb : b ≠ a := ne_of_none e h
    exact ⟨by rw [upd_ne hb]; exact e, i, fun q => (List.mem_cons.mp q).elim hb n⟩⟩
/-- an own thing changed -/
theorem step_upd {I H : Hp} {F : List Addr} {a : Addr} {o : HO} (h : a ∈ F) : Step I H F I (upd H a o) F :=
  ⟨Same.refl I, fun b u e i n => by
    have hb : b ≠ a := fun q => n (q ▸ h)
    exact ⟨by rw [upd_ne hb]; exact e, i, n⟩⟩
theorem ownL_da {T : TC} {I H : Hp} : ∀ {ds : List PyData} {vs : List V} {B : List Addr}, OwnL T I H vs (ds.map OD.da) B → B = [] ∧ RpL T I vs ds
  | [], _, _, .nil => ⟨rfl, .nil⟩
  | d :: ds, _, _, .cons (.da h) r => by
    obtain ⟨rfl, q⟩ := ownL_da r
    exact ⟨rfl, .cons h q⟩
section
variable {X : Cx} {e a b c o : Expr} {es : List Expr} {Γ Γ' Γ1 Γ2 : Sl} {Ψ : OD → Sl → Prop} {Ψa : List OD → List (Option Nat) → Sl → Prop} {Φt : Bool → Sl → Prop} {pos p : Pos} {r x y z : OD} {k k' : Bool} {nm : Str}
variable {wl : List V → Hp → VK → Prop} {id : String}
/-- the end of a call by values -/
theorem call_end {I H I1 H1 : Hp} {σ : L2.St} {F F1 : List Addr} {Q : VK} {rs : List OD} {vs : List V} (op : OpL X.tc wl rs z) (hq : Ψ z Γ1) (l1 : vs.length = rs.length) (st1 : Step I H F I1 H1 F1) (en1 : EnvF X.tc I1 H1 (vs.map some ++ σ) (rs.map some ++ Γ1) F1)
    (k : ∀ (r : OD) (Γ' : Sl) (I' H' : Hp) (v : V) (F' : List Addr), Ψ r Γ' → Step I H F I' H' F' → EnvF X.tc I' H' (some v :: σ) (some r :: Γ') F' → Q v H') : wl vs H1 Q := by
  obtain ⟨B, G, rfl, ol, en2⟩ := en1.popL l1
  refine op I1 H1 vs B ol (List.nodup_append.mp en1.nd).1 en1.sub Q fun I2 H2 w B2 st2 o2 nd2 sub2 => ?_
  obtain ⟨en3, st3⟩ := en2.use en1.nd st2 o2 nd2 sub2
  exact k z Γ1 I2 H2 w _ hq (st1.trans st3) en3
theorem we_callB (hc : CallR X (.builtin id) wl) (hg : Gl X nm) (hm : X.mg nm = none) (hv : bootBuiltins nm = some (.builtin id)) (h : WA X (e :: es) Γ fun rs _ Γ1 => ∃ z, OpL X.tc wl rs z ∧ Ψ z Γ1)
    (hn : nm ≠ "__name__" := by decide) (hdb : (nm == ("__debug__" : Str)) = false := by decide) (he : starEach (e :: es) X.env = (false, eval e X.env) :: starEach es X.env := by rfl) (hpl : (backTo pos (starEach es X.env)).any (·.1) = false := by rfl) :
    WE X (.Call (.Name nm p) (e :: es) [] pos) Γ Ψ := fun I H σ F en Q k => ⟨_, pe_callB hc hg hm hv wpA_ok hn hdb he hpl, h I H σ F en _ fun _ _ _ _ _ _ _ h1 l1 _ _ st en1 => let ⟨_, op, hq⟩ := h1; call_end op hq l1 st en1 k⟩
theorem we_callTy {Ty : String} (hc : CallR X (.type Ty) wl) (hg : Gl X nm) (hm : X.mg nm = none) (hv : bootBuiltins nm = some (.type Ty)) (h : WA X (e :: es) Γ fun rs _ Γ1 => ∃ z, OpL X.tc wl rs z ∧ Ψ z Γ1)
    (hn : nm ≠ "__name__" := by decide) (hdb : (nm == ("__debug__" : Str)) = false := by decide) (he : starEach (e :: es) X.env = (false, eval e X.env) :: starEach es X.env := by rfl) (hpl : (backTo pos (starEach es X.env)).any (·.1) = false := by rfl) :
    WE X (.Call (.Name nm p) (e :: es) [] pos) Γ Ψ := fun I H σ F en Q k => ⟨_, pe_callTy hc hg hm hv wpA_ok hn hdb he hpl, h I H σ F en _ fun _ _ _ _ _ _ _ h1 l1 _ _ st en1 => let ⟨_, op, hq⟩ := h1; call_end op hq l1 st en1 k⟩
/-- one argument of one answer -/
theorem xe_callB1 (hc : CallR X (.builtin id) wl) (q : OpL X.tc wl [x] z) (hg : Gl X nm) (hm : X.mg nm = none) (hv : bootBuiltins nm = some (.builtin id)) (h : XE X e Γ x Γ1)
    (hn : nm ≠ "__name__" := by decide) (hdb : (nm == ("__debug__" : Str)) = false := by decide) (he : starEach [e] X.env = (false, eval e X.env) :: starEach [] X.env := by rfl) (hpl : (backTo pos (starEach [] X.env)).any (·.1) = false := by rfl) :
    XE X (.Call (.Name nm p) [e] [] pos) Γ z Γ1 := fun _ hq => we_callB hc hg hm hv (wa_cons (h _ (wa_nil ⟨z, q, hq⟩)) he) hn hdb he hpl
theorem xe_callB2 (hc : CallR X (.builtin id) wl) (q : OpL X.tc wl [x, y] z) (hg : Gl X nm) (hm : X.mg nm = none) (hv : bootBuiltins nm = some (.builtin id)) (h : XE X a Γ x Γ1) (h2 : XE X b Γ1 y Γ2)
    (hn : nm ≠ "__name__" := by decide) (hdb : (nm == ("__debug__" : Str)) = false := by decide) (he : starEach [a, b] X.env = (false, eval a X.env) :: starEach [b] X.env := by rfl) (he2 : starEach [b] X.env = (false, eval b X.env) :: starEach [] X.env := by rfl) (hpl : (backTo pos (starEach [b] X.env)).any (·.1) = false := by rfl) :
    XE X (.Call (.Name nm p) [a, b] [] pos) Γ z Γ2 := fun _ hq => we_callB hc hg hm hv (wa_cons (h _ (wa_cons (h2 _ (wa_nil ⟨z, q, hq⟩)) he2)) he) hn hdb he hpl
theorem xe_callTy1 {Ty : String} (hc : CallR X (.type Ty) wl) (q : OpL X.tc wl [x] z) (hg : Gl X nm) (hm : X.mg nm = none) (hv : bootBuiltins nm = some (.type Ty)) (h : XE X e Γ x Γ1)
    (hn : nm ≠ "__name__" := by decide) (hdb : (nm == ("__debug__" : Str)) = false := by decide) (he : starEach [e] X.env = (false, eval e X.env) :: starEach [] X.env := by rfl) (hpl : (backTo pos (starEach [] X.env)).any (·.1) = false := by rfl) :
    XE X (.Call (.Name nm p) [e] [] pos) Γ z Γ1 := fun _ hq => we_callTy hc hg hm hv (wa_cons (h _ (wa_nil ⟨z, q, hq⟩)) he) hn hdb he hpl
/-! ### calls of defs -/
theorem call_fin {sp : SpD} {I H I1 H1 : Hp} {σ : L2.St} {F F1 : List Addr} {Q : VK} {rs : List OD} {refs : List (Option Nat)} {vs : List V} (h1 : sp rs fun r as' => Ψ r (putBack refs as' Γ1)) (l1 : vs.length = rs.length) (rk : RefsOk refs vs σ)
    (st1 : Step I H F I1 H1 F1) (en1 : EnvF X.tc I1 H1 (vs.map some ++ σ) (rs.map some ++ Γ1) F1)
    (k : ∀ (r : OD) (Γ' : Sl) (I' H' : Hp) (v : V) (F' : List Addr), Ψ r Γ' → Step I H F I' H' F' → EnvF X.tc I' H' (some v :: σ) (some r :: Γ') F' → Q v H') : mkSp X.tc sp vs H1 Q E0 := by
  obtain ⟨B, G, rfl, ol, en2⟩ := en1.popL l1
  have hd := List.nodup_append.mp en1.nd
  refine ⟨I1, rs, B, _, ol, hd.1, en1.sub, h1, fun r as' I2 H2 v B2 hΨ st2 o2 nd2 sub2 => ?_⟩
  have kp : ∀ b ∈ G, H2 b = H1 b ∧ I2 b = none ∧ b ∉ B2 := fun b hb => by
    obtain ⟨⟨ob, h3⟩, h4⟩ := en2.env.cells b hb
    obtain ⟨h5, h6, h7⟩ := st2.oth b ob h3 h4 fun q => hd.2.2 b q b hb rfl
    exact ⟨h5.trans h3.symm, h6, h7⟩
  have en3 : EnvF X.tc I2 H2 σ Γ1 G := ⟨en2.env.frame st2.inc fun b hb => ⟨(kp b hb).1, (kp b hb).2.1⟩, hd.2.1, sub2⟩
  cases o2 with
  | cons orr oas =>
    rename_i Br Ba
    have ndB := List.nodup_append.mp nd2
    have nd4 : (Ba ++ G).Nodup := List.nodup_append.mpr ⟨ndB.2.1, hd.2.1, fun x hx y hy q => by
      subst q
      exact (kp x hy).2.2 (List.mem_append_right _ hx)⟩
    obtain ⟨F', en5, mem⟩ := putBack_env oas rk en3 nd4
    refine k r _ I2 H2 v (Br ++ F') hΨ (st1.trans ⟨st2.inc, fun b ob e i n => ?_⟩) ⟨.cons orr en5.env, List.nodup_append.mpr ⟨ndB.1, en5.nd, fun x hx y hy q => ?_⟩, sub2⟩
    · rw [List.mem_append, not_or] at n
      obtain ⟨h3, h4, h5⟩ := st2.oth b ob e i n.1
      rw [List.mem_append, not_or] at h5
      exact ⟨h3, h4, fun q => (List.mem_append.mp q).elim h5.1 fun q => (mem b q).elim h5.2 n.2⟩
    · subst q
      rcases mem x hy with z | z
      · exact ndB.2.2 x hx x z rfl
      · exact (kp x z).2.2 (List.mem_append_left _ hx)
variable {kk : Nat} {f : Addr} {fd : FuncData} {ps : List Str} {sp : SpD}
theorem we_call (G : FnG X.prog X.w X.K X.mg X.base CX0 kk f fd ps (mkSp X.tc sp)) (hr : Room kk X.A) (hgd : X.A.guards = some []) (hg : Gl X nm) (hm : X.mg nm = some (.ref f)) (hk : PySem.W.keepIn X.K (.ref f) = true) (hb : Binds X.K fd ps [])
    (h : WA X (e :: es) Γ fun rs refs Γ1 => sp rs fun r as' => Ψ r (putBack refs as' Γ1)) (hdb : (nm == ("__debug__" : Str)) = false := by decide) (he : starEach (e :: es) X.env = (false, eval e X.env) :: starEach es X.env := by rfl)
    (hpl : (backTo pos (starEach es X.env)).any (·.1) = false := by rfl) : WE X (.Call (.Name nm p) (e :: es) [] pos) Γ Ψ := fun I H σ F en Q k =>
  ⟨_, pe_callG G hr hgd hg hm hk hb pass0 wpA_ok hdb he hpl, h I H σ F en _ fun rs refs Γ1 I1 H1 vs F1 h1 l1 l2 rk st en1 => by rw [List.append_nil]; exact call_fin h1 l1 rk st en1 k⟩
/-! ### displays -/
/-- an operation that lays one frozen tuple -/
theorem opl_tup {T : TC} {ds : List PyData} (hl : ds.length ≤ sizeLine) : OpL T (fun xs H Q => xs.length ≤ sizeLine ∧ ∀ p, H p = none → Q (.ref p) (upd H p (.tup xs))) (ds.map .da) (.da (.tuple ds)) := by
  intro I H vs B o nd sub Q k
  obtain ⟨rfl, r⟩ := ownL_da o
  refine ⟨by rw [r.length]; exact hl, fun p hp => k (upd I p (.tup vs)) _ _ [] (step_frz sub hp) (.da (.tup (SqT.of upd_same) (r.mono (upd_up (sub.free hp))))) List.nodup_nil (upd_both sub)⟩
theorem opl_lst {T : TC} {ds : List PyData} (hl : ds.length ≤ sizeLine) : OpL T (fun xs H Q => xs.length ≤ sizeLine ∧ ∀ p, H p = none → Q (.ref p) (upd H p (.lst xs))) (ds.map .da) (.ll ds) := by
  intro I H vs B o nd sub Q k
  obtain ⟨rfl, r⟩ := ownL_da o
  exact ⟨by rw [r.length]; exact hl, fun p hp => k I _ _ [p] (step_new hp) (.ll upd_same (sub.free hp) r) (by simp) (upd_sub sub hp)⟩
theorem we_tup {x1} (h : WA X es Γ fun rs _ Γ1 => ∃ ds, rs = ds.map .da ∧ ds.length ≤ sizeLine ∧ Ψ (.da (.tuple ds)) Γ1) : WE X (.Tuple es x1 pos) Γ Ψ := fun I H σ F en Q k =>
  ⟨_, pe_tup wpA_ok, h I H σ F en _ fun _ _ _ _ _ _ _ h1 l1 _ _ st en1 => by
    obtain ⟨ds, rfl, hl, hq⟩ := h1
    exact call_end (opl_tup hl) hq l1 st en1 k⟩
theorem we_lst (h : WA X es Γ fun rs _ Γ1 => ∃ ds, rs = ds.map .da ∧ ds.length ≤ sizeLine ∧ Ψ (.ll ds) Γ1) : WE X (.List es pos) Γ Ψ := fun I H σ F en Q k =>
  ⟨_, pe_lst wpA_ok, h I H σ F en _ fun _ _ _ _ _ _ _ h1 l1 _ _ st en1 => by
    obtain ⟨ds, rfl, hl, hq⟩ := h1
    exact call_end (opl_lst hl) hq l1 st en1 k⟩
theorem xe_tup1 {d : PyData} {x1} (h : XE X a Γ (.da d) Γ1) (hs : starEach [a] X.env = (false, eval a X.env) :: starEach [] X.env := by rfl) : XE X (.Tuple [a] x1 pos) Γ (.da (.tuple [d])) Γ1 :=
  fun _ hq => we_tup (wa_cons (h _ (wa_nil ⟨[d], rfl, by show 1 ≤ sizeLine; decide, hq⟩)) hs)
theorem xe_tup2 {d d' : PyData} {x1} (h : XE X a Γ (.da d) Γ1) (h2 : XE X b Γ1 (.da d') Γ2) (hs : starEach [a, b] X.env = (false, eval a X.env) :: starEach [b] X.env := by rfl) (hs2 : starEach [b] X.env = (false, eval b X.env) :: starEach [] X.env := by rfl) :
    XE X (.Tuple [a, b] x1 pos) Γ (.da (.tuple [d, d'])) Γ2 := fun _ hq => we_tup (wa_cons (h _ (wa_cons (h2 _ (wa_nil ⟨[d, d'], rfl, by show 2 ≤ sizeLine; decide, hq⟩)) hs2)) hs)
theorem xe_tup0 {x1} : XE X (.Tuple [] x1 pos) Γ (.da (.tuple [])) Γ := fun _ hq => we_tup (wa_nil ⟨[], rfl, Nat.zero_le _, hq⟩)
theorem xe_lst0 : XE X (.List [] pos) Γ (.ll []) Γ := fun _ hq => we_lst (wa_nil ⟨[], rfl, Nat.zero_le _, hq⟩)
/-! ### freezing -/
mutual
inductive Frz : OD → PyData → Prop
  | da {d : PyData} : Frz (.da d) d
  | ll {ds : List PyData} : Frz (.ll ds) (.list ds)
  | ls {xs : List OD} {ds : List PyData} : FrzL xs ds → Frz (.ls xs) (.list ds)
inductive FrzL : List OD → List PyData → Prop
  | nil : FrzL [] []
  | cons {x : OD} {xs : List OD} {d : PyData} {ds : List PyData} : Frz x d → FrzL xs ds → FrzL (x :: xs) (d :: ds)
end
mutual
theorem Frz.rp {T : TC} {I I' H : Hp} (s : Same I I') : ∀ {x : OD} {d : PyData} {v : V} {B : List Addr}, Frz x d → Own T I H v x B → (∀ b ∈ B, I' b = H b) → Rp T I' v d
  | _, _, _, _, .da, .da h, _ => h.mono s
  | _, _, _, _, .ll, .ll h _ r, k => .lst (SqL.of ((k _ (List.mem_singleton.mpr rfl)).trans h)) (r.mono s)
  | _, _, _, _, .ls f, .ls h _ r, k => .lst (SqL.of ((k _ List.mem_cons_self).trans h)) (FrzL.rp s f r fun b hb => k b (List.mem_cons_of_mem _ hb))
theorem FrzL.rp {T : TC} {I I' H : Hp} (s : Same I I') : ∀ {xs : List OD} {ds : List PyData} {vs : List V} {B : List Addr}, FrzL xs ds → OwnL T I H vs xs B → (∀ b ∈ B, I' b = H b) → RpL T I' vs ds
  | _, _, _, _, .nil, .nil, _ => .nil
  | _, _, _, _, .cons f g, .cons o r, k => .cons (f.rp s o fun b hb => k b (List.mem_append_left _ hb)) (FrzL.rp s g r fun b hb => k b (List.mem_append_right _ hb))
end
/-- the frozen heap with the cells B frozen too -/
def frzH (I H : Hp) (B : List Addr) : Hp := fun b => if b ∈ B then H b else I b
theorem frzH_inc {I H : Hp} {B : List Addr} (h : ∀ b ∈ B, I b = none) : Same I (frzH I H B) := fun b o e => by
  unfold frzH
  by_cases hb : b ∈ B
  · rw [h b hb] at e
    cases e
  · rw [if_neg hb]
    exact e
theorem frzH_sub {I H : Hp} {B : List Addr} (s : Same I H) : Same (frzH I H B) H := fun b o e => by
  unfold frzH at e
  by_cases hb : b ∈ B
  · rw [if_pos hb] at e
    exact e
  · rw [if_neg hb] at e
    exact s b o e
theorem frzH_out {I H : Hp} {B : List Addr} {b : Addr} (hb : b ∉ B) : frzH I H B b = I b := if_neg hb
theorem frzH_in {I H : Hp} {B : List Addr} {b : Addr} (hb : b ∈ B) : frzH I H B b = H b := if_pos hb
/-- the value on top frozen -/
theorem EnvF.frz {T : TC} {I H : Hp} {σ : L2.St} {v : V} {d : PyData} {F : List Addr} (en : EnvF T I H (some v :: σ) (some x :: Γ) F) (f : Frz x d) : ∃ I' F', Step I H F I' H F' ∧ EnvF T I' H (some v :: σ) (some (.da d) :: Γ) F' := by
  obtain ⟨B, G, rfl, o, en', _⟩ := en.pop
  have hd := List.nodup_append.mp en.nd
  have c0 : ∀ b ∈ B, I b = none := fun b hb => (o.cells b hb).2
  have inc := frzH_inc (H := H) c0
  have nG : ∀ b ∈ G, frzH I H B b = none := fun b hb => by
    rw [frzH_out fun q => hd.2.2 b q b hb rfl]
    exact (en'.env.cells b hb).2
  refine ⟨frzH I H B, G, ⟨inc, fun b ob h1 h2 n => ?_⟩, ?_⟩
  · rw [List.mem_append, not_or] at n
    exact ⟨h1, by rw [frzH_out n.1]; exact h2, n.2⟩
  · have e2 : EnvF T (frzH I H B) H σ Γ G := ⟨en'.env.frame inc fun b hb => ⟨rfl, nG b hb⟩, hd.2.1, frzH_sub en.sub⟩
    exact e2.da (f.rp inc o fun b hb => frzH_in hb)
theorem we_frz (h : WE X e Γ fun r Γ1 => ∃ d, Frz r d ∧ Ψ (.da d) Γ1) : WE X e Γ Ψ := fun I H σ F en Q k => h I H σ F en Q fun r Γ1 I1 H1 v F1 ⟨d, f, hq⟩ st en1 => by
  obtain ⟨I2, F2, st2, en2⟩ := en1.frz f
  exact k _ Γ1 I2 H1 v F2 hq (st.trans st2) en2
theorem xe_frz {ds : List PyData} (h : XE X e Γ (.ll ds) Γ1) : XE X e Γ (.da (.list ds)) Γ1 := fun _ hq => we_frz (h _ ⟨_, .ll, hq⟩)
/-- an own thing read out of its slot -/
theorem xe_move (i : Nat) {x : OD} (hx : Γ[i]? = some (some x) := by rfl) (hN : X.N[i]? = some nm := by rfl) (hv : Vis X.env.scope nm := by first | exact Or.inl rfl | exact Or.inr (Or.inl rfl) | exact Or.inr (Or.inr rfl))
    (h1 : (nm == ("__debug__" : Str)) = false := by decide) (h2 : (nm == ("__classdict__" : Str)) = false := by decide) : XE X (.Name nm p) Γ x (Γ.set i none) := fun Ψ hq I H σ F en Q k => by
  obtain ⟨v, B, G, e1, o, en', nd, mem⟩ := en.take hx
  exact ⟨_, pe_var hN hv h1 h2, v, e1, k x _ I H v (B ++ G) hq (Step.less fun b hb => (mem b).mpr (List.mem_append.mp hb)) ⟨.cons o en'.env, nd, en.sub⟩⟩
/-- an own list in a slot, read as frozen from now on -/
theorem EnvF.frzAt {T : TC} {I H : Hp} {σ : L2.St} {i : Nat} {d : PyData} {F : List Addr} (en : EnvF T I H σ Γ F) (hx : Γ[i]? = some (some x)) (f : Frz x d) : ∃ I' F', Step I H F I' H F' ∧ EnvF T I' H σ (Γ.set i (some (.da d))) F' := by
  obtain ⟨v, B, G, e1, o, en', nd, mem⟩ := en.take hx
  have en1 : EnvF T I H (some v :: σ) (some x :: Γ.set i none) (B ++ G) := ⟨.cons o en'.env, nd, en.sub⟩
  obtain ⟨I', F', st, en2⟩ := en1.frz f
  obtain ⟨B2, G2, rfl, o2, en3, _⟩ := en2.pop
  cases o2 with
  | da h =>
    obtain ⟨F3, en4, nd4, m4⟩ := en3.into (B := []) (x := .da d) e1 (.da h) en3.nd
    rw [List.set_set] at en4
    exact ⟨I', F3, st.of_mem (fun b hb => (mem b).mpr (List.mem_append.mp hb)) fun b hb => (m4 b hb).elim (fun q => absurd q (by simp)) id, en4⟩
end
end TL
/-! TL6: statements. -/
namespace TL
open PySem PySem.Spec PyProof.Rows L2
section
variable {X : Cx} {e a b c o : Expr} {es : List Expr} {ss rest A B : List Stmt} {st : Stmt} {Γ Γ' Γ1 Γ2 : Sl} {Ψ : OD → Sl → Prop} {Φ : Out → Prop} {Φt : Bool → Sl → Prop} {pos p : Pos} {r x y z : OD} {k k' : Bool} {nm : Str}
theorem ws_nil (h : Φ (.nx Γ)) : WSs X [] Γ Φ := fun I H σ F en D e => ⟨_, pss_nil, e.nx h .refl en⟩
theorem ws_expr (h : WE X e Γ fun _ Γ1 => WSs X rest Γ1 Φ) (hs : swapsWith e none pos.line X.env = pure false := by rfl) : WSs X (.Expr e pos :: rest) Γ Φ := fun I H σ F en D ek =>
  ⟨_, pss_cons (ps_expr wpE_ok hs) wpSs_ok, h I H σ F en _ fun r Γ1 I1 H1 v F1 h1 st1 en1 => by
    obtain ⟨B, G, rfl, o1, en2, _⟩ := en1.pop
    have st2 : Step I H F I1 H1 G := step_sub st1 fun b hb => List.mem_append_right _ hb
    exact h1 I1 H1 σ G en2 D (ek.step st2)⟩
theorem ws_ret (h : WE X e Γ fun r Γ1 => Φ (.rt r Γ1)) : WSs X (.Return (some e) pos :: rest) Γ Φ := fun I H σ F en D ek =>
  ⟨_, pss_cons (ps_ret wpE_ok) wpSs_ok, h I H σ F en _ fun r Γ1 I1 H1 v F1 h1 st1 en1 => ek.rt h1 st1 en1⟩
theorem xs_ret (h : XE X e Γ r Γ1) (q : Φ (.rt r Γ1)) : WSs X (.Return (some e) pos :: rest) Γ Φ := ws_ret (h _ q)
/-! ### names stored -/
theorem EnvF.store {T : TC} {I H : Hp} {σ : L2.St} {i : Nat} {v : V} {F : List Addr} (en : EnvF T I H (some v :: σ) (some r :: Γ) F) (hi : i < Γ.length) : ∃ F', EnvF T I H (σ.set i (some v)) (Γ.set i (some r)) F' ∧ ∀ b ∈ F', b ∈ F := by
  obtain ⟨B, G, rfl, o, en', _⟩ := en.pop
  obtain ⟨A, B0, C, rfl, kk, _, _⟩ := en'.env.put hi
  have q := kk (Same.refl I) (H' := H) (v' := v) (y := r) (B' := B) (fun b hb => ⟨rfl, (en'.env.cells b (by
    rcases List.mem_append.mp hb with hb | hb
    · exact List.mem_append_left _ hb
    · exact List.mem_append_right _ (List.mem_append_right _ hb))).2⟩) o
  refine ⟨_, ⟨q, nd_mid en.nd, en.sub⟩, fun b hb => ?_⟩
  rcases List.mem_append.mp hb with hb | hb
  · exact List.mem_append_right _ (List.mem_append_left _ hb)
  · rcases List.mem_append.mp hb with hb | hb
    · exact List.mem_append_left _ hb
    · exact List.mem_append_right _ (List.mem_append_right _ (List.mem_append_right _ hb))
theorem EnvF.len_eq1 {T : TC} {I H : Hp} {σ : L2.St} {v : V} {F F1 : List Addr} {I1 H1 : Hp} (en : EnvF T I H σ Γ F) (en1 : EnvF T I1 H1 (some v :: σ) (some r :: Γ1) F1) : Γ1.length = Γ.length := by
  have q := en1.env.length
  have q2 := en.env.length
  simp at q
  omega
theorem ws_set (i : Nat) (hN : X.N.Nodup) (h : WE X e Γ fun r Γ1 => WSs X rest (Γ1.set i (some r)) Φ) (hi : X.N[i]? = some nm := by rfl) (hx : Loc X.env.scope nm := by first | exact Or.inl rfl | exact Or.inr rfl)
    (hl : Nat.blt i Γ.length = true := by rfl) (hs : swapsWith e (some (.Name nm p)) pos.line X.env = pure false := by rfl) (hf : X.fn nm = true ∨ X.env.scope.names.lookup nm = some .local := by first | exact .inl rfl | exact .inr rfl) : WSs X (.Assign [.Name nm p] e pos :: rest) Γ Φ :=
  fun I H σ F en D ek => ⟨_, pss_cons (ps_set hN hi hx wpE_ok hs hf) wpSs_ok, h I H σ F en _ fun r Γ1 I1 H1 v F1 h1 st1 en1 => by
    have hl1 : i < Γ1.length := by rw [en.len_eq1 en1]; exact Nat.le_of_ble_eq_true hl
    obtain ⟨F2, en2, m2⟩ := en1.store hl1
    exact h1 I1 H1 _ F2 en2 D (ek.step (step_sub st1 m2))⟩
theorem xs_set (i : Nat) (hN : X.N.Nodup) (h : XE X e Γ r Γ1) (q : WSs X rest (Γ1.set i (some r)) Φ) (hi : X.N[i]? = some nm := by rfl) (hx : Loc X.env.scope nm := by first | exact Or.inl rfl | exact Or.inr rfl)
    (hl : Nat.blt i Γ.length = true := by rfl) (hs : swapsWith e (some (.Name nm p)) pos.line X.env = pure false := by rfl) (hf : X.fn nm = true ∨ X.env.scope.names.lookup nm = some .local := by first | exact .inl rfl | exact .inr rfl) : WSs X (.Assign [.Name nm p] e pos :: rest) Γ Φ :=
  ws_set i hN (h _ q) hi hx hl hs hf
/-! ### if -/
/-- what a branch is to come to: its end goes on with the rest -/
def thn2 (X : Cx) (rest : List Stmt) (Φ : Out → Prop) : Out → Prop
  | .nx Γ => WSs X rest Γ Φ
  | o => Φ o
theorem ends_thn {I H : Hp} {F : List Addr} {D : Ends} (ek : EndsOk X.tc I H F Φ D) : EndsOk X.tc I H F (thn2 X rest Φ) { D with nx := wpSs X rest D } :=
  ⟨fun a st en => a _ _ _ _ en D (ek.step st), fun a st en => ek.rt a st en, fun a st en => ek.bk a st en, fun a st en => ek.ct a st en⟩
theorem ws_if (h : WT X c Γ fun k Γ1 => (k = true → WSs X A Γ1 (thn2 X rest Φ)) ∧ (k = false → WSs X B Γ1 (thn2 X rest Φ))) : WSs X (.If c A B pos :: rest) Γ Φ := fun I H σ F en D ek =>
  ⟨_, pss_cons (ps_if wpT_ok wpSs_ok wpSs_ok) wpSs_ok, h I H σ F en _ fun k Γ1 I1 H1 F1 h1 st1 en1 => by
    have ek1 := ends_thn (rest := rest) (ek.step st1)
    cases k with
    | true => exact h1.1 rfl I1 H1 σ F1 en1 _ ek1
    | false => exact h1.2 rfl I1 H1 σ F1 en1 _ ek1⟩
theorem xs_if (h : XT X c Γ k Γ1) (h1 : k = true → WSs X A Γ1 (thn2 X rest Φ)) (h2 : k = false → WSs X B Γ1 (thn2 X rest Φ)) : WSs X (.If c A B pos :: rest) Γ Φ := ws_if (h _ ⟨h1, h2⟩)
/-! ### ghost steps -/
theorem ws_frz (i : Nat) {d : PyData} (f : Frz x d) (h : WSs X ss (Γ.set i (some (.da d))) Φ) (hx : Γ[i]? = some (some x) := by rfl) : WSs X ss Γ Φ := fun I H σ F en D ek => by
  obtain ⟨I', F', st, en'⟩ := en.frzAt hx f
  exact h I' H σ F' en' D (ek.step st)
theorem ws_drop (i : Nat) (h : WSs X ss (Γ.set i none) Φ) : WSs X ss Γ Φ := fun I H σ F en D ek => by
  by_cases hi : i < Γ.length
  · obtain ⟨A, B, C, rfl, _, _, h6⟩ := en.env.put hi
    have sl : (A ++ C).Sublist (A ++ (B ++ C)) := (List.Sublist.refl A).append (List.sublist_append_right B C)
    exact h I H σ _ ⟨h6, en.nd.sublist sl, en.sub⟩ D (ek.step (Step.less fun b hb => sl.subset hb))
  · have e : Γ.set i none = Γ := by rw [List.set_eq_of_length_le (by omega)]
    rw [e] at h
    exact h I H σ F en D ek
/-- a slot seen otherwise -/
theorem ws_conv (i : Nat) (cv : ∀ (I H : Hp) (v : V) (B : List Addr), Own X.tc I H v x B → Own X.tc I H v y B) (h : WSs X ss (Γ.set i (some y)) Φ) (hx : Γ[i]? = some (some x) := by rfl) : WSs X ss Γ Φ := fun I H σ F en D ek => by
  obtain ⟨v, B, G, e1, o, en', nd, mem⟩ := en.take hx
  obtain ⟨F', en2, nd2, m2⟩ := en'.into e1 (cv _ _ _ _ o) nd
  rw [List.set_set] at en2
  exact h I H σ F' en2 D (ek.step (Step.less fun b hb => (mem b).mpr (m2 b hb)))
/-! ### loops over data -/
/-- J gives ds, one after another, while the frozen heap is at least I -/
structure IsIt (T : TC) (J : It) (ds : List PyData) (I : Hp) : Prop where
  go : ∀ (i : Nat) (I' H : Hp), Same I I' → Same I' H → i < ds.length → J.go i H
  stop : ∀ (I' H : Hp), Same I I' → Same I' H → J.stop ds.length H
  yld : ∀ (i : Nat) (I' H : Hp) (v : V) (H' : Hp), Same I I' → Same I' H → i < ds.length → J.yld i H v H' → ∃ I'' d, ds[i]? = some d ∧ Step I' H [] I'' H' [] ∧ Same I'' H' ∧ Rp T I'' v d
def wpI (X : Cx) (tg it : Expr) : TI := fun σ H R => ∃ t, PI X tg it t ∧ t σ H R
theorem wpI_ok {tg it : Expr} : PI X tg it (wpI X tg it) := ⟨fun pins s σ H Q I ⟨_, h, q⟩ => h.run pins s σ H Q I q⟩
def WI (X : Cx) (tg it : Expr) (Γ : Sl) (Ψ : List PyData → Sl → Prop) : Prop := ∀ (I H : Hp) (σ : L2.St) (F : List Addr), EnvF X.tc I H σ Γ F → ∀ R : It → Hp → Prop,
  (∀ (ds : List PyData) (Γ' : Sl) (I' H' : Hp) (F' : List Addr) (J : It), Ψ ds Γ' → Step I H F I' H' F' → EnvF X.tc I' H' σ Γ' F' → IsIt X.tc J ds I' → R J H') → wpI X tg it σ H R
def XI (X : Cx) (tg it : Expr) (Γ : Sl) (ds : List PyData) (Γ' : Sl) : Prop := ∀ Ψ : List PyData → Sl → Prop, Ψ ds Γ' → WI X tg it Γ Ψ
/-- targets: a name, a tuple of targets -/
def wpG (X : Cx) (tg : Expr) : TG := fun v σ H Q => ∃ t, PG X tg t ∧ t v σ H Q
theorem wpG_ok {tg : Expr} : PG X tg (wpG X tg) := ⟨fun pins s σ H v u Q I r ⟨_, h, q⟩ => h.run pins s σ H v u Q I r q⟩
def WG (X : Cx) (tg : Expr) (r : OD) (Γ : Sl) (Ψ : Sl → Prop) : Prop := ∀ (I H : Hp) (σ : L2.St) (F : List Addr) (v : V), EnvF X.tc I H (some v :: σ) (some r :: Γ) F → ∀ Q : L2.St → Hp → Prop,
  (∀ (Γ' : Sl) (I' H' : Hp) (σ' : L2.St) (F' : List Addr), Ψ Γ' → Step I H F I' H' F' → EnvF X.tc I' H' σ' Γ' F' → Q σ' H') → wpG X tg v σ H Q
theorem wg_name (i : Nat) {Ψ : Sl → Prop} (hN : X.N.Nodup) (h : Ψ (Γ.set i (some r))) (hi : X.N[i]? = some nm := by rfl) (hx : Loc X.env.scope nm := by first | exact Or.inl rfl | exact Or.inr rfl) (hl : Nat.blt i Γ.length = true := by rfl)
    (hf : X.fn nm = true ∨ X.env.scope.names.lookup nm = some .local := by first | exact .inl rfl | exact .inr rfl) : WG X (.Name nm p) r Γ Ψ := fun I H σ F v en Q k => by
  obtain ⟨F2, en2, m2⟩ := en.store (Nat.le_of_ble_eq_true hl)
  exact ⟨_, pg_name hN hi hx hf, k _ I H _ F2 h (Step.less m2) en2⟩
def loopΦ (J : Sl → Prop) (Φ : Out → Prop) : Out → Prop
  | .nx Γ => J Γ
  | .ct Γ => J Γ
  | .bk Γ => Φ (.nx Γ)
  | .rt r Γ => Φ (.rt r Γ)
theorem ws_for {tg it : Expr} {body : List Stmt} (J : List PyData → Nat → Sl → Prop) (hp : PassesOwn (model X.prog X.w) X.A X.env X.xe) (hc : X.calm = true)
    (hi : WI X tg it Γ fun ds Γ1 => J ds 0 Γ1 ∧ (∀ (n : Nat) (d : PyData) (Γ2 : Sl), ds[n]? = some d → J ds n Γ2 → WG X tg (.da d) Γ2 fun Γ3 => WSs X body Γ3 (loopΦ (J ds (n + 1)) (thn2 X rest Φ))) ∧ ∀ Γ2, J ds ds.length Γ2 → WSs X rest Γ2 Φ)
    (hs : ∀ x, foldedSetIterable it X.env x = pure x := by intro _; rfl) : WSs X (.For tg it body [] pos :: rest) Γ Φ := by
  intro I H σ F en D ek
  refine ⟨_, pss_cons (ps_for hp hc wpI_ok wpG_ok wpSs_ok hs) wpSs_ok, hi I H σ F en _ fun ds Γ1 I1 H1 F1 Jt h1 st1 en1 isit => ?_⟩
  obtain ⟨j0, turn, fin⟩ := h1
  refine ⟨fun n m σ' H' => m = ds.length - n ∧ n ≤ ds.length ∧ ∃ Γ2 I2 F2, J ds n Γ2 ∧ Step I1 H1 F1 I2 H' F2 ∧ EnvF X.tc I2 H' σ' Γ2 F2, ⟨_, rfl, Nat.zero_le _, Γ1, I1, F1, j0, .refl, en1⟩, ?_⟩
  rintro n m σ2 H2 ⟨rfl, hn, Γ2, I2, F2, jn, st2, en2⟩
  by_cases hlt : n < ds.length
  · refine .inr ⟨isit.go n I2 H2 st2.inc en2.sub hlt, fun σ' H' => ∃ Γ3 I3 F3, J ds (n + 1) Γ3 ∧ Step I1 H1 F1 I3 H' F3 ∧ EnvF X.tc I3 H' σ' Γ3 F3, fun σ' H' ⟨Γ3, I3, F3, j3, st3, en3⟩ => ⟨ds.length - (n + 1), by omega, rfl, hlt, Γ3, I3, F3, j3, st3, en3⟩, fun v H3 hy => ?_⟩
    obtain ⟨I3, d, hd, st3, sub3, hr⟩ := isit.yld n I2 H2 v H3 st2.inc en2.sub hlt hy
    obtain ⟨en3, st3'⟩ := en2.grow st3 sub3
    refine turn n d Γ2 hd jn I3 H3 σ2 F2 v (en3.da hr) _ fun Γ4 I4 H4 σ4 F4 h4 st4 en4 => ?_
    have st14 := (st2.trans st3').trans st4
    refine h4 I4 H4 σ4 F4 en4 _ ⟨fun a st en => ?_, fun a st en => ?_, fun a st en => ?_, fun a st en => ?_⟩
    · exact ⟨_, _, _, a, st14.trans st, en⟩
    · exact ek.rt a (st1.trans (st14.trans st)) en
    · exact a _ _ _ _ en D (ek.step (st1.trans (st14.trans st)))
    · exact ⟨_, _, _, a, st14.trans st, en⟩
  · have e : n = ds.length := by omega
    subst e
    exact .inl ⟨isit.stop I2 H2 st2.inc en2.sub, fin Γ2 jn I2 H2 σ2 F2 en2 D (ek.step (st1.trans st2))⟩
/-! ### while -/
end
end TL
/-! TL7: own lists in slots: index, store, append, pop, len; built-ins by values. -/
namespace TL
open PySem PySem.Spec PyProof.Rows L2
/-- an own list of data, its value known or not -/
inductive VLL : OD → List PyData → (List PyData → OD) → Prop
  | ll {ds : List PyData} : VLL (.ll ds) ds .ll
  | pin {v : V} {ds : List PyData} : VLL (.pin v (.ll ds)) ds fun ds => .pin v (.ll ds)
theorem VLL.own {T : TC} {I H : Hp} {v : V} {B : List Addr} {x : OD} {ds : List PyData} {mk : List PyData → OD} (h : VLL x ds mk) (o : Own T I H v x B) :
    ∃ p vs, v = .ref p ∧ B = [p] ∧ H p = some (.lst vs) ∧ I p = none ∧ RpL T I vs ds ∧ ∀ (H' : Hp) (vs' : List V) (ds' : List PyData), H' p = some (.lst vs') → RpL T I vs' ds' → Own T I H' v (mk ds') [p] := by
  cases h with
  | ll => cases o with
    | ll h1 h2 h3 => exact ⟨_, _, rfl, rfl, h1, h2, h3, fun H' vs' ds' e r => .ll e h2 r⟩
  | pin => cases o with
    | pin o => cases o with
      | ll h1 h2 h3 => exact ⟨_, _, rfl, rfl, h1, h2, h3, fun H' vs' ds' e r => .pin (.ll e h2 r)⟩
section
variable {T : TC} {I H : Hp} {σ : L2.St} {Γ : Sl} {F : List Addr} {i : Nat} {x : OD} {ds : List PyData} {mk : List PyData → OD}
/-- the list in the i-th slot, and how it is changed -/
theorem EnvF.ll (en : EnvF T I H σ Γ F) (hx : Γ[i]? = some (some x)) (hv : VLL x ds mk) : ∃ p vs, σ[i]? = some (some (.ref p)) ∧ H p = some (.lst vs) ∧ RpL T I vs ds ∧
    ∀ (vs' : List V) (ds' : List PyData), RpL T I vs' ds' → ∃ F', EnvF T I (upd H p (.lst vs')) σ (Γ.set i (some (mk ds'))) F' ∧ Step I H F I (upd H p (.lst vs')) F' := by
  obtain ⟨v, B, G, e1, o, en', nd, mem⟩ := en.take hx
  obtain ⟨p, vs, rfl, rfl, h1, h2, h3, h4⟩ := hv.own o
  refine ⟨p, vs, e1, h1, h3, fun vs' ds' r => ?_⟩
  have np : p ∉ G := (List.nodup_cons.mp (show (p :: G).Nodup from nd)).1
  have en2 : EnvF T I (upd H p (.lst vs')) σ (Γ.set i none) G := ⟨en'.env.frame (Same.refl I) fun b hb => ⟨upd_ne fun q => np (q ▸ hb), (en'.env.cells b hb).2⟩, en'.nd, fun b u e => by
    rw [upd_ne fun q => by
      subst q
      rw [h2] at e
      cases e]
    exact en.sub b u e⟩
  obtain ⟨F', en3, nd3, m3⟩ := en2.into e1 (h4 _ vs' ds' upd_same r) nd
  rw [List.set_set] at en3
  exact ⟨F', en3, (step_upd (F := F) ((mem p).mpr (.inl (List.mem_singleton.mpr rfl)))).of_mem (fun b hb => hb) fun b hb => (mem b).mpr (m3 b hb)⟩
end
section
variable {X : Cx} {e a b c o : Expr} {es : List Expr} {rest : List Stmt} {Γ Γ' Γ1 Γ2 : Sl} {Ψ : OD → Sl → Prop} {Φ : Out → Prop} {Φt : Bool → Sl → Prop} {pos p apos : Pos} {r x y z : OD} {k k' : Bool} {nm : Str} {ds : List PyData} {mk : List PyData → OD} {d : PyData}
theorem atI_rp {T : TC} {I : Hp} {vs : List V} {ds : List PyData} {j : Int} {d : PyData} (r : RpL T I vs ds) (h : atI ds j = some d) : ∃ v, atI vs j = some v ∧ Rp T I v d := by
  unfold atI at h ⊢
  rw [← r.length] at h
  cases e : ixN vs.length j with
  | none =>
    rw [e] at h
    cases h
  | some n =>
    rw [e] at h
    exact r.get h
/-- xs[j], xs an own list in the i-th slot -/
theorem xe_ixll (i : Nat) {j : Int} (hb : XE X b Γ (.da (.int j)) Γ1) (hx : Γ[i]? = some (some x) := by rfl) (hx1 : Γ1[i]? = some (some x) := by rfl) (hv : VLL x ds mk := by first | exact .ll | exact .pin) (hd : atI ds j = some d := by rfl)
    (hs : PlainIx b := by exact fun _ _ => rfl) (hN : X.N[i]? = some nm := by rfl) (hvs : Vis X.env.scope nm := by first | exact Or.inl rfl | exact Or.inr (Or.inl rfl) | exact Or.inr (Or.inr rfl)) (h1 : (nm == ("__debug__" : Str)) = false := by decide) (h2 : (nm == ("__classdict__" : Str)) = false := by decide) :
    XE X (.Subscript (.Name nm p) b pos) Γ (.da d) Γ1 := fun Ψ hq I H σ F en Q kk => by
  obtain ⟨q, vs, e1, _, _, _⟩ := en.ll hx hv
  refine ⟨_, pe_ix ix_list (pe_var hN hvs h1 h2) wpE_ok hs, _, e1, hb (fun r Γ' => r = .da (.int j) ∧ Γ' = Γ1) ⟨rfl, rfl⟩ I H σ F en _ ?_⟩
  rintro _ _ I1 H1 u F1 ⟨rfl, rfl⟩ st1 en1
  obtain ⟨B, G, rfl, oo, en2, up⟩ := en1.pop
  cases oo with
  | da hh =>
    cases hh
    obtain ⟨q', vs', e1', h3, h4, _⟩ := en2.ll hx1 hv
    rw [e1] at e1'
    cases e1'
    obtain ⟨w, hw, rw'⟩ := atI_rp h4 hd
    exact ⟨q, vs', j, w, rfl, rfl, SqL.of h3, hw, kk _ _ I1 H1 w _ hq st1 (en2.da rw')⟩
/-- xs[j] = e -/
theorem ws_setll (i : Nat) {j : Int} {n : Nat} (h : WE X e Γ fun r Γ1 => ∃ d x ds mk, r = .da d ∧ Γ1[i]? = some (some x) ∧ VLL x ds mk ∧ ixN ds.length j = some n ∧ XE X b Γ1 (.da (.int j)) Γ1 ∧ WSs X rest (Γ1.set i (some (mk (ds.set n d)))) Φ)
    (hN : X.N[i]? = some nm := by rfl) (hvs : Vis X.env.scope nm := by first | exact Or.inl rfl | exact Or.inr (Or.inl rfl) | exact Or.inr (Or.inr rfl)) (h1 : (nm == ("__debug__" : Str)) = false := by decide) (h2 : (nm == ("__classdict__" : Str)) = false := by decide)
    (hs : swapsWithSole [.Subscript (.Name nm p) b pos] e apos.line X.env = pure false := by rfl) (hw : swappedStores [.Subscript (.Name nm p) b pos] e X.env = pure none := by rfl)
    (h5 : (assignEach [.Subscript (.Name nm p) b pos] X.env).map (·.2) = [assign (.Subscript (.Name nm p) b pos) X.env] := by rfl)
    (ha : ∀ v, assign (.Subscript (.Name nm p) b pos) X.env v = (do
      let ov ← holding [v] (eval (.Name nm p) X.env)
      let iv ← holding [v, ov] (eval b X.env)
      standAt pos
      holding [v, ov, iv] (setItem ov iv v)
      release [v, ov, iv] []) := by intro _; rfl) : WSs X (.Assign [.Subscript (.Name nm p) b pos] e apos :: rest) Γ Φ := fun I H σ F en D ek => by
  refine ⟨_, pss_cons (ps_asg wpE_ok (pg_sub (pe_var hN hvs h1 h2) wpE_ok set_list ha) hs hw h5) wpSs_ok, h I H σ F en _ ?_⟩
  rintro r Γ1 I1 H1 v F1 ⟨d, x, ds, mk, rfl, hx, hv, hj, hb, hq⟩ st1 en1
  obtain ⟨B, G, rfl, oo, en2, up⟩ := en1.pop
  cases oo with
  | da hd =>
    obtain ⟨q, vs, e1, _, _, _⟩ := en2.ll hx hv
    refine ⟨_, e1, hb (fun r Γ' => r = .da (.int j) ∧ Γ' = Γ1) ⟨rfl, rfl⟩ I1 H1 σ G en2 _ ?_⟩
    rintro _ _ I2 H2 u F2 ⟨rfl, rfl⟩ st2 en3
    obtain ⟨B2, G2, rfl, oo2, en4, _⟩ := en3.pop
    cases oo2 with
    | da hh =>
      cases hh
      obtain ⟨q', vs', e1', h3, h4, h6⟩ := en4.ll hx hv
      rw [e1] at e1'
      cases e1'
      obtain ⟨F5, en5, st5⟩ := h6 (vs'.set n v) (ds.set n d) (RpL.set (hd.mono st2.inc) n h4)
      exact ⟨q, vs', j, n, rfl, rfl, h3, by rw [h4.length]; exact hj, hq I2 _ σ F5 en5 D (ek.step ((st1.trans st2).trans st5))⟩
/-- xs.append(e) -/
theorem we_append (i : Nat) (h : WE X e Γ fun r Γ1 => ∃ d x ds mk, r = .da d ∧ Γ1[i]? = some (some x) ∧ VLL x ds mk ∧ ds.length < sizeLine ∧ Ψ (.da .none) (Γ1.set i (some (mk (ds ++ [d])))))
    (hx : Γ[i]? = some (some x) := by rfl) (hv : VLL x ds mk := by first | exact .ll | exact .pin) (hN : X.N[i]? = some nm := by rfl) (hvs : Vis X.env.scope nm := by first | exact Or.inl rfl | exact Or.inr (Or.inl rfl) | exact Or.inr (Or.inr rfl)) (h1 : (nm == ("__debug__" : Str)) = false := by decide) (h2 : (nm == ("__classdict__" : Str)) = false := by decide)
    (hst : starEach [e] X.env = (false, eval e X.env) :: starEach [] X.env := by rfl)
    (hb : attributeBase (.Name nm p) "append" X.env (eval (.Name nm p) X.env) = eval (.Name nm p) X.env := by rfl)
    (hfew : ((backTo pos (starEach [e] X.env)).all (fun x => !x.1) && (backToKw pos (keywordEach [] X.env)).all (fun x => x.1.isSome)
      && decide (([e] : List Expr).length + ([] : List Keyword).length + (if ([] : List Keyword).isEmpty then 0 else 1) < 30)) = true := by rfl) (hline : (apos.endLine == pos.line) = true := by rfl) (hs2 : (backTo pos (starEach [] X.env)).any (·.1) = false := by rfl) :
    WE X (.Call (.Attribute (.Name nm p) "append" apos) [e] [] pos) Γ Ψ := fun I H σ F en Q kk => by
  refine ⟨_, pe_bm PySem.F.plainAttrs_list PySem.F.slot_list_append PySem.F.type_list_append mt_append (pe_var hN hvs h1 h2) (pa_cons wpE_ok pa_nil hst) hb hfew hline hst hs2, ?_⟩
  obtain ⟨q, vs, e1, g1, _, _⟩ := en.ll hx hv
  refine ⟨_, e1, .inl ⟨rfl, _, SqL.of g1⟩, h I H σ F en _ ?_⟩
  rintro r Γ1 I1 H1 v F1 ⟨d, x, ds, mk, rfl, hx1, hv1, hlt, hq⟩ st1 en1
  obtain ⟨B, G, rfl, oo, en2, up⟩ := en1.pop
  cases oo with
  | da hd =>
    obtain ⟨q', vs', e1', h3, h4, h6⟩ := en2.ll hx1 hv1
    rw [e1] at e1'
    cases e1'
    obtain ⟨F5, en5, st5⟩ := h6 (vs' ++ [v]) (ds ++ [d]) (RpL.append h4 (.cons hd .nil))
    exact ⟨q, vs', v, rfl, rfl, h3, by rw [h4.length]; exact hlt, kk _ _ I1 _ .non F5 hq (st1.trans st5) (en5.da .non)⟩
end
end TL
/-! TL8: defs as facts, built-ins by values, the drawing's state. -/
namespace TL
open PySem PySem.Spec PyProof.Rows L2
/-- a def of the text, what it is worth -/
def Def (P : Program) (w : World) (K : PySem.W.Frag) (mg : Str → Option Value) (bs : Heap) (k : Nat) (nm : Str) (ps : List Str) (sp : SpD) : Prop :=
  ∃ f fd, FnG P w K mg bs CX0 k f fd ps (mkSp ⟨P, w, K⟩ sp) ∧ mg nm = some (.ref f) ∧ PySem.W.keepIn K (.ref f) = true ∧ Binds K fd ps []
/-- the built-ins that no def shadows -/
structure Blt (mg : Str → Option Value) : Prop where
  len : mg "len" = none
  int : mg "int" = none
  abs : mg "abs" = none
  divmod : mg "divmod" = none
  list : mg "list" = none
  tuple : mg "tuple" = none
  range : mg "range" = none
  zip : mg "zip" = none
  enumerate : mg "enumerate" = none
  reversed : mg "reversed" = none
  sorted : mg "sorted" = none
  min : mg "min" = none
  max : mg "max" = none
  sum : mg "sum" = none
  all : mg "all" = none
  any : mg "any" = none
  set : mg "set" = none
  repr : mg "repr" = none
  str : mg "str" = none
  isinstance : mg "isinstance" = none
  bool : mg "bool" = none
  dict : mg "dict" = none
section
variable {X : Cx} {e a b c o : Expr} {es : List Expr} {ss rest : List Stmt} {Γ Γ' Γ1 Γ2 : Sl} {Ψ : OD → Sl → Prop} {Φ : Out → Prop} {Φt : Bool → Sl → Prop} {pos p apos : Pos} {r x y z : OD} {k k' : Bool} {nm : Str} {ds : List PyData} {mk : List PyData → OD} {d : PyData}
variable {kk : Nat} {ps : List Str} {sp : SpD}
theorem we_fn (G : Def X.prog X.w X.K X.mg X.base kk nm ps sp) (hr : Room kk X.A) (hgd : X.A.guards = some []) (h : WA X (e :: es) Γ fun rs refs Γ1 => sp rs fun r as' => Ψ r (putBack refs as' Γ1)) (hg : Gl X nm := by rfl)
    (hdb : (nm == ("__debug__" : Str)) = false := by decide) (he : starEach (e :: es) X.env = (false, eval e X.env) :: starEach es X.env := by rfl) (hpl : (backTo pos (starEach es X.env)).any (·.1) = false := by rfl) :
    WE X (.Call (.Name nm p) (e :: es) [] pos) Γ Ψ := let ⟨_, _, F, hm, hk, hb⟩ := G; we_call F hr hgd hg hm hk hb h hdb he hpl
theorem ws_convE (i : Nat) {ι : Type} {y : ι → OD} (cv : ∀ (I H : Hp) (v : V) (B : List Addr), Own X.tc I H v x B → ∃ j, Own X.tc I H v (y j) B) (h : ∀ j, WSs X ss (Γ.set i (some (y j))) Φ) (hx : Γ[i]? = some (some x) := by rfl) : WSs X ss Γ Φ := fun I H σ F en D ek => by
  obtain ⟨v, B, G, e1, o, en', nd, mem⟩ := en.take hx
  obtain ⟨j, oj⟩ := cv _ _ _ _ o
  obtain ⟨F', en2, nd2, m2⟩ := en'.into e1 oj nd
  rw [List.set_set] at en2
  exact h j I H σ F' en2 D (ek.step (Step.less fun b hb => (mem b).mpr (m2 b hb)))
/-! ### built-ins by values, from data to data -/
theorem OpL.pure {T : TC} {f : List V → Hp → VK → Prop} {ds : List PyData} {g : PyData} (h : ∀ (I H : Hp) (vs : List V), RpL T I vs ds → Same I H → ∀ Q : VK, (∀ w, Rp T I w g → Q w H) → f vs H Q) : OpL T f (ds.map .da) (.da g) := by
  intro I H vs B o nd sub Q k
  obtain ⟨rfl, r⟩ := ownL_da o
  exact h I H vs r sub Q fun w hw => k I H w [] Step.refl (.da hw) List.nodup_nil sub
theorem rpL1 {T : TC} {I : Hp} {vs : List V} {d : PyData} (r : RpL T I vs [d]) : ∃ v, vs = [v] ∧ Rp T I v d := by
  cases r with
  | cons h r =>
    cases r
    exact ⟨_, rfl, h⟩
theorem rpL2 {T : TC} {I : Hp} {vs : List V} {d d' : PyData} (r : RpL T I vs [d, d']) : ∃ v v', vs = [v, v'] ∧ Rp T I v d ∧ Rp T I v' d' := by
  cases r with
  | cons h r =>
    obtain ⟨v, rfl, h'⟩ := rpL1 r
    exact ⟨_, v, rfl, h, h'⟩
section
variable {i j : Int}
theorem xe_int1 (B : Blt X.mg) (ha : XE X a Γ (.da (.int i)) Γ1) (hg : Gl X "int" := by rfl) (he : starEach [a] X.env = (false, eval a X.env) :: starEach [] X.env := by rfl) (hpl : (backTo pos (starEach [] X.env)).any (·.1) = false := by rfl) :
    XE X (.Call (.Name "int" p) [a] [] pos) Γ (.da (.int i)) Γ1 := xe_callTy1 call_int1 (OpL.pure (ds := [.int i]) fun I H vs r _ Q k => by
      obtain ⟨v, rfl, h⟩ := rpL1 r
      cases h
      exact .inl ⟨i, rfl, k _ (.int i)⟩) hg B.int (by decide +kernel) ha (he := he) (hpl := hpl)
theorem xe_abs (B : Blt X.mg) (ha : XE X a Γ (.da (.int i)) Γ1) (hg : Gl X "abs" := by rfl) (he : starEach [a] X.env = (false, eval a X.env) :: starEach [] X.env := by rfl) (hpl : (backTo pos (starEach [] X.env)).any (·.1) = false := by rfl) :
    XE X (.Call (.Name "abs" p) [a] [] pos) Γ (.da (.int (if i < 0 then -i else i))) Γ1 := xe_callB1 call_abs (OpL.pure (ds := [.int i]) fun I H vs r _ Q k => by
      obtain ⟨v, rfl, h⟩ := rpL1 r
      cases h
      exact ⟨i, rfl, k _ (.int _)⟩) hg B.abs (by decide +kernel) ha (he := he) (hpl := hpl)
/-- len of a list or a tuple -/
theorem xe_len (B : Blt X.mg) (ha : XE X a Γ (.da d) Γ1) (hd : d = .list ds ∨ d = .tuple ds) (hg : Gl X "len" := by rfl) (he : starEach [a] X.env = (false, eval a X.env) :: starEach [] X.env := by rfl) (hpl : (backTo pos (starEach [] X.env)).any (·.1) = false := by rfl) :
    XE X (.Call (.Name "len" p) [a] [] pos) Γ (.da (.int ds.length)) Γ1 := xe_callB1 call_len_seq (OpL.pure (ds := [d]) fun I H vs r s Q k => by
      obtain ⟨v, rfl, h⟩ := rpL1 r
      rcases hd with rfl | rfl
      · cases h with
        | lst q r => exact ⟨_, _, rfl, .inl (s.seq q), by rw [r.length]; exact k _ (.int _)⟩
      · cases h with
        | tup q r => exact ⟨_, _, rfl, .inr (sqT_mono s q), by rw [r.length]; exact k _ (.int _)⟩) hg B.len PySem.boot_len ha (he := he) (hpl := hpl)
end
/-- d[j], d a list or a tuple -/
theorem xe_ix {j : Int} {dd : PyData} (ha : XE X a Γ (.da dd) Γ1) (hb : XE X b Γ1 (.da (.int j)) Γ2) (hd : dd = .list ds ∨ dd = .tuple ds) (hj : atI ds j = some d) (hs : PlainIx b := by exact fun _ _ => rfl) : XE X (.Subscript a b pos) Γ (.da d) Γ2 := fun Ψ hq I H σ F en Q k =>
  ⟨_, pe_ix ix_seq wpE_ok wpE_ok hs, two_core (ha _ (hb _ ⟨.da d, Op2.pure fun I H v u h1 h2 s Q k => by
    cases h2
    rcases hd with rfl | rfl
    · cases h1 with
      | lst q r =>
        obtain ⟨w, hw, rw'⟩ := atI_rp r hj
        exact .inl ⟨_, _, j, w, rfl, rfl, s.seq q, hw, k _ rw'⟩
    · cases h1 with
      | tup q r =>
        obtain ⟨w, hw, rw'⟩ := atI_rp r hj
        exact .inr (.inl ⟨_, _, j, w, rfl, rfl, sqT_mono s q, hw, k _ rw'⟩), hq⟩)) I H σ F en Q k⟩
/-! ### and, or, not; the conditional expression -/
theorem we_ifExp (h : WT X c Γ fun k Γ1 => (k = true → WE X a Γ1 Ψ) ∧ (k = false → WE X b Γ1 Ψ)) : WE X (.IfExp c a b pos) Γ Ψ := fun I H σ F en Q kq =>
  ⟨_, pe_ifExp wpT_ok wpE_ok wpE_ok, h I H σ F en _ fun k Γ1 I1 H1 F1 h1 st1 en1 => by
    cases k with
    | true => exact h1.1 rfl I1 H1 σ F1 en1 Q fun r Γ' I' H' v F' q st => kq r Γ' I' H' v F' q (st1.trans st)
    | false => exact h1.2 rfl I1 H1 σ F1 en1 Q fun r Γ' I' H' v F' q st => kq r Γ' I' H' v F' q (st1.trans st)⟩
theorem xe_ifExp {d1 d2 : PyData} (h : XT X c Γ k Γ1) (ha : k = true → XE X a Γ1 (.da d1) Γ2) (hb : k = false → XE X b Γ1 (.da d2) Γ2) : XE X (.IfExp c a b pos) Γ (.da (if k = true then d1 else d2)) Γ2 := fun Ψ hq => we_ifExp (h _ ⟨fun e => ha e _ (by rw [if_pos e] at hq; exact hq), fun e => hb e _ (by rw [if_neg (by simp [e])] at hq; exact hq)⟩)
theorem WW.wt (h : WW X e Γ Φt) : WT X e Γ Φt := fun I H σ F en Q k => let ⟨t, ht, q⟩ := h I H σ F en Q k; ⟨t, ht.pt, q⟩
theorem ww_and1 (h : WT X a Γ Φt) : WW X (.BoolOp .And [a] pos) Γ Φt := fun I H σ F en Q k => ⟨_, pw_and1 wpT_ok, h I H σ F en Q k⟩
theorem ww_or1 (h : WT X a Γ Φt) : WW X (.BoolOp .Or [a] pos) Γ Φt := fun I H σ F en Q k => ⟨_, pw_or1 wpT_ok, h I H σ F en Q k⟩
theorem ww_and (h : WT X a Γ fun k Γ1 => (k = true → WW X (.BoolOp .And (b :: es) pos) Γ1 Φt) ∧ (k = false → Φt false Γ1)) : WW X (.BoolOp .And (a :: b :: es) pos) Γ Φt := fun I H σ F en Q kq =>
  ⟨_, pw_and wpT_ok wpW_ok, h I H σ F en _ fun k Γ1 I1 H1 F1 h1 st1 en1 => by
    cases k with
    | true => exact h1.1 rfl I1 H1 σ F1 en1 Q fun r Γ' I' H' F' q st => kq r Γ' I' H' F' q (st1.trans st)
    | false => exact kq false Γ1 I1 H1 F1 (h1.2 rfl) st1 en1⟩
theorem ww_or (h : WT X a Γ fun k Γ1 => (k = true → Φt true Γ1) ∧ (k = false → WW X (.BoolOp .Or (b :: es) pos) Γ1 Φt)) : WW X (.BoolOp .Or (a :: b :: es) pos) Γ Φt := fun I H σ F en Q kq =>
  ⟨_, pw_or wpT_ok wpW_ok, h I H σ F en _ fun k Γ1 I1 H1 F1 h1 st1 en1 => by
    cases k with
    | false => exact h1.2 rfl I1 H1 σ F1 en1 Q fun r Γ' I' H' F' q st => kq r Γ' I' H' F' q (st1.trans st)
    | true => exact kq true Γ1 I1 H1 F1 (h1.1 rfl) st1 en1⟩
theorem wt_not (h : WT X a Γ fun k Γ1 => Φt (!k) Γ1) : WT X (.UnaryOp .Not a pos) Γ Φt := fun I H σ F en Q kq =>
  ⟨_, pt_not wpT_ok, h I H σ F en _ fun k Γ1 I1 H1 F1 h1 st1 en1 => kq (!k) Γ1 I1 H1 F1 h1 st1 en1⟩
theorem xt_not (h : XT X a Γ k Γ1) : XT X (.UnaryOp .Not a pos) Γ (!k) Γ1 := fun _ hq => wt_not (h _ hq)
theorem xt_and2 {k2 : Bool} (h : XT X a Γ k Γ) (h2 : k = true → XT X b Γ k2 Γ) : XT X (.BoolOp .And [a, b] pos) Γ (k && k2) Γ := fun _ hq => (ww_and (h _ ⟨fun e => ww_and1 (h2 e _ (by rw [e, Bool.true_and] at hq; exact hq)), fun e => by rw [e, Bool.false_and] at hq; exact hq⟩)).wt
theorem xt_or2 {k2 : Bool} (h : XT X a Γ k Γ) (h2 : k = false → XT X b Γ k2 Γ) : XT X (.BoolOp .Or [a, b] pos) Γ (k || k2) Γ := fun _ hq => (ww_or (h _ ⟨fun e => by rw [e, Bool.true_or] at hq; exact hq, fun e => ww_or1 (h2 e _ (by rw [e, Bool.false_or] at hq; exact hq))⟩)).wt
/-! ### targets that are tuples -/
def WGs (X : Cx) (ts : List Expr) (rs : List PyData) (Γ : Sl) (Ψ : Sl → Prop) : Prop := ∀ (I H : Hp) (σ : L2.St) (F : List Addr) (vs : List V), EnvF X.tc I H σ Γ F → RpL X.tc I vs rs → ∀ Q : L2.St → Hp → Prop,
  (∀ (Γ' : Sl) (I' H' : Hp) (σ' : L2.St) (F' : List Addr), Ψ Γ' → Step I H F I' H' F' → EnvF X.tc I' H' σ' Γ' F' → Q σ' H') → ∃ t, PGs X ts t ∧ t vs σ H Q
theorem wgs_nil {Ψ : Sl → Prop} (h : Ψ Γ) : WGs X [] [] Γ Ψ := fun I H σ F vs en r Q k => ⟨_, pgs_nil, by cases r; rfl, k Γ I H σ F h .refl en⟩
def wpGs (X : Cx) (ts : List Expr) : TGs := fun vs σ H Q => ∃ t, PGs X ts t ∧ t vs σ H Q
theorem wpGs_ok {ts : List Expr} : PGs X ts (wpGs X ts) := ⟨fun pins s σ H v u Q I r ⟨_, h, q⟩ => h.run pins s σ H v u Q I r q⟩
theorem wgs_cons {Ψ : Sl → Prop} {ts : List Expr} {rs : List PyData} (h : WG X e (.da d) Γ fun Γ1 => WGs X ts rs Γ1 Ψ) (hs : (assignEach (e :: ts) X.env).map (·.2) = assign e X.env :: (assignEach ts X.env).map (·.2) := by rfl) : WGs X (e :: ts) (d :: rs) Γ Ψ := fun I H σ F vs en r Q k => by
  cases r with
  | cons h1 r => exact ⟨_, pgs_cons wpG_ok wpGs_ok hs, _, _, rfl, h I H σ F _ (en.da h1) _ fun Γ1 I1 H1 σ1 F1 h2 st1 en1 => h2 I1 H1 σ1 F1 _ en1 (r.mono st1.inc) Q fun Γ' I' H' σ' F' q st => k Γ' I' H' σ' F' q (st1.trans st)⟩
theorem wg_tup {Ψ : Sl → Prop} {ts : List Expr} {rs : List PyData} {n : Nat} (hc : X.calm = true) (h : WGs X ts rs Γ Ψ) (hn : (assignEach ts X.env).length = rs.length := by rfl) (hst : (assignEach ts X.env).findIdx? (·.1) = none := by rfl) : WG X (.Tuple ts n pos) (.da (.tuple rs)) Γ Ψ := fun I H σ F v en Q k => by
  obtain ⟨B, G, rfl, oo, en2, up⟩ := en.pop
  cases oo with
  | da hd => cases hd with
    | tup q r =>
      obtain ⟨t, ht, hq⟩ := h I H σ G _ en2 r Q k
      exact ⟨_, pg_tup hc ht hn hst, _, _, rfl, sqT_mono en2.sub q, r.length, hq⟩
end
end TL
/-! TL9: data compared, sorted, written. -/
namespace TL
open PySem PySem.Spec PyProof.Rows L2
/-! ### from data to what the heap reads -/
mutual
theorem Rp.dp {T : TC} {I : Hp} : ∀ {v : V} {d : PyData}, Rp T I v d → d.plain = true → Dp T.K I v d
  | _, _, .non, _ => .non
  | _, _, .bl b, _ => .bl b
  | _, _, .int i, _ => .int i
  | _, _, .str x, _ => .str x
  | _, _, .lst h r, p => .lst h (RpL.dp r (by simpa only [PyData.plain] using p))
  | _, _, .tup h r, p => .tup h (RpL.dp r (by simpa only [PyData.plain] using p))
  | _, _, .dk _ _ _, p => by simp [PyData.plain] at p
  | _, _, .dn _ _ _ _ _, p => by simp [PyData.plain] at p
  | _, _, .tn _ _ _ _, p => by simp [PyData.plain] at p
theorem RpL.dp {T : TC} {I : Hp} : ∀ {vs : List V} {ds : List PyData}, RpL T I vs ds → PyData.plainAll ds = true → DpAll T.K I vs ds
  | _, _, .nil, _ => .nil
  | _, _, .cons h r, p => by
    simp only [PyData.plainAll, Bool.and_eq_true] at p
    exact .cons (Rp.dp h p.1) (RpL.dp r p.2)
end
section
variable {X : Cx} {pins : List (Addr × Obj)} {σ : L2.St} {H : Hp} {s : Shared}
theorem Rp.reads (I : Inv X pins σ H s) {d : PyData} {v : V} {u : Value} (h : Rp X.tc H v d) (p : d.plain = true) (r : RelV v u) : ∃ as, Reads s.heap u d as := Dp.reads I d v u (h.dp p) r
theorem RpL.reads (I : Inv X pins σ H s) {ds : List PyData} {vs : List V} {us : List Value} (h : RpL X.tc H vs ds) (p : PyData.plainAll ds = true) (r : Vals vs us) : ∃ as, ReadsAll s.heap us ds as := Dp.readsAll I ds vs us (h.dp p) r
theorem room60 {n m : Nat} (hu : X.A.units + 64 < cLine) (h : n ≤ 60) : X.A.units + min n m < cLine := by
  have := Nat.min_le_left n m
  omega
/-! ### ==, !=, < -/
def rEqP (T : TC) : R2 := fun x y H Q => ∃ d e, Rp T H x d ∧ Rp T H y e ∧ d.plain = true ∧ e.plain = true ∧ d.depth ≤ 60 ∧ Q (.bl (PyData.eqv d e)) H
def rNeP (T : TC) : R2 := fun x y H Q => ∃ d e, Rp T H x d ∧ Rp T H y e ∧ d.plain = true ∧ e.plain = true ∧ d.depth ≤ 60 ∧ Q (.bl (!PyData.eqv d e)) H
theorem op_eqP (hu : X.A.units + 64 < cLine) : OpR X (compareOp .Eq) (rEqP X.tc) := by
  rintro pins s σ H x y v u Q I rx ry ⟨d, e, hd, he, pd, pe, hh, q⟩
  obtain ⟨as, r1⟩ := hd.reads I pd rx
  obtain ⟨bs, r2⟩ := he.reads I pe ry
  exact SeqAt.eq_plain r1 r2 pd pe (room60 hu hh) ⟨.bl _, H, I, rfl, q⟩
theorem op_neP (hu : X.A.units + 64 < cLine) : OpR X (compareOp .NotEq) (rNeP X.tc) := by
  rintro pins s σ H x y v u Q I rx ry ⟨d, e, hd, he, pd, pe, hh, q⟩
  obtain ⟨as, r1⟩ := hd.reads I pd rx
  obtain ⟨bs, r2⟩ := he.reads I pe ry
  exact SeqAt.rcNe_plain r1 r2 pd pe (room60 hu hh) _ _ _ _ ⟨.bl _, H, I, rfl, q⟩
end
section
variable {X : Cx} {e a b c o : Expr} {es : List Expr} {ss rest : List Stmt} {Γ Γ' Γ1 Γ2 : Sl} {Ψ : OD → Sl → Prop} {Φ : Out → Prop} {Φt : Bool → Sl → Prop} {pos p apos : Pos} {r x y z : OD} {k k' : Bool} {nm : Str} {ds : List PyData} {d d' g : PyData}
theorem o2_eq {T : TC} (pd : d.plain = true) (pe : d'.plain = true) (hd : d.depth ≤ 60) : Op2 T (rEqP T) (.da d) (.da d') (.da (.bool (PyData.eqv d d'))) := Op2.pure fun I H v u h1 h2 s Q k => ⟨d, d', h1.mono s, h2.mono s, pd, pe, hd, k _ (.bl _)⟩
theorem o2_ne {T : TC} (pd : d.plain = true) (pe : d'.plain = true) (hd : d.depth ≤ 60) : Op2 T (rNeP T) (.da d) (.da d') (.da (.bool (!PyData.eqv d d'))) := Op2.pure fun I H v u h1 h2 s Q k => ⟨d, d', h1.mono s, h2.mono s, pd, pe, hd, k _ (.bl _)⟩
theorem xt_eqP (hu : X.A.units + 64 < cLine) (ha : XE X a Γ (.da d) Γ1) (hb : XE X b Γ1 (.da d') Γ2) (pd : d.plain = true := by rfl) (pe : d'.plain = true := by rfl) (hd : d.depth ≤ 60 := by simp [PyData.depth]) : XT X (.Compare a [.Eq] [b] pos) Γ (PyData.eqv d d') Γ2 := xt_cmp (op_eqP hu) (nomark _) (o2_eq pd pe hd) ha hb
theorem xe_eqP (hu : X.A.units + 64 < cLine) (ha : XE X a Γ (.da d) Γ1) (hb : XE X b Γ1 (.da d') Γ2) (pd : d.plain = true := by rfl) (pe : d'.plain = true := by rfl) (hd : d.depth ≤ 60 := by simp [PyData.depth]) : XE X (.Compare a [.Eq] [b] pos) Γ (.da (.bool (PyData.eqv d d'))) Γ2 := xe_cmp (op_eqP hu) (nomark _) (o2_eq pd pe hd) ha hb
theorem xt_neP (hu : X.A.units + 64 < cLine) (ha : XE X a Γ (.da d) Γ1) (hb : XE X b Γ1 (.da d') Γ2) (pd : d.plain = true := by rfl) (pe : d'.plain = true := by rfl) (hd : d.depth ≤ 60 := by simp [PyData.depth]) : XT X (.Compare a [.NotEq] [b] pos) Γ (!PyData.eqv d d') Γ2 := xt_cmp (op_neP hu) (nomark _) (o2_ne pd pe hd) ha hb
theorem eqv_int (i j : Int) : PyData.eqv (.int i) (.int j) = decide (i = j) := by
  simp only [PyData.eqv]
  rw [Bool.eq_iff_iff, beq_iff_eq, decide_eq_true_eq]
theorem eqv_str (i j : Str) : PyData.eqv (.str i) (.str j) = decide (i = j) := by
  simp only [PyData.eqv]
  rw [Bool.eq_iff_iff, beq_iff_eq, decide_eq_true_eq]
theorem xt_eqI {i j : Int} (hu : X.A.units + 64 < cLine) (ha : XE X a Γ (.da (.int i)) Γ1) (hb : XE X b Γ1 (.da (.int j)) Γ2) : XT X (.Compare a [.Eq] [b] pos) Γ (decide (i = j)) Γ2 := by
  have q := xt_eqP (pos := pos) hu ha hb
  rw [eqv_int] at q
  exact q
theorem xe_eqI {i j : Int} (hu : X.A.units + 64 < cLine) (ha : XE X a Γ (.da (.int i)) Γ1) (hb : XE X b Γ1 (.da (.int j)) Γ2) : XE X (.Compare a [.Eq] [b] pos) Γ (.da (.bool (decide (i = j)))) Γ2 := by
  have q := xe_eqP (pos := pos) hu ha hb
  rw [eqv_int] at q
  exact q
theorem xt_neI {i j : Int} (hu : X.A.units + 64 < cLine) (ha : XE X a Γ (.da (.int i)) Γ1) (hb : XE X b Γ1 (.da (.int j)) Γ2) : XT X (.Compare a [.NotEq] [b] pos) Γ (!decide (i = j)) Γ2 := by
  have q := xt_neP (pos := pos) hu ha hb
  rw [eqv_int] at q
  exact q
/-! ### repr -/
/-! ### sorted of a list -/
theorem each_rel {T : TC} {H : Hp} : ∀ {vs : List V} {us : List Value} {ds : List PyData}, RpL T H vs ds → Vals vs us → PySem.W.EachIs (fun u d => ∃ v, RelV v u ∧ Rp T H v d) us ds
  | _, _, _, .nil, .nil => .nil
  | _, _, _, .cons h r, .cons q t => .cons ⟨_, q, h⟩ (each_rel r t)
theorem each_back {T : TC} {H : Hp} : ∀ {us : List Value} {ds : List PyData}, PySem.W.EachIs (fun u d => ∃ v, RelV v u ∧ Rp T H v d) us ds → ∃ vs, Vals vs us ∧ RpL T H vs ds
  | _, _, .nil => ⟨[], .nil, .nil⟩
  | _, _, .cons ⟨v, q, h⟩ r => by
    obtain ⟨vs, t, r'⟩ := each_back r
    exact ⟨v :: vs, .cons q t, .cons h r'⟩
theorem each_imp {α β : Type} {R R' : α → β → Prop} : ∀ {as : List α} {bs : List β}, PySem.W.EachIs R as bs → (∀ a b, b ∈ bs → R a b → R' a b) → PySem.W.EachIs R' as bs
  | _, _, .nil, _ => .nil
  | _, _, .cons h r, k => .cons (k _ _ List.mem_cons_self h) (each_imp r fun a b hb => k a b (List.mem_cons_of_mem _ hb))
def sortD (ds : List PyData) : List PyData := ds.mergeSort (PySem.W.dataLe false id)
def rSorted (T : TC) : List V → Hp → VK → Prop := fun xs H Q => ∃ I p vs ds, xs = [.ref p] ∧ Same I H ∧ SqL T.K H p vs ∧ RpL T I vs ds ∧ PyData.plainAll ds = true ∧ PySem.W.AllAlike ds ∧ PySem.W.Sortable ds ∧ ds.length ≤ sizeLine ∧ (∀ d ∈ ds, d.depth ≤ 60) ∧
  ∀ l ws, H l = none → RpL T I ws (sortD ds) → Q (.ref l) (upd H l (.lst ws))
theorem plainAll_mem : ∀ {ds : List PyData} {d : PyData}, PyData.plainAll ds = true → d ∈ ds → d.plain = true
  | [], _, _, h => by cases h
  | x :: xs, d, hp, h => by
    simp only [PyData.plainAll, Bool.and_eq_true] at hp
    rcases List.mem_cons.mp h with rfl | h
    · exact hp.1
    · exact plainAll_mem hp.2 h
theorem call_sortedP (hu : X.A.units + 70 < cLine) : CallR X (.builtin "sorted") (rSorted X.tc) := by
  rintro pins s σ H xs us Q I r ⟨I0, q, vs, ds, rfl, sub, hs, hr, hp, al, so, hl, hd, k⟩
  cases r with
  | cons rv r =>
    cases r
    cases rv
    obtain ⟨its, rv, pl, hz⟩ := I.list hs
    have er : PySem.W.EachIs (fun u d => ∃ as, Reads s.heap u d as) its ds := each_imp (each_rel hr rv) fun u d hm ⟨v, q, h⟩ => (h.mono sub).reads I (plainAll_mem hp hm) q
    have al' : PySem.W.AllAlike (ds.map id) := by rw [List.map_id]; exact al
    have so' : PySem.W.Sortable (ds.map id) := by rw [List.map_id]; exact so
    refine PySem.W.sorted_data (enc := id) (R := fun u d => ∃ v, RelV v u ∧ Rp X.tc I0 v d) pl.isList (each_rel hr rv) er al' so' hl (fun d hm => ?_) fun out ho eo => ?_
    · have h1 := hd d hm
      show X.A.units + 2 + d.depth < cLine
      omega
    · obtain ⟨ws, w1, w2⟩ := each_back eo
      obtain ⟨c, hc⟩ := sortedAll_at s.heap its out.toArray
      have hn : H (s.heap.objs.size + 1) = none := I.hok.fresh (Nat.le_succ _)
      have hlen : ws.length ≤ sizeLine := by
        rw [w1.length, ho]
        exact hl
      exact ⟨.ref (s.heap.objs.size + 1), upd H (s.heap.objs.size + 1) (.lst ws), I.laid (t' := s.toks) (fun b o e => sortedAll_old e) (Nat.le_succ _) ⟨hlen, out, c, w1, hc⟩, rfl, k _ ws hn w2⟩
theorem opl_sorted {T : TC} (hp : PyData.plainAll ds = true) (al : PySem.W.AllAlike ds) (so : PySem.W.Sortable ds) (hl : ds.length ≤ sizeLine) (hd : ∀ d ∈ ds, d.depth ≤ 60) : OpL T (rSorted T) [.da (.list ds)] (.ll (sortD ds)) := fun I H vs B o nd sub Q k => by
  obtain ⟨rfl, r⟩ := ownL_da (ds := [.list ds]) o
  obtain ⟨v, rfl, h⟩ := rpL1 r
  cases h with
  | lst q r => 
    exact ⟨I, _, _, ds, rfl, sub, sub.seq q, r, hp, al, so, hl, hd, fun l ws hn hw => k I _ _ [l] (step_new hn) (.ll upd_same (sub.free hn) hw) (by simp) (upd_sub sub hn)⟩
end
end TL
/-! TL10: what loops walk; list comprehensions. -/
namespace TL
open PySem PySem.Spec PyProof.Rows L2
/-! ### what is walked -/
theorem isit_list {T : TC} {I : Hp} {a : Addr} {vs : List V} {ds : List PyData} (h : SqL T.K I a vs) (r : RpL T I vs ds) : IsIt T (Itl T.K a) ds I where
  go := fun i I' H s s' hi => by
    have hi' : i < vs.length := by rw [r.length]; exact hi
    exact ⟨vs, vs[i], (s.trans s').seq h, by simp [hi']⟩
  stop := fun I' H s s' => ⟨vs, (s.trans s').seq h, Nat.le_of_eq r.length⟩
  yld := fun i I' H v H' s s' hi y => by
    obtain ⟨rfl, y⟩ := y
    obtain ⟨d, hd, hr⟩ := r.get' (y vs ((s.trans s').seq h))
    exact ⟨I', d, hd, .refl, s', hr.mono s⟩
theorem isit_tup {T : TC} {I : Hp} {a : Addr} {vs : List V} {ds : List PyData} (h : SqT T.K I a vs) (r : RpL T I vs ds) : IsIt T (Itt T.K a) ds I where
  go := fun i I' H s s' hi => by
    have hi' : i < vs.length := by rw [r.length]; exact hi
    exact ⟨vs, vs[i], sqT_mono (s.trans s') h, by simp [hi']⟩
  stop := fun I' H s s' => ⟨vs, sqT_mono (s.trans s') h, Nat.le_of_eq r.length⟩
  yld := fun i I' H v H' s s' hi y => by
    obtain ⟨rfl, y⟩ := y
    obtain ⟨d, hd, hr⟩ := r.get' (y vs (sqT_mono (s.trans s') h))
    exact ⟨I', d, hd, .refl, s', hr.mono s⟩
/-- lo, lo + 1, .. -/
def rangeD (lo : Int) (n : Nat) : List PyData := (List.range n).map fun i => .int (lo + (i : Nat))
theorem rangeD_len {lo : Int} {n : Nat} : (rangeD lo n).length = n := by simp [rangeD]
theorem isit_range {T : TC} {I : Hp} {lo : Int} {n : Nat} : IsIt T (Itr lo n) (rangeD lo n) I where
  go := fun i I' H s s' hi => by rw [rangeD_len] at hi; exact hi
  stop := fun I' H s s' => Nat.le_of_eq rangeD_len.symm
  yld := fun i I' H v H' s s' hi y => by
    obtain ⟨rfl, rfl⟩ := y
    rw [rangeD_len] at hi
    exact ⟨I', .int (lo + (i : Nat)), by simp [rangeD, hi], .refl, s', .int _⟩
/-- pairs, each laid anew -/
theorem isit_pairs {T : TC} {I : Hp} {J : It} {ds es : List PyData} {Y : Nat → Option V} {Z : Nat → Option V} {n : Nat} {G : Hp → Prop} (w : Walk J n G (YPair Y Z)) (hG : ∀ I' H, Same I I' → Same I' H → G H) (h1 : ds.length = n) (h2 : es.length = n)
    (hY : ∀ i v, Y i = some v → ∃ d, ds[i]? = some d ∧ Rp T I v d) (hZ : ∀ i v, Z i = some v → ∃ d, es[i]? = some d ∧ Rp T I v d) : IsIt T J (List.zipWith (fun d e => .tuple [d, e]) ds es) I := by
  have hl : (List.zipWith (fun d e => PyData.tuple [d, e]) ds es).length = n := by rw [List.length_zipWith, h1, h2, Nat.min_self]
  refine ⟨fun i I' H s s' hi => w.goes i H (by rw [hl] at hi; exact hi) (hG I' H s s'), fun I' H s s' => by rw [hl]; exact w.stops H (hG I' H s s'), fun i I' H v H' s s' hi y => ?_⟩
  rw [hl] at hi
  obtain ⟨t, x, z, rfl, ht, rfl, e1, e2⟩ := w.yields i H v H' hi (hG I' H s s') y
  obtain ⟨d, q1, r1⟩ := hY i x e1
  obtain ⟨e, q2, r2⟩ := hZ i z e2
  have up : Same I' (upd I' t (.tup [x, z])) := upd_up (s'.free ht)
  exact ⟨upd I' t (.tup [x, z]), .tuple [d, e], by rw [List.getElem?_zipWith, q1, q2], step_frz s' ht, upd_both s', .tup (SqT.of upd_same) (.cons (r1.mono (s.trans up)) (.cons (r2.mono (s.trans up)) .nil))⟩
section
variable {X : Cx} {e a b c o tg it : Expr} {es : List Expr} {ss rest : List Stmt} {Γ Γ' Γ1 Γ2 : Sl} {Ψ : OD → Sl → Prop} {Φ : Out → Prop} {Φt : Bool → Sl → Prop} {pos p apos : Pos} {r x y z : OD} {k k' : Bool} {nm : Str} {ds es' : List PyData} {d d' g : PyData}
theorem xi_lst (h : XE X it Γ (.da (.list ds)) Γ1) : XI X tg it Γ ds Γ1 := fun Ψ hq I H σ F en R k => ⟨_, pi_list wpE_ok, h (fun r Γ' => r = .da (.list ds) ∧ Γ' = Γ1) ⟨rfl, rfl⟩ I H σ F en _ (by
  rintro _ _ I1 H1 v F1 ⟨rfl, rfl⟩ st1 en1
  obtain ⟨B, G, rfl, oo, en2, up⟩ := en1.pop
  cases oo with
  | da hd => cases hd with
    | lst q r => exact ⟨_, rfl, ⟨_, en2.sub.seq q⟩, k ds _ I1 H1 _ _ hq st1 en2 (isit_list q r)⟩)⟩
theorem xi_tup (h : XE X it Γ (.da (.tuple ds)) Γ1) : XI X tg it Γ ds Γ1 := fun Ψ hq I H σ F en R k => ⟨_, pi_tup wpE_ok, h (fun r Γ' => r = .da (.tuple ds) ∧ Γ' = Γ1) ⟨rfl, rfl⟩ I H σ F en _ (by
  rintro _ _ I1 H1 v F1 ⟨rfl, rfl⟩ st1 en1
  obtain ⟨B, G, rfl, oo, en2, up⟩ := en1.pop
  cases oo with
  | da hd => cases hd with
    | tup q r => exact ⟨_, rfl, ⟨_, sqT_mono en2.sub q⟩, k ds _ I1 H1 _ _ hq st1 en2 (isit_tup q r)⟩)⟩
/-- arguments that are data -/
theorem wa_data (h : WA X es Γ fun rs _ Γ1 => rs = ds.map .da ∧ Γ1 = Γ2) {I H : Hp} {σ : L2.St} {F : List Addr} (en : EnvF X.tc I H σ Γ F) {Q : List V → Hp → Prop}
    (k : ∀ (I' H' : Hp) (vs : List V) (F' : List Addr), RpL X.tc I' vs ds → Step I H F I' H' F' → EnvF X.tc I' H' σ Γ2 F' → Q vs H') : wpA X es σ H Q := h I H σ F en Q (by
  rintro rs refs Γ1 I1 H1 vs F1 ⟨rfl, rfl⟩ l1 l2 rk st1 en1
  obtain ⟨B, G, rfl, ol, en2⟩ := en1.popL l1
  obtain ⟨rfl, r⟩ := ownL_da ol
  exact k I1 H1 vs G r st1 en2)
theorem xa1 (h : XE X a Γ (.da d) Γ1) (hs : starEach [a] X.env = (false, eval a X.env) :: starEach [] X.env := by rfl) : WA X [a] Γ fun rs _ Γ' => rs = [d].map .da ∧ Γ' = Γ1 := wa_cons (h _ (wa_nil ⟨rfl, rfl⟩)) hs
theorem xa2 (h : XE X a Γ (.da d) Γ1) (h2 : XE X b Γ1 (.da d') Γ2) (hs : starEach [a, b] X.env = (false, eval a X.env) :: starEach [b] X.env := by rfl) (hs2 : starEach [b] X.env = (false, eval b X.env) :: starEach [] X.env := by rfl) :
    WA X [a, b] Γ fun rs _ Γ' => rs = [d, d'].map .da ∧ Γ' = Γ2 := wa_cons (h _ (wa_cons (h2 _ (wa_nil ⟨rfl, rfl⟩)) hs2)) hs
theorem xi_range1 {j : Int} (B : Blt X.mg) (h : XE X a Γ (.da (.int j)) Γ1) (h0 : -(2 ^ 62) ≤ j) (h1 : j < 2 ^ 62) (hg : Gl X "range" := by rfl) (hs : starEach [a] X.env = [(false, eval a X.env)] := by rfl) : XI X tg (.Call (.Name "range" p) [a] [] pos) Γ (rangeD 0 j.toNat) Γ1 := fun Ψ hq I H σ F en R k =>
  ⟨_, pi_range1 hg B.range wpA_ok hs, wa_data (xa1 h (by rw [hs]; rfl)) en fun I1 H1 vs F1 r st1 en1 => by
    obtain ⟨v, rfl, hv⟩ := rpL1 r
    cases hv
    exact ⟨j, rfl, h0, h1, k _ _ I1 H1 F1 _ hq st1 en1 isit_range⟩⟩
theorem zip_len {ds es : List PyData} : List.zipWith (fun d e => PyData.tuple [d, e]) ds es = List.zipWith (fun d e => PyData.tuple [d, e]) (ds.take (min ds.length es.length)) (es.take (min ds.length es.length)) := by
  refine List.ext_getElem? fun i => ?_
  rw [List.getElem?_zipWith, List.getElem?_zipWith, List.getElem?_take, List.getElem?_take]
  by_cases h : i < min ds.length es.length
  · rw [if_pos h, if_pos h]
  · rw [if_neg h, if_neg h]
    have : ds[i]? = none ∨ es[i]? = none := by
      rw [List.getElem?_eq_none_iff, List.getElem?_eq_none_iff]
      omega
    rcases this with q | q
    · rw [q]
    · rw [q]
      cases ds[i]? <;> rfl
end
/-! ### comprehensions -/
def dropΓ (vs : List Nat) (Γ : Sl) : Sl := vs.foldr (fun i Γ => Γ.set i none) Γ
section
variable {T : TC} {I H : Hp} {σ : L2.St} {Γ : Sl} {F : List Addr}
theorem env_drop : ∀ (vs : List Nat) {F : List Addr}, EnvF T I H σ Γ F → ∃ F', EnvF T I H (wipe σ vs) (dropΓ vs Γ) F' ∧ ∀ b ∈ F', b ∈ F
  | [], F, en => ⟨F, en, fun b hb => hb⟩
  | v :: vs, F, en => by
    obtain ⟨F', en', m⟩ := env_drop vs en
    show ∃ F2, EnvF T I H ((wipe σ vs).set v none) ((dropΓ vs Γ).set v none) F2 ∧ _
    by_cases hv : v < (dropΓ vs Γ).length
    · obtain ⟨A, B, C, rfl, _, h5, _⟩ := en'.env.put hv
      have sl : (A ++ C).Sublist (A ++ (B ++ C)) := (List.Sublist.refl A).append (List.sublist_append_right B C)
      exact ⟨_, ⟨h5 none, en'.nd.sublist sl, en'.sub⟩, fun b hb => m b (sl.subset hb)⟩
    · have hl := en'.env.length
      rw [List.set_eq_of_length_le (by omega), List.set_eq_of_length_le (by omega)]
      exact ⟨F', en', m⟩
theorem env_undrop : ∀ (vs : List Nat) {F : List Addr}, EnvF T I H (wipe σ vs) Γ F → ∃ F', EnvF T I H σ (dropΓ vs Γ) F' ∧ ∀ b ∈ F', b ∈ F := by
  intro vs F en
  obtain ⟨F1, en1, m1⟩ := env_drop vs en
  refine ⟨F1, ⟨?_, en1.nd, en1.sub⟩, m1⟩
  -- the wiped slots are not spoken of
  have key : ∀ (σ1 σ2 : L2.St) (Γ : Sl) (F : List Addr), EnvL T I H σ1 Γ F → σ1.length = σ2.length → (∀ (i : Nat) (x : OD), Γ[i]? = some (some x) → σ1[i]? = σ2[i]?) → EnvL T I H σ2 Γ F := by
    intro σ1 σ2 Γ F h
    induction h generalizing σ2 with
    | nil => intro hl _; cases σ2 with
      | nil => exact .nil
      | cons _ _ => simp at hl
    | skip _ ih => intro hl he; cases σ2 with
      | nil => simp at hl
      | cons o σ2 => exact .skip (ih σ2 (by simpa using hl) fun i x q => by simpa using he (i + 1) x (by simpa using q))
    | cons o _ ih => intro hl he; cases σ2 with
      | nil => simp at hl
      | cons o2 σ2 =>
        have e0 := he 0 _ rfl
        simp at e0
        subst e0
        exact .cons o (ih σ2 (by simpa using hl) fun i x q => by simpa using he (i + 1) x (by simpa using q))
  refine key _ σ _ _ en1.env (by rw [wipe_length, wipe_length]) fun i x q => ?_
  -- a slot that is spoken of is none of vs
  have hn : i ∉ vs := by
    clear key en1 m1 en
    induction vs with
    | nil => simp
    | cons v vs ih =>
      have q' : ((dropΓ vs Γ).set v none)[i]? = some (some x) := q
      by_cases hv : v = i
      · subst hv
        by_cases hl : v < (dropΓ vs Γ).length
        · rw [List.getElem?_set_self hl] at q'
          cases q'
        · rw [List.getElem?_eq_none (by simpa using hl)] at q'
          cases q'
      · rw [List.getElem?_set_ne hv] at q'
        simp only [List.mem_cons, not_or]
        exact ⟨fun e => hv e.symm, ih q'⟩
  have wipe_out : ∀ (vs : List Nat) (σ : L2.St), i ∉ vs → (wipe σ vs)[i]? = σ[i]? := by
    intro vs
    induction vs with
    | nil => exact fun _ _ => rfl
    | cons v vs ih =>
      intro σ hm
      simp only [List.mem_cons, not_or] at hm
      unfold wipe
      rw [List.getElem?_set_ne (fun e => hm.1 e.symm)]
      exact ih σ hm.2
  rw [wipe_out vs _ hn, wipe_out vs _ hn]
theorem wipe_set {i : Nat} {o : Option V} : ∀ {vs : List Nat}, i ∈ vs → wipe (σ.set i o) vs = wipe σ vs
  | [], h => by cases h
  | v :: vs, h => by
    unfold wipe
    by_cases hi : i = v
    · subst hi
      -- outer set covers it
      have q : ∀ (vs : List Nat) (σ : L2.St), (wipe (σ.set i o) vs).set i none = (wipe σ vs).set i none := by
        intro vs
        induction vs with
        | nil => exact fun σ => List.set_set ..
        | cons w vs ih =>
          intro σ
          unfold wipe
          by_cases hw : w = i
          · subst hw
            rw [ih]
          · rw [List.set_comm _ _ hw, ih, List.set_comm _ _ hw]
      exact q vs σ
    · rw [wipe_set (List.mem_of_ne_of_mem hi h)]
end
def WGc (X : Cx) (vs : List Nat) (tg : Expr) (r : PyData) (Γ : Sl) (Ψ : Sl → Prop) : Prop := ∀ (I H : Hp) (σ : L2.St) (F : List Addr) (v : V), EnvF X.tc I H σ Γ F → Rp X.tc I v r → ∀ Q : L2.St → Hp → Prop,
  (∀ (Γ' : Sl) (I' H' : Hp) (σ' : L2.St) (F' : List Addr), Ψ Γ' → Step I H F I' H' F' → EnvF X.tc I' H' σ' Γ' F' → wipe σ' vs = wipe σ vs → Q σ' H') → wpG X tg v σ H Q
def WGsc (X : Cx) (vs : List Nat) (ts : List Expr) (rs : List PyData) (Γ : Sl) (Ψ : Sl → Prop) : Prop := ∀ (I H : Hp) (σ : L2.St) (F : List Addr) (us : List V), EnvF X.tc I H σ Γ F → RpL X.tc I us rs → ∀ Q : L2.St → Hp → Prop,
  (∀ (Γ' : Sl) (I' H' : Hp) (σ' : L2.St) (F' : List Addr), Ψ Γ' → Step I H F I' H' F' → EnvF X.tc I' H' σ' Γ' F' → wipe σ' vs = wipe σ vs → Q σ' H') → wpGs X ts us σ H Q
section
variable {X : Cx} {e a b c o tg it elt : Expr} {es ts ifs : List Expr} {ss rest : List Stmt} {Γ Γ' Γ1 Γ2 : Sl} {Ψ : OD → Sl → Prop} {Ψg : Sl → Prop} {Φ : Out → Prop} {Φt : Bool → Sl → Prop} {pos p apos : Pos} {r x y z : OD} {k k' : Bool} {nm : Str} {ds rs : List PyData} {d d' g : PyData} {vs : List Nat}
theorem gc_name (i : Nat) (hN : X.N.Nodup) (h : Ψg (Γ.set i (some (.da d)))) (hm : i ∈ vs := by simp) (hi : X.N[i]? = some nm := by rfl) (hx : Loc X.env.scope nm := by first | exact Or.inl rfl | exact Or.inr rfl) (hl : Nat.blt i Γ.length = true := by rfl)
    (hf : X.fn nm = true ∨ X.env.scope.names.lookup nm = some .local := by first | exact .inl rfl | exact .inr rfl) : WGc X vs (.Name nm p) d Γ Ψg := fun I H σ F v en hr Q k => by
  obtain ⟨F2, en2, m2⟩ := (en.da hr).store (Nat.le_of_ble_eq_true hl)
  exact ⟨_, pg_name hN hi hx hf, k _ I H _ F2 h (Step.less m2) en2 (wipe_set hm)⟩
theorem gsc_nil (h : Ψg Γ) : WGsc X vs [] [] Γ Ψg := fun I H σ F us en r Q k => ⟨_, pgs_nil, by cases r; rfl, k Γ I H σ F h .refl en rfl⟩
theorem gsc_cons (h : WGc X vs e d Γ fun Γ1 => WGsc X vs ts rs Γ1 Ψg) (hs : (assignEach (e :: ts) X.env).map (·.2) = assign e X.env :: (assignEach ts X.env).map (·.2) := by rfl) : WGsc X vs (e :: ts) (d :: rs) Γ Ψg := fun I H σ F us en r Q k => by
  cases r with
  | cons h1 r => exact ⟨_, pgs_cons wpG_ok wpGs_ok hs, _, _, rfl, h I H σ F _ en h1 _ fun Γ1 I1 H1 σ1 F1 h2 st1 en1 w1 => h2 I1 H1 σ1 F1 _ en1 (r.mono st1.inc) Q fun Γ' I' H' σ' F' q st en' w2 => k Γ' I' H' σ' F' q (st1.trans st) en' (w2.trans w1)⟩
theorem gc_tup {n : Nat} (hc : X.calm = true) (h : WGsc X vs ts rs Γ Ψg) (hn : (assignEach ts X.env).length = rs.length := by rfl) (hst : (assignEach ts X.env).findIdx? (·.1) = none := by rfl) : WGc X vs (.Tuple ts n pos) (.tuple rs) Γ Ψg := fun I H σ F v en hr Q k => by
  cases hr with
  | tup q r => exact ⟨_, pg_tup hc wpGs_ok hn hst, _, _, rfl, sqT_mono en.sub q, r.length, h I H σ F _ en r Q k⟩
def wpTs (X : Cx) (ifs : List Expr) : TT := fun σ H Q => ∃ t, PTs X ifs t ∧ t σ H Q
theorem wpTs_ok {ifs : List Expr} : PTs X ifs (wpTs X ifs) := ⟨fun pins s σ H Q I ⟨_, h, q⟩ => h.run pins s σ H Q I q⟩
def WTs (X : Cx) (ifs : List Expr) (Γ : Sl) (Ψ : Bool → Sl → Prop) : Prop := ∀ (I H : Hp) (σ : L2.St) (F : List Addr), EnvF X.tc I H σ Γ F → ∀ Q : Bool → Hp → Prop,
  (∀ (b : Bool) (Γ' : Sl) (I' H' : Hp) (F' : List Addr), Ψ b Γ' → Step I H F I' H' F' → EnvF X.tc I' H' σ Γ' F' → Q b H') → wpTs X ifs σ H Q
theorem wts_nil (h : Φt true Γ) : WTs X [] Γ Φt := fun I H σ F en Q k => ⟨_, pts_nil, k true Γ I H F h .refl en⟩
theorem wts_one (h : WT X c Γ Φt) : WTs X [c] Γ Φt := fun I H σ F en Q k => ⟨_, pts_one wpT_ok, h I H σ F en Q k⟩
/-- the block of a comprehension -/
abbrev Blk (X : Cx) (scope : Scope) (s : Shared) (H : Hp) (C : Addr) (cl : List (Str × Addr)) (fp : List Addr) : Cx := X.blk s H scope (compEnvC scope cl C X.env) fp
/-- one turn of it -/
def LcTurn (X : Cx) (scope : Scope) (own : List (Str × Nat)) (tg elt : Expr) (ifs : List Expr) (d : PyData) (Γ : Sl) (J0 : Sl → Prop) (J1 : PyData → Sl → Prop) : Prop :=
  ∃ Γ3, (∀ (s : Shared) (H : Hp) (C : Addr) (cl : List (Str × Addr)) (fp : List Addr), WGc (Blk X scope s H C cl fp) (own.map (·.2)) tg d Γ fun Γ' => Γ' = Γ3) ∧
  ∃ Ψ4 : Bool → Sl → Prop, (∀ (s : Shared) (H : Hp) (C : Addr) (cl : List (Str × Addr)) (fp : List Addr), WTs (Blk X scope s H C cl fp) ifs Γ3 Ψ4) ∧ ∀ k Γ4, Ψ4 k Γ4 →
    (k = true → ∀ (s : Shared) (H : Hp) (C : Addr) (cl : List (Str × Addr)) (fp : List Addr), WE (Blk X scope s H C cl fp) elt Γ4 fun r Γ5 => ∃ x, Frz r x ∧ J1 x (dropΓ (own.map (·.2)) Γ5)) ∧ (k = false → J0 (dropΓ (own.map (·.2)) Γ4))
theorem wipe_wipe (vs : List Nat) (σ : L2.St) : wipe (wipe σ vs) vs = wipe σ vs := by
  have q2 : ∀ (w : Nat) (us : List Nat) (τ : L2.St), (wipe (τ.set w none) us).set w none = (wipe τ us).set w none := by
    intro w us
    induction us with
    | nil => exact fun τ => List.set_set ..
    | cons u us ih3 =>
      intro τ
      unfold wipe
      by_cases hu : u = w
      · subst hu
        rw [ih3]
      · rw [List.set_comm _ _ hu, ih3, List.set_comm _ _ hu]
  induction vs with
  | nil => rfl
  | cons w vs ih =>
    show (wipe ((wipe σ vs).set w none) vs).set w none = (wipe σ vs).set w none
    rw [q2, ih]
theorem lc_read {scope : Scope} {own : List (Str × Nat)} (J : List PyData → Nat → Sl → List PyData → Prop)
    (h : WI X tg it Γ fun ds Γ1 => ds.length ≤ sizeLine ∧ J ds 0 (dropΓ (own.map (·.2)) Γ1) [] ∧
      (∀ (n : Nat) (d : PyData) (Γ2 : Sl) (acc : List PyData), ds[n]? = some d → J ds n Γ2 acc → LcTurn X scope own tg elt ifs d Γ2 (fun Γ3 => J ds (n + 1) Γ3 acc) fun x Γ3 => J ds (n + 1) Γ3 (acc ++ [x])) ∧
      ∀ (Γ2 : Sl) (acc : List PyData), J ds ds.length Γ2 acc → Ψ (.ll acc) (dropΓ (own.map (·.2)) Γ2))
    (I H : Hp) (σ : L2.St) (F : List Addr) (en : EnvF X.tc I H σ Γ F) (Q : VK) (k : ∀ (r : OD) (Γ' : Sl) (I' H' : Hp) (v : V) (F' : List Addr), Ψ r Γ' → Step I H F I' H' F' → EnvF X.tc I' H' (some v :: σ) (some r :: Γ') F' → Q v H') :
    tLc (wpI X tg it) (fun v σ H Q => ∀ s H0 C cl fp, wpG (Blk X scope s H0 C cl fp) tg v σ H Q) (fun σ H Q => ∀ s H0 C cl fp, wpTs (Blk X scope s H0 C cl fp) ifs σ H Q) (fun σ H Q => ∀ s H0 C cl fp, wpE (Blk X scope s H0 C cl fp) elt σ H Q) (own.map (·.2)) σ H Q := by
  generalize hvs : own.map (·.2) = vs at h
  refine h I H σ F en _ fun ds Γ1 I1 H1 F1 Jt h1 st1 en1 isit D hD => ?_
  obtain ⟨hsz, j0, turn, fin⟩ := h1
  obtain ⟨F1', en1', m1⟩ := env_drop vs en1
  have en2 : EnvF X.tc I1 (upd H1 D (.lst [])) (wipe σ vs) (dropΓ vs Γ1) F1' := ⟨en1'.env.frame (Same.refl _) fun b hb => by
    obtain ⟨⟨ob, q1⟩, q2⟩ := en1'.env.cells b hb
    exact ⟨upd_ne (ne_of_none q1 hD), q2⟩, en1'.nd, upd_sub en1'.sub hD⟩
  have nD : D ∉ F1' := fun hb => by
    obtain ⟨⟨ob, q1⟩, _⟩ := en1'.env.cells D hb
    rw [hD] at q1
    cases q1
  have st2 : Step I1 H1 F1 I1 (upd H1 D (.lst [])) (D :: F1') := (step_new (F := F1) hD).of_mem (fun b hb => hb) fun b hb => (List.mem_cons.mp hb).elim (fun q => q ▸ List.mem_cons_self) fun q => List.mem_cons_of_mem _ (m1 b q)
  refine ⟨fun n m H' => m = ds.length - n ∧ n ≤ ds.length ∧ ∃ Γ2 I2 F2 acc ws, J ds n Γ2 acc ∧ acc.length ≤ n ∧ H' D = some (.lst ws) ∧ I2 D = none ∧ RpL X.tc I2 ws acc ∧ EnvF X.tc I2 H' (wipe σ vs) Γ2 F2 ∧ D ∉ F2 ∧ Step I1 H1 F1 I2 H' (D :: F2),
    ⟨_, rfl, Nat.zero_le _, dropΓ vs Γ1, I1, F1', [], [], j0, Nat.le_refl _, upd_same, en1.sub.free hD, .nil, en2, nD, st2⟩, ?_⟩
  rintro n m H2 ⟨rfl, hn, Γ2, I2, F2, acc, ws, jn, hacc, hD2, iD2, rws, en3, nD2, st3⟩
  by_cases hlt : n < ds.length
  · refine .inr ⟨isit.go n I2 H2 st3.inc en3.sub hlt, fun H' => ∃ Γ3 I3 F3 acc' ws', J ds (n + 1) Γ3 acc' ∧ acc'.length ≤ n + 1 ∧ H' D = some (.lst ws') ∧ I3 D = none ∧ RpL X.tc I3 ws' acc' ∧ EnvF X.tc I3 H' (wipe σ vs) Γ3 F3 ∧ D ∉ F3 ∧ Step I1 H1 F1 I3 H' (D :: F3),
      fun H' q => ⟨ds.length - (n + 1), by omega, rfl, hlt, q⟩, fun v H3 hy => ?_⟩
    obtain ⟨I3, d, hd, st4, sub3, hr⟩ := isit.yld n I2 H2 v H3 st3.inc en3.sub hlt hy
    obtain ⟨hD3, iD3, _⟩ := st4.oth D _ hD2 iD2 (by simp)
    obtain ⟨en4, st4'⟩ := en3.grow st4 sub3
    obtain ⟨Γ3, tg3, Ψ4, tt4, te5⟩ := turn n d Γ2 acc hd jn
    rw [hvs] at tg3 te5
    intro s0 H0 C0 cl0 fp0
    refine tg3 s0 H0 C0 cl0 fp0 I3 H3 (wipe σ vs) F2 v en4 hr _ ?_
    rintro _ I5 H5 σ5 F5 rfl st5 en5 w5
    rw [wipe_wipe] at w5
    refine ⟨w5, fun s1 H1' C1 cl1 fp1 => tt4 s1 H1' C1 cl1 fp1 I5 H5 σ5 F5 en5 _ fun kb Γ4 I6 H6 F6 h6 st6 en6 => ?_⟩
    have st36 : Step I3 H3 F2 I6 H6 F6 := st5.trans st6
    obtain ⟨hD6, iD6, nD6⟩ := st36.oth D _ hD3 iD3 nD2
    have st16 : Step I1 H1 F1 I6 H6 (D :: F6) := by
      refine ⟨(st3.inc.trans st4.inc).trans st36.inc, fun b ob q1 q2 q3 => ?_⟩
      obtain ⟨g1, g2, g3⟩ := st3.oth b ob q1 q2 q3
      rw [List.mem_cons, not_or] at g3
      obtain ⟨g4, g5, g6⟩ := st4'.oth b ob g1 g2 g3.2
      obtain ⟨g7, g8, g9⟩ := st36.oth b ob g4 g5 g6
      exact ⟨g7, g8, fun q => (List.mem_cons.mp q).elim g3.1 g9⟩
    have rws6 := (rws.mono st4.inc).mono st36.inc
    -- back to the wiped slots
    have back : ∀ {Γ7 : Sl} {I7 H7 : Hp} {F7 : List Addr}, EnvF X.tc I7 H7 σ5 Γ7 F7 → ∃ F8, EnvF X.tc I7 H7 (wipe σ vs) (dropΓ vs Γ7) F8 ∧ ∀ b ∈ F8, b ∈ F7 := fun en7 => by
      obtain ⟨F8, en8, m8⟩ := env_drop vs en7
      rw [w5] at en8
      exact ⟨F8, en8, m8⟩
    cases kb with
    | false =>
      rw [if_neg Bool.false_ne_true]
      obtain ⟨F8, en8, m8⟩ := back en6
      exact ⟨_, I6, F8, acc, ws, (te5 false Γ4 h6).2 rfl, by omega, hD6, iD6, rws6, en8, fun q => nD6 (m8 D q), st16.of_mem (fun b hb => hb) fun b hb => (List.mem_cons.mp hb).elim (fun q => q ▸ List.mem_cons_self) fun q => List.mem_cons_of_mem _ (m8 b q)⟩
    | true =>
      rw [if_pos rfl]
      intro s2 H2' C2 cl2 fp2
      refine (te5 true Γ4 h6).1 rfl s2 H2' C2 cl2 fp2 I6 H6 σ5 F6 en6 _ ?_
      rintro r Γ5 I7 H7 y F7 ⟨x, fz, hj⟩ st7 en7
      obtain ⟨I8, F8, st8, en8⟩ := en7.frz fz
      obtain ⟨B, G, rfl, oo, en9, _⟩ := en8.pop
      cases oo with
      | da hx =>
        have st68 := st7.trans st8
        obtain ⟨hD8, iD8, nD8⟩ := st68.oth D _ hD6 iD6 nD6
        obtain ⟨F9, en10, m9⟩ := back en9
        have nD9 : D ∉ F9 := fun q => nD8 (m9 D q)
        have en11 : EnvF X.tc I8 (upd H7 D (.lst (ws ++ [y]))) (wipe σ vs) (dropΓ vs Γ5) F9 := ⟨en10.env.frame (Same.refl _) fun b hb => ⟨upd_ne fun q => nD9 (q ▸ hb), (en10.env.cells b hb).2⟩, en10.nd, fun b u q => by
          rw [upd_ne fun e => by
            rw [e, iD8] at q
            cases q]
          exact en10.sub b u q⟩
        refine ⟨ws, hD8, by rw [rws.length]; omega, dropΓ vs Γ5, I8, F9, acc ++ [x], ws ++ [y], hj, by simp; omega, upd_same, iD8, RpL.append (rws6.mono st68.inc) (.cons hx .nil), en11, nD9, ?_⟩
        refine ⟨st16.inc.trans st68.inc, fun b ob q1 q2 q3 => ?_⟩
        obtain ⟨g1, g2, g3⟩ := st16.oth b ob q1 q2 q3
        rw [List.mem_cons, not_or] at g3
        obtain ⟨g4, g5, g6⟩ := st68.oth b ob g1 g2 g3.2
        refine ⟨by rw [upd_ne g3.1]; exact g4, g5, fun q => (List.mem_cons.mp q).elim g3.1 fun q => g6 (m9 b q)⟩
  · have e : n = ds.length := by omega
    subst e
    refine .inl ⟨isit.stop I2 H2 st3.inc en3.sub, ?_⟩
    obtain ⟨F3, en4, m4⟩ := env_undrop vs en3
    have nd : (D :: F3).Nodup := List.nodup_cons.mpr ⟨fun q => nD2 (m4 D q), en4.nd⟩
    exact k _ _ I2 H2 (.ref D) (D :: F3) (fin Γ2 acc jn) (st1.trans (st3.of_mem (fun b hb => hb) fun b hb => (List.mem_cons.mp hb).elim (fun q => q ▸ List.mem_cons_self) fun q => List.mem_cons_of_mem _ (m4 b q))) ⟨.cons (.ll hD2 iD2 rws) en4.env, nd, en4.sub⟩
end
end TL
/-! TL11: comprehensions as rules; the frame's facts. -/
namespace TL
open PySem PySem.Spec PyProof.Rows L2
/-- what every rule asks of the context -/
structure Fr (X : Cx) (k : Nat) : Prop where
  nd : X.N.Nodup
  calm : X.calm = true
  own : PassesOwn (model X.prog X.w) X.A X.env X.xe
  room : Room k X.A
  gd : X.A.guards = some []
section
variable {X : Cx} {k : Nat}
theorem Fr.u (f : Fr X k) : X.A.units + 64 < cLine := f.room.units
theorem Fr.u70 (f : Fr X k) : X.A.units + 70 < cLine := by have := f.room.un; omega
end
section
variable {X : Cx} {e a b c o elt tg it : Expr} {es ifs : List Expr} {ss rest : List Stmt} {Γ Γ' Γ1 Γ2 : Sl} {Ψ : OD → Sl → Prop} {Φ : Out → Prop} {Φt : Bool → Sl → Prop} {pos p apos spos py : Pos} {r x y z : OD} {nm : Str} {ds : List PyData} {d : PyData} {scope : Scope} {own : List (Str × Nat)}
abbrev LcWI (X : Cx) (scope : Scope) (own : List (Str × Nat)) (tg it elt : Expr) (ifs : List Expr) (Γ : Sl) (J : List PyData → Nat → Sl → List PyData → Prop) (Ψ : OD → Sl → Prop) : Prop :=
  WI X tg it Γ fun ds Γ1 => ds.length ≤ sizeLine ∧ J ds 0 (dropΓ (own.map (·.2)) Γ1) [] ∧
      (∀ (n : Nat) (d : PyData) (Γ2 : Sl) (acc : List PyData), ds[n]? = some d → J ds n Γ2 acc → LcTurn X scope own tg elt ifs d Γ2 (fun Γ3 => J ds (n + 1) Γ3 acc) fun x Γ3 => J ds (n + 1) Γ3 (acc ++ [x])) ∧
      ∀ (Γ2 : Sl) (acc : List PyData), J ds ds.length Γ2 acc → Ψ (.ll acc) (dropΓ (own.map (·.2)) Γ2)
theorem we_lc (own : List (Str × Nat)) (J : List PyData → Nat → Sl → List PyData → Prop) (hc : X.calm = true) (hN : X.N.Nodup) (h : LcWI X scope own tg it elt ifs Γ J Ψ)
    (ok : blkC X.N X.env.scope scope own = true := by rfl) (hs : ∀ x, foldedSetIterable it X.env x = pure x := by intro _; rfl) : WE X (.ListComp elt [⟨tg, it, ifs, 0⟩] scope pos) Γ Ψ := fun I H σ F en Q k =>
  ⟨_, pe_lc hc hN wpI_ok (blkOk_by ok) (g := fun v σ H Q => ∀ s H0 C cl fp, wpG (Blk X scope s H0 C cl fp) tg v σ H Q) (tt := fun σ H Q => ∀ s H0 C cl fp, wpTs (Blk X scope s H0 C cl fp) ifs σ H Q) (te := fun σ H Q => ∀ s H0 C cl fp, wpE (Blk X scope s H0 C cl fp) elt σ H Q)
    (fun s H0 C cl fp => ⟨fun pins s' σ H v u Q I r h => wpG_ok.run pins s' σ H v u Q I r (h s H0 C cl fp)⟩) (fun s H0 C cl fp => ⟨fun pins s' σ H Q I h => wpTs_ok.run pins s' σ H Q I (h s H0 C cl fp)⟩) (fun s H0 C cl fp => ⟨fun pins s' σ H Q I h => wpE_ok.run pins s' σ H Q I (h s H0 C cl fp)⟩) hs,
    lc_read J h I H σ F en Q k⟩
/-- y = [..], y a plain local name -/
theorem ws_setLc (i : Nat) (own : List (Str × Nat)) (J : List PyData → Nat → Sl → List PyData → Prop) (hc : X.calm = true) (hN : X.N.Nodup) (h : LcWI X scope own tg it elt ifs Γ J fun r Γ1 => WSs X rest (Γ1.set i (some r)) Φ)
    (hi : X.N[i]? = some nm := by rfl) (hyl : X.env.scope.names.lookup nm = some .local := by rfl) (hl : Nat.blt i Γ.length = true := by rfl) (hsw : swapsWith (.ListComp elt [⟨tg, it, ifs, 0⟩] scope pos) (some (.Name nm py)) spos.line X.env = pure true := by rfl)
    (ok : blkC X.N X.env.scope scope own = true := by rfl) (hs : ∀ x, foldedSetIterable it X.env x = pure x := by intro _; rfl) : WSs X (.Assign [.Name nm py] (.ListComp elt [⟨tg, it, ifs, 0⟩] scope pos) spos :: rest) Γ Φ := fun I H σ F en D ek =>
  ⟨_, pss_cons (ps_setLc hc hN hi hyl hsw wpI_ok (blkOk_by ok) (g := fun v σ H Q => ∀ s H0 C cl fp, wpG (Blk X scope s H0 C cl fp) tg v σ H Q) (tt := fun σ H Q => ∀ s H0 C cl fp, wpTs (Blk X scope s H0 C cl fp) ifs σ H Q) (te := fun σ H Q => ∀ s H0 C cl fp, wpE (Blk X scope s H0 C cl fp) elt σ H Q)
    (fun s H0 C cl fp => ⟨fun pins s' σ H v u Q I r h => wpG_ok.run pins s' σ H v u Q I r (h s H0 C cl fp)⟩) (fun s H0 C cl fp => ⟨fun pins s' σ H Q I h => wpTs_ok.run pins s' σ H Q I (h s H0 C cl fp)⟩) (fun s H0 C cl fp => ⟨fun pins s' σ H Q I h => wpE_ok.run pins s' σ H Q I (h s H0 C cl fp)⟩) hs) wpSs_ok,
    lc_read (Ψ := fun r Γ1 => WSs X rest (Γ1.set i (some r)) Φ) J h I H σ F en (fun v H1 => wpSs X rest D (σ.set i (some v)) H1) fun r Γ1 I1 H1 v F1 h1 st1 en1 => by
      have hl1 : i < Γ1.length := by rw [en.len_eq1 en1]; exact Nat.le_of_ble_eq_true hl
      obtain ⟨F2, en2, m2⟩ := en1.store hl1
      exact h1 I1 H1 _ F2 en2 D (ek.step (step_sub st1 m2))⟩
/-! the deterministic ones -/
/-- one turn that answers, or skips -/
def LcDet (X : Cx) (scope : Scope) (own : List (Str × Nat)) (tg elt : Expr) (ifs : List Expr) (d : PyData) (Γ0 : Sl) (g : Option PyData) : Prop :=
  ∃ Γ3 k, (∀ s H C cl fp, WGc (Blk X scope s H C cl fp) (own.map (·.2)) tg d Γ0 fun Γ' => Γ' = Γ3) ∧ (∀ s H C cl fp, WTs (Blk X scope s H C cl fp) ifs Γ3 fun k' Γ' => k' = k ∧ Γ' = Γ3) ∧ dropΓ (own.map (·.2)) Γ3 = Γ0 ∧
    (k = false → g = none) ∧ (k = true → ∃ x, g = some x ∧ ∀ s H C cl fp, ∃ r, Frz r x ∧ XE (Blk X scope s H C cl fp) elt Γ3 r Γ3)
theorem lc_det {α : Type} {xs : List α} {E : α → PyData} {Γ0 : Sl} {g : α → Option PyData} (hi : XI X tg it Γ (xs.map E) Γ1) (hsz : xs.length ≤ sizeLine) (h0 : dropΓ (own.map (·.2)) Γ1 = Γ0) (turn : ∀ x ∈ xs, LcDet X scope own tg elt ifs (E x) Γ0 (g x)) (hd : dropΓ (own.map (·.2)) Γ0 = Γ0) (hq : Ψ (.ll (xs.filterMap g)) Γ0) :
    LcWI X scope own tg it elt ifs Γ (fun ds' n Γ' acc => ds' = xs.map E ∧ Γ' = Γ0 ∧ acc = (xs.take n).filterMap g) Ψ := by
  refine hi _ ⟨by rw [List.length_map]; exact hsz, ⟨rfl, h0, rfl⟩, ?_, ?_⟩
  · rintro n d _ _ hn ⟨_, rfl, rfl⟩
    rw [List.getElem?_map] at hn
    obtain ⟨x, hx, rfl⟩ := Option.map_eq_some_iff.mp hn
    obtain ⟨Γ3, k, h1, h2, h3, h4, h5⟩ := turn x (List.mem_of_getElem? hx)
    refine ⟨Γ3, h1, _, h2, ?_⟩
    have e : (xs.take (n + 1)).filterMap g = (xs.take n).filterMap g ++ (g x).toList := by
      rw [List.take_succ, hx, List.filterMap_append]
      cases hgd : g x <;> simp [hgd]
    rintro k' Γ4 ⟨rfl, rfl⟩
    refine ⟨fun hk s H C cl fp => ?_, fun hk => ⟨rfl, h3, by rw [e, h4 hk]; simp⟩⟩
    obtain ⟨y, hy, q⟩ := h5 hk
    obtain ⟨r, fz, hr⟩ := q s H C cl fp
    exact hr _ ⟨y, fz, rfl, h3, by rw [e, hy]; rfl⟩
  · rintro _ _ ⟨_, rfl, rfl⟩
    rw [hd, List.length_map, List.take_length]
    exact hq
theorem filterMap_some {α β : Type} {f : α → β} : ∀ {xs : List α}, xs.filterMap (fun x => some (f x)) = xs.map f
  | [] => rfl
  | x :: xs => by
    rw [List.filterMap_cons_some (f := fun x => some (f x)) (b := f x) rfl, filterMap_some, List.map_cons]
theorem filterMap_if {α β : Type} {f : α → β} {p : α → Bool} : ∀ {xs : List α}, xs.filterMap (fun x => if p x then some (f x) else none) = (xs.filter p).map f
  | [] => rfl
  | x :: xs => by
    cases hx : p x
    · rw [List.filterMap_cons_none (by simp [hx]), filterMap_if, List.filter_cons_of_neg (by simp [hx])]
    · rw [List.filterMap_cons_some (b := f x) (by simp [hx]), filterMap_if, List.filter_cons_of_pos hx, List.map_cons]
/-- one for, no if -/
theorem lc_map {α : Type} {xs : List α} {E f : α → PyData} {Γ0 : Sl} {R : α → OD} (Γ3 : α → Sl) (hi : XI X tg it Γ (xs.map E) Γ1) (hsz : xs.length ≤ sizeLine) (h0 : dropΓ (own.map (·.2)) Γ1 = Γ0)
    (hg : ∀ x ∈ xs, ∀ s H C cl fp, WGc (Blk X scope s H C cl fp) (own.map (·.2)) tg (E x) Γ0 fun Γ' => Γ' = Γ3 x) (he : ∀ x ∈ xs, ∀ s H C cl fp, XE (Blk X scope s H C cl fp) elt (Γ3 x) (R x) (Γ3 x)) (hf : ∀ x, Frz (R x) (f x))
    (hd3 : ∀ x, dropΓ (own.map (·.2)) (Γ3 x) = Γ0) (hd : dropΓ (own.map (·.2)) Γ0 = Γ0) (hq : Ψ (.ll (xs.map f)) Γ0) :
    LcWI X scope own tg it elt [] Γ (fun ds' n Γ' acc => ds' = xs.map E ∧ Γ' = Γ0 ∧ acc = (xs.take n).filterMap fun x => some (f x)) Ψ :=
  lc_det hi hsz h0 (fun x hx => ⟨Γ3 x, true, hg x hx, fun _ _ _ _ _ => wts_nil ⟨rfl, rfl⟩, hd3 x, (fun q => Bool.noConfusion q), fun _ => ⟨_, rfl, fun s H C cl fp => ⟨_, hf x, he x hx s H C cl fp⟩⟩⟩) hd (by rw [filterMap_some]; exact hq)
/-- one for, one if -/
theorem lc_fil {α : Type} {xs : List α} {E f : α → PyData} {Γ0 : Sl} {R : α → OD} (pr : α → Bool) (Γ3 : α → Sl) (hi : XI X tg it Γ (xs.map E) Γ1) (hsz : xs.length ≤ sizeLine) (h0 : dropΓ (own.map (·.2)) Γ1 = Γ0)
    (hg : ∀ x ∈ xs, ∀ s H C cl fp, WGc (Blk X scope s H C cl fp) (own.map (·.2)) tg (E x) Γ0 fun Γ' => Γ' = Γ3 x) (ht : ∀ x ∈ xs, ∀ s H C cl fp, XT (Blk X scope s H C cl fp) c (Γ3 x) (pr x) (Γ3 x)) (he : ∀ x ∈ xs, pr x = true → ∀ s H C cl fp, XE (Blk X scope s H C cl fp) elt (Γ3 x) (R x) (Γ3 x)) (hf : ∀ x, Frz (R x) (f x))
    (hd3 : ∀ x, dropΓ (own.map (·.2)) (Γ3 x) = Γ0) (hd : dropΓ (own.map (·.2)) Γ0 = Γ0) (hq : Ψ (.ll ((xs.filter pr).map f)) Γ0) :
    LcWI X scope own tg it elt [c] Γ (fun ds' n Γ' acc => ds' = xs.map E ∧ Γ' = Γ0 ∧ acc = (xs.take n).filterMap fun x => if pr x then some (f x) else none) Ψ :=
  lc_det hi hsz h0 (fun x hx => ⟨Γ3 x, pr x, hg x hx, fun s H C cl fp => wts_one (ht x hx s H C cl fp _ ⟨rfl, rfl⟩), hd3 x, (fun q => by simp [q]), fun q => ⟨f x, by simp [q], fun s H C cl fp => ⟨_, hf x, he x hx q s H C cl fp⟩⟩⟩) hd (by
    rw [filterMap_if]
    exact hq)
end
end TL
/-! TL12: slots read in place; dicts. -/
namespace TL
open PySem PySem.Spec PyProof.Rows L2
/-! ### association lists -/
section
variable {κ β : Type} [DecidableEq κ]
def kget (m : List (κ × β)) (k : κ) : Option β := (m.find? fun q => decide (q.1 = k)).map (·.2)
def kput (m : List (κ × β)) (k : κ) (v : β) : List (κ × β) := if (m.any fun q => decide (q.1 = k)) = true then m.map (fun q => if q.1 = k then (q.1, v) else q) else m ++ [(k, v)]
theorem kget_nil {k : κ} : kget ([] : List (κ × β)) k = none := rfl
theorem kget_cons {p : κ × β} {m : List (κ × β)} {k : κ} : kget (p :: m) k = if p.1 = k then some p.2 else kget m k := by
  unfold kget
  rw [List.find?_cons]
  by_cases h : p.1 = k <;> simp [h]
theorem kget_any {m : List (κ × β)} {k : κ} : (m.any fun q => decide (q.1 = k)) = (kget m k).isSome := by
  induction m with
  | nil => rfl
  | cons p m ih =>
    rw [List.any_cons, ih, kget_cons]
    by_cases h : p.1 = k <;> simp [h]
theorem kget_mem {m : List (κ × β)} {k : κ} : (kget m k).isSome = decide (k ∈ m.map (·.1)) := by
  induction m with
  | nil => rfl
  | cons p m ih =>
    rw [kget_cons]
    by_cases h : p.1 = k
    · rw [if_pos h, List.map_cons, h]
      simp
    · rw [if_neg h, ih, List.map_cons]
      have h' : ¬ k = p.1 := fun q => h q.symm
      simp [List.mem_cons, h']
end
/-! ### slots read in place -/
def Rd2 (T : TC) (f : R2) (x : OD) (d g : PyData) : Prop := ∀ (I H : Hp) (v u : V) (B : List Addr), Own T I H v x B → Rp T I u d → Same I H → ∀ Q : VK, (∀ w, Rp T I w g → Q w H) → f v u H Q
def Rd1 (T : TC) (f : List V → Hp → VK → Prop) (x z : OD) : Prop := ∀ (I H : Hp) (v : V) (B : List Addr), Own T I H v x B → Same I H → ∀ Q : VK,
  (∀ (I' H' : Hp) (w : V) (B' : List Addr), Step I H [] I' H' B' → Own T I' H' w z B' → B'.Nodup → Same I' H' → Q w H') → f [v] H Q
theorem Rd1.pure {T : TC} {f : List V → Hp → VK → Prop} {x : OD} {g : PyData} (h : ∀ (I H : Hp) (v : V) (B : List Addr), Own T I H v x B → Same I H → ∀ Q : VK, (∀ w, Rp T I w g → Q w H) → f [v] H Q) : Rd1 T f x (.da g) :=
  fun I H v B o s Q k => h I H v B o s Q fun w hw => k I H w [] .refl (.da hw) List.nodup_nil s
theorem Rd1.opl {T : TC} {f : List V → Hp → VK → Prop} {d : PyData} {z : OD} (h : Rd1 T f (.da d) z) : OpL T f [.da d] z := fun I H vs B o nd s Q k => by
  obtain ⟨rfl, r⟩ := ownL_da (ds := [d]) o
  obtain ⟨v, rfl, r'⟩ := rpL1 r
  exact h I H v [] (.da r') s Q k
theorem Rd2.op2' {T : TC} {f : R2} {x d g : PyData} (h : Rd2 T (fun v u => f u v) (.da x) d g) : Op2 T f (.da d) (.da x) (.da g) := Op2.pure fun I H v u h1 h2 s Q k => h I H u v [] (.da h2) h1 s Q k
/-- the slot's value and what it holds -/
theorem EnvF.see {T : TC} {I H : Hp} {σ : L2.St} {Γ : Sl} {F : List Addr} {i : Nat} {x : OD} (en : EnvF T I H σ Γ F) (hx : Γ[i]? = some (some x)) : ∃ v B, σ[i]? = some (some v) ∧ Own T I H v x B := by
  obtain ⟨v, B, G, h1, h2, _⟩ := en.take hx
  exact ⟨v, B, h1, h2⟩
def OSome : Option (Option OD) → Bool
  | some (some _) => true
  | _ => false
theorem OSome.ex {o : Option (Option OD)} (h : OSome o = true) : ∃ x, o = some (some x) := by
  unfold OSome at h
  split at h
  · exact ⟨_, rfl⟩
  · cases h
section
variable {X : Cx} {e a b c o : Expr} {es : List Expr} {ss rest : List Stmt} {Γ Γ' Γ1 Γ2 : Sl} {Ψ : OD → Sl → Prop} {Φ : Out → Prop} {Φt : Bool → Sl → Prop} {pos p apos : Pos} {r x y z : OD} {k k' : Bool} {nm : Str} {ds : List PyData} {d g : PyData} {f : R2} {i : Nat} {wl : List V → Hp → VK → Prop}
theorem core_VS (hb : XE X b Γ (.da d) Γ1) (hx : Γ1[i]? = some (some x)) (rd : Rd2 X.tc (fun v u => f u v) x d g) {I H : Hp} {σ : L2.St} {F : List Addr} (en : EnvF X.tc I H σ Γ F) (Q : VK)
    (k : ∀ (w : V) (I' H' : Hp) (F' : List Addr), Rp X.tc I' w g → Step I H F I' H' F' → EnvF X.tc I' H' σ Γ1 F' → Q w H') : wpE X b σ H fun u H1 => ∃ v, σ[i]? = some (some v) ∧ f u v H1 Q := by
  refine hb (fun r Γ' => r = .da d ∧ Γ' = Γ1) ⟨rfl, rfl⟩ I H σ F en _ ?_
  rintro _ _ I1 H1 u F1 ⟨rfl, rfl⟩ st1 en1
  obtain ⟨B, G, rfl, oo, en2, _⟩ := en1.pop
  cases oo with
  | da hd =>
    obtain ⟨v', B', e1', ow⟩ := en2.see hx
    exact ⟨v', e1', rd I1 H1 v' u B' ow hd en2.sub Q fun w hw => k w I1 H1 G hw st1 en2⟩
theorem core_S {σ : L2.St} {I H : Hp} {F : List Addr} (hx : Γ[i]? = some (some x)) (rd : Rd1 X.tc wl x z) (en : EnvF X.tc I H σ Γ F) (Q : VK)
    (k : ∀ (w : V) (I' H' : Hp) (F' : List Addr), Step I H F I' H' F' → EnvF X.tc I' H' (some w :: σ) (some z :: Γ) F' → Q w H') : ∃ v, σ[i]? = some (some v) ∧ wl [v] H Q := by
  obtain ⟨v, B, e1, ow⟩ := en.see hx
  refine ⟨v, e1, rd I H v B ow en.sub Q fun I' H' w B' st o nd sub => ?_⟩
  obtain ⟨en2, st2⟩ := en.use (B := []) (by simpa using en.nd) st o nd sub
  exact k w I' H' _ st2 en2
/-- f(name): the slot read in place -/
theorem xe_callS {id : String} (i : Nat) (hc : CallR X (.builtin id) wl) (q : Rd1 X.tc wl x z) (hg : Gl X nm) (hm : X.mg nm = none) (hv : bootBuiltins nm = some (.builtin id)) {n2 : Str} {p2 : Pos} (hx : Γ[i]? = some (some x) := by rfl)
    (hN : X.N[i]? = some n2 := by rfl) (hvs : Vis X.env.scope n2 := by first | exact Or.inl rfl | exact Or.inr (Or.inl rfl) | exact Or.inr (Or.inr rfl)) (h1 : (n2 == ("__debug__" : Str)) = false := by decide) (h2 : (n2 == ("__classdict__" : Str)) = false := by decide)
    (hn : nm ≠ "__name__" := by decide) (hdb : (nm == ("__debug__" : Str)) = false := by decide) (he : starEach [.Name n2 p2] X.env = (false, eval (.Name n2 p2) X.env) :: starEach [] X.env := by rfl) (hpl : (backTo pos (starEach [] X.env)).any (·.1) = false := by rfl) :
    XE X (.Call (.Name nm p) [.Name n2 p2] [] pos) Γ z Γ := fun Ψ hq I H σ F en Q k => ⟨_, pe_callB hc hg hm hv (pa_cons (pe_var hN hvs h1 h2) pa_nil he) hn hdb he hpl, core_S hx q en Q fun w I' H' F' st en' => k z Γ I' H' w F' hq st en'⟩
theorem xe_callTyS {Ty : String} (i : Nat) (hc : CallR X (.type Ty) wl) (q : Rd1 X.tc wl x z) (hg : Gl X nm) (hm : X.mg nm = none) (hv : bootBuiltins nm = some (.type Ty)) {n2 : Str} {p2 : Pos} (hx : Γ[i]? = some (some x) := by rfl)
    (hN : X.N[i]? = some n2 := by rfl) (hvs : Vis X.env.scope n2 := by first | exact Or.inl rfl | exact Or.inr (Or.inl rfl) | exact Or.inr (Or.inr rfl)) (h1 : (n2 == ("__debug__" : Str)) = false := by decide) (h2 : (n2 == ("__classdict__" : Str)) = false := by decide)
    (hn : nm ≠ "__name__" := by decide) (hdb : (nm == ("__debug__" : Str)) = false := by decide) (he : starEach [.Name n2 p2] X.env = (false, eval (.Name n2 p2) X.env) :: starEach [] X.env := by rfl) (hpl : (backTo pos (starEach [] X.env)).any (·.1) = false := by rfl) :
    XE X (.Call (.Name nm p) [.Name n2 p2] [] pos) Γ z Γ := fun Ψ hq I H σ F en Q k => ⟨_, pe_callTy hc hg hm hv (pa_cons (pe_var hN hvs h1 h2) pa_nil he) hn hdb he hpl, core_S hx q en Q fun w I' H' F' st en' => k z Γ I' H' w F' hq st en'⟩
end
/-! ### dicts with keys ints and texts -/
def dkD (ks : List (Key × PyData)) : PyData := .dict (ks.map fun p => (keyD p.1, p.2))
theorem keyD_inj : ∀ {a b : Key}, keyD a = keyD b → a = b
  | .inl i, .inl j, h => by cases h; rfl
  | .inr i, .inr j, h => by cases h; rfl
  | .inl i, .inr j, h => by cases h
  | .inr i, .inl j, h => by cases h
inductive DV : OD → List (Key × PyData) → Prop
  | dd {ks : List (Key × PyData)} : DV (.dd ks) ks
  | pin {v : V} {ks : List (Key × PyData)} : DV (.pin v (.dd ks)) ks
  | da {ks : List (Key × PyData)} : DV (.da (dkD ks)) ks
theorem map_inj {α β : Type} {f : α → β} (hf : ∀ a b, f a = f b → a = b) : ∀ {xs ys : List α}, xs.map f = ys.map f → xs = ys
  | [], [], _ => rfl
  | [], _ :: _, h => by simp at h
  | _ :: _, [], h => by simp at h
  | x :: xs, y :: ys, h => by
    rw [List.map_cons, List.map_cons, List.cons.injEq] at h
    rw [hf _ _ h.1, map_inj hf h.2]
theorem rp_dkD {T : TC} {I : Hp} {v : V} {ks : List (Key × PyData)} (h : Rp T I v (dkD ks)) : ∃ a ob kvs, v = .ref a ∧ I a = some (.frz ob (.dK kvs)) ∧ kvs.map Prod.fst = ks.map Prod.fst ∧ RpL T I (kvs.map Prod.snd) (ks.map Prod.snd) := by
  unfold dkD at h
  cases h with
  | @dk a ob kvs _ h k r =>
    refine ⟨a, ob, kvs, rfl, h, ?_, ?_⟩
    · rw [List.map_map] at k
      have k' : (ks.map Prod.fst).map keyD = (kvs.map Prod.fst).map keyD := by
        rw [List.map_map, List.map_map]
        exact k
      exact (map_inj (fun _ _ => keyD_inj) k').symm
    · rw [List.map_map] at r
      exact r
  | dn h k r s n =>
    obtain ⟨q, hq, n⟩ := n
    rw [List.map_map] at k
    have : q.1.data ∈ List.map (Prod.fst ∘ fun p : Key × PyData => (keyD p.1, p.2)) ks := by
      rw [k]
      exact List.mem_map.mpr ⟨q, hq, rfl⟩
    obtain ⟨p, _, hp⟩ := List.mem_map.mp this
    exact absurd hp.symm (n p.1)
  | tn _ _ _ q =>
    cases ks with
    | nil => cases q
    | cons p r =>
      have q' : keyD p.1 = PyData.list [] := congrArg Prod.fst (List.cons.inj q).1
      cases hp : p.1 <;> rw [hp] at q' <;> cases q'
theorem DV.rd {T : TC} {I H : Hp} {v : V} {x : OD} {B : List Addr} {ks : List (Key × PyData)} (h : DV x ks) (o : Own T I H v x B) (s : Same I H) : ∃ a kvs, v = .ref a ∧ Rd H a (.dK kvs) ∧ kvs.map Prod.fst = ks.map Prod.fst ∧ RpL T I (kvs.map Prod.snd) (ks.map Prod.snd) := by
  cases h with
  | dd => cases o with
    | dd h i k r => exact ⟨_, _, rfl, .inl h, k, r⟩
  | pin => cases o with
    | pin o => cases o with
      | dd h i k r => exact ⟨_, _, rfl, .inl h, k, r⟩
  | da => cases o with
    | da o =>
      obtain ⟨a, ob, kvs, rfl, h, k, r⟩ := rp_dkD o
      exact ⟨a, kvs, rfl, .inr ⟨ob, s _ _ h⟩, k, r⟩
section
variable {X : Cx} {e a b c o : Expr} {es : List Expr} {ss rest : List Stmt} {Γ Γ' Γ1 Γ2 : Sl} {Ψ : OD → Sl → Prop} {Φ : Out → Prop} {Φt : Bool → Sl → Prop} {pos p apos cpos : Pos} {r x y z : OD} {k : Key} {nm : Str} {ds : List PyData} {d g kd : PyData} {ks : List (Key × PyData)} {i : Nat}
theorem rp_key {T : TC} {I : Hp} {v : V} (h : Rp T I v (keyD k)) : v = kV k := by
  cases k with
  | inl i => cases h; rfl
  | inr s => cases h; rfl
/-! own dicts changed -/
inductive VDD : OD → List (Key × PyData) → (List (Key × PyData) → OD) → Prop
  | dd {ks : List (Key × PyData)} : VDD (.dd ks) ks .dd
  | pin {v : V} {ks : List (Key × PyData)} : VDD (.pin v (.dd ks)) ks fun ks => .pin v (.dd ks)
theorem VDD.own {T : TC} {I H : Hp} {v : V} {B : List Addr} {mk : List (Key × PyData) → OD} (h : VDD x ks mk) (o : Own T I H v x B) :
    ∃ p kvs, v = .ref p ∧ B = [p] ∧ H p = some (.dK kvs) ∧ I p = none ∧ kvs.map Prod.fst = ks.map Prod.fst ∧ RpL T I (kvs.map Prod.snd) (ks.map Prod.snd) ∧ ∀ (H' : Hp) (kvs' : List (Key × V)) (ks' : List (Key × PyData)), H' p = some (.dK kvs') → kvs'.map Prod.fst = ks'.map Prod.fst → RpL T I (kvs'.map Prod.snd) (ks'.map Prod.snd) → Own T I H' v (mk ks') [p] := by
  cases h with
  | dd => cases o with
    | dd h1 h2 h3 h4 => exact ⟨_, _, rfl, rfl, h1, h2, h3, h4, fun H' vs' ds' e r r' => .dd e h2 r r'⟩
  | pin => cases o with
    | pin o => cases o with
      | dd h1 h2 h3 h4 => exact ⟨_, _, rfl, rfl, h1, h2, h3, h4, fun H' vs' ds' e r r' => .pin (.dd e h2 r r')⟩
theorem EnvF.dd {T : TC} {I H : Hp} {σ : L2.St} {F : List Addr} {mk : List (Key × PyData) → OD} (en : EnvF T I H σ Γ F) (hx : Γ[i]? = some (some x)) (hv : VDD x ks mk) : ∃ p kvs, σ[i]? = some (some (.ref p)) ∧ H p = some (.dK kvs) ∧ kvs.map Prod.fst = ks.map Prod.fst ∧ RpL T I (kvs.map Prod.snd) (ks.map Prod.snd) ∧
    ∀ (kvs' : List (Key × V)) (ks' : List (Key × PyData)), kvs'.map Prod.fst = ks'.map Prod.fst → RpL T I (kvs'.map Prod.snd) (ks'.map Prod.snd) → ∃ F', EnvF T I (upd H p (.dK kvs')) σ (Γ.set i (some (mk ks'))) F' ∧ Step I H F I (upd H p (.dK kvs')) F' := by
  obtain ⟨v, B, G, e1, o, en', nd, mem⟩ := en.take hx
  obtain ⟨p, kvs, rfl, rfl, h1, h2, h3, h4, h5⟩ := hv.own o
  refine ⟨p, kvs, e1, h1, h3, h4, fun kvs' ks' r r' => ?_⟩
  have np : p ∉ G := (List.nodup_cons.mp (show (p :: G).Nodup from nd)).1
  have en2 : EnvF T I (upd H p (.dK kvs')) σ (Γ.set i none) G := ⟨en'.env.frame (Same.refl I) fun b hb => ⟨upd_ne fun q => np (q ▸ hb), (en'.env.cells b hb).2⟩, en'.nd, fun b u e => by
    rw [upd_ne fun q => by
      subst q
      rw [h2] at e
      cases e]
    exact en.sub b u e⟩
  obtain ⟨F', en3, nd3, m3⟩ := en2.into e1 (h5 _ kvs' ks' upd_same r r') nd
  rw [List.set_set] at en3
  exact ⟨F', en3, (step_upd (F := F) ((mem p).mpr (.inl (List.mem_singleton.mpr rfl)))).of_mem (fun b hb => hb) fun b hb => (mem b).mpr (m3 b hb)⟩
end
end TL
/-! TL13: lists and tuples as wholes: len, tuple(), list(), +, slices, in, sorted, max, min, all; truth. -/
namespace TL
open PySem PySem.Spec PyProof.Rows L2
/-- x stands as the data d -/
inductive SV : OD → PyData → Prop
  | da {d : PyData} : SV (.da d) d
  | ll {ds : List PyData} : SV (.ll ds) (.list ds)
  | pin {v : V} {ds : List PyData} : SV (.pin v (.ll ds)) (.list ds)
theorem SV.rp {T : TC} {I H : Hp} {v : V} {x : OD} {B : List Addr} {d : PyData} (h : SV x d) (o : Own T I H v x B) (s : Same I H) : Rp T H v d := by
  cases h with
  | da => cases o with
    | da o => exact o.mono s
  | ll => cases o with
    | ll h i r => exact .lst (SqL.of h) (r.mono s)
  | pin => cases o with
    | pin o => cases o with
      | ll h i r => exact .lst (SqL.of h) (r.mono s)
/-- .. a list or a tuple: its items -/
theorem SV.seq {T : TC} {I H : Hp} {v : V} {x : OD} {B : List Addr} {d : PyData} {ds : List PyData} (h : SV x d) (hd : d = .list ds ∨ d = .tuple ds) (o : Own T I H v x B) (s : Same I H) :
    ∃ a vs, v = .ref a ∧ ((d = .list ds ∧ SqL T.K H a vs) ∨ (d = .tuple ds ∧ SqT T.K H a vs ∧ Rp T I v d)) ∧ RpL T I vs ds := by
  cases h with
  | da => cases o with
    | da o =>
      rcases hd with rfl | rfl
      · cases o with
        | lst h r => exact ⟨_, _, rfl, .inl ⟨rfl, s.seq h⟩, r⟩
      · cases o with
        | tup h r => exact ⟨_, _, rfl, .inr ⟨rfl, sqT_mono s h, .tup h r⟩, r⟩
  | ll =>
    rcases hd with hd | hd
    · cases hd
      cases o with
      | ll h i r => exact ⟨_, _, rfl, .inl ⟨rfl, SqL.of h⟩, r⟩
    · cases hd
  | pin =>
    rcases hd with hd | hd
    · cases hd
      cases o with
      | pin o => cases o with
        | ll h i r => exact ⟨_, _, rfl, .inl ⟨rfl, SqL.of h⟩, r⟩
    · cases hd
section
variable {X : Cx} {e a b c o : Expr} {es : List Expr} {ss rest : List Stmt} {Γ Γ' Γ1 Γ2 : Sl} {Ψ : OD → Sl → Prop} {Φ : Out → Prop} {Φt : Bool → Sl → Prop} {pos p apos cpos p2 : Pos} {r x y z : OD} {nm n2 : Str} {ds es' : List PyData} {d d' g : PyData} {i : Nat}
/-! ### len, tuple, list -/
def rLen (T : TC) : List V → Hp → VK → Prop := fun xs H Q => ∃ p ys, xs = [.ref p] ∧ (SqL T.K H p ys ∨ SqT T.K H p ys) ∧ Q (.int ys.length) H
theorem rd_len {T : TC} (hv : SV x d) (hd : d = .list ds ∨ d = .tuple ds) : Rd1 T (rLen T) x (.da (.int ds.length)) := Rd1.pure fun I H v B o s Q k => by
  obtain ⟨a, vs, rfl, h, r⟩ := hv.seq hd o s
  exact ⟨a, vs, rfl, h.imp And.right fun q => q.2.1, by rw [r.length]; exact k _ (.int _)⟩
theorem xe_lenS (i : Nat) (B : Blt X.mg) (hx : Γ[i]? = some (some x) := by rfl) (hv : SV x d := by first | exact .da | exact .ll | exact .pin) (hd : d = .list ds ∨ d = .tuple ds := by first | exact .inl rfl | exact .inr rfl) (hg : Gl X "len" := by rfl)
    (hN : X.N[i]? = some n2 := by rfl) (hvs : Vis X.env.scope n2 := by first | exact Or.inl rfl | exact Or.inr (Or.inl rfl) | exact Or.inr (Or.inr rfl)) (h1 : (n2 == ("__debug__" : Str)) = false := by decide) (h2 : (n2 == ("__classdict__" : Str)) = false := by decide)
    (he : starEach [.Name n2 p2] X.env = (false, eval (.Name n2 p2) X.env) :: starEach [] X.env := by rfl) (hpl : (backTo pos (starEach [] X.env)).any (·.1) = false := by rfl) :
    XE X (.Call (.Name "len" p) [.Name n2 p2] [] pos) Γ (.da (.int ds.length)) Γ := xe_callS (wl := rLen X.tc) i call_len_seq (rd_len hv hd) hg B.len PySem.boot_len (hx := hx) (hN := hN) (hvs := hvs) (h1 := h1) (h2 := h2) (he := he) (hpl := hpl)
def rTupOf (T : TC) : List V → Hp → VK → Prop := fun xs H Q => ∃ p ys, xs = [.ref p] ∧ ((SqL T.K H p ys ∧ ∀ l, H l = none → Q (.ref l) (upd H l (.tup ys))) ∨ (SqT T.K H p ys ∧ Q (.ref p) H))
theorem rd_tup {T : TC} (hv : SV x d) (hd : d = .list ds ∨ d = .tuple ds) : Rd1 T (rTupOf T) x (.da (.tuple ds)) := fun I H v B o s Q k => by
  obtain ⟨a, vs, rfl, h, r⟩ := hv.seq hd o s
  rcases h with ⟨_, h⟩ | ⟨rfl, h, hr⟩
  · exact ⟨a, vs, rfl, .inl ⟨h, fun l hl => k (upd I l (.tup vs)) _ _ [] (step_frz s hl) (.da (.tup (SqT.of upd_same) (r.mono (upd_up (s.free hl))))) List.nodup_nil (upd_both s)⟩⟩
  · exact ⟨a, vs, rfl, .inr ⟨h, k I H _ [] .refl (.da hr) List.nodup_nil s⟩⟩
def rLstOf (T : TC) : List V → Hp → VK → Prop := fun xs H Q => ∃ p ys, xs = [.ref p] ∧ (SqL T.K H p ys ∨ SqT T.K H p ys) ∧ ∀ l, H l = none → Q (.ref l) (upd H l (.lst ys))
theorem rd_lst {T : TC} (hv : SV x d) (hd : d = .list ds ∨ d = .tuple ds) : Rd1 T (rLstOf T) x (.ll ds) := fun I H v B o s Q k => by
  obtain ⟨a, vs, rfl, h, r⟩ := hv.seq hd o s
  exact ⟨a, vs, rfl, h.imp And.right fun q => q.2.1, fun l hl => k I _ _ [l] (step_new hl) (.ll upd_same (s.free hl) r) (by simp) (upd_sub s hl)⟩
theorem xe_tupOfS (i : Nat) (B : Blt X.mg) (hx : Γ[i]? = some (some x) := by rfl) (hv : SV x d := by first | exact .da | exact .ll | exact .pin) (hd : d = .list ds ∨ d = .tuple ds := by first | exact .inl rfl | exact .inr rfl) (hg : Gl X "tuple" := by rfl)
    (hN : X.N[i]? = some n2 := by rfl) (hvs : Vis X.env.scope n2 := by first | exact Or.inl rfl | exact Or.inr (Or.inl rfl) | exact Or.inr (Or.inr rfl)) (h1 : (n2 == ("__debug__" : Str)) = false := by decide) (h2 : (n2 == ("__classdict__" : Str)) = false := by decide)
    (he : starEach [.Name n2 p2] X.env = (false, eval (.Name n2 p2) X.env) :: starEach [] X.env := by rfl) (hpl : (backTo pos (starEach [] X.env)).any (·.1) = false := by rfl) :
    XE X (.Call (.Name "tuple" p) [.Name n2 p2] [] pos) Γ (.da (.tuple ds)) Γ := xe_callTyS (wl := rTupOf X.tc) i call_tuple_of (rd_tup hv hd) hg B.tuple PyProof.Rows.boot_tuple (hx := hx) (hN := hN) (hvs := hvs) (h1 := h1) (h2 := h2) (he := he) (hpl := hpl)
theorem xe_tupOf (B : Blt X.mg) (ha : XE X a Γ (.da d) Γ1) (hd : d = .list ds ∨ d = .tuple ds := by first | exact .inl rfl | exact .inr rfl) (hg : Gl X "tuple" := by rfl) (he : starEach [a] X.env = (false, eval a X.env) :: starEach [] X.env := by rfl) (hpl : (backTo pos (starEach [] X.env)).any (·.1) = false := by rfl) :
    XE X (.Call (.Name "tuple" p) [a] [] pos) Γ (.da (.tuple ds)) Γ1 := xe_callTy1 (wl := rTupOf X.tc) call_tuple_of (rd_tup .da hd).opl hg B.tuple PyProof.Rows.boot_tuple ha (he := he) (hpl := hpl)
/-- tuple([..]): of a list that is new -/
theorem we_tupOf (B : Blt X.mg) (h : WE X a Γ fun r Γ1 => ∃ ds, r = .ll ds ∧ Ψ (.da (.tuple ds)) Γ1) (hg : Gl X "tuple" := by rfl) (he : starEach [a] X.env = (false, eval a X.env) :: starEach [] X.env := by rfl) (hpl : (backTo pos (starEach [] X.env)).any (·.1) = false := by rfl) :
    WE X (.Call (.Name "tuple" p) [a] [] pos) Γ Ψ := we_callTy (wl := rTupOf X.tc) call_tuple_of hg B.tuple PyProof.Rows.boot_tuple (wa_cons (we_frz (h.mono fun r Γ1 ⟨ds, e, q⟩ => ⟨.list ds, e ▸ .ll, wa_nil ⟨_, (rd_tup .da (.inl rfl)).opl, q⟩⟩)) he) (he := he) (hpl := hpl)
theorem xe_lstOf (B : Blt X.mg) (ha : XE X a Γ (.da d) Γ1) (hd : d = .list ds ∨ d = .tuple ds := by first | exact .inl rfl | exact .inr rfl) (hg : Gl X "list" := by rfl) (he : starEach [a] X.env = (false, eval a X.env) :: starEach [] X.env := by rfl) (hpl : (backTo pos (starEach [] X.env)).any (·.1) = false := by rfl) :
    XE X (.Call (.Name "list" p) [a] [] pos) Γ (.ll ds) Γ1 := xe_callTy1 (wl := rLstOf X.tc) call_list_of (rd_lst .da hd).opl hg B.list PyProof.Rows.boot_list ha (he := he) (hpl := hpl)
/-! ### + -/
/-! ### x in xs -/
def rInP (T : TC) (neg : Bool) : R2 := fun x y H Q => ∃ d ds, Rp T H x d ∧ (Rp T H y (.list ds) ∨ Rp T H y (.tuple ds)) ∧ d.plain = true ∧ PyData.plainAll ds = true ∧ d.depth ≤ 60 ∧ Q (.bl (neg != ds.any fun z => PyData.eqv z d)) H
theorem room61 {n m : Nat} (hu : X.A.units + 70 < cLine) (h : m ≤ 60) : X.A.units + 1 + min n m < cLine := by
  have := Nat.min_le_right n m
  omega
theorem op_inP (hu : X.A.units + 70 < cLine) : OpR X (compareOp .In) (rInP X.tc false) := by
  rintro pins s σ H x y v u Q I rx ry ⟨d, ds, hd, he, pd, pe, hh, q⟩
  obtain ⟨as, r1⟩ := hd.reads I pd rx
  rcases he with he | he
  · obtain ⟨bs, r2⟩ := he.reads I (by simpa [PyData.plain] using pe) ry
    exact SeqAt.in_list_data r2 r1 pe pd (room61 hu hh) ⟨.bl _, H, I, rfl, by simpa using q⟩
  · obtain ⟨bs, r2⟩ := he.reads I (by simpa [PyData.plain] using pe) ry
    exact SeqAt.in_tuple_data r2 r1 pe pd (room61 hu hh) ⟨.bl _, H, I, rfl, by simpa using q⟩
theorem op_notInP (hu : X.A.units + 70 < cLine) : OpR X (compareOp .NotIn) (rInP X.tc true) := by
  rintro pins s σ H x y v u Q I rx ry ⟨d, ds, hd, he, pd, pe, hh, q⟩
  obtain ⟨as, r1⟩ := hd.reads I pd rx
  rcases he with he | he
  · obtain ⟨bs, r2⟩ := he.reads I (by simpa [PyData.plain] using pe) ry
    exact SeqAt.notIn_list_data r2 r1 pe pd (room61 hu hh) ⟨.bl _, H, I, rfl, by simpa using q⟩
  · obtain ⟨bs, r2⟩ := he.reads I (by simpa [PyData.plain] using pe) ry
    exact SeqAt.notIn_tuple_data r2 r1 pe pd (room61 hu hh) ⟨.bl _, H, I, rfl, by simpa using q⟩
theorem rd_in {T : TC} {neg : Bool} (hv : SV x d') (hd' : d' = .list ds ∨ d' = .tuple ds) (pd : d.plain = true) (pe : PyData.plainAll ds = true) (hh : d.depth ≤ 60) : Rd2 T (fun v u => rInP T neg u v) x d (.bool (neg != ds.any fun z => PyData.eqv z d)) := fun I H v u B o h s Q kk =>
  ⟨d, ds, h.mono s, hd'.imp (fun e => by rw [← e]; exact hv.rp o s) (fun e => by rw [← e]; exact hv.rp o s), pd, pe, hh, kk _ (.bl _)⟩
theorem xt_notInS (i : Nat) (hu : X.A.units + 70 < cLine) (hb : XE X b Γ (.da d) Γ1) (pd : d.plain = true) (pe : PyData.plainAll ds = true) (hh : d.depth ≤ 60) (hx : Γ1[i]? = some (some x) := by rfl) (hv : SV x d' := by first | exact .da | exact .ll | exact .pin) (hd' : d' = .list ds ∨ d' = .tuple ds := by first | exact .inl rfl | exact .inr rfl) (hm : behindInMarks .NotIn (.Name nm p) = false := by rfl)
    (hN : X.N[i]? = some nm := by rfl) (hvs : Vis X.env.scope nm := by first | exact Or.inl rfl | exact Or.inr (Or.inl rfl) | exact Or.inr (Or.inr rfl)) (h1 : (nm == ("__debug__" : Str)) = false := by decide) (h2 : (nm == ("__classdict__" : Str)) = false := by decide) :
    XT X (.Compare b [.NotIn] [.Name nm p] pos) Γ (!ds.any fun z => PyData.eqv z d) Γ1 := fun Ψ hq I H σ F en Q kk => ⟨_, pt_cmpR (op_notInP hu) wpE_ok (pe_var hN hvs h1 h2) hm, core_VS (f := rInP X.tc true) hb hx (rd_in hv hd' pd pe hh) en _ fun w I' H' F' hw st en' => by
      cases hw
      exact ⟨_, rfl, kk _ Γ1 I' H' F' (by simpa using hq) st en'⟩⟩
theorem xt_inV (hu : X.A.units + 70 < cLine) (hb : XE X b Γ (.da d) Γ1) (ha : XE X a Γ1 (.da d') Γ2) (pd : d.plain = true) (pe : PyData.plainAll ds = true) (hh : d.depth ≤ 60) (hd' : d' = .list ds ∨ d' = .tuple ds := by first | exact .inl rfl | exact .inr rfl) (hm : behindInMarks .In a = false := by rfl) :
    XT X (.Compare b [.In] [a] pos) Γ (ds.any fun z => PyData.eqv z d) Γ2 := xt_cmp (op_inP hu) hm (by have q := (rd_in (T := X.tc) (neg := false) (x := .da d') .da hd' pd pe hh).op2' (f := rInP X.tc false); simpa using q) hb ha
theorem xt_notInV (hu : X.A.units + 70 < cLine) (hb : XE X b Γ (.da d) Γ1) (ha : XE X a Γ1 (.da d') Γ2) (pd : d.plain = true) (pe : PyData.plainAll ds = true) (hh : d.depth ≤ 60) (hd' : d' = .list ds ∨ d' = .tuple ds := by first | exact .inl rfl | exact .inr rfl) (hm : behindInMarks .NotIn a = false := by rfl) :
    XT X (.Compare b [.NotIn] [a] pos) Γ (!ds.any fun z => PyData.eqv z d) Γ2 := xt_cmp (op_notInP hu) hm (by have q := (rd_in (T := X.tc) (neg := true) (x := .da d') .da hd' pd pe hh).op2' (f := rInP X.tc true); simpa using q) hb ha
/-! ### max, min of a list of ints; all -/
theorem vs_ints {T : TC} {I : Hp} : ∀ {vs : List V} {ns : List Int}, RpL T I vs (ns.map .int) → vs = ns.map V.int
  | _, [], .nil => rfl
  | _, n :: ns, .cons (.int _) r => by rw [vs_ints r]; rfl
theorem vs_bools {T : TC} {I : Hp} : ∀ {vs : List V} {ns : List Bool}, RpL T I vs (ns.map .bool) → vs = ns.map V.bl
  | _, [], .nil => rfl
  | _, n :: ns, .cons (.bl _) r => by rw [vs_bools r]; rfl
theorem rd_max {T : TC} {ns : List Int} {m : Int} (hv : SV x (.list (ns.map .int))) (hm : m ∈ ns) (hx : ∀ y ∈ ns, y ≤ m) : Rd1 T (rMax T.K) x (.da (.int m)) := Rd1.pure fun I H v B o s Q k => by
  obtain ⟨a, vs, rfl, h, r⟩ := hv.seq (.inl rfl) o s
  rcases h with ⟨_, h⟩ | ⟨q, _⟩
  · rw [vs_ints r] at h
    refine ⟨a, ns, rfl, h, List.length_pos_of_mem hm, fun m' h1 h2 => ?_⟩
    have : m' = m := Int.le_antisymm (hx m' h1) (h2 m hm)
    subst this
    exact k _ (.int _)
  · cases q
theorem rd_all {T : TC} {bs : List Bool} (hv : SV x (.list (bs.map .bool))) : Rd1 T (rAll T.K) x (.da (.bool (bs.all id))) := Rd1.pure fun I H v B o s Q k => by
  obtain ⟨a, vs, rfl, h, r⟩ := hv.seq (.inl rfl) o s
  rcases h with ⟨_, h⟩ | ⟨q, _⟩
  · rw [vs_bools r] at h
    exact ⟨a, bs, rfl, h, k _ (.bl _)⟩
  · cases q
theorem rd_any {T : TC} {bs : List Bool} (hv : SV x (.list (bs.map .bool))) : Rd1 T (rAny T.K) x (.da (.bool (bs.any id))) := Rd1.pure fun I H v B o s Q k => by
  obtain ⟨a, vs, rfl, h, r⟩ := hv.seq (.inl rfl) o s
  rcases h with ⟨_, h⟩ | ⟨q, _⟩
  · rw [vs_bools r] at h
    exact ⟨a, bs, rfl, h, k _ (.bl _)⟩
  · cases q
theorem xe_all (B : Blt X.mg) (hc : X.calm = true) {bs : List Bool} (ha : XE X a Γ (.da (.list (bs.map .bool))) Γ1) (hg : Gl X "all" := by rfl) (he : starEach [a] X.env = (false, eval a X.env) :: starEach [] X.env := by rfl) (hpl : (backTo pos (starEach [] X.env)).any (·.1) = false := by rfl) :
    XE X (.Call (.Name "all" p) [a] [] pos) Γ (.da (.bool (bs.all id))) Γ1 := xe_callB1 (wl := rAll X.K) (cr_all hc) (rd_all (T := X.tc) .da).opl hg B.all (by decide +kernel) ha (he := he) (hpl := hpl)
theorem xe_any (B : Blt X.mg) (hc : X.calm = true) {bs : List Bool} (ha : XE X a Γ (.da (.list (bs.map .bool))) Γ1) (hg : Gl X "any" := by rfl) (he : starEach [a] X.env = (false, eval a X.env) :: starEach [] X.env := by rfl) (hpl : (backTo pos (starEach [] X.env)).any (·.1) = false := by rfl) :
    XE X (.Call (.Name "any" p) [a] [] pos) Γ (.da (.bool (bs.any id))) Γ1 := xe_callB1 (wl := rAny X.K) (cr_any hc) (rd_any (T := X.tc) .da).opl hg B.any (by decide +kernel) ha (he := he) (hpl := hpl)
theorem xe_min2 (B : Blt X.mg) (hc : X.calm = true) {i j : Int} (ha : XE X a Γ (.da (.int i)) Γ1) (hb : XE X b Γ1 (.da (.int j)) Γ2) (hg : Gl X "min" := by rfl) (he : starEach [a, b] X.env = (false, eval a X.env) :: starEach [b] X.env := by rfl)
    (he2 : starEach [b] X.env = (false, eval b X.env) :: starEach [] X.env := by rfl) (hpl : (backTo pos (starEach [b] X.env)).any (·.1) = false := by rfl) : XE X (.Call (.Name "min" p) [a, b] [] pos) Γ (.da (.int (if j < i then j else i))) Γ2 :=
  xe_callB2 (call_min2 hc) (OpL.pure (ds := [.int i, .int j]) fun I H vs r _ Q k => by
      obtain ⟨v, u, rfl, h, h'⟩ := rpL2 r
      cases h
      cases h'
      exact ⟨i, j, rfl, k _ (.int _)⟩) hg B.min (by decide +kernel) ha hb (he := he) (he2 := he2) (hpl := hpl)
theorem xe_max2 (B : Blt X.mg) (hc : X.calm = true) {i j : Int} (ha : XE X a Γ (.da (.int i)) Γ1) (hb : XE X b Γ1 (.da (.int j)) Γ2) (hg : Gl X "max" := by rfl) (he : starEach [a, b] X.env = (false, eval a X.env) :: starEach [b] X.env := by rfl)
    (he2 : starEach [b] X.env = (false, eval b X.env) :: starEach [] X.env := by rfl) (hpl : (backTo pos (starEach [b] X.env)).any (·.1) = false := by rfl) : XE X (.Call (.Name "max" p) [a, b] [] pos) Γ (.da (.int (if j > i then j else i))) Γ2 :=
  xe_callB2 (call_max2 hc) (OpL.pure (ds := [.int i, .int j]) fun I H vs r _ Q k => by
      obtain ⟨v, u, rfl, h, h'⟩ := rpL2 r
      cases h
      cases h'
      exact ⟨i, j, rfl, k _ (.int _)⟩) hg B.max (by decide +kernel) ha hb (he := he) (he2 := he2) (hpl := hpl)
end
end TL
/-! TL14: dicts made, frozen, walked, sorted; list.pop; truth. -/
namespace TL
open PySem PySem.Spec PyProof.Rows L2
section
variable {X : Cx} {e a b c o it tg : Expr} {es elts : List Expr} {ss rest : List Stmt} {Γ Γ' Γ1 Γ2 : Sl} {Ψ : OD → Sl → Prop} {Φ : Out → Prop} {Φt : Bool → Sl → Prop} {pos p apos cpos p2 tpos : Pos} {r x y z : OD} {nm n2 : Str} {ds : List PyData} {d d' g : PyData} {i kk : Nat} {ks : List (Key × PyData)}
/-! ### {} and {k: v} -/
/-! ### a dict from now on only read -/
/-! ### walks -/
theorem len_eq {α β : Type} {kvs : List (Key × α)} {ks : List (Key × β)} (h : kvs.map Prod.fst = ks.map Prod.fst) : kvs.length = ks.length := by
  have := congrArg List.length h
  rwa [List.length_map, List.length_map] at this
/-! ### len of a dict, truth -/
/-- truth of what stands in a slot -/
def rTru (T : TC) (v : V) (H : Hp) (k : Bool) : Prop := TruV T.K v H k ∨ ∃ a kvs, v = .ref a ∧ Rd H a (.dK kvs) ∧ k = !kvs.isEmpty
/-- x's truth is k -/
inductive Tru : OD → Bool → Prop
  | non : Tru (.da .none) false
  | bl {b : Bool} : Tru (.da (.bool b)) b
  | int {n : Int} : Tru (.da (.int n)) (n != 0)
  | sv {x : OD} {d : PyData} {ds : List PyData} (h : SV x d) (hd : d = .list ds ∨ d = .tuple ds) : Tru x (!ds.isEmpty)
  | dv {x : OD} {ks : List (Key × PyData)} (h : DV x ks) : Tru x (!ks.isEmpty)
theorem isEmpty_len {α β : Type} {xs : List α} {ys : List β} (h : xs.length = ys.length) : xs.isEmpty = ys.isEmpty := by
  cases xs <;> cases ys <;> simp at h ⊢
theorem Tru.ok {T : TC} {I H : Hp} {v : V} {B : List Addr} {k : Bool} (h : Tru x k) (o : Own T I H v x B) (s : Same I H) : rTru T v H k := by
  cases h with
  | non => cases o with
    | da o => cases o; exact .inl rfl
  | bl => cases o with
    | da o => cases o; exact .inl rfl
  | int => cases o with
    | da o => cases o; exact .inl rfl
  | sv h hd =>
    obtain ⟨a, vs, rfl, q, r⟩ := h.seq hd o s
    rcases q with ⟨_, q⟩ | ⟨_, q, _⟩
    · exact .inl (.inl ⟨vs, q, by rw [isEmpty_len r.length]⟩)
    · exact .inl (.inr (.inl ⟨vs, q, by rw [isEmpty_len r.length]⟩))
  | dv h =>
    obtain ⟨a, kvs, rfl, h1, h2, h3⟩ := h.rd o s
    exact .inr ⟨a, kvs, rfl, h1, by rw [isEmpty_len (len_eq h2)]⟩
end
end TL
/-! TL15: sorted(d), sorted(d.items()), list(d.items()). -/
namespace TL
open PySem PySem.Spec PyProof.Rows L2
section
variable {X : Cx} {e a b c o it tg : Expr} {es elts : List Expr} {ss rest : List Stmt} {Γ Γ' Γ1 Γ2 : Sl} {Ψ : OD → Sl → Prop} {Φ : Out → Prop} {Φt : Bool → Sl → Prop} {pos p apos cpos p2 tpos : Pos} {r x y z : OD} {nm n2 : Str} {ds : List PyData} {d d' g : PyData} {i kk : Nat} {ks : List (Key × PyData)}
/-- what sorted asks of its items -/
structure SrtOk (ds : List PyData) : Prop where
  plain : PyData.plainAll ds = true
  alike : PySem.W.AllAlike ds
  srt : PySem.W.Sortable ds
  len : ds.length ≤ sizeLine
  depth : ∀ d ∈ ds, d.depth ≤ 60
def _root_.L2.V.at : V → Addr
  | .ref a => a
  | _ => 0
/-! ### sorted(d) -/
/-- sorted(xs), a list -/
theorem xe_sorted (B : Blt X.mg) (hu : X.A.units + 70 < cLine) (ok : SrtOk ds) (ha : XE X a Γ (.da (.list ds)) Γ1) (hg : Gl X "sorted" := by rfl) (he : starEach [a] X.env = (false, eval a X.env) :: starEach [] X.env := by rfl) (hpl : (backTo pos (starEach [] X.env)).any (·.1) = false := by rfl) :
    XE X (.Call (.Name "sorted" p) [a] [] pos) Γ (.ll (sortD ds)) Γ1 := xe_callB1 (wl := rSorted X.tc) (call_sortedP hu) (opl_sorted ok.plain ok.alike ok.srt ok.len ok.depth) hg B.sorted (by decide +kernel) ha (he := he) (hpl := hpl)
theorem we_sorted (B : Blt X.mg) (hu : X.A.units + 70 < cLine) (h : WE X a Γ fun r Γ1 => ∃ ds, Frz r (.list ds) ∧ SrtOk ds ∧ Ψ (.ll (sortD ds)) Γ1) (hg : Gl X "sorted" := by rfl) (he : starEach [a] X.env = (false, eval a X.env) :: starEach [] X.env := by rfl) (hpl : (backTo pos (starEach [] X.env)).any (·.1) = false := by rfl) :
    WE X (.Call (.Name "sorted" p) [a] [] pos) Γ Ψ := we_callB (wl := rSorted X.tc) (call_sortedP hu) hg B.sorted (by decide +kernel) (wa_cons (we_frz (h.mono fun r Γ1 ⟨ds, f, ok, q⟩ => ⟨.list ds, f, wa_nil ⟨_, opl_sorted ok.plain ok.alike ok.srt ok.len ok.depth, q⟩⟩)) he) (he := he) (hpl := hpl)
/-! ### sorted(d.items()), list(d.items()) -/
end
end TL
/-! TL16: list + list, slices, list(range), zip, reversed, pop, index, get, chained comparisons. -/
namespace TL
open PySem PySem.Spec PyProof.Rows L2
section
variable {X : Cx} {e a b c o it tg : Expr} {es elts : List Expr} {ss rest : List Stmt} {Γ Γ' Γ1 Γ2 Γ3 : Sl} {Ψ : OD → Sl → Prop} {Φ : Out → Prop} {Φt : Bool → Sl → Prop} {pos p apos cpos p2 tpos : Pos} {r x y z : OD} {nm n2 : Str} {ds es' : List PyData} {d d' g : PyData} {i kk : Nat} {ks : List (Key × PyData)} {mk : List PyData → OD}
/-! ### lists: + -/
def rCatL (K : PySem.W.Frag) : R2 := fun x y H Q => ∃ l b xs zs, x = .ref l ∧ y = .ref b ∧ SqL K H l xs ∧ SqL K H b zs ∧ xs.length + zs.length ≤ sizeLine ∧ ∀ p, H p = none → Q (.ref p) (upd H p (.lst (xs ++ zs)))
theorem op_catL : OpR X (binaryOp .Add) (rCatL X.K) := by
  rintro pins s σ H x y v u Q I rx ry ⟨l, b, xs, zs, rfl, rfl, h1, h2, hz, q⟩
  cases rx
  cases ry
  obtain ⟨its, r1, pl1, _⟩ := I.list h1
  obtain ⟨its2, r2, pl2, _⟩ := I.list h2
  obtain ⟨⟨cls1, dd1, data1, sl1⟩, n1, e1, c1, z1, t1⟩ := pl1
  obtain ⟨⟨cls2, dd2, data2, sl2⟩, n2, e2, c2, z2, t2⟩ := pl2
  simp only at c1 z1 t1 c2 z2 t2
  subst c1 t1 c2 t2
  have k1 := r1.length
  have k2 := r2.length
  refine concat_meets ⟨_, e1, rfl⟩ ⟨_, e2, rfl⟩ noFill_list_add seq_list_add PySem.F.slot_list_add PySem.F.entry_list_add (PySem.F.args_list_add_2 _ _) (list_addW l b its.toArray its2.toArray n1 n2 dd1 dd2 sl1 sl2 (by rw [List.size_toArray, List.size_toArray]; omega)) ⟨e1, e2, ?_⟩
  have ea : its.toArray ++ its2.toArray = (its ++ its2).toArray := by simp
  rw [ea]
  exact ⟨.ref s.heap.objs.size, _, I.lnew (t' := s.toks) (r1.append r2) (by rw [List.length_append]; omega), rfl, q _ I.fresh⟩
theorem op2_catL {T : TC} (hl : ds.length + es'.length ≤ sizeLine) : Op2 T (rCatL T.K) (.da (.list ds)) (.da (.list es')) (.ll (ds ++ es')) := fun I H v u B o nd s Q k => by
  obtain ⟨rfl, r⟩ := ownL_da (ds := [.list ds, .list es']) o
  obtain ⟨v', u', e, r1, r2⟩ := rpL2 r
  cases e
  cases r1 with
  | lst h1 q1 =>
    cases r2 with
    | lst h2 q2 => exact ⟨_, _, _, _, rfl, rfl, s.seq h1, s.seq h2, by rw [q1.length, q2.length]; exact hl, fun p hp => k I _ _ [p] (step_new hp) (.ll upd_same (s.free hp) (RpL.append q1 q2)) (by simp) (upd_sub s hp)⟩
/-- xs + ys of lists: a new one -/
theorem xe_catL (hl : ds.length + es'.length ≤ sizeLine) (ha : XE X a Γ (.da (.list ds)) Γ1) (hb : XE X b Γ1 (.da (.list es')) Γ2) : XE X (.BinOp a .Add b pos) Γ (.ll (ds ++ es')) Γ2 := xe_bin op_catL (op2_catL hl) ha hb
theorem we_catL (h : WE X a Γ fun x Γ1 => ∃ ds, Frz x (.list ds) ∧ WE X b Γ1 fun y Γ2 => ∃ es', Frz y (.list es') ∧ ds.length + es'.length ≤ sizeLine ∧ Ψ (.ll (ds ++ es')) Γ2) : WE X (.BinOp a .Add b pos) Γ Ψ :=
  we_bin op_catL (we_frz (h.mono fun x Γ1 ⟨ds, fx, h2⟩ => ⟨.list ds, fx, we_frz (h2.mono fun y Γ2 ⟨es', fy, hl, hq⟩ => ⟨.list es', fy, _, op2_catL hl, hq⟩)⟩))
/-! ### slices -/
def cutD (ds : List PyData) (lo hi : Option Int) : List PyData := (ds.drop (HT.sIx ds.length 0 lo)).take (HT.sIx ds.length ds.length hi - HT.sIx ds.length 0 lo)
theorem rpL_cut {T : TC} {I : Hp} {vs : List V} (r : RpL T I vs ds) (lo hi : Option Int) : RpL T I (cutV vs lo hi) (cutD ds lo hi) := by
  unfold cutV cutD
  rw [r.length]
  exact (r.drop _).take _
/-- a slice's bound -/
def wpO (X : Cx) : Option Expr → TO
  | none => tNoPart
  | some e => tPart (wpE X e)
theorem wpO_ok : ∀ {o : Option Expr}, PO X o (wpO X o)
  | none => po_none
  | some e => po_some wpE_ok
inductive XO (X : Cx) : Option Expr → Sl → Option Int → Sl → Prop
  | none {Γ : Sl} : XO X none Γ none Γ
  | some {e : Expr} {Γ Γ1 : Sl} {j : Int} : XE X e Γ (.da (.int j)) Γ1 → XO X (some e) Γ (some j) Γ1
theorem XO.go {o : Option Expr} {l : Option Int} (h : XO X o Γ l Γ1) {I H : Hp} {σ : L2.St} {F : List Addr} (en : EnvF X.tc I H σ Γ F) (Q : Option Int → Hp → Prop) (k : ∀ (I' H' : Hp) (F' : List Addr), Step I H F I' H' F' → EnvF X.tc I' H' σ Γ1 F' → Q l H') : wpO X o σ H Q := by
  cases h with
  | none => exact k I H F .refl en
  | some h =>
    refine h (fun r Γ' => r = _ ∧ Γ' = Γ1) ⟨rfl, rfl⟩ I H σ F en _ ?_
    rintro _ _ I1 H1 v F1 ⟨rfl, rfl⟩ st1 en1
    obtain ⟨B, G, rfl, o, en2, _⟩ := en1.pop
    cases o with
    | da o =>
      cases o
      exact ⟨_, rfl, k I1 H1 G st1 en2⟩
/-- xs[lo:hi], a list in a slot -/
theorem xe_sliceS (i : Nat) {lo hi : Option Expr} {l u : Option Int} (h1 : XO X lo Γ l Γ1) (h2 : XO X hi Γ1 u Γ2) (hx : Γ2[i]? = some (some x) := by rfl) (hv : SV x (.list ds) := by first | exact .da | exact .ll | exact .pin) (h0 : OSome Γ[i]? = true := by rfl)
    (hN : X.N[i]? = some nm := by rfl) (hvs : Vis X.env.scope nm := by first | exact Or.inl rfl | exact Or.inr (Or.inl rfl) | exact Or.inr (Or.inr rfl)) (h3 : (nm == ("__debug__" : Str)) = false := by decide) (h4 : (nm == ("__classdict__" : Str)) = false := by decide) :
    XE X (.Subscript (.Name nm p) (.Slice lo hi none p2) pos) Γ (.ll (cutD ds l u)) Γ2 := fun Ψ hq I H σ F en Q k => by
  obtain ⟨x0, hx0⟩ := OSome.ex h0
  obtain ⟨v, _, e1, _⟩ := en.see hx0
  refine ⟨_, pe_slice sl_list (pe_var hN hvs h3 h4) wpO_ok wpO_ok, v, e1, h1.go en _ fun I1 H1 F1 st1 en1 => h2.go en1 _ fun I2 H2 F2 st2 en2 => ?_⟩
  obtain ⟨v', B, e1', o⟩ := en2.see hx
  rw [e1] at e1'
  cases e1'
  obtain ⟨a', vs, rfl, q, r⟩ := hv.seq (.inl rfl) o en2.sub
  rcases q with ⟨_, q⟩ | ⟨q, _⟩
  · refine ⟨a', vs, rfl, q, fun p hp => ?_⟩
    obtain ⟨en3, st3⟩ := en2.use (B := []) (by simpa using en2.nd) (step_new (F := []) hp) (Own.ll upd_same (en2.sub.free hp) (rpL_cut r l u)) (by simp) (upd_sub en2.sub hp)
    exact k _ _ I2 _ _ _ hq ((st1.trans st2).trans st3) en3
  · cases q
theorem xe_sliceL {lo hi : Option Expr} {l u : Option Int} (ha : XE X a Γ (.da (.list ds)) Γ1) (h1 : XO X lo Γ1 l Γ2) (h2 : XO X hi Γ2 u Γ3) : XE X (.Subscript a (.Slice lo hi none p2) pos) Γ (.ll (cutD ds l u)) Γ3 := fun Ψ hq I H σ F en Q k => by
  refine ⟨_, pe_slice sl_list wpE_ok wpO_ok wpO_ok, ha (fun r Γ' => r = .da (.list ds) ∧ Γ' = Γ1) ⟨rfl, rfl⟩ I H σ F en _ ?_⟩
  rintro _ Γ1' I1 H1 v F1 ⟨rfl, e1⟩ st1 en1
  subst e1
  obtain ⟨B, G, rfl, o, en1', _⟩ := en1.pop
  cases o with
  | da o =>
    refine h1.go en1' _ fun I2 H2 F2 st2 en2 => h2.go en2 _ fun I3 H3 F3 st3 en3 => ?_
    have o' := (o.mono st2.inc).mono st3.inc
    cases o' with
    | @lst a' vs _ q r =>
      refine ⟨a', vs, rfl, en3.sub.seq q, fun p hp => ?_⟩
      obtain ⟨en4, st4⟩ := en3.use (B := []) (by simpa using en3.nd) (step_new (F := []) hp) (Own.ll upd_same (en3.sub.free hp) (rpL_cut r l u)) (by simp) (upd_sub en3.sub hp)
      exact k _ _ I3 _ _ _ hq (((st1.trans st2).trans st3).trans st4) en4
/-! ### list(range(..)), tuple(range(..)) -/
theorem rgV_rp {T : TC} {I : Hp} (lo hi : Int) : RpL T I (rgV lo hi) (rangeD lo (hi - lo).toNat) := by
  unfold rgV rangeD
  induction List.range (hi - lo).toNat with
  | nil => exact .nil
  | cons m ms ih => exact .cons (.int _) ih
theorem xe_listRg1 (B : Blt X.mg) (hc : X.calm = true) {j : Int} (ha : XE X a Γ (.da (.int j)) Γ1) (h0 : 0 ≤ j) (hj : j ≤ 16777216) (hg : Gl X "list" := by rfl) (hgr : Gl X "range" := by rfl) (na : starEach [a] X.env = (false, eval a X.env) :: starEach [] X.env := by rfl)
    (na2 : starEach [.Call (.Name "range" p2) [a] [] cpos] X.env = (false, eval (.Call (.Name "range" p2) [a] [] cpos) X.env) :: starEach [] X.env := by rfl) :
    XE X (.Call (.Name "list" p) [.Call (.Name "range" p2) [a] [] cpos] [] pos) Γ (.ll (rangeD 0 j.toNat)) Γ1 := fun Ψ hq I H σ F en Q k => by
  refine ⟨_, pe_listRg hc hg B.list (prg_1 hgr B.range wpE_ok na) na2, ha (fun r Γ' => r = .da (.int j) ∧ Γ' = Γ1) ⟨rfl, rfl⟩ I H σ F en _ ?_⟩
  rintro _ Γ1' I1 H1 v F1 ⟨rfl, e1⟩ st1 en1
  subst e1
  obtain ⟨B', G, rfl, o, en2, _⟩ := en1.pop
  cases o with
  | da o =>
    cases o
    refine ⟨j, rfl, RgOk.of_le (by omega) hj (by omega) h0, fun q hp => ?_⟩
    have r : RpL X.tc I1 (rgV 0 j) (rangeD 0 j.toNat) := by
      have := rgV_rp (T := X.tc) (I := I1) 0 j
      rwa [Int.sub_zero] at this
    obtain ⟨en4, st4⟩ := en2.use (B := []) (by simpa using en2.nd) (step_new (F := []) hp) (Own.ll upd_same (en2.sub.free hp) r) (by simp) (upd_sub en2.sub hp)
    exact k _ _ I1 _ _ _ hq (st1.trans st4) en4
/-! ### zip -/
theorem walk_zipT {K : PySem.W.Frag} {a b : Addr} {xs ys : List V} {n : Nat} (hn : n = min xs.length ys.length) : Walk (RZ.ItzT K a b) n (fun H => SqT K H a xs ∧ SqT K H b ys) (YPair (fun i => xs[i]?) (fun i => ys[i]?)) where
  goes := fun i H hi ⟨h1, h2⟩ => ⟨xs, ys, xs[i]'(by omega), ys[i]'(by omega), h1, h2, List.getElem?_eq_getElem (by omega), List.getElem?_eq_getElem (by omega)⟩
  stops := fun H ⟨h1, h2⟩ => ⟨xs, ys, h1, h2, by omega⟩
  yields := fun i H v H' hi ⟨h1, h2⟩ ⟨t, x, y, e, hT, eH, f1, f2⟩ => ⟨t, x, y, e, hT, eH, f1 xs h1, f2 ys h2⟩
theorem isit_zip {T : TC} {I : Hp} {J : It} {vs us : List V} {G : Hp → Prop} (w : Walk J (min ds.length es'.length) G (YPair (fun i => vs[i]?) (fun i => us[i]?))) (hG : ∀ I' H, Same I I' → Same I' H → G H) (r1 : RpL T I vs ds) (r2 : RpL T I us es') :
    IsIt T J (List.zipWith (fun d e => PyData.tuple [d, e]) ds es') I := by
  rw [zip_len]
  refine isit_pairs (n := min ds.length es'.length) (Y := fun i => (vs.take (min ds.length es'.length))[i]?) (Z := fun i => (us.take (min ds.length es'.length))[i]?) ?_ hG (by rw [List.length_take]; omega) (by rw [List.length_take]; omega) (fun i v h => (r1.take _).get' h) fun i v h => (r2.take _).get' h
  refine w.mono (fun H h => h) ?_
  rintro i H x H' hi _ ⟨t, x', y', e, hT, eH, f1, f2⟩
  refine ⟨t, x', y', e, hT, eH, ?_, ?_⟩
  · show (vs.take _)[i]? = _
    rw [List.getElem?_take, if_pos hi]
    exact f1
  · show (us.take _)[i]? = _
    rw [List.getElem?_take, if_pos hi]
    exact f2
theorem xi_zip (B : Blt X.mg) (ha : XE X a Γ (.da d) Γ1) (hb : XE X b Γ1 (.da d') Γ2) (hd : (d = .list ds ∧ d' = .list es') ∨ (d = .tuple ds ∧ d' = .tuple es') := by first | exact .inl ⟨rfl, rfl⟩ | exact .inr ⟨rfl, rfl⟩) (hg : Gl X "zip" := by rfl)
    (hs : starEach [a, b] X.env = (false, eval a X.env) :: starEach [b] X.env := by rfl) (hs2 : starEach [b] X.env = (false, eval b X.env) :: starEach [] X.env := by rfl) (hpl : (backTo pos (starEach [b] X.env)).any (·.1) = false := by rfl) :
    XI X (.Tuple elts kk tpos) (.Call (.Name "zip" p) [a, b] [] pos) Γ (List.zipWith (fun d e => PyData.tuple [d, e]) ds es') Γ2 := fun Ψ hq I H σ F en R k => by
  refine ⟨_, RZ.pi_zipA hg B.zip wpA_ok hs hpl, wa_data (xa2 ha hb hs hs2) en fun I1 H1 vs F1 r st1 en1 => ?_⟩
  obtain ⟨v, u, rfl, hv, hu⟩ := rpL2 r
  rcases hd with ⟨rfl, rfl⟩ | ⟨rfl, rfl⟩
  · cases hv with
    | lst q1 r1 =>
      cases hu with
      | lst q2 r2 =>
        refine ⟨_, _, _, _, rfl, .inl ⟨en1.sub.seq q1, en1.sub.seq q2, k _ _ I1 H1 F1 _ hq st1 en1 (isit_zip (walk_zip (by rw [r1.length, r2.length])) (fun I' H' s s' => ⟨(s.trans s').seq q1, (s.trans s').seq q2⟩) r1 r2)⟩⟩
  · cases hv with
    | tup q1 r1 =>
      cases hu with
      | tup q2 r2 =>
        refine ⟨_, _, _, _, rfl, .inr ⟨sqT_mono en1.sub q1, sqT_mono en1.sub q2, k _ _ I1 H1 F1 _ hq st1 en1 (isit_zip (walk_zipT (by rw [r1.length, r2.length])) (fun I' H' s s' => ⟨sqT_mono (s.trans s') q1, sqT_mono (s.trans s') q2⟩) r1 r2)⟩⟩
theorem zipW_map {α β : Type} {E : α → PyData} {E' : β → PyData} : ∀ {xs : List α} {ys : List β}, List.zipWith (fun d e => PyData.tuple [d, e]) (xs.map E) (ys.map E') = (xs.zip ys).map fun p => .tuple [E p.1, E' p.2]
  | [], _ => rfl
  | _ :: _, [] => rfl
  | x :: xs, y :: ys => by
    rw [List.map_cons, List.map_cons, List.zipWith_cons_cons, zipW_map]
    rfl
/-! ### methods of lists and dicts -/
/-- xs.pop(), xs an own list in a slot -/
theorem we_pop (i : Nat) (hl : ds ≠ []) (hq : Ψ (.da (ds.getLast hl)) (Γ.set i (some (mk ds.dropLast)))) (hx : Γ[i]? = some (some x) := by rfl) (hv : VLL x ds mk := by first | exact .ll | exact .pin) (hN : X.N[i]? = some nm := by rfl)
    (hvs : Vis X.env.scope nm := by first | exact Or.inl rfl | exact Or.inr (Or.inl rfl) | exact Or.inr (Or.inr rfl)) (h1 : (nm == ("__debug__" : Str)) = false := by decide) (h2 : (nm == ("__classdict__" : Str)) = false := by decide)
    (hbase : attributeBase (.Name nm p) "pop" X.env (eval (.Name nm p) X.env) = eval (.Name nm p) X.env := by rfl) (hline : (apos.endLine == cpos.line) = true := by rfl) : WE X (.Call (.Attribute (.Name nm p) "pop" apos) [] [] cpos) Γ Ψ := fun I H σ F en Q k => by
  refine ⟨_, pe_bm0 PySem.F.plainAttrs_list PySem.F.slot_list_pop PySem.F.type_list_pop mt_pop (pe_var hN hvs h1 h2) hbase hline, ?_⟩
  obtain ⟨q, vs, e1, g1, g2, g3⟩ := en.ll hx hv
  have hlen := g2.length
  have e2 : ds[ds.length - 1]? = some (ds.getLast hl) := by rw [List.getLast_eq_getElem, List.getElem?_eq_getElem]
  obtain ⟨w, hw, rw'⟩ := g2.get e2
  have hpos : 0 < ds.length := List.length_pos_iff.mpr hl
  have r' : RpL X.tc I vs.dropLast ds.dropLast := by
    rw [List.dropLast_eq_take, List.dropLast_eq_take, hlen]
    exact g2.take _
  obtain ⟨F5, en5, st5⟩ := g3 vs.dropLast ds.dropLast r'
  exact ⟨_, e1, .inl ⟨rfl, _, SqL.of g1⟩, q, vs, w, rfl, rfl, g1, by rw [hlen]; exact hw, k _ _ I _ w F5 hq st5 (en5.da rw')⟩
/-- xs.index(e): the first place -/
theorem xe_indexS (i : Nat) (hu : X.A.units + 65 < cLine) {j : Nat} {z : PyData} (ha : XE X a Γ (.da d) Γ1) (sl : SeqAt.shaped (.list ds) = true) (sd : SeqAt.shaped d = true) (pl : PyData.plainAll ds = true) (pd : d.plain = true) (hj : ds[j]? = some z) (he' : PyData.eqv z d = true)
    (hn : ∀ (m : Nat) (z' : PyData), m < j → ds[m]? = some z' → PyData.eqv z' d = false) (hx : Γ1[i]? = some (some x) := by rfl) (hv : SV x (.list ds) := by first | exact .da | exact .ll | exact .pin) (h0 : OSome Γ[i]? = true := by rfl) (hx0 : Γ[i]? = some (some x) := by rfl) (hN : X.N[i]? = some nm := by rfl)
    (hvs : Vis X.env.scope nm := by first | exact Or.inl rfl | exact Or.inr (Or.inl rfl) | exact Or.inr (Or.inr rfl)) (h1 : (nm == ("__debug__" : Str)) = false := by decide) (h2 : (nm == ("__classdict__" : Str)) = false := by decide)
    (hst : starEach [a] X.env = (false, eval a X.env) :: starEach [] X.env := by rfl) (hb : attributeBase (.Name nm p) "index" X.env (eval (.Name nm p) X.env) = eval (.Name nm p) X.env := by rfl)
    (hfew : ((backTo pos (starEach [a] X.env)).all (fun x => !x.1) && (backToKw pos (keywordEach [] X.env)).all (fun x => x.1.isSome)
      && decide (([a] : List Expr).length + ([] : List Keyword).length + (if ([] : List Keyword).isEmpty then 0 else 1) < 30)) = true := by rfl) (hline : (apos.endLine == pos.line) = true := by rfl) (hs2 : (backTo pos (starEach [] X.env)).any (·.1) = false := by rfl) :
    XE X (.Call (.Attribute (.Name nm p) "index" apos) [a] [] pos) Γ (.da (.int (j : Nat))) Γ1 := fun Ψ hq I H σ F en Q k => by
  refine ⟨_, pe_bm PySem.F.plainAttrs_list PySem.F.slot_list_index PySem.F.type_list_index (mt_indexD hu) (pe_var hN hvs h1 h2) (pa_cons wpE_ok pa_nil hst) hb hfew hline hst hs2, ?_⟩
  obtain ⟨v, B, e1, o⟩ := en.see hx0
  obtain ⟨a', vs, rfl, q, r⟩ := hv.seq (.inl rfl) o en.sub
  rcases q with ⟨_, q⟩ | ⟨q, _⟩
  · refine ⟨_, e1, .inl ⟨rfl, _, q⟩, ha (fun r Γ' => r = .da d ∧ Γ' = Γ1) ⟨rfl, rfl⟩ I H σ F en _ ?_⟩
    rintro _ Γ1' I1 H1 u F1 ⟨rfl, e2⟩ st1 en1
    subst e2
    obtain ⟨B2, G, rfl, oo, en2, _⟩ := en1.pop
    cases oo with
    | da hd =>
      obtain ⟨v', B', e1', o'⟩ := en2.see hx
      rw [e1] at e1'
      cases e1'
      have rl := hv.rp o' en2.sub
      exact ⟨a', u, d, ds, j, z, rfl, rfl, rl.dp (by simpa [PyData.plain] using pl), (hd.mono en2.sub).dp pd, sl, sd, hj, he', hn, k _ _ I1 H1 _ _ hq st1 (en2.da (.int _))⟩
  · cases q
/-! ### chained comparisons -/
theorem xt_chain {op op' : CmpOp} {wr wr' : R2} {k k' : Bool} (ho : OpR X (compareOp op) wr) (ho' : OpR X (compareOp op') wr') (q : Op2 X.tc wr (.da d) (.da d') (.da (.bool k))) (q' : Op2 X.tc wr' (.da d') (.da g) (.da (.bool k'))) (ha : XE X a Γ (.da d) Γ) (hb : XE X b Γ (.da d') Γ) (hc : XE X c Γ (.da g) Γ)
    (hm : lastMarks [op, op'] [b, c] = false := by with_unfolding_all rfl) : XT X (.Compare a [op, op'] [b, c] pos) Γ (k && k') Γ := fun Ψ hq I H σ F en Q kk => by
  refine ⟨_, pt_chain ho ho' wpE_ok wpE_ok wpE_ok hm, ha (fun r Γ' => r = .da d ∧ Γ' = Γ) ⟨rfl, rfl⟩ I H σ F en _ ?_⟩
  rintro _ _ I1 H1 v F1 ⟨rfl, rfl⟩ st1 en1
  obtain ⟨B1, G1, rfl, o1, en1', _⟩ := en1.pop
  cases o1 with
  | da r1 =>
    refine hb (fun r Γ'' => r = .da d' ∧ Γ'' = _) ⟨rfl, rfl⟩ I1 H1 σ G1 en1' _ ?_
    rintro _ _ I2 H2 u F2 ⟨rfl, rfl⟩ st2 en2
    obtain ⟨B2, G2, rfl, o2, en2', _⟩ := en2.pop
    cases o2 with
    | da r2 =>
      have ol : OwnL X.tc I2 H2 [v, u] [.da d, .da d'] ([] ++ ([] ++ [])) := .cons (.da (r1.mono st2.inc)) (.cons (.da r2) .nil)
      refine q I2 H2 v u _ ol (by simp) en2'.sub _ fun I3 H3 w B3 st3 o3 nd3 sub3 => ?_
      cases o3 with
      | da r3 =>
        cases r3
        obtain ⟨en3, st3'⟩ := en2'.grow (by simpa using st3) sub3
        have st123 := (st1.trans st2).trans st3'
        cases k with
        | false => exact ⟨false, rfl, false, rfl, kk _ _ I3 H3 G2 hq st123 en3⟩
        | true =>
          refine ⟨true, rfl, hc (fun r Γ'' => r = .da g ∧ Γ'' = _) ⟨rfl, rfl⟩ I3 H3 σ G2 en3 _ ?_⟩
          rintro _ _ I4 H4 y F4 ⟨rfl, rfl⟩ st4 en4
          obtain ⟨B4, G4, rfl, o4, en4', _⟩ := en4.pop
          cases o4 with
          | da r4 =>
            have ol2 : OwnL X.tc I4 H4 [u, y] [.da d', .da g] ([] ++ ([] ++ [])) := .cons (.da ((r2.mono st3'.inc).mono st4.inc)) (.cons (.da r4) .nil)
            refine q' I4 H4 u y _ ol2 (by simp) en4'.sub _ fun I5 H5 w5 B5 st5 o5 nd5 sub5 => ?_
            cases o5 with
            | da r5 =>
              cases r5
              obtain ⟨en5, st5'⟩ := en4'.grow (by simpa using st5) sub5
              exact ⟨k', rfl, kk _ _ I5 H5 G4 (by simpa using hq) ((st123.trans st4).trans st5') en5⟩
theorem xt_le_lt {i j k : Int} (ha : XE X a Γ (.da (.int i)) Γ) (hb : XE X b Γ (.da (.int j)) Γ) (hc : XE X c Γ (.da (.int k)) Γ) (hm : lastMarks [.LtE, .Lt] [b, c] = false := by with_unfolding_all rfl) :
    XT X (.Compare a [.LtE, .Lt] [b, c] pos) Γ (decide (i ≤ j) && decide (j < k)) Γ := xt_chain op_le op_lt o2_bl o2_bl ha hb hc hm
end
end TL
/-! TL17: dicts whose keys are tuples (any depth up to 8). -/
namespace TL
open PySem PySem.Spec PyProof.Rows L2
mutual
theorem nested_is {X : Cx} {pins : List (Addr × Obj)} {σ : L2.St} {H : Hp} {s : Shared} (J : Inv X pins σ H s) : ∀ (k : NestedKey) {v : V} {u : Value}, Rp X.tc H v k.data → RelV v u → NestedIs s.heap k u
  | .none, _, _, h, r => by
    cases h
    obtain rfl := r
    exact .none
  | .num i, _, _, h, r => by
    cases h
    obtain ⟨t, rfl⟩ := r
    exact .int i t
  | .text x, _, _, h, r => by
    cases h
    obtain ⟨t, rfl⟩ := r
    exact .text x t
  | .tup ks, _, _, h, r => by
    unfold NestedKey.data at h
    cases h with
    | tup q rr =>
      cases r
      obtain ⟨its, rv, ⟨o, h1, h2, n, h3⟩, _⟩ := J.tuple q
      exact .tup h1 h2 h3 (nested_all J ks rr rv)
theorem nested_all {X : Cx} {pins : List (Addr × Obj)} {σ : L2.St} {H : Hp} {s : Shared} (J : Inv X pins σ H s) : ∀ (ks : List NestedKey) {vs : List V} {us : List Value}, RpL X.tc H vs (NestedKey.datas ks) → Vals vs us → NestedAll s.heap ks us
  | [], _, _, h, r => by
    cases h
    cases r
    exact .nil
  | k :: ks, _, _, h, r => by
    unfold NestedKey.datas at h
    cases h with
    | cons h1 h2 =>
      cases r with
      | cons r1 r2 => exact .cons (nested_is J k h1 r1) (nested_all J ks h2 r2)
end
/-- an own dict with nested keys -/
inductive VDM : OD → List (NestedKey × PyData) → (List (NestedKey × PyData) → OD) → Prop
  | dm {ks : List (NestedKey × PyData)} : VDM (.dm ks) ks .dm
  | pin {v : V} {ks : List (NestedKey × PyData)} : VDM (.pin v (.dm ks)) ks fun ks => .pin v (.dm ks)
section
variable {T : TC} {I H : Hp} {v : V} {x : OD} {B : List Addr} {ks : List (NestedKey × PyData)} {mk : List (NestedKey × PyData) → OD} {σ : L2.St} {Γ : Sl} {F : List Addr} {i : Nat}
structure DmAt (T : TC) (I H : Hp) (p : Addr) (kvs : NKV) (ks : List (NestedKey × PyData)) : Prop where
  at_ : H p = some (DN T p kvs)
  fr : I p = none
  keys : kvs.map Prod.fst = ks.map Prod.fst
  krp : RpL T I (kvs.map fun p => V.ref p.2.1) (ks.map fun q => q.1.data)
  vrp : RpL T I (kvs.map fun p => p.2.2) (ks.map Prod.snd)
theorem VDM.own (h : VDM x ks mk) (o : Own T I H v x B) : ∃ p kvs, v = .ref p ∧ B = [p] ∧ DmAt T I H p kvs ks ∧ ∀ (I' H' : Hp) (kvs' : NKV) (ks' : List (NestedKey × PyData)), DmAt T I' H' p kvs' ks' → Own T I' H' v (mk ks') [p] := by
  cases h with
  | dm => cases o with
    | dm h1 h2 h3 h4 h5 => exact ⟨_, _, rfl, rfl, ⟨h1, h2, h3, h4, h5⟩, fun I' H' kvs' ks' d => .dm d.at_ d.fr d.keys d.krp d.vrp⟩
  | pin => cases o with
    | pin o => cases o with
      | dm h1 h2 h3 h4 h5 => exact ⟨_, _, rfl, rfl, ⟨h1, h2, h3, h4, h5⟩, fun I' H' kvs' ks' d => .pin (.dm d.at_ d.fr d.keys d.krp d.vrp)⟩
theorem EnvF.dm (en : EnvF T I H σ Γ F) (hx : Γ[i]? = some (some x)) (hv : VDM x ks mk) : ∃ p kvs, σ[i]? = some (some (.ref p)) ∧ DmAt T I H p kvs ks ∧
    ∀ (kvs' : NKV) (ks' : List (NestedKey × PyData)), kvs'.map Prod.fst = ks'.map Prod.fst → RpL T I (kvs'.map fun p => V.ref p.2.1) (ks'.map fun q => q.1.data) → RpL T I (kvs'.map fun p => p.2.2) (ks'.map Prod.snd) →
      ∃ F', EnvF T I (upd H p (DN T p kvs')) σ (Γ.set i (some (mk ks'))) F' ∧ Step I H F I (upd H p (DN T p kvs')) F' := by
  obtain ⟨v, B, G, e1, o, en', nd, mem⟩ := en.take hx
  obtain ⟨p, kvs, rfl, rfl, d, h5⟩ := hv.own o
  refine ⟨p, kvs, e1, d, fun kvs' ks' r r' r'' => ?_⟩
  have np : p ∉ G := (List.nodup_cons.mp (show (p :: G).Nodup from nd)).1
  have en2 : EnvF T I (upd H p (DN T p kvs')) σ (Γ.set i none) G := ⟨en'.env.frame (Same.refl I) fun b hb => ⟨upd_ne fun q => np (q ▸ hb), (en'.env.cells b hb).2⟩, en'.nd, fun b u e => by
    rw [upd_ne fun q => by
      subst q
      rw [d.fr] at e
      cases e]
    exact en.sub b u e⟩
  obtain ⟨F', en3, nd3, m3⟩ := en2.into e1 (h5 I _ kvs' ks' ⟨upd_same, d.fr, r, r', r''⟩) nd
  rw [List.set_set] at en3
  exact ⟨F', en3, (step_upd (F := F) ((mem p).mpr (.inl (List.mem_singleton.mpr rfl)))).of_mem (fun b hb => hb) fun b hb => (mem b).mpr (m3 b hb)⟩
end
theorem dn_stay {T : TC} {p : Addr} {kvs : NKV} {h1 h2 : Heap} (d : DnOk T p kvs h1) (e : ∀ o, h1.get? p = some o → h2.get? p = some o) : DnOk T p kvs h2 := by
  obtain ⟨z, hd, xs, r, o, es, ep, g1, g2⟩ := d
  exact ⟨z, hd, xs, r, o, es, ep, e _ g1, g2⟩
/-- what the dict holds at k -/
theorem dm_get {T : TC} {I : Hp} {k : NestedKey} : ∀ {kvs : NKV} {ks : List (NestedKey × PyData)} {xs : List (NestedKey × Addr × Value)}, Paired NPair kvs xs → kvs.map Prod.fst = ks.map Prod.fst → RpL T I (kvs.map fun p => p.2.2) (ks.map Prod.snd) →
    (∀ d, kget ks k = some d → ∃ v p, atKey xs k = some p ∧ RelV v p.2 ∧ Rp T I v d) ∧ (kget ks k = none → atKey xs k = none)
  | [], [], _, .nil, _, _ => ⟨fun d h => by simp [kget_nil] at h, fun _ => rfl⟩
  | [], _ :: _, _, .nil, h, _ => by simp at h
  | _ :: _, [], _, .cons _ _, h, _ => by simp at h
  | p :: kvs, q :: ks, _, .cons (b := y) (l₂ := xs) np r, h, rr => by
    rw [List.map_cons, List.map_cons, List.cons.injEq] at h
    rw [List.map_cons, List.map_cons] at rr
    cases rr with
    | cons h1 rr =>
      rw [kget_cons]
      have ha : atKey (y :: xs) k = if y.1 = k then some y.2 else atKey xs k := by
        unfold atKey
        rw [List.find?_cons]
        by_cases hk : y.1 = k <;> simp [hk]
      rw [ha]
      have e : y.1 = q.1 := np.1.symm.trans h.1
      by_cases hk : q.1 = k
      · rw [if_pos hk, if_pos (e.trans hk)]
        refine ⟨fun d hd => ?_, fun hn => by cases hn⟩
        cases hd
        exact ⟨p.2.2, y.2, rfl, np.2.2, h1⟩
      · rw [if_neg hk, if_neg fun z => hk (e.symm.trans z)]
        exact dm_get r h.2 rr
section
variable {X : Cx} {e a b c o it tg : Expr} {es elts : List Expr} {ss rest : List Stmt} {Γ Γ' Γ1 Γ2 Γ3 : Sl} {Ψ : OD → Sl → Prop} {Φ : Out → Prop} {Φt : Bool → Sl → Prop} {pos p apos cpos p2 tpos : Pos} {r x y z : OD} {nm n2 : Str} {ds es' : List PyData} {d d' g : PyData} {i kk : Nat} {ks : List (NestedKey × PyData)} {mk : List (NestedKey × PyData) → OD} {k : NestedKey}
/-- {}, keys to be nested -/
theorem pe_dnewN : PE X (.Dict [] [] pos) (fun _ H Q => ∀ p, H p = none → Q (.ref p) (upd H p (DN X.tc p []))) := ⟨fun pins s σ H Q I h => by
  have lo : (s.heap.objs.size == sysModules) = false := beq_eq_false_iff_ne.mpr (Ne.symm (Nat.ne_of_lt I.big))
  have new : DnOk X.tc s.heap.objs.size [] (s.heap.push { cls := .type "dict", data := .dict #[] }) := ⟨Nat.zero_le _, lo, [], .nil, _, #[], 0, Heap.get?_push_size _ rfl, ⟨rfl, rfl, rfl⟩, rfl, rfl, List.nodup_nil⟩
  exact wpAny_Dict_empty ⟨.ref s.heap.objs.size, _, I.laid (a := s.heap.objs.size) (o := DN X.tc s.heap.objs.size []) (t' := s.toks) (fun _ _ q => Heap.get?_push_of_some _ q) (Nat.le_refl _) ⟨new, ⟨_, Heap.get?_push_size _ rfl⟩, fun h1 h2 q e => dn_stay q e⟩, rfl, h _ (I.hok.fresh (Nat.le_refl _))⟩⟩
theorem xe_dictM0 : XE X (.Dict [] [] pos) Γ (.dm []) Γ := fun Ψ hq I H σ F en Q k => ⟨_, pe_dnewN, fun p hp => by
  have en2 := en.use (B := []) (by simpa using en.nd) (step_new (F := []) hp) (Own.dm (kvs := []) (ds := []) upd_same (en.sub.free hp) rfl .nil .nil) (by simp) (upd_sub en.sub hp)
  exact k _ _ I _ _ _ hq en2.2 en2.1⟩
end
end TL
/-! TL18: the law's call, where the promise knows that no repr runs around. -/
namespace TL
open PySem PySem.Spec PyProof.Rows L2
theorem callerA_gd : callerA.guards = some [] := by first | rfl | decide
/-- what stands untracked stands in the part that is hidden from the walk -/
theorem hid_ns {h : Heap} {H : Hp} {a : Addr} {its : Array Value} (one : ∀ c, H c ≠ none → c = a) (lst : h.get? a = some { cls := .type "list", data := .seq its }) {c : Addr} {m : Str → Option Value} (n : h.Ns c m) : (hidT h H).Ns c m := by
  obtain ⟨ob, es, ep, e, isd, rest⟩ := n
  refine ⟨ob, es, ep, hidT_get e ?_, isd, rest⟩
  refine Decidable.byContradiction fun q => ?_
  have z := one c q
  subst z
  rw [lst] at e
  cases e
  cases (show Data.seq its _ = Data.dict es ep from isd)
theorem hid_in {h : Heap} {H : Hp} {a : Addr} {K : PySem.W.Frag} (one : ∀ c, H c ≠ none → c = a) (notK : H a ≠ none → K.lookup a = none) (ki : K.In h) : K.In (hidT h H) := fun c ob e => by
  refine hidT_get (ki c ob e) (Decidable.byContradiction fun q => ?_)
  have z := one c q
  subst z
  rw [notK q] at e
  cases e
section
variable {P : Program} {w : World} {K : PySem.W.Frag} {mg mb : Str → Option Value} {k : Nat} {fa a : Addr} {fd : FuncData} {x : Str} {sp : Sp} {s : Shared} {us : List Value} {ns : List Int}
/-- what is wanted of the call -/
abbrev LawEnd (s : Shared) : Result → Shared → Prop := fun r s' => r = .ok (.ret (.bool true)) ∧ OldK s.heap s'.heap ∧ s'.os = s.os ∧ AllBare s'.gens
theorem law_from {H : Hp} (ki : K.In s.heap) (gn : s.heap.Ns mainGlobals mg) (bn : s.heap.Ns builtinsNs mb) (bb : ∀ y : Str, y ≠ "__name__" → mb y = bootBuiltins y) (nl : s.heap.NoLimit) (g0 : s.gens = #[]) (lst : s.heap.get? a = some { cls := .type "list", data := .seq us.toArray })
    (hr : Room k callerA) (F : ∀ base : Heap, K.In base → base.Ns mainGlobals mg → FnG P w K mg base CX0 k fa fd [x] sp) (bd : ∀ (s : Shared) (u : Value), BindsTo s fd ⟨[u], []⟩ [(x, u)])
    (on : Only H) (hok : HOk P w H s.heap) (one : ∀ c, H c ≠ none → c = a) (notK : H a ≠ none → K.lookup a = none) (q : sp [.ref a] H (fun v _ => v = .bl true) fun _ _ _ => False) : codeAny (model P w) callerA (.call (.ref fa) ⟨[.ref a], []⟩) (LawEnd s) s := by
  have kb : K.In (hidT s.heap H) := hid_in one notK ki
  have gb := hid_ns one lst gn
  have md : Mod K mg (hidT s.heap H) := by
    refine ⟨kb, gb, ⟨mb, hid_ns one lst bn, bb⟩, ?_⟩
    obtain ⟨mc, n1, n2⟩ := nl
    exact ⟨mc, hid_ns one lst n1, n2⟩
  have env : Env0 P w K mg (hidT s.heap H) callerA [] s H := by
    refine ⟨rfl, md, ?_, ?_, trivial, ?_, hok, .of_eq g0⟩
    · exact fun c ob e => of_hidT e
    · exact Nat.le_of_eq (hidT_size _ _)
    · intro c hc
      cases hc
  have run := (F _ kb gb).go callerA [] s H ⟨[.ref a], []⟩ [.ref a] [.ref a] _ _ hr callerA_gd env (bd s (.ref a)) (.cons rfl .nil) q
  refine codeAny_mono run ?_
  rintro (e | fl) s' res
  · exact False.elim res
  · cases fl with
    | next => cases res
    | brk => cases res
    | cont => cases res
    | ret u =>
      obtain ⟨v, H', os, bare, un, hok', rv, hv⟩ := res
      have hv' : v = .bl true := hv
      subst hv'
      have hu : u = Value.bool true := rv
      subst hu
      refine ⟨rfl, OldK.of_keep ?_, os, bare⟩
      intro c ob e
      rcases on c with n | ⟨o2, ys, n⟩
      · refine un.keep c ob e n ?_ (by simp)
        intro z
        cases z
      · have w1 := (hok c _ n).1
        have w2 := (hok' c _ (un.frzs c o2 _ n)).1
        rw [w1] at e
        cases e
        exact w2
theorem law_callG (ki : K.In s.heap) (gn : s.heap.Ns mainGlobals mg) (bn : s.heap.Ns builtinsNs mb) (bb : ∀ y : Str, y ≠ "__name__" → mb y = bootBuiltins y) (nl : s.heap.NoLimit) (g0 : s.gens = #[]) (lst : s.heap.get? a = some { cls := .type "list", data := .seq us.toArray }) (hin : IntsAre us ns) (hz : ns.length ≤ sizeLine)
    (hr : Room k callerA) (F : ∀ base : Heap, K.In base → base.Ns mainGlobals mg → FnG P w K mg base CX0 k fa fd [x] sp) (bd : ∀ (s : Shared) (u : Value), BindsTo s fd ⟨[u], []⟩ [(x, u)])
    (q : ∀ H : Hp, Only H → SqL K H a (ns.map V.int) → sp [.ref a] H (fun v _ => v = .bl true) fun _ _ _ => False) : codeAny (model P w) callerA (.call (.ref fa) ⟨[.ref a], []⟩) (LawEnd s) s := by
  have rv := vals_ints hin
  have ln := hin.length
  by_cases hk : K.lookup a = none
  · let ob : Obj := { cls := .type "list", data := .seq us.toArray }
    let H : Hp := fun c => if c = a then some (.frz ob (.lst (ns.map V.int))) else none
    have at_ : H a = some (.frz ob (.lst (ns.map V.int))) := if_pos rfl
    have off : ∀ c, c ≠ a → H c = none := fun c hc => if_neg hc
    have on : Only H := fun c => by
      by_cases hc : c = a
      · subst hc
        exact .inr ⟨_, _, at_⟩
      · exact .inl (off c hc)
    refine law_from (H := H) ki gn bn bb nl g0 lst hr F bd on ?_ ?_ (fun _ => hk) (q H on (.inl (.inr ⟨ob, at_⟩)))
    · intro c u e
      by_cases hc : c = a
      · subst hc
        rw [at_] at e
        cases e
        exact ⟨lst, by rw [List.length_map]; exact hz, us, _, rv, lst⟩
      · rw [off c hc] at e
        cases e
    · exact fun c hc => Decidable.byContradiction fun z => hc (off c z)
  · obtain ⟨o, ho⟩ := Option.ne_none_iff_exists'.mp hk
    have same := ki a o ho
    rw [lst] at same
    cases same
    refine law_from (H := fun _ => none) ki gn bn bb nl g0 lst hr F bd (fun _ => .inl rfl) ?_ ?_ ?_ (q _ (fun _ => .inl rfl) ?_)
    · intro c u e
      cases e
    · exact fun c hc => absurd rfl hc
    · exact fun hc => absurd rfl hc
    · exact .inr ⟨_, us.toArray, _, ho, rfl, rfl, rfl, by rw [List.size_toArray, ln]; exact hz, by simpa using rv⟩
end
/-- the law's own contract -/
def spLaw : SpD := fun as Ψ => ∃ ns : List Int, as = [.da (.list (ns.map .int))] ∧ ns.length ≤ 63 ∧ ∀ as', Ψ (.da (.bool true)) as'
theorem rpL_ints {T : TC} {I : Hp} : ∀ ns : List Int, RpL T I (ns.map V.int) (ns.map PyData.int)
  | [] => .nil
  | n :: ns => .cons (.int n) (rpL_ints ns)
/-- the goal that k_head leaves -/
theorem walkG {l : PySem.W.OpenLaw} {n k : Nat} {q : Program} {loose : List Str} {XP : (Str → Option Value) → Heap → Prop} {YP : World → Heap → Prop} {d : DefRec} {K : Params → PySem.W.Frag} (hn : l.most = some n) (h63 : n ≤ 63) (hdf : d.params.defaults = []) (hr : Room k callerA)
    (hY : ∀ (w : World) (h : Heap), YP w h → (K w.params).In h)
    (F : ∀ (w : World) (mg : Str → Option Value) (fa : Addr) (h : Heap), (K w.params).In h → h.Ns mainGlobals mg → mg d.name = some (.ref fa) →
      ∃ fd : FuncData, (∀ (s : Shared) (u : Value), BindsTo s fd ⟨[u], []⟩ [("script", u)]) ∧ ∀ base : Heap, (K w.params).In base → base.Ns mainGlobals mg → FnG l.prog w (K w.params) mg base CX0 k fa fd ["script"] (mkSp ⟨l.prog, w, K w.params⟩ spLaw)) :
    PySem.W.WalkO q loose XP YP l.row.toRowW d [] (fun f vs => PySem.call f vs) := by
  refine Att.attach_call hn hdf ?_
  intro w s0 s1 mg mb fa o pm cd doc a us ns G Y _ _ _ hmg lst hin hlen g0
  obtain ⟨fd, bd, hF⟩ := F w mg fa _ (hY w _ Y) G.T.g hmg
  refine law_callG (hY w _ Y) G.T.g G.T.b G.T.builtins G.T.nolimit g0 lst hin (Nat.le_trans hlen (Nat.le_trans h63 (by decide))) hr hF bd ?_
  intro H on hS
  refine ⟨H, [.da (.list (ns.map .int))], [] ++ [], fun r _ => r = .da (.bool true), .cons (.da (.lst hS (rpL_ints ns))) .nil, by simp, Same.refl H, ⟨ns, rfl, Nat.le_trans hlen h63, fun _ => rfl⟩, ?_⟩
  rintro _ as' I' H' v F' rfl _ ol _ _
  cases ol with
  | cons o _ => cases o with
    | da o =>
      cases o
      rfl
end TL
namespace TL
open PySem PySem.Spec PyProof.Rows L2
/-! ### the facts of the text -/
def DK (K : PySem.W.Frag) (nm : Str) (st : Stmt) : Prop := ∃ f fd, Fun K nm nm st f fd ∧ PySem.W.nsIn K mainGlobals nm = some (some (.ref f))
theorem dk_mk {K : PySem.W.Frag} {nm : Str} {st : Stmt} {f : Addr} {od an : Option Addr} {sl : Array (Option Value)} {oc kV dc pm cd ct : Value} (a : PySem.W.nsIn K mainGlobals nm = some (some (.ref f)))
    (l : K.lookup f = some ⟨oc, od, .func (PySem.W.fnOf nm nm (defArgs st) (defBody st) (defScope st) .none kV dc pm an cd ct), sl⟩) (c : PySem.W.codeIn K cd nm = true) (k : PySem.W.keepIn K (.ref f) = true) : DK K nm st := ⟨_, _, fun_mk (st := st) l c k, a⟩
def NoG (K : PySem.W.Frag) (nm : Str) : Prop := PySem.W.nsIn K mainGlobals nm = some none
theorem blt_mk {K : PySem.W.Frag} {h : Heap} {mg : Str → Option Value} (X : K.In h) (G : h.Ns mainGlobals mg) (z : ∀ nm ∈ (["len", "int", "abs", "divmod", "list", "tuple", "range", "zip", "enumerate", "reversed", "sorted", "min", "max", "sum", "all", "any", "set", "repr", "str", "isinstance", "bool", "dict"] : List Str), NoG K nm) : Blt mg := by
  have g : ∀ nm ∈ (["len", "int", "abs", "divmod", "list", "tuple", "range", "zip", "enumerate", "reversed", "sorted", "min", "max", "sum", "all", "any", "set", "repr", "str", "isinstance", "bool", "dict"] : List Str), mg nm = none := fun nm hn => PySem.W.mg_none_of X G (z nm hn)
  exact ⟨g _ (by simp), g _ (by simp), g _ (by simp), g _ (by simp), g _ (by simp), g _ (by simp), g _ (by simp), g _ (by simp), g _ (by simp), g _ (by simp), g _ (by simp), g _ (by simp), g _ (by simp), g _ (by simp), g _ (by simp), g _ (by simp), g _ (by simp), g _ (by simp), g _ (by simp), g _ (by simp), g _ (by simp), g _ (by simp)⟩
/-- a def of the text with its contract: from the fact, the walk of its body -/
theorem DK.def {P : Program} {w : World} {K : PySem.W.Frag} {mg : Str → Option Value} {bs : Heap} {h : Heap} {k : Nat} {nm : Str} {st : Stmt} {ps : List Str} {sp : SpD} (X : K.In h) (G : h.Ns mainGlobals mg) (D : DK K nm st)
    (ok : ∀ f fd, Fun K nm nm st f fd → FnG P w K mg bs CX0 k f fd ps (mkSp ⟨P, w, K⟩ sp)) (b : ∀ f fd, Fun K nm nm st f fd → Binds K fd ps []) : Def P w K mg bs k nm ps sp :=
  let ⟨f, fd, F, a⟩ := D
  ⟨f, fd, ok f fd F, PySem.W.mg_of X G a, F.kp, b f fd F⟩
end TL
/-! TL19: defs by their bodies, loops over typed lists, what repr asks, association lists through keys. -/
namespace TL
open PySem PySem.Spec PyProof.Rows L2
/-- the context of a def's body -/
abbrev dcx (P : Program) (w : World) (K : PySem.W.Frag) (mg : Str → Option Value) (bs : Heap) (N : List Str) (nm : Str) (st : Stmt) (f : Addr) (cdv : Value) (A : Around) (fr : List PySem.Env) (s : Shared) (H : Hp) (E : XK) : Cx :=
  (cxOf CX0 P w K mg bs N nm (defScope st) f cdv A fr s H E).nox
theorem def_ok {P : Program} {w : World} {K : PySem.W.Frag} {mg : Str → Option Value} {bs : Heap} {h : Heap} {k : Nat} {nm : Str} {st : Stmt} {N ps : List Str} {sp : SpD} (X : K.In h) (G : h.Ns mainGlobals mg) (D : DK K nm st) (S : FnScope N ps (defScope st))
    (b : ∀ f fd, Fun K nm nm st f fd → Binds K fd ps []) (ln : ∀ as Ψ, sp as Ψ → as.length = ps.length)
    (hb : ∀ (f : Addr) (cdv : Value) (A : Around) (fr : List PySem.Env) (s : Shared) (H : Hp) (E : XK), Fr (dcx P w K mg bs N nm st f cdv A fr s H E) k → ∀ (as : List OD) (Ψ : OD → List OD → Prop) (vs : List V), sp as Ψ → vs.length = ps.length →
      WSs (dcx P w K mg bs N nm st f cdv A fr s H E) (defBody st) (start0 N as vs) (fnΦ as vs Ψ)) : Def P w K mg bs (k + 1) nm ps sp :=
  DK.def X G D (fun f fd F => fn_ok F S ln fun X' cdv A fr s H E hX hr hg as Ψ vs hsp hl => by
    subst hX
    exact hb f cdv A fr s H E ⟨S.nd, rfl, PassesOwn.never, hr, hg⟩ as Ψ vs hsp (by rw [hl, ln as Ψ hsp])) b
theorem ar1 {α : Type} {vs : List α} (h : vs.length = 1) : ∃ a, vs = [a] := match vs, h with | [a], _ => ⟨a, rfl⟩
theorem ar2 {α : Type} {vs : List α} (h : vs.length = 2) : ∃ a b, vs = [a, b] := match vs, h with | [a, b], _ => ⟨a, b, rfl⟩
theorem ar3 {α : Type} {vs : List α} (h : vs.length = 3) : ∃ a b c, vs = [a, b, c] := match vs, h with | [a, b, c], _ => ⟨a, b, c, rfl⟩
theorem ar4 {α : Type} {vs : List α} (h : vs.length = 4) : ∃ a b c d, vs = [a, b, c, d] := match vs, h with | [a, b, c, d], _ => ⟨a, b, c, d, rfl⟩
theorem ar5 {α : Type} {vs : List α} (h : vs.length = 5) : ∃ a b c d e, vs = [a, b, c, d, e] := match vs, h with | [a, b, c, d, e], _ => ⟨a, b, c, d, e, rfl⟩
section
variable {X : Cx} {e a b c o it tg : Expr} {es elts : List Expr} {body ss rest : List Stmt} {Γ Γ' Γ1 Γ2 Γ3 : Sl} {Ψ : OD → Sl → Prop} {Φ : Out → Prop} {Φt : Bool → Sl → Prop} {pos p apos cpos p2 tpos : Pos} {r x y z : OD} {nm n2 : Str} {ds es' : List PyData} {d d' g : PyData} {i : Nat}
/-- for over a typed list: the slots are st b, b changes by turns -/
theorem ws_forT {kk : Nat} {α β : Type} (f : Fr X kk) (xs : List α) (E : α → PyData) (st : β → Sl) (Inv : Nat → β → Prop) (b0 : β) (hi : XI X tg it Γ (xs.map E) Γ1) (h0 : Inv 0 b0) (e0 : Γ1 = st b0)
    (turn : ∀ (n : Nat) (x : α) (b : β), xs[n]? = some x → Inv n b → WG X tg (.da (E x)) (st b) fun Γ3 => WSs X body Γ3 (loopΦ (fun Γ4 => ∃ b', Inv (n + 1) b' ∧ Γ4 = st b') (thn2 X rest Φ)))
    (fin : ∀ b, Inv xs.length b → WSs X rest (st b) Φ) (hs : ∀ x, foldedSetIterable it X.env x = pure x := by intro _; rfl) : WSs X (.For tg it body [] pos :: rest) Γ Φ := by
  refine ws_for (fun ds n Γ' => ds = xs.map E ∧ ∃ b', Inv n b' ∧ Γ' = st b') f.own f.calm (hi _ ⟨⟨rfl, b0, h0, e0⟩, ?_, ?_⟩) hs
  · rintro n d Γ2 hn ⟨_, b', hb, rfl⟩
    rw [List.getElem?_map] at hn
    obtain ⟨x, hx, rfl⟩ := Option.map_eq_some_iff.mp hn
    intro I H σ F v en Q k
    refine turn n x b' hx hb I H σ F v en Q fun Γ3 I' H' σ' F' h3 => k Γ3 I' H' σ' F' (h3.mono fun o ho => ?_)
    cases o with
    | nx Γ4 => exact ⟨rfl, ho⟩
    | ct Γ4 => exact ⟨rfl, ho⟩
    | bk Γ4 => exact ho
    | rt r Γ4 => exact ho
  · rintro Γ2 ⟨_, b', hb, rfl⟩
    rw [List.length_map] at hb
    exact fin b' hb
/-- the same, deterministic: a fold -/
theorem ws_fold {kk : Nat} {α β : Type} (f : Fr X kk) (xs : List α) (E : α → PyData) (st : β → Sl) (g : β → α → β) (b0 : β) (hi : XI X tg it Γ (xs.map E) Γ1) (e0 : Γ1 = st b0)
    (turn : ∀ (n : Nat) (x : α), xs[n]? = some x → WG X tg (.da (E x)) (st ((xs.take n).foldl g b0)) fun Γ3 => WSs X body Γ3 (loopΦ (fun Γ4 => Γ4 = st (g ((xs.take n).foldl g b0) x)) (thn2 X rest Φ)))
    (fin : WSs X rest (st (xs.foldl g b0)) Φ) (hs : ∀ x, foldedSetIterable it X.env x = pure x := by intro _; rfl) : WSs X (.For tg it body [] pos :: rest) Γ Φ := by
  refine ws_forT f xs E st (fun n b => b = (xs.take n).foldl g b0) b0 hi rfl e0 ?_ ?_ hs
  · rintro n x b hx rfl
    intro I H σ F v en Q k
    refine turn n x hx I H σ F v en Q fun Γ3 I' H' σ' F' h3 => k Γ3 I' H' σ' F' (h3.mono fun o ho => ?_)
    have e : (xs.take (n + 1)).foldl g b0 = g ((xs.take n).foldl g b0) x := by
      rw [List.take_succ, hx, List.foldl_append]
      rfl
    cases o with
    | nx Γ4 => exact ⟨_, e.symm, ho⟩
    | ct Γ4 => exact ⟨_, e.symm, ho⟩
    | bk Γ4 => exact ho
    | rt r Γ4 => exact ho
  · rintro b rfl
    rw [List.take_length]
    exact fin
/-! expressions from expressions, where a draw stands among them -/
theorem we_add (h : WE X a Γ fun x Γ1 => ∃ i, x = .da (.int i) ∧ WE X b Γ1 fun y Γ2 => ∃ j, y = .da (.int j) ∧ Ψ (.da (.int (i + j))) Γ2) : WE X (.BinOp a .Add b pos) Γ Ψ :=
  we_bin op_add (h.mono fun x Γ1 ⟨i, e, h2⟩ => h2.mono fun y Γ2 ⟨j, e', q⟩ => ⟨.da (.int (i + j)), by rw [e, e']; exact o2_I0 fun _ => .int _, q⟩)
theorem we_pure (h : XE X a Γ r Γ1) (q : Ψ r Γ1) : WE X a Γ Ψ := h _ q
end
/-! ### association lists through a map of keys and values -/
section
variable {κ κ' β β' : Type} [DecidableEq κ] [DecidableEq κ'] {f : κ → κ'} {g : β → β'}
theorem kget_map (hf : ∀ a b, f a = f b → a = b) {m : List (κ × β)} {k : κ} : kget (m.map fun p => (f p.1, g p.2)) (f k) = (kget m k).map g := by
  induction m with
  | nil => rfl
  | cons p m ih =>
    rw [List.map_cons, kget_cons, kget_cons, ih]
    by_cases h : p.1 = k
    · rw [if_pos h, if_pos (by rw [h])]
      rfl
    · rw [if_neg h, if_neg fun e => h (hf _ _ e)]
end
/-! ### what repr asks of data -/
structure Fn (n w : Nat) (d : PyData) : Prop where
  plain : d.plain = true
  shows : d.showable = true
  nodict : d.hasDict = false
  depth : d.depth ≤ n
  short : d.leavesShort 13 = true
  weight : d.weight ≤ w
theorem Fn.mono {n n' w w' : Nat} {d : PyData} (h : Fn n w d) (hn : n ≤ n') (hw : w ≤ w') : Fn n' w' d := ⟨h.plain, h.shows, h.nodict, Nat.le_trans h.depth hn, h.short, Nat.le_trans h.weight hw⟩
theorem Fn.none {n w : Nat} : Fn n w .none := ⟨rfl, rfl, rfl, Nat.zero_le _, rfl, Nat.zero_le _⟩
theorem Fn.bool {n w : Nat} {b : Bool} : Fn n w (.bool b) := ⟨rfl, rfl, rfl, Nat.zero_le _, rfl, Nat.zero_le _⟩
theorem natAbs_log {i : Int} {k : Nat} (h : i.natAbs < 2 ^ k) (hk : 0 < k) : i.natAbs.log2 < k := by
  by_cases h0 : i.natAbs = 0
  · rw [h0]
    simpa using hk
  · exact (Nat.log2_lt h0).mpr h
theorem intText_len {i : Int} (h : i.natAbs < 10 ^ 11) : (PyData.int i).shown.length ≤ 13 := by
  rw [PyData.shown_int]
  have q := int_text_length_le10 (k := 11) (by decide) h
  show (Str.ofString (toString i)).length ≤ 13
  rw [PySem.ofString_length]
  omega
theorem Fn.int {n w : Nat} {i : Int} (h : i.natAbs < 10 ^ 11) (hw : 37 ≤ w) : Fn n w (.int i) := by
  have h37 : i.natAbs < 2 ^ 37 := Nat.lt_trans h (by decide)
  have hl := natAbs_log h37 (by decide)
  refine ⟨rfl, ?_, rfl, Nat.zero_le _, ?_, ?_⟩
  · show decide (i.natAbs.log2 < 1920) = true
    exact decide_eq_true (by omega)
  · show decide ((PyData.int i).shown.length ≤ 13) = true
    exact decide_eq_true (intText_len h)
  · unfold PyData.weight
    split
    · exact Nat.zero_le _
    · omega
structure FnAll (n w : Nat) (ds : List PyData) : Prop where
  plain : PyData.plainAll ds = true
  shows : PyData.showableAll ds = true
  nodict : PyData.hasDictAll ds = false
  depth : PyData.depthAll ds ≤ n
  short : PyData.leavesShortAll 13 ds = true
  weight : PyData.weightAll ds ≤ ds.length * (w + 1)
theorem fn_all {n w : Nat} : ∀ {ds : List PyData}, (∀ d ∈ ds, Fn n w d) → FnAll n w ds
  | [], _ => ⟨rfl, rfl, rfl, Nat.zero_le _, rfl, Nat.zero_le _⟩
  | d :: ds, h => by
    have h1 := h d List.mem_cons_self
    have h2 := fn_all fun x hx => h x (List.mem_cons_of_mem _ hx)
    refine ⟨?_, ?_, ?_, ?_, ?_, ?_⟩
    · simp [PyData.plainAll, h1.plain, h2.plain]
    · simp [PyData.showableAll, h1.shows, h2.shows]
    · simp [PyData.hasDictAll, h1.nodict, h2.nodict]
    · have a1 := h1.depth
      have a2 := h2.depth
      simp only [PyData.depthAll]
      omega
    · simp [PyData.leavesShortAll, h1.short, h2.short]
    · have a1 := h1.weight
      have a2 := h2.weight
      simp only [PyData.weightAll, List.length_cons, Nat.succ_mul]
      omega
theorem Fn.tup {n w W : Nat} {ds : List PyData} (h : ∀ d ∈ ds, Fn n w d) (hW : ds.length * (w + 1) ≤ W) : Fn (n + 1) W (.tuple ds) := by
  have q := fn_all h
  exact ⟨by simp [PyData.plain, q.plain], by simp [PyData.showable, q.shows], by simp [PyData.hasDict, q.nodict], by simp only [PyData.depth]; have := q.depth; omega, by simp [PyData.leavesShort, q.short], by simp only [PyData.weight]; exact Nat.le_trans q.weight hW⟩
theorem Fn.lst {n w W : Nat} {ds : List PyData} (h : ∀ d ∈ ds, Fn n w d) (hW : ds.length * (w + 1) ≤ W) : Fn (n + 1) W (.list ds) := by
  have q := fn_all h
  exact ⟨by simp [PyData.plain, q.plain], by simp [PyData.showable, q.shows], by simp [PyData.hasDict, q.nodict], by simp only [PyData.depth]; have := q.depth; omega, by simp [PyData.leavesShort, q.short], by simp only [PyData.weight]; exact Nat.le_trans q.weight hW⟩
theorem Fn.shown {n w : Nat} {d : PyData} (h : Fn n w d) (hw : w ≤ 2 ^ 20) : d.shown.length ≤ sizeLine := PyData.shown_fits (B := 13) (by decide) (by decide) h.short (Nat.le_trans h.weight hw)
end TL
/-! TL20: the drawing's state and contracts. -/
namespace TL
open PySem PySem.Spec PyProof.Rows L2
section
variable {X : Cx} {e : Expr} {Γ : Sl} {Ψ : OD → Sl → Prop} {x y : OD} {ss : List Stmt} {Φ : Out → Prop}
/-- an answer seen otherwise -/
theorem we_conv (cv : ∀ (I H : Hp) (v : V) (B : List Addr), Own X.tc I H v x B → Own X.tc I H v y B) (h : WE X e Γ fun r Γ1 => r = x ∧ Ψ y Γ1) : WE X e Γ Ψ := fun I H σ F en Q k => h I H σ F en Q fun r Γ1 I1 H1 v F1 ⟨hr, hq⟩ st en1 => by
  subst hr
  obtain ⟨B, G, rfl, o, en2, up⟩ := en1.pop
  exact k y Γ1 I1 H1 v _ hq st ⟨.cons (cv _ _ _ _ o) en2.env, en1.nd, en1.sub⟩
end
section
variable {X : Cx} {e : Expr} {Γ : Sl} {Ψ : OD → Sl → Prop} {x y : OD}
/-- a slot seen otherwise behind an expression -/
theorem we_convAt (i : Nat) (h : WE X e Γ fun r Γ1 => ∃ x y, Γ1[i]? = some (some x) ∧ (∀ (I H : Hp) (v : V) (B : List Addr), Own X.tc I H v x B → Own X.tc I H v y B) ∧ Ψ r (Γ1.set i (some y))) : WE X e Γ Ψ := fun I H σ F en Q k => h I H σ F en Q fun r Γ1 I1 H1 v F1 ⟨x, y, hx, cv, hq⟩ st en1 => by
  obtain ⟨B, G, rfl, o, en2, up⟩ := en1.pop
  obtain ⟨v1, B1, G1, e2, o1, en4, nd4, mem4⟩ := en2.take hx
  obtain ⟨F5, en5, nd5, m5⟩ := en4.into e2 (cv _ _ _ _ o1) nd4
  rw [List.set_set] at en5
  have st5 : Step I1 H1 G I1 H1 F5 := Step.less fun b hb => (mem4 b).mpr (m5 b hb)
  obtain ⟨en6, st6, _⟩ := up st5 en5
  exact k r _ I1 H1 v _ hq (st.trans st6) en6
end
def dS (sc : List Int) (p c w n : Int) : List PyData := [.list (sc.map .int), .int p, .int c, .int w, .int n]
def dw (T : TC) : OP where
  own := fun I H v B => ∃ p vs sc pl c w n, v = .ref p ∧ B = [p] ∧ H p = some (.lst vs) ∧ I p = none ∧ RpL T I vs (dS sc pl c w n) ∧ 0 ≤ pl
  frame := fun e ⟨p, vs, sc, pl, c, w, n, e1, e2, h, i, r, h0⟩ k => by
    subst e1 e2
    have q := k p (List.mem_singleton.mpr rfl)
    exact ⟨p, vs, sc, pl, c, w, n, rfl, rfl, q.1.trans h, q.2, r.mono e, h0⟩
  cells := fun ⟨p, vs, sc, pl, c, w, n, e1, e2, h, i, r, h0⟩ b hb => by
    subst e1 e2
    rw [List.mem_singleton] at hb
    subst hb
    exact ⟨⟨_, h⟩, i⟩
theorem dw_open {T : TC} (I H : Hp) (v u : V) (B : List Addr) (o : Own T I H v (.pin u (.op (dw T))) B) : ∃ j : {q : List Int × Int × Int × Int × Int // 0 ≤ q.2.1}, Own T I H v (.pin u (.ll (dS j.1.1 j.1.2.1 j.1.2.2.1 j.1.2.2.2.1 j.1.2.2.2.2))) B := by
  cases o with
  | pin o => cases o with
    | op q =>
      obtain ⟨p, vs, sc, pl, c, w, n, rfl, rfl, h, i, r, h0⟩ := q
      exact ⟨⟨(sc, pl, c, w, n), h0⟩, .pin (.ll h i r)⟩
theorem dw_shut {T : TC} {sc : List Int} {p c w n : Int} (h0 : 0 ≤ p) (I H : Hp) (v u : V) (B : List Addr) (o : Own T I H v (.pin u (.ll (dS sc p c w n))) B) : Own T I H v (.pin u (.op (dw T))) B := by
  cases o with
  | pin o => cases o with
    | ll h i r => exact .pin (.op ⟨_, _, sc, p, c, w, n, rfl, rfl, h, i, r, h0⟩)
theorem dw_new {T : TC} {sc : List Int} {p c w n : Int} (h0 : 0 ≤ p) (I H : Hp) (v : V) (B : List Addr) (o : Own T I H v (.ll (dS sc p c w n)) B) : Own T I H v (.op (dw T)) B := by
  cases o with
  | ll h i r => exact .op ⟨_, _, sc, p, c, w, n, rfl, rfl, h, i, r, h0⟩
theorem atI_int {sc : List Int} {p : Int} (h0 : 0 ≤ p) (h1 : p < sc.length) : ∃ v, atI (sc.map PyData.int) p = some (.int v) := by
  have hl : p.toNat < sc.length := by omega
  refine ⟨sc[p.toNat], ?_⟩
  have e : ixN (sc.map PyData.int).length p = some p.toNat := by
    unfold ixN
    rw [List.length_map, if_pos h0, if_pos h1]
  unfold atI
  rw [e]
  show (sc.map PyData.int)[p.toNat]? = _
  rw [List.getElem?_map, List.getElem?_eq_getElem hl]
  rfl
section
variable {X : Cx} {e : Expr} {Γ : Sl} {Ψ : OD → Sl → Prop} {v : V} {x : OD}
/-- a pinned slot, used as if it were not -/
theorem we_unpin (i : Nat) (hx : Γ[i]? = some (some (.pin v x))) (h : WE X e (Γ.set i (some x)) fun r Γ1 => ∃ y, Γ1[i]? = some (some y) ∧ Ψ r (Γ1.set i (some (.pin v y)))) : WE X e Γ Ψ := fun I H σ F en Q k => by
  obtain ⟨v0, B, G, e1, o, en', nd, mem⟩ := en.take hx
  cases o with
  | pin o =>
    obtain ⟨F2, en2, nd2, m2⟩ := en'.into e1 o nd
    rw [List.set_set] at en2
    have st0 : Step I H F I H F2 := Step.less fun b hb => (mem b).mpr (m2 b hb)
    refine h I H σ F2 en2 Q fun r Γ1 I1 H1 w F1 ⟨y, hy, hq⟩ st1 en1 => ?_
    obtain ⟨Br, Gr, rfl, or, en3, up⟩ := en1.pop
    obtain ⟨v1, B1, G1, e2, o1, en4, nd4, mem4⟩ := en3.take hy
    rw [e1] at e2
    cases e2
    obtain ⟨F5, en5, nd5, m5⟩ := en4.into e1 (.pin o1) nd4
    rw [List.set_set] at en5
    have st5 : Step I1 H1 Gr I1 H1 F5 := Step.less fun b hb => (mem4 b).mpr (m5 b hb)
    obtain ⟨en6, st6, _⟩ := up st5 en5
    exact k r _ I1 H1 w _ hq ((st0.trans st1).trans st6) en6
end
/-- the drawing's state in a slot, pinned or not -/
inductive VOp (R : OP) : OD → Prop
  | op : VOp R (.op R)
  | pin {v : V} : VOp R (.pin v (.op R))
theorem set_self {Γ : Sl} {i : Nat} {o : Option OD} (h : Γ[i]? = some o) : Γ.set i o = Γ := by
  obtain ⟨h1, h2⟩ := List.getElem?_eq_some_iff.mp h
  rw [← h2]
  exact List.set_getElem_self h1
theorem get_set {Γ : Sl} {i : Nat} {o o' : Option OD} (h : Γ[i]? = some o) : (Γ.set i o')[i]? = some o' := List.getElem?_set_self (List.getElem?_eq_some_iff.mp h).1
section
variable {X : Cx} {Γ : Sl} {Ψ : OD → Sl → Prop} {a : Expr} {pos p p2 : Pos} {kk : Nat} {nm fnm : Str} {m : Int} {k : Nat} {ps : List Str} {x : OD}
theorem we_drawG (i : Nat) {sp : SpD} (G : Def X.prog X.w X.K X.mg X.base k fnm ps sp) (hr : Room k X.A) (hgd : X.A.guards = some []) {R : OP} (hv0 : VOp R x) (h : XE X a (Γ.set i none) (.da (.int m)) (Γ.set i none))
    (hq : sp [.op R, .da (.int m)] fun r as => as = [.op R, .da (.int m)] ∧ Ψ r Γ) (hsm : ∀ as Ψ1 Ψ2, (∀ r as', Ψ1 r as' → Ψ2 r as') → sp as Ψ1 → sp as Ψ2)
    (hx : Γ[i]? = some (some x) := by rfl) (hN : X.N[i]? = some nm := by rfl) (hv : Vis X.env.scope nm := by first | exact Or.inl rfl | exact Or.inr (Or.inl rfl) | exact Or.inr (Or.inr rfl)) (h2 : (nm == ("__debug__" : Str)) = false := by decide) (h3 : (nm == ("__classdict__" : Str)) = false := by decide)
    (hg : Gl X fnm := by rfl) (hdb : (fnm == ("__debug__" : Str)) = false := by decide) (he : starEach [.Name nm p2, a] X.env = (false, eval (.Name nm p2) X.env) :: starEach [a] X.env := by rfl) (he2 : starEach [a] X.env = (false, eval a X.env) :: starEach [] X.env := by rfl) (hpl : (backTo pos (starEach [a] X.env)).any (·.1) = false := by rfl) :
    WE X (.Call (.Name fnm p) [.Name nm p2, a] [] pos) Γ Ψ := by
  cases hv0 with
  | op => exact we_fn G hr hgd (wa_ref i (wa_cons (h _ (wa_nil (hsm _ _ _ (fun r as' ⟨ea, q⟩ => by
      subst ea
      show Ψ r ((Γ.set i none).set i (some (.op R)))
      rw [List.set_set, set_self hx]
      exact q) hq))) he2) hx hN hv h2 h3 he) hg hdb he hpl
  | pin =>
    rename_i v
    refine we_unpin i hx (we_fn G hr hgd (wa_ref i (wa_cons (by
      rw [List.set_set]
      exact h _ (wa_nil (hsm _ _ _ (fun r as' ⟨ea, q⟩ => by
        subst ea
        refine ⟨.op R, ?_, ?_⟩
        · show ((Γ.set i none).set i (some (.op R)))[i]? = _
          rw [List.set_set]
          exact get_set hx
        · show Ψ r (((Γ.set i none).set i (some (.op R))).set i (some (.pin v (.op R))))
          rw [List.set_set, List.set_set, set_self hx]
          exact q) hq))) he2) (get_set hx) hN hv h2 h3 he) hg hdb he hpl)
end
end TL
/-! TL21: calls of defs, own things handed over by name: what they hold is looked up when all arguments stand. -/
namespace TL
open PySem PySem.Spec PyProof.Rows L2
def unp : OD → OD
  | .pin _ x => x
  | x => x
def getR : List (Option OD) → List (Option Nat) → Sl → Option (List OD × Sl)
  | some r :: rs, _ :: refs, Γ => (getR rs refs Γ).map fun q => (r :: q.1, q.2)
  | none :: rs, some i :: refs, Γ => match Γ[i]? with
    | some (some x) => (getR rs refs (Γ.set i none)).map fun q => (unp x :: q.1, q.2)
    | _ => none
  | [], [], Γ => some ([], Γ)
  | _, _, _ => none
def repin (Γ2 : Sl) : List (Option Nat) → Sl → Sl
  | some i :: refs, Γ => match Γ2[i]?, Γ[i]? with
    | some (some (.pin v _)), some (some y) => repin Γ2 refs (Γ.set i (some (.pin v y)))
    | _, _ => repin Γ2 refs Γ
  | none :: refs, Γ => repin Γ2 refs Γ
  | [], Γ => Γ
theorem own_unp {T : TC} {I H : Hp} {v : V} {x : OD} {B : List Addr} (o : Own T I H v x B) : Own T I H v (unp x) B := by
  cases o with
  | pin o => exact o
  | da h => exact .da h
  | ll a b c => exact .ll a b c
  | dd a b c d => exact .dd a b c d
  | dm a b c d e => exact .dm a b c d e
  | ls a b c => exact .ls a b c
  | ob a b c d => exact .ob a b c d
  | op a => exact .op a
theorem set_app {α : Type} {xs ys : List α} {i : Nat} {a : α} : (xs ++ ys).set (xs.length + i) a = xs ++ ys.set i a := by
  rw [List.set_append_right _ _ (by omega)]
  congr 1
  congr 1
  omega
theorem get_app {α : Type} {xs ys : List α} {i : Nat} : (xs ++ ys)[xs.length + i]? = ys[i]? := by
  rw [List.getElem?_append_right (by omega)]
  congr 1
  omega
section
variable {T : TC} {I H : Hp} {σ : L2.St}
theorem getR_env : ∀ {rs : List (Option OD)} {refs : List (Option Nat)} {vs : List V} {as : List OD} {Γ2 Γ3 : Sl} {F : List Addr}, getR rs refs Γ2 = some (as, Γ3) → EnvF T I H (vs.map some ++ σ) (rs ++ Γ2) F → vs.length = rs.length → RefsOk refs vs σ →
    ∃ F', EnvF T I H (vs.map some ++ σ) (as.map some ++ Γ3) F' ∧ (∀ b ∈ F', b ∈ F) ∧ as.length = rs.length
  | [], [], [], as, Γ2, Γ3, F, h, en, _, _ => by
    cases h
    exact ⟨F, en, fun b hb => hb, rfl⟩
  | [], [], _ :: _, _, _, _, _, _, _, hl, _ => by simp at hl
  | [], _ :: _, _, _, _, _, _, h, _, _, _ => by simp [getR] at h
  | some r :: rs, [], _, _, _, _, _, h, _, _, _ => by simp [getR] at h
  | none :: rs, [], _, _, _, _, _, h, _, _, _ => by simp [getR] at h
  | none :: rs, none :: refs, _, _, _, _, _, h, _, _, _ => by simp [getR] at h
  | _ :: _, _ :: _, [], _, _, _, _, _, _, hl, _ => by simp at hl
  | some r :: rs, ref :: refs, v :: vs, as, Γ2, Γ3, F, h, en, hl, rk => by
    unfold getR at h
    obtain ⟨⟨as', Γ3'⟩, h1, h2⟩ := Option.map_eq_some_iff.mp h
    cases h2
    obtain ⟨B, G, rfl, o, en', _⟩ := EnvF.pop (v := v) (r := r) (σ := vs.map some ++ σ) (Γ := rs ++ Γ2) en
    obtain ⟨F', en2, m, l⟩ := getR_env h1 en' (by simpa using hl) rk.tail
    have nd := List.nodup_append.mp en.nd
    refine ⟨B ++ F', ⟨.cons o en2.env, List.nodup_append.mpr ⟨nd.1, en2.nd, fun x hx y hy => nd.2.2 x hx y (m y hy)⟩, en.sub⟩, fun b hb => ?_, by simp [l]⟩
    exact (List.mem_append.mp hb).elim (List.mem_append_left _) fun q => List.mem_append_right _ (m b q)
  | none :: rs, some i :: refs, v :: vs, as, Γ2, Γ3, F, h, en, hl, rk => by
    unfold getR at h
    cases hx : Γ2[i]? with
    | none =>
      rw [hx] at h
      cases h
    | some ox => cases ox with
      | none =>
        rw [hx] at h
        cases h
      | some x =>
        rw [hx] at h
        obtain ⟨⟨as', Γ3'⟩, h1, h2⟩ := Option.map_eq_some_iff.mp h
        cases h2
        have hl' : vs.length = rs.length := by simpa using hl
        have en0 : EnvF T I H (vs.map some ++ σ) (rs ++ Γ2) F := by
          refine ⟨?_, en.nd, en.sub⟩
          have e := en.env
          cases e with
          | skip e => exact e
        obtain ⟨v', B, G, e1, o, en', nd, mem⟩ := en0.take (i := rs.length + i) (x := x) (by rw [get_app]; exact hx)
        have hv : v' = v := by
          rw [show rs.length = (vs.map some).length by rw [List.length_map, hl'], get_app] at e1
          obtain ⟨u, q1, q2⟩ := rk 0 i rfl
          simp at q1
          subst q1
          rw [q2] at e1
          cases e1
          rfl
        subst hv
        rw [set_app] at en'
        obtain ⟨F', en2, m, l⟩ := getR_env h1 en' hl' rk.tail
        have nd' := List.nodup_append.mp nd
        refine ⟨B ++ F', ⟨.cons (own_unp o) en2.env, List.nodup_append.mpr ⟨nd'.1, en2.nd, fun x hx y hy => nd'.2.2 x hx y (m y hy)⟩, en.sub⟩, fun b hb => ?_, by simp [l]⟩
        exact (mem b).mpr ((List.mem_append.mp hb).imp id (m b))
theorem pins_ok {rs : List (Option OD)} {vs : List V} {Γ2 : Sl} {F : List Addr} {i : Nat} {v : V} {x : OD} (en : EnvF T I H (vs.map some ++ σ) (rs ++ Γ2) F) (hl : vs.length = rs.length) (hx : Γ2[i]? = some (some (.pin v x))) : σ[i]? = some (some v) := by
  obtain ⟨v', B, G, e1, o, _⟩ := en.take (i := rs.length + i) (x := .pin v x) (by rw [get_app]; exact hx)
  rw [show rs.length = (vs.map some).length by rw [List.length_map, hl], get_app] at e1
  cases o with
  | pin o => exact e1
theorem repin_env {Γ2 : Sl} (hp : ∀ (i : Nat) (v : V) (x : OD), Γ2[i]? = some (some (.pin v x)) → σ[i]? = some (some v)) : ∀ {refs : List (Option Nat)} {Γ : Sl} {F : List Addr} {I H : Hp}, EnvF T I H σ Γ F → ∃ F', EnvF T I H σ (repin Γ2 refs Γ) F' ∧ ∀ b ∈ F', b ∈ F
  | [], Γ, F, _, _, en => ⟨F, en, fun b hb => hb⟩
  | none :: refs, Γ, F, _, _, en => repin_env hp (refs := refs) en
  | some i :: refs, Γ, F, I, H, en => by
    unfold repin
    split
    · rename_i v x y h1 h2
      obtain ⟨v0, B, G, e1, o, en', nd, mem⟩ := en.take h2
      have hv := hp i v x h1
      rw [hv] at e1
      cases e1
      obtain ⟨F2, en2, nd2, m2⟩ := en'.into hv (.pin o) nd
      rw [List.set_set] at en2
      obtain ⟨F3, en3, m3⟩ := repin_env hp (refs := refs) en2
      exact ⟨F3, en3, fun b hb => (mem b).mpr (m2 b (m3 b hb))⟩
    · exact repin_env hp (refs := refs) en
end
section
variable {X : Cx} {e a b c o : Expr} {es : List Expr} {Γ Γ' Γ1 Γ2 : Sl} {Ψ : OD → Sl → Prop} {Ψa : List (Option OD) → List (Option Nat) → Sl → Prop} {pos p : Pos} {r x y z : OD} {nm fnm : Str} {d : PyData} {k : Nat} {ps : List Str} {sp : SpD}
def WR (X : Cx) (es : List Expr) (Γ : Sl) (Ψ : List (Option OD) → List (Option Nat) → Sl → Prop) : Prop := ∀ (I H : Hp) (σ : L2.St) (F : List Addr), EnvF X.tc I H σ Γ F → ∀ Q : List V → Hp → Prop,
  (∀ (rs : List (Option OD)) (refs : List (Option Nat)) (Γ' : Sl) (I' H' : Hp) (vs : List V) (F' : List Addr), Ψ rs refs Γ' → vs.length = rs.length → refs.length = rs.length → RefsOk refs vs σ → Step I H F I' H' F' →
    EnvF X.tc I' H' (vs.map some ++ σ) (rs ++ Γ') F' → Q vs H') → wpA X es σ H Q
theorem wr_nil (h : Ψa [] [] Γ) : WR X [] Γ Ψa := fun I H σ F en Q k => ⟨_, pa_nil, k [] [] Γ I H [] F h rfl rfl (fun k i e => by simp at e) .refl en⟩
theorem wr_cons (h : WE X e Γ fun r Γ1 => WR X es Γ1 fun rs refs Γ2 => Ψa (some r :: rs) (none :: refs) Γ2) (hs : starEach (e :: es) X.env = (false, eval e X.env) :: starEach es X.env := by rfl) : WR X (e :: es) Γ Ψa := by
  intro I H σ F en Q k
  refine ⟨_, pa_cons wpE_ok wpA_ok hs, h I H σ F en _ fun x Γ1 I1 H1 v F1 h1 st1 en1 => ?_⟩
  obtain ⟨B, G, rfl, o1, en1', up⟩ := en1.pop
  refine h1 I1 H1 σ G en1' _ fun rs refs Γ2 I2 H2 vs F2 h2 l1 l2 rk st2 en2 => ?_
  obtain ⟨en3, st3, _⟩ := up st2 en2
  exact k (some x :: rs) (none :: refs) Γ2 I2 H2 (v :: vs) _ h2 (by simp [l1]) (by simp [l2]) rk.none (st1.trans st3) en3
/-- data -/
theorem wr_da (h : XE X e Γ (.da d) Γ1) (q : WR X es Γ1 fun rs refs Γ2 => Ψa (some (.da d) :: rs) (none :: refs) Γ2) (hs : starEach (e :: es) X.env = (false, eval e X.env) :: starEach es X.env := by rfl) : WR X (e :: es) Γ Ψa := wr_cons (h _ q) hs
/-- what stands in the i-th slot, handed over -/
theorem wr_ref (i : Nat) (h : WR X es Γ fun rs refs Γ2 => Ψa (none :: rs) (some i :: refs) Γ2) (hx : OSome Γ[i]? = true := by rfl) (hN : X.N[i]? = some nm := by rfl)
    (hv : Vis X.env.scope nm := by first | exact Or.inl rfl | exact Or.inr (Or.inl rfl) | exact Or.inr (Or.inr rfl)) (h1 : (nm == ("__debug__" : Str)) = false := by decide) (h2 : (nm == ("__classdict__" : Str)) = false := by decide)
    (hs : starEach (.Name nm p :: es) X.env = (false, eval (.Name nm p) X.env) :: starEach es X.env := by rfl) : WR X (.Name nm p :: es) Γ Ψa := by
  intro I H σ F en Q k
  obtain ⟨x, hx⟩ := OSome.ex hx
  obtain ⟨v, B, e1, o⟩ := en.see hx
  refine ⟨_, pa_cons (pe_var hN hv h1 h2) wpA_ok hs, v, e1, ?_⟩
  refine h I H σ F en _ fun rs refs Γ2 I2 H2 vs F2 h2 l1 l2 rk st2 en2 => ?_
  exact k (none :: rs) (some i :: refs) Γ2 I2 H2 (v :: vs) F2 h2 (by simp [l1]) (by simp [l2]) (rk.some e1) st2 ⟨.skip en2.env, en2.nd, en2.sub⟩
/-- f(e, ..), f a def -/
theorem we_fnR (G : Def X.prog X.w X.K X.mg X.base k fnm ps sp) (hr : Room k X.A) (hgd : X.A.guards = some []) (h : WR X (e :: es) Γ fun rs refs Γ2 => ∃ as Γ3, getR rs refs Γ2 = some (as, Γ3) ∧ sp as fun r as' => Ψ r (repin Γ2 refs (putBack refs as' Γ3)))
    (hg : Gl X fnm := by rfl) (hdb : (fnm == ("__debug__" : Str)) = false := by decide) (he : starEach (e :: es) X.env = (false, eval e X.env) :: starEach es X.env := by rfl) (hpl : (backTo pos (starEach es X.env)).any (·.1) = false := by rfl) : WE X (.Call (.Name fnm p) (e :: es) [] pos) Γ Ψ := fun I H σ F en Q k => by
  obtain ⟨_, _, FG, hm, hk, hb⟩ := G
  refine ⟨_, pe_callG FG hr hgd hg hm hk hb pass0 wpA_ok hdb he hpl, h I H σ F en _ fun rs refs Γ1 I1 H1 vs F1 h1 l1 l2 rk st en1 => ?_⟩
  obtain ⟨as, Γ3, hget, hsp⟩ := h1
  obtain ⟨F2, en2, m2, l3⟩ := getR_env hget en1 l1 rk
  have hp := fun i v x (hx : Γ1[i]? = some (some (OD.pin v x))) => pins_ok en1 l1 hx
  rw [List.append_nil]
  refine call_fin (Ψ := fun r Γ => Ψ r (repin Γ1 refs Γ)) hsp (by rw [l1, l3]) rk (st.trans (Step.less m2)) en2 fun r Γ' I' H' v F' hq st' en' => ?_
  obtain ⟨B, G, rfl, o, en3, up⟩ := en'.pop
  obtain ⟨F5, en5, m5⟩ := repin_env (refs := refs) hp en3
  obtain ⟨en6, st6, _⟩ := up (Step.less m5) en5
  exact k r _ I' H' v _ hq (st'.trans st6) en6
end
end TL
/-! TL22: comprehensions of one answer. -/
namespace TL
open PySem PySem.Spec PyProof.Rows L2
theorem plainAll_map {α : Type} {f : α → PyData} : ∀ {xs : List α}, (∀ x ∈ xs, (f x).plain = true) → PyData.plainAll (xs.map f) = true
  | [], _ => rfl
  | x :: xs, h => by
    rw [List.map_cons]
    simp [PyData.plainAll, h x List.mem_cons_self, plainAll_map fun y hy => h y (List.mem_cons_of_mem _ hy)]
abbrev ilist (xs : List Nat) : List PyData := xs.map fun (n : Nat) => PyData.int n
theorem plain_ilist {xs : List Nat} : PyData.plainAll (ilist xs) = true := plainAll_map fun x _ => rfl
section
variable {X : Cx} {e a b c o elt tg it : Expr} {es ifs : List Expr} {ss rest : List Stmt} {Γ Γ' Γ1 Γ2 : Sl} {Ψ : OD → Sl → Prop} {Φ : Out → Prop} {pos p apos spos py : Pos} {nm : Str} {ds : List PyData} {d : PyData} {scope : Scope} {own : List (Str × Nat)} {k : Nat} {α : Type}
/-- the block's expressions, whatever the block's frame is -/
def XB (X : Cx) (scope : Scope) (e : Expr) (Γ : Sl) (r : OD) (Γ' : Sl) : Prop := ∀ s H C cl fp, XE (Blk X scope s H C cl fp) e Γ r Γ'
def TB (X : Cx) (scope : Scope) (e : Expr) (Γ : Sl) (r : Bool) (Γ' : Sl) : Prop := ∀ s H C cl fp, XT (Blk X scope s H C cl fp) e Γ r Γ'
def GB (X : Cx) (scope : Scope) (own : List (Str × Nat)) (tg : Expr) (d : PyData) (Γ Γ3 : Sl) : Prop := ∀ s H C cl fp, WGc (Blk X scope s H C cl fp) (own.map (·.2)) tg d Γ fun Γ' => Γ' = Γ3
section
variable (own : List (Str × Nat)) (u : α → Sl → Sl) (xs : List α) (E f : α → PyData)
theorem xe_lcM (fx : Fr X k) {R : α → OD} (hi : XI X tg it Γ (xs.map E) Γ) (hsz : xs.length ≤ sizeLine) (hg : ∀ x ∈ xs, GB X scope own tg (E x) Γ (u x Γ)) (he : ∀ x ∈ xs, XB X scope elt (u x Γ) (R x) (u x Γ)) (hf : ∀ x, Frz (R x) (f x) := by intro x; first | exact .da | exact .ll)
    (hd3 : ∀ x, dropΓ (own.map (·.2)) (u x Γ) = Γ := by intro x; rfl) (hd : dropΓ (own.map (·.2)) Γ = Γ := by rfl) (ok : blkC X.N X.env.scope scope own = true := by rfl) (hs : ∀ x, foldedSetIterable it X.env x = pure x := by intro _; rfl) : XE X (.ListComp elt [⟨tg, it, [], 0⟩] scope pos) Γ (.ll (xs.map f)) Γ :=
  fun Ψ hq => we_lc own _ fx.calm fx.nd (lc_map (xs := xs) (E := E) (f := f) (R := R) (fun x => u x Γ) hi hsz hd hg he hf hd3 hd hq) ok hs
theorem xe_lcF (pr : α → Bool) (fx : Fr X k) {R : α → OD} (hi : XI X tg it Γ (xs.map E) Γ) (hsz : xs.length ≤ sizeLine) (hg : ∀ x ∈ xs, GB X scope own tg (E x) Γ (u x Γ)) (ht : ∀ x ∈ xs, TB X scope c (u x Γ) (pr x) (u x Γ)) (he : ∀ x ∈ xs, pr x = true → XB X scope elt (u x Γ) (R x) (u x Γ)) (hf : ∀ x, Frz (R x) (f x) := by intro x; first | exact .da | exact .ll)
    (hd3 : ∀ x, dropΓ (own.map (·.2)) (u x Γ) = Γ := by intro x; rfl) (hd : dropΓ (own.map (·.2)) Γ = Γ := by rfl) (ok : blkC X.N X.env.scope scope own = true := by rfl) (hs : ∀ x, foldedSetIterable it X.env x = pure x := by intro _; rfl) : XE X (.ListComp elt [⟨tg, it, [c], 0⟩] scope pos) Γ (.ll ((xs.filter pr).map f)) Γ :=
  fun Ψ hq => we_lc own _ fx.calm fx.nd (lc_fil (xs := xs) (E := E) (f := f) (R := R) pr (fun x => u x Γ) hi hsz hd hg ht he hf hd3 hd hq) ok hs
/-- y = [..], y a plain local name -/
theorem xs_setLcM (i : Nat) (fx : Fr X k) {R : α → OD} (hi : XI X tg it Γ (xs.map E) Γ) (hsz : xs.length ≤ sizeLine) (hg : ∀ x ∈ xs, GB X scope own tg (E x) Γ (u x Γ)) (he : ∀ x ∈ xs, XB X scope elt (u x Γ) (R x) (u x Γ)) (q : WSs X rest (Γ.set i (some (.ll (xs.map f)))) Φ) (hf : ∀ x, Frz (R x) (f x) := by intro x; first | exact .da | exact .ll)
    (hd3 : ∀ x, dropΓ (own.map (·.2)) (u x Γ) = Γ := by intro x; rfl) (hd : dropΓ (own.map (·.2)) Γ = Γ := by rfl) (hN : X.N[i]? = some nm := by rfl) (hyl : X.env.scope.names.lookup nm = some .local := by rfl) (hl : Nat.blt i Γ.length = true := by rfl) (hsw : swapsWith (.ListComp elt [⟨tg, it, [], 0⟩] scope pos) (some (.Name nm py)) spos.line X.env = pure true := by rfl)
    (ok : blkC X.N X.env.scope scope own = true := by rfl) (hs : ∀ x, foldedSetIterable it X.env x = pure x := by intro _; rfl) : WSs X (.Assign [.Name nm py] (.ListComp elt [⟨tg, it, [], 0⟩] scope pos) spos :: rest) Γ Φ :=
  ws_setLc i own _ fx.calm fx.nd (lc_map (Ψ := fun r Γ1 => WSs X rest (Γ1.set i (some r)) Φ) (xs := xs) (E := E) (f := f) (R := R) (fun x => u x Γ) hi hsz hd hg he hf hd3 hd q) hN hyl hl hsw ok hs
theorem xs_setLcF (i : Nat) (pr : α → Bool) (fx : Fr X k) {R : α → OD} (hi : XI X tg it Γ (xs.map E) Γ) (hsz : xs.length ≤ sizeLine) (hg : ∀ x ∈ xs, GB X scope own tg (E x) Γ (u x Γ)) (ht : ∀ x ∈ xs, TB X scope c (u x Γ) (pr x) (u x Γ)) (he : ∀ x ∈ xs, pr x = true → XB X scope elt (u x Γ) (R x) (u x Γ)) (q : WSs X rest (Γ.set i (some (.ll ((xs.filter pr).map f)))) Φ) (hf : ∀ x, Frz (R x) (f x) := by intro x; first | exact .da | exact .ll)
    (hd3 : ∀ x, dropΓ (own.map (·.2)) (u x Γ) = Γ := by intro x; rfl) (hd : dropΓ (own.map (·.2)) Γ = Γ := by rfl) (hN : X.N[i]? = some nm := by rfl) (hyl : X.env.scope.names.lookup nm = some .local := by rfl) (hl : Nat.blt i Γ.length = true := by rfl) (hsw : swapsWith (.ListComp elt [⟨tg, it, [c], 0⟩] scope pos) (some (.Name nm py)) spos.line X.env = pure true := by rfl)
    (ok : blkC X.N X.env.scope scope own = true := by rfl) (hs : ∀ x, foldedSetIterable it X.env x = pure x := by intro _; rfl) : WSs X (.Assign [.Name nm py] (.ListComp elt [⟨tg, it, [c], 0⟩] scope pos) spos :: rest) Γ Φ :=
  ws_setLc i own _ fx.calm fx.nd (lc_fil (Ψ := fun r Γ1 => WSs X rest (Γ1.set i (some r)) Φ) (xs := xs) (E := E) (f := f) (R := R) pr (fun x => u x Γ) hi hsz hd hg ht he hf hd3 hd q) hN hyl hl hsw ok hs
end
/-- tuple([..]), all([..]) .. of a new list -/
theorem xe_tupL (B : Blt X.mg) (ha : XE X a Γ (.ll ds) Γ1) (hg : Gl X "tuple" := by rfl) (he : starEach [a] X.env = (false, eval a X.env) :: starEach [] X.env := by rfl) (hpl : (backTo pos (starEach [] X.env)).any (·.1) = false := by rfl) :
    XE X (.Call (.Name "tuple" p) [a] [] pos) Γ (.da (.tuple ds)) Γ1 := fun _ hq => we_tupOf B (ha _ ⟨ds, rfl, hq⟩) hg he hpl
/-- range(n) -/
theorem xi_rangeN {n : Nat} (B : Blt X.mg) (h : XE X a Γ (.da (.int (n : Int))) Γ1) (hn : n ≤ 16777216) (hg : Gl X "range" := by rfl) (hs : starEach [a] X.env = [(false, eval a X.env)] := by rfl) : XI X tg (.Call (.Name "range" p) [a] [] pos) Γ ((List.range n).map fun (i : Nat) => .int i) Γ1 := by
  have q := xi_range1 (tg := tg) (p := p) (pos := pos) B h (by omega) (by omega) hg hs
  have e : rangeD 0 (n : Int).toNat = (List.range n).map fun (i : Nat) => PyData.int i := by
    unfold rangeD
    rw [Int.toNat_natCast]
    exact List.map_congr_left fun i _ => by rw [Int.zero_add]
  rwa [e] at q
section
variable {β : Type} (own : List (Str × Nat)) (u : α → Sl → Sl) (xs : List α) (E : α → PyData) (F : β → PyData) (Pv : Nat → α → β → Prop)
abbrev LcJ (Γ : Sl) : List PyData → Nat → Sl → List PyData → Prop := fun ds n Γ' acc => ds = xs.map E ∧ Γ' = Γ ∧ ∃ bs : List β, acc = bs.map F ∧ bs.length = n ∧ ∀ (i : Nat) (x : α) (b : β), xs[i]? = some x → bs[i]? = some b → Pv i x b
/-- any answers, each as Pv says -/
theorem lc_any (hi : XI X tg it Γ (xs.map E) Γ) (hsz : xs.length ≤ sizeLine) (hg : ∀ x ∈ xs, GB X scope own tg (E x) Γ (u x Γ)) (he : ∀ (n : Nat) (x : α), xs[n]? = some x → ∀ s H C cl fp, WE (Blk X scope s H C cl fp) elt (u x Γ) fun r Γ' => ∃ b, Frz r (F b) ∧ Pv n x b ∧ Γ' = u x Γ)
    (hd3 : ∀ x, dropΓ (own.map (·.2)) (u x Γ) = Γ) (hd : dropΓ (own.map (·.2)) Γ = Γ) (hq : ∀ bs : List β, bs.length = xs.length → (∀ (i : Nat) (x : α) (b : β), xs[i]? = some x → bs[i]? = some b → Pv i x b) → Ψ (.ll (bs.map F)) Γ) : LcWI X scope own tg it elt [] Γ (LcJ xs E F Pv Γ) Ψ := by
  refine hi _ ⟨by rw [List.length_map]; exact hsz, ⟨rfl, hd, [], rfl, rfl, fun i x b h1 h2 => by simp at h2⟩, ?_, ?_⟩
  · rintro n d _ _ hn ⟨_, rfl, bs, rfl, hl, hp⟩
    rw [List.getElem?_map] at hn
    obtain ⟨x, hx, rfl⟩ := Option.map_eq_some_iff.mp hn
    refine ⟨u x _, hg x (List.mem_of_getElem? hx), fun k Γ4 => k = true ∧ Γ4 = u x _, fun s H C cl fp => wts_nil ⟨rfl, rfl⟩, ?_⟩
    rintro k Γ4 ⟨rfl, rfl⟩
    refine ⟨fun _ s H C cl fp => (he n x hx s H C cl fp).mono fun r Γ5 ⟨b, fz, hb, e5⟩ => ⟨F b, fz, rfl, by rw [e5]; exact hd3 x, bs ++ [b], by simp, by simp [hl], fun i x' b' h1 h2 => ?_⟩, fun q => Bool.noConfusion q⟩
    by_cases hin : i < bs.length
    · rw [List.getElem?_append_left hin] at h2
      exact hp i x' b' h1 h2
    · rw [List.getElem?_append_right (by omega)] at h2
      have hi0 : i - bs.length = 0 := by
        have := (List.getElem?_eq_some_iff.mp h2).1
        simp at this
        omega
      rw [hi0] at h2
      simp at h2
      subst h2
      have : i = n := by omega
      subst this
      rw [hx] at h1
      cases h1
      exact hb
  · rintro _ _ ⟨_, rfl, bs, rfl, hl, hp⟩
    rw [hd]
    rw [List.length_map] at hl
    exact hq bs hl hp
theorem we_lcA (fx : Fr X k) (hi : XI X tg it Γ (xs.map E) Γ) (hsz : xs.length ≤ sizeLine) (hg : ∀ x ∈ xs, GB X scope own tg (E x) Γ (u x Γ)) (he : ∀ (n : Nat) (x : α), xs[n]? = some x → ∀ s H C cl fp, WE (Blk X scope s H C cl fp) elt (u x Γ) fun r Γ' => ∃ b, Frz r (F b) ∧ Pv n x b ∧ Γ' = u x Γ)
    (hq : ∀ bs : List β, bs.length = xs.length → (∀ (i : Nat) (x : α) (b : β), xs[i]? = some x → bs[i]? = some b → Pv i x b) → Ψ (.ll (bs.map F)) Γ) (hd3 : ∀ x, dropΓ (own.map (·.2)) (u x Γ) = Γ := by intro x; rfl) (hd : dropΓ (own.map (·.2)) Γ = Γ := by rfl)
    (ok : blkC X.N X.env.scope scope own = true := by rfl) (hs : ∀ x, foldedSetIterable it X.env x = pure x := by intro _; rfl) : WE X (.ListComp elt [⟨tg, it, [], 0⟩] scope pos) Γ Ψ :=
  we_lc own _ fx.calm fx.nd (lc_any own u xs E F Pv hi hsz hg he hd3 hd hq) ok hs
theorem ws_setLcA (i : Nat) (fx : Fr X k) (hi : XI X tg it Γ (xs.map E) Γ) (hsz : xs.length ≤ sizeLine) (hg : ∀ x ∈ xs, GB X scope own tg (E x) Γ (u x Γ)) (he : ∀ (n : Nat) (x : α), xs[n]? = some x → ∀ s H C cl fp, WE (Blk X scope s H C cl fp) elt (u x Γ) fun r Γ' => ∃ b, Frz r (F b) ∧ Pv n x b ∧ Γ' = u x Γ)
    (hq : ∀ bs : List β, bs.length = xs.length → (∀ (i : Nat) (x : α) (b : β), xs[i]? = some x → bs[i]? = some b → Pv i x b) → WSs X rest (Γ.set i (some (.ll (bs.map F)))) Φ) (hd3 : ∀ x, dropΓ (own.map (·.2)) (u x Γ) = Γ := by intro x; rfl) (hd : dropΓ (own.map (·.2)) Γ = Γ := by rfl)
    (hN : X.N[i]? = some nm := by rfl) (hyl : X.env.scope.names.lookup nm = some .local := by rfl) (hl : Nat.blt i Γ.length = true := by rfl) (hsw : swapsWith (.ListComp elt [⟨tg, it, [], 0⟩] scope pos) (some (.Name nm py)) spos.line X.env = pure true := by rfl)
    (ok : blkC X.N X.env.scope scope own = true := by rfl) (hs : ∀ x, foldedSetIterable it X.env x = pure x := by intro _; rfl) : WSs X (.Assign [.Name nm py] (.ListComp elt [⟨tg, it, [], 0⟩] scope pos) spos :: rest) Γ Φ :=
  ws_setLc i own _ fx.calm fx.nd (lc_any (Ψ := fun r Γ1 => WSs X rest (Γ1.set i (some r)) Φ) own u xs E F Pv hi hsz hg he hd3 hd hq) hN hyl hl hsw ok hs
end
theorem wi_rangeN (B : Blt X.mg) {Ψi : List PyData → Sl → Prop} (h : WE X a Γ fun r Γ1 => ∃ n : Nat, r = .da (.int (n : Int)) ∧ n ≤ 16777216 ∧ Ψi ((List.range n).map fun (i : Nat) => .int i) Γ1) (hg : Gl X "range" := by rfl) (hs : starEach [a] X.env = [(false, eval a X.env)] := by rfl) : WI X tg (.Call (.Name "range" p) [a] [] pos) Γ Ψi := fun I H σ F en R k => by
  refine ⟨_, pi_range1 hg B.range wpA_ok hs, wa_cons (Ψa := fun rs _ Γ1 => ∃ n : Nat, rs = [.da (.int (n : Int))] ∧ n ≤ 16777216 ∧ Ψi ((List.range n).map fun (i : Nat) => .int i) Γ1) (h.mono fun r Γ1 ⟨n, e, hn, q⟩ => wa_nil ⟨n, by rw [e], hn, q⟩) (by rw [hs]; rfl) I H σ F en _ ?_⟩
  rintro rs refs Γ1 I1 H1 vs F1 ⟨n, rfl, hn, q⟩ l1 l2 rk st1 en1
  obtain ⟨B', G, rfl, ol, en2⟩ := en1.popL l1
  obtain ⟨rfl, r⟩ := ownL_da (ds := [.int (n : Int)]) ol
  obtain ⟨v, rfl, hv⟩ := rpL1 r
  cases hv
  have e : rangeD 0 (n : Int).toNat = (List.range n).map fun (i : Nat) => PyData.int i := by
    unfold rangeD
    rw [Int.toNat_natCast]
    exact List.map_congr_left fun i _ => by rw [Int.zero_add]
  refine ⟨n, rfl, by omega, by omega, k _ Γ1 I1 H1 G _ q st1 en2 ?_⟩
  rw [← e]
  exact isit_range
theorem xe_cast {i j : Int} (h : XE X a Γ (.da (.int i)) Γ1) (e : i = j) : XE X a Γ (.da (.int j)) Γ1 := e ▸ h
theorem xe_tup3 {d1 d2 d3 : PyData} {x1} {Γ3 : Sl} (h1 : XE X a Γ (.da d1) Γ1) (h2 : XE X b Γ1 (.da d2) Γ2) (h3 : XE X c Γ2 (.da d3) Γ3) (hs : starEach [a, b, c] X.env = (false, eval a X.env) :: starEach [b, c] X.env := by rfl) (hs2 : starEach [b, c] X.env = (false, eval b X.env) :: starEach [c] X.env := by rfl) (hs3 : starEach [c] X.env = (false, eval c X.env) :: starEach [] X.env := by rfl) :
    XE X (.Tuple [a, b, c] x1 pos) Γ (.da (.tuple [d1, d2, d3])) Γ3 := fun _ hq => we_tup (wa_cons (h1 _ (wa_cons (h2 _ (wa_cons (h3 _ (wa_nil ⟨[d1, d2, d3], rfl, by show 3 ≤ sizeLine; decide, hq⟩)) hs3)) hs2)) hs)
theorem xe_tup4 {d1 d2 d3 d4 : PyData} {x1} {Γ3 Γ4 : Sl} (h1 : XE X a Γ (.da d1) Γ1) (h2 : XE X b Γ1 (.da d2) Γ2) (h3 : XE X c Γ2 (.da d3) Γ3) (h4 : XE X e Γ3 (.da d4) Γ4) (hs : starEach [a, b, c, e] X.env = (false, eval a X.env) :: starEach [b, c, e] X.env := by rfl) (hs2 : starEach [b, c, e] X.env = (false, eval b X.env) :: starEach [c, e] X.env := by rfl) (hs3 : starEach [c, e] X.env = (false, eval c X.env) :: starEach [e] X.env := by rfl) (hs4 : starEach [e] X.env = (false, eval e X.env) :: starEach [] X.env := by rfl) :
    XE X (.Tuple [a, b, c, e] x1 pos) Γ (.da (.tuple [d1, d2, d3, d4])) Γ4 := fun _ hq => we_tup (wa_cons (h1 _ (wa_cons (h2 _ (wa_cons (h3 _ (wa_cons (h4 _ (wa_nil ⟨[d1, d2, d3, d4], rfl, by show 4 ≤ sizeLine; decide, hq⟩)) hs4)) hs3)) hs2)) hs)
/-- a[b], the index drawn -/
theorem we_ix (h : WE X a Γ fun x Γ1 => ∃ dd ds, x = .da dd ∧ (dd = .list ds ∨ dd = .tuple ds) ∧ WE X b Γ1 fun y Γ2 => ∃ j d, y = .da (.int j) ∧ atI ds j = some d ∧ Ψ (.da d) Γ2) (hs : PlainIx b := by exact fun _ _ => rfl) : WE X (.Subscript a b pos) Γ Ψ := fun I H σ F en Q k =>
  ⟨_, pe_ix ix_seq wpE_ok wpE_ok hs, two_core (h.mono fun x Γ1 ⟨dd, ds, e, hd, h2⟩ => h2.mono fun y Γ2 ⟨j, d, e', hj, hq⟩ => ⟨.da d, by
    subst e e'
    exact Op2.pure fun I H v u h1 h2 s Q k => by
      cases h2
      rcases hd with rfl | rfl
      · cases h1 with
        | lst q r =>
          obtain ⟨w, hw, rw'⟩ := atI_rp r hj
          exact .inl ⟨_, _, j, w, rfl, rfl, s.seq q, hw, k _ rw'⟩
      · cases h1 with
        | tup q r =>
          obtain ⟨w, hw, rw'⟩ := atI_rp r hj
          exact .inr (.inl ⟨_, _, j, w, rfl, rfl, sqT_mono s q, hw, k _ rw'⟩), hq⟩) I H σ F en Q k⟩
/-- facts of the frame in a comprehension's block -/
theorem Fr.blk (fx : Fr X k) {s : Shared} {H : Hp} {C : Addr} {cl : List (Str × Addr)} {fp : List Addr} : Fr (Blk X scope s H C cl fp) k := ⟨fx.nd, fx.calm, PassesOwn.never, fx.room, fx.gd⟩
theorem Fr.u65 (fx : Fr X k) : X.A.units + 65 < cLine := by have := fx.room.un; omega
theorem Fr.u16 (fx : Fr X k) : X.A.units + 16 < cLine := by have := fx.room.un; omega
end
end TL
/-! TL23: dicts from numbers to typed values. -/
namespace TL
open PySem PySem.Spec PyProof.Rows L2
section
variable {X : Cx} {e a b o it tg : Expr} {es elts : List Expr} {ss rest : List Stmt} {Γ Γ' Γ1 Γ2 Γ3 : Sl} {Ψ : OD → Sl → Prop} {Φ : Out → Prop} {pos p apos cpos p2 tpos : Pos} {r x y z : OD} {nm n2 : Str} {d : PyData} {i kk k : Nat} {β : Type} {E : β → PyData} {m : List (Nat × β)} {c : Nat} {v : β}
theorem wt_pure {Φt : Bool → Sl → Prop} {j : Bool} (h : XT X a Γ j Γ1) (q : Φt j Γ1) : WT X a Γ Φt := h _ q
theorem xt_cast {j j' : Bool} (h : XT X a Γ j Γ1) (e : j = j') : XT X a Γ j' Γ1 := e ▸ h
theorem xe_castD {d d' : PyData} (h : XE X a Γ (.da d) Γ1) (e : d = d') : XE X a Γ (.da d') Γ1 := e ▸ h
/-- while over typed states -/
theorem ws_whileT {c : Expr} {body : List Stmt} {β : Type} (fx : Fr X k) (st : β → Sl) (Inv : β → Prop) (μ : β → Nat) (b0 : β) (h0 : Inv b0) (e0 : Γ = st b0)
    (turn : ∀ b, Inv b → WT X c (st b) fun k Γ3 => (k = true → WSs X body Γ3 (loopΦ (fun Γ4 => ∃ b', Inv b' ∧ μ b' < μ b ∧ Γ4 = st b') (thn2 X rest Φ))) ∧ (k = false → WSs X rest Γ3 Φ)) : WSs X (.While c body [] pos :: rest) Γ Φ := by
  subst e0
  intro I H σ F en D ek
  refine ⟨_, pss_cons (ps_while fx.own wpT_ok wpSs_ok) wpSs_ok, fun m σ' H' => ∃ b I2 F2, Inv b ∧ m = μ b ∧ Step I H F I2 H' F2 ∧ EnvF X.tc I2 H' σ' (st b) F2, ⟨_, b0, I, F, h0, rfl, .refl, en⟩, ?_⟩
  rintro m σ2 H2 ⟨b, I2, F2, hb, rfl, st2, en2⟩
  refine turn b hb I2 H2 σ2 F2 en2 _ fun kk Γ3 I3 H3 F3 h3 st3 en3 => ?_
  have st13 := st2.trans st3
  cases kk with
  | false => exact h3.2 rfl I3 H3 σ2 F3 en3 D (ek.step st13)
  | true =>
    refine ⟨fun σ' H' => ∃ b' I4 F4, Inv b' ∧ μ b' < μ b ∧ Step I H F I4 H' F4 ∧ EnvF X.tc I4 H' σ' (st b') F4, fun σ' H' ⟨b', I4, F4, j4, lt, st4, en4⟩ => ⟨_, lt, b', I4, F4, j4, rfl, st4, en4⟩, ?_⟩
    refine h3.1 rfl I3 H3 σ2 F3 en3 _ ⟨?_, ?_, ?_, ?_⟩
    · rintro Γ4 I4 H4 σ4 F4 ⟨b', h1, h2, rfl⟩ st4 en4
      exact ⟨b', I4, F4, h1, h2, st13.trans st4, en4⟩
    · exact fun a st en => ek.rt a (st13.trans st) en
    · exact fun a st en => a _ _ _ _ en D (ek.step (st13.trans st))
    · rintro Γ4 I4 H4 σ4 F4 ⟨b', h1, h2, rfl⟩ st4 en4
      exact ⟨b', I4, F4, h1, h2, st13.trans st4, en4⟩
end
end TL
/-! TL24: sorted lists of numbers, typed sorting, more rules by answers. -/
namespace TL
open PySem PySem.Spec PyProof.Rows L2
theorem sortD_map {α : Type} {E : α → PyData} {xs : List α} : sortD (xs.map E) = (xs.mergeSort fun a b => PySem.W.dataLe false id (E a) (E b)).map E := (List.map_mergeSort (f := E) (s := PySem.W.dataLe false id) fun _ _ _ _ => rfl).symm
section
variable {X : Cx} {e a b o it tg : Expr} {es elts : List Expr} {ss rest : List Stmt} {Γ Γ' Γ1 Γ2 Γ3 : Sl} {Ψ : OD → Sl → Prop} {Φ : Out → Prop} {pos p apos cpos p2 tpos : Pos} {r x y z : OD} {nm n2 : Str} {d : PyData} {i kk k : Nat} {β : Type} {E : β → PyData} {m : List (Nat × β)} {c : Nat} {v : β} {ks : List (Key × PyData)} {ds : List PyData}
/-- all([..]), any([..]) -/
theorem xe_allM {α : Type} (f : α → Bool) (xs : List α) (B : Blt X.mg) (hc : X.calm = true) (ha : XE X a Γ (.ll (xs.map fun x => .bool (f x))) Γ1) (hg : Gl X "all" := by rfl) (he : starEach [a] X.env = (false, eval a X.env) :: starEach [] X.env := by rfl) (hpl : (backTo pos (starEach [] X.env)).any (·.1) = false := by rfl) :
    XE X (.Call (.Name "all" p) [a] [] pos) Γ (.da (.bool (xs.all f))) Γ1 := by
  have e : (xs.map fun x => PyData.bool (f x)) = (xs.map f).map PyData.bool := by rw [List.map_map]; rfl
  rw [e] at ha
  have q := xe_all (p := p) (pos := pos) B hc (xe_frz ha) hg he hpl
  rw [List.all_map] at q
  exact q
theorem xe_anyM {α : Type} (f : α → Bool) (xs : List α) (B : Blt X.mg) (hc : X.calm = true) (ha : XE X a Γ (.ll (xs.map fun x => .bool (f x))) Γ1) (hg : Gl X "any" := by rfl) (he : starEach [a] X.env = (false, eval a X.env) :: starEach [] X.env := by rfl) (hpl : (backTo pos (starEach [] X.env)).any (·.1) = false := by rfl) :
    XE X (.Call (.Name "any" p) [a] [] pos) Γ (.da (.bool (xs.any f))) Γ1 := by
  have e : (xs.map fun x => PyData.bool (f x)) = (xs.map f).map PyData.bool := by rw [List.map_map]; rfl
  rw [e] at ha
  have q := xe_any (p := p) (pos := pos) B hc (xe_frz ha) hg he hpl
  rw [List.any_map] at q
  exact q
/-- i in xs of numbers -/
theorem plain_ints {xs : List Int} : PyData.plainAll (xs.map PyData.int) = true := plainAll_map fun x _ => rfl
end
end TL
/-! TL25: list(reversed(xs)). -/
namespace TL
open PySem PySem.Spec PyProof.Rows L2 PySem.Calls
end TL
/-! TL26: a comprehension whose test may answer either way. -/
namespace TL
open PySem PySem.Spec PyProof.Rows L2
end TL
/-! TL27: dicts whose keys are tuples: read, written, locked, walked. -/
namespace TL
open PySem PySem.Spec PyProof.Rows L2
abbrev NL := List (NestedKey × PyData)
structure KOk (k : NestedKey) : Prop where
  tup : ∃ l, k = .tup l
  d8 : k.depth ≤ 8
def KsOk (ks : NL) : Prop := ∀ q ∈ ks, KOk q.1
def dnD (ks : NL) : PyData := .dict (ks.map fun p => (p.1.data, p.2))
mutual
theorem nkd_inj : ∀ {a b : NestedKey}, a.data = b.data → a = b
  | .none, .none, _ => rfl
  | .num i, .num j, h => by
    unfold NestedKey.data at h
    injection h with h
    rw [h]
  | .text i, .text j, h => by
    unfold NestedKey.data at h
    injection h with h
    rw [h]
  | .tup l, .tup m, h => by
    unfold NestedKey.data at h
    injection h with h
    rw [nkds_inj h]
  | .none, .num _, h => by unfold NestedKey.data at h; cases h
  | .none, .text _, h => by unfold NestedKey.data at h; cases h
  | .none, .tup _, h => by unfold NestedKey.data at h; cases h
  | .num _, .none, h => by unfold NestedKey.data at h; cases h
  | .num _, .text _, h => by unfold NestedKey.data at h; cases h
  | .num _, .tup _, h => by unfold NestedKey.data at h; cases h
  | .text _, .none, h => by unfold NestedKey.data at h; cases h
  | .text _, .num _, h => by unfold NestedKey.data at h; cases h
  | .text _, .tup _, h => by unfold NestedKey.data at h; cases h
  | .tup _, .none, h => by unfold NestedKey.data at h; cases h
  | .tup _, .num _, h => by unfold NestedKey.data at h; cases h
  | .tup _, .text _, h => by unfold NestedKey.data at h; cases h
theorem nkds_inj : ∀ {a b : List NestedKey}, NestedKey.datas a = NestedKey.datas b → a = b
  | [], [], _ => rfl
  | x :: xs, y :: ys, h => by
    unfold NestedKey.datas at h
    injection h with h1 h2
    rw [nkd_inj h1, nkds_inj h2]
  | [], _ :: _, h => by unfold NestedKey.datas at h; cases h
  | _ :: _, [], h => by unfold NestedKey.datas at h; cases h
end
theorem nkd_tup {l : List NestedKey} : (NestedKey.tup l).data = .tuple (NestedKey.datas l) := by
  conv => lhs; unfold NestedKey.data
theorem KOk.simple {k : NestedKey} (h : KOk k) (j : Key) : k.data ≠ keyD j := by
  obtain ⟨l, rfl⟩ := h.tup
  rw [nkd_tup]
  cases j <;> simp [keyD]
theorem KOk.ref {T : TC} {I : Hp} {v : V} {k : NestedKey} (h : KOk k) (r : Rp T I v k.data) : ∃ a, v = .ref a := by
  obtain ⟨l, rfl⟩ := h.tup
  rw [nkd_tup] at r
  cases r with
  | tup _ _ => exact ⟨_, rfl⟩
/-! ### the cell -/
def NRd (T : TC) (H : Hp) (p : Addr) (kvs : NKV) : Prop := H p = some (DN T p kvs) ∨ (∃ ob, H p = some (.frz ob (DN T p kvs))) ∨ (kvs = [] ∧ ∃ ob, H p = some (.frz ob (.dK [])))
structure NAt (T : TC) (I H : Hp) (p : Addr) (kvs : NKV) (ks : NL) : Prop where
  at_ : NRd T H p kvs
  keys : kvs.map Prod.fst = ks.map Prod.fst
  krp : RpL T I (kvs.map fun p => V.ref p.2.1) (ks.map fun q => q.1.data)
  vrp : RpL T I (kvs.map fun p => p.2.2) (ks.map Prod.snd)
theorem DmAt.nat {T : TC} {I H : Hp} {p : Addr} {kvs : NKV} {ks : NL} (d : DmAt T I H p kvs ks) : NAt T I H p kvs ks := ⟨.inl d.at_, d.keys, d.krp, d.vrp⟩
theorem NAt.len {T : TC} {I H : Hp} {p : Addr} {kvs : NKV} {ks : NL} (d : NAt T I H p kvs ks) : kvs.length = ks.length := by
  have := congrArg List.length d.keys
  rwa [List.length_map, List.length_map] at this
section
variable {X : Cx} {pins : List (Addr × Obj)} {σ : L2.St} {I H : Hp} {s : Shared} {p : Addr} {kvs : NKV} {ks : NL}
theorem dn_ok (J : Inv X pins σ H s) (d : NRd X.tc H p kvs) : DnOk X.tc p kvs s.heap := by
  rcases d with h | ⟨ob, h⟩ | ⟨rfl, ob, h⟩
  · exact (J.hok p _ h).1
  · exact (J.hok p _ h).2.1
  · obtain ⟨hg, z, hd, vs, kv, o', es, ep, ho, hx, hdt, r⟩ := J.hok p _ h
    have hv : vs = [] := by
      have l2 : ([] : List (Key × V)).length = vs.length := Paired.length kv
      exact List.eq_nil_of_length_eq_zero l2.symm
    subst hv
    have l1 := r.2.1.length
    exact ⟨z, hd, [], .nil, o', es, ep, ho, hx, hdt, List.eq_nil_of_length_eq_zero l1, List.nodup_nil⟩
theorem dn_heap (J : Inv X pins σ H s) (d : NAt X.tc I H p kvs ks) (sub : Same I H) (h8 : KsOk ks) :
    kvs.length ≤ sizeLine ∧ (p == sysModules) = false ∧ ∃ xs, Paired NPair kvs xs ∧ s.heap.DictOfH (nestedKind X.prog X.w) p xs := by
  obtain ⟨z, hd, xs, r, o, es, ep, g1, g2, g3, g4, g5⟩ := dn_ok J d.at_
  refine ⟨z, hd, xs, r, o, es, ep, g1, g2, g3, g4, fun x hx => ?_, g5⟩
  obtain ⟨j, hj⟩ := List.mem_iff_getElem?.mp hx
  have hlen : kvs.length = xs.length := Paired.length r
  obtain ⟨hjl, _⟩ := List.getElem?_eq_some_iff.mp hj
  have hk : kvs[j]? = some (kvs[j]'(by omega)) := List.getElem?_eq_getElem (by omega)
  obtain ⟨y, hy, np⟩ := LiI.paired_get r hk
  rw [hj] at hy
  cases hy
  have e1 : (kvs.map Prod.fst)[j]? = some (kvs[j]'(by omega)).1 := by rw [List.getElem?_map, hk]; rfl
  rw [d.keys, List.getElem?_map] at e1
  obtain ⟨q, hq, hq1⟩ := Option.map_eq_some_iff.mp e1
  obtain ⟨v, hv, rv⟩ := d.krp.get (i := j) (d := q.1.data) (by rw [List.getElem?_map, hq]; rfl)
  rw [List.getElem?_map, hk] at hv
  cases hv
  refine ⟨?_, ?_⟩
  · rw [← np.1, ← hq1, ← np.2.1]
    exact nested_is J q.1 (rv.mono sub) rfl
  · rw [← np.1, ← hq1]
    exact (h8 q (List.mem_of_getElem? hq)).d8
end
/-! ### views -/
inductive VN : OD → NL → Prop
  | dm {ks : NL} : VN (.dm ks) ks
  | pin {v : V} {ks : NL} : VN (.pin v (.dm ks)) ks
  | da {ks : NL} : VN (.da (dnD ks)) ks
section
variable {T : TC} {I H : Hp} {v : V} {x : OD} {B : List Addr} {ks : NL} {k : NestedKey}
theorem rp_dnD (hk : KsOk ks) (h : Rp T I v (dnD ks)) : ∃ p kvs, v = .ref p ∧ NRd T I p kvs ∧ (∀ H, Same I H → NAt T I H p kvs ks) := by
  unfold dnD at h
  cases h with
  | @dk a ob kvs _ h k r =>
    have hn : ks = [] := by
      cases ks with
      | nil => rfl
      | cons q ks =>
        cases kvs with
        | nil => simp at k
        | cons p kvs =>
          simp only [List.map_cons, List.cons.injEq] at k
          exact absurd k.1 ((hk q List.mem_cons_self).simple p.1)
    subst hn
    have hv : kvs = [] := by
      have := congrArg List.length k
      simpa using this.symm
    subst hv
    exact ⟨a, [], rfl, .inr (.inr ⟨rfl, ob, h⟩), fun H s => ⟨.inr (.inr ⟨rfl, ob, s _ _ h⟩), rfl, .nil, .nil⟩⟩
  | tn _ _ _ q =>
    cases ks with
    | nil => cases q
    | cons p r =>
      have q' : NestedKey.data p.1 = PyData.list [] := congrArg Prod.fst (List.cons.inj q).1
      cases hp : p.1 <;> rw [hp] at q' <;> simp [NestedKey.data] at q'
  | @dn a ob kvs _ h k r s n =>
    refine ⟨a, kvs, rfl, .inr (.inl ⟨ob, h⟩), fun H sub => ⟨.inr (.inl ⟨ob, sub _ _ h⟩), ?_, ?_, ?_⟩⟩
    · refine map_inj (f := NestedKey.data) (fun _ _ => nkd_inj) ?_
      rw [List.map_map, List.map_map]
      rw [List.map_map] at k
      exact k.symm
    · rw [List.map_map] at r
      exact r
    · rw [List.map_map] at s
      exact s
theorem VN.rd (h : VN x ks) (hk : KsOk ks) (o : Own T I H v x B) (s : Same I H) : ∃ p kvs, v = .ref p ∧ NAt T I H p kvs ks := by
  cases h with
  | dm => cases o with
    | dm h1 h2 h3 h4 h5 => exact ⟨_, _, rfl, .inl h1, h3, h4, h5⟩
  | pin => cases o with
    | pin o => cases o with
      | dm h1 h2 h3 h4 h5 => exact ⟨_, _, rfl, .inl h1, h3, h4, h5⟩
  | da => cases o with
    | da o =>
      obtain ⟨p, kvs, e, _, q⟩ := rp_dnD hk o
      exact ⟨p, kvs, e, q H s⟩
theorem at_some {kvs : NKV} {xs : List (NestedKey × Addr × Value)} (r : Paired NPair kvs xs) (d : False ∨ (kvs.map Prod.fst = ks.map Prod.fst ∧ RpL T I (kvs.map fun p => p.2.2) (ks.map Prod.snd))) : (atKey xs k).isSome = (kget ks k).isSome := by
  have q : kvs.map Prod.fst = ks.map Prod.fst ∧ RpL T I (kvs.map fun p => p.2.2) (ks.map Prod.snd) := d.elim False.elim id
  obtain ⟨w1, w2⟩ := dm_get (k := k) r q.1 q.2
  cases e : kget ks k with
  | none => rw [w2 e]; rfl
  | some d =>
    obtain ⟨_, _, e2, _⟩ := w1 d e
    rw [e2]
    rfl
end
/-! ### reading -/
def rNIn (T : TC) (neg : Bool) : R2 := fun y x H Q => ∃ I p kvs ks k, x = .ref p ∧ Same I H ∧ NAt T I H p kvs ks ∧ KsOk ks ∧ Rp T I y (NestedKey.data k) ∧ KOk k ∧ Q (.bl (neg != (kget ks k).isSome)) H
section
variable {X : Cx} {e a b c o it tg i : Expr} {es elts : List Expr} {ss rest : List Stmt} {Γ Γ' Γ1 Γ2 Γ3 : Sl} {Ψ : OD → Sl → Prop} {Φ : Out → Prop} {pos p apos cpos p2 tpos : Pos} {r x y z : OD} {nm n2 : Str} {ds es' : List PyData} {d d' g : PyData} {kk : Nat} {ks : NL} {mk : NL → OD} {k : NestedKey}
theorem op_nin (hu : X.A.units + 16 < cLine) : OpR X (compareOp .In) (rNIn X.tc false) := by
  rintro pins s σ H y x iv u Q I ry rx ⟨I0, p, kvs, ks, k, rfl, sub, at_, ko, hk, kk, q⟩
  obtain ⟨a, rfl⟩ := kk.ref hk
  cases rx
  cases ry
  obtain ⟨z, hd', xs, rp, dd⟩ := dn_heap I at_ sub ko
  have e := at_some (k := k) rp (.inr ⟨at_.keys, at_.vrp⟩)
  exact wpAny_in_heap (knd := nestedKind X.prog X.w) (show X.A.units + 1 + 8 < cLine by omega) ⟨nested_is I k (hk.mono sub) rfl, kk.d8⟩ hd' dd ⟨.bl (kget ks k).isSome, H, I.tok _, by rw [e]; rfl, by simpa using q⟩
theorem rd_nin {T : TC} {neg : Bool} (hv : VN x ks) (ko : KsOk ks) (kk : KOk k) : Rd2 T (fun v u => rNIn T neg u v) x k.data (.bool (neg != (kget ks k).isSome)) := fun I H v u B o h s Q kq => by
  obtain ⟨p, kvs, rfl, at_⟩ := hv.rd ko o s
  exact ⟨I, p, kvs, ks, k, rfl, s, at_, ko, h, kk, kq _ (.bl _)⟩
/-- k in d, k not in d, d in the i-th slot -/
theorem xt_ninS (j : Nat) (hu : X.A.units + 16 < cLine) (ko : KsOk ks) (kk : KOk k) (hb : XE X b Γ (.da k.data) Γ1) (hx : Γ1[j]? = some (some x) := by rfl) (hv : VN x ks := by first | exact .dm | exact .pin | exact .da) (hm : behindInMarks .In (.Name nm p) = false := by rfl)
    (hN : X.N[j]? = some nm := by rfl) (hvs : Vis X.env.scope nm := by first | exact Or.inl rfl | exact Or.inr (Or.inl rfl) | exact Or.inr (Or.inr rfl)) (h1 : (nm == ("__debug__" : Str)) = false := by decide) (h2 : (nm == ("__classdict__" : Str)) = false := by decide) :
    XT X (.Compare b [.In] [.Name nm p] pos) Γ (kget ks k).isSome Γ1 := fun Ψ hq I H σ F en Q kq => ⟨_, pt_cmpR (op_nin hu) wpE_ok (pe_var hN hvs h1 h2) hm, core_VS (f := rNIn X.tc false) hb hx (rd_nin hv ko kk) en _ fun w I' H' F' hw st en' => by
      cases hw
      exact ⟨_, rfl, kq _ Γ1 I' H' F' (by simpa using hq) st en'⟩⟩
end
end TL
/-! TL28: dicts whose keys are tuples: stored into, displayed, locked, walked. -/
namespace TL
open PySem PySem.Spec PyProof.Rows L2
def nput (kvs : NKV) (k : NestedKey) (a : Addr) (v : V) : NKV := if (kvs.any fun q => decide (q.1 = k)) = true then kvs.map (fun q => if q.1 = k then (q.1, q.2.1, v) else q) else kvs ++ [(k, a, v)]
theorem nput_any {kvs : NKV} {ks : NL} {k : NestedKey} (h : kvs.map Prod.fst = ks.map Prod.fst) : (kvs.any fun q => decide (q.1 = k)) = (ks.any fun q => decide (q.1 = k)) := by
  have e1 : (kvs.any fun q => decide (q.1 = k)) = ((kvs.map Prod.fst).any fun q => decide (q = k)) := by rw [List.any_map]; rfl
  have e2 : (ks.any fun q => decide (q.1 = k)) = ((ks.map Prod.fst).any fun q => decide (q = k)) := by rw [List.any_map]; rfl
  rw [e1, e2, h]
theorem nput_len {kvs : NKV} {k : NestedKey} {a : Addr} {v : V} : (nput kvs k a v).length ≤ kvs.length + 1 := by
  unfold nput
  split <;> simp
theorem nput_rp {T : TC} {I : Hp} {k : NestedKey} {a : Addr} {v : V} {d : PyData} : ∀ {kvs : NKV} {ks : NL}, kvs.map Prod.fst = ks.map Prod.fst → RpL T I (kvs.map fun p => V.ref p.2.1) (ks.map fun q => q.1.data) → RpL T I (kvs.map fun p => p.2.2) (ks.map Prod.snd) → Rp T I (.ref a) k.data → Rp T I v d →
    (nput kvs k a v).map Prod.fst = (kput ks k d).map Prod.fst ∧ RpL T I ((nput kvs k a v).map fun p => V.ref p.2.1) ((kput ks k d).map fun q => q.1.data) ∧ RpL T I ((nput kvs k a v).map fun p => p.2.2) ((kput ks k d).map Prod.snd) := by
  intro kvs ks h r1 r2 hk hv
  have ha := nput_any (k := k) h
  unfold nput kput
  rw [ha]
  split
  · rename_i hh
    clear ha hh
    induction kvs generalizing ks with
    | nil =>
      cases ks with
      | nil => exact ⟨rfl, .nil, .nil⟩
      | cons q ks => simp at h
    | cons p kvs ih =>
      cases ks with
      | nil => simp at h
      | cons q ks =>
        rw [List.map_cons, List.map_cons, List.cons.injEq] at h
        rw [List.map_cons, List.map_cons] at r1 r2
        cases r1 with
        | cons g1 r1 =>
          cases r2 with
          | cons g2 r2 =>
            obtain ⟨i1, i2, i3⟩ := ih h.2 r1 r2
            simp only [List.map_cons]
            by_cases hp : p.1 = k
            · have hq : q.1 = k := h.1.symm.trans hp
              rw [if_pos hp, if_pos hq, i1]
              exact ⟨by rw [h.1], .cons g1 i2, .cons hv i3⟩
            · have hq : ¬ q.1 = k := fun e => hp (h.1.trans e)
              rw [if_neg hp, if_neg hq, i1]
              exact ⟨by rw [h.1], .cons g1 i2, .cons g2 i3⟩
  · simp only [List.map_append, List.map_cons, List.map_nil]
    rw [h]
    exact ⟨rfl, RpL.append r1 (.cons hk .nil), RpL.append r2 (.cons hv .nil)⟩
theorem nput_pair {k : NestedKey} {a : Addr} {v : V} {u : Value} (rv : RelV v u) {kvs : NKV} {xs : List (NestedKey × Addr × Value)} (r : Paired NPair kvs xs) : Paired NPair (nput kvs k a v) (storedH xs k a u) := by
  have e : (kvs.any fun q => decide (q.1 = k)) = (atKey xs k).isSome := by
    induction r with
    | nil => rfl
    | @cons p q l m h t ih =>
      rw [List.any_cons, ih]
      have : atKey (q :: m) k = if q.1 = k then some q.2 else atKey m k := by
        unfold atKey
        rw [List.find?_cons]
        by_cases hk : q.1 = k <;> simp [hk]
      rw [this, h.1]
      by_cases hk : q.1 = k <;> simp [hk]
  unfold nput storedH
  rw [e]
  split
  · clear e
    rename_i hh
    clear hh
    induction r with
    | nil => exact .nil
    | @cons p q l m h t ih =>
      rw [List.map_cons, List.map_cons]
      refine .cons ?_ ih
      unfold putAt
      by_cases hk : p.1 = k
      · rw [if_pos hk, if_pos (h.1.symm.trans hk)]
        exact ⟨h.1, h.2.1, rv⟩
      · rw [if_neg hk, if_neg fun z => hk (h.1.trans z)]
        exact h
  · clear e
    rename_i hh
    clear hh
    induction r with
    | nil => exact .cons ⟨rfl, rfl, rv⟩ .nil
    | cons h _ ih => exact .cons h ih
def rNPut (T : TC) : TSet := fun o i v H Q => ∃ I p kvs ks k a, o = .ref p ∧ i = .ref a ∧ Same I H ∧ DmAt T I H p kvs ks ∧ KsOk ks ∧ Rp T I i (NestedKey.data k) ∧ KOk k ∧ kvs.length < sizeLine ∧ Q (upd H p (DN T p (nput kvs k a v)))
section
variable {X : Cx} {e a b c o it tg i : Expr} {es elts : List Expr} {ss rest : List Stmt} {Γ Γ' Γ1 Γ2 Γ3 : Sl} {Ψ : OD → Sl → Prop} {Φ : Out → Prop} {pos p apos cpos p2 tpos : Pos} {r x y z : OD} {nm n2 : Str} {ds es' : List PyData} {d d' g : PyData} {kk : Nat} {ks : NL} {mk : NL → OD} {k : NestedKey}
theorem dn_new {T : TC} {q : Addr} {kvs : NKV} {xs : List (NestedKey × Addr × Value)} {h' : Heap} (hz : kvs.length ≤ sizeLine) (hd : (q == sysModules) = false) (r : Paired NPair kvs xs) (dd : h'.DictOfH (nestedKind T.P T.w) q xs) : DnOk T q kvs h' := by
  obtain ⟨o, es, ep, f1, f2, f3, f4, _, f6⟩ := dd
  exact ⟨hz, hd, xs, r, o, es, ep, f1, f2, f3, f4, f6⟩
theorem dn_at {T : TC} {q : Addr} {kvs : NKV} {h' : Heap} (d : DnOk T q kvs h') : ∃ o, h'.get? q = some o := by
  obtain ⟨_, _, _, _, o, _, _, h, _⟩ := d
  exact ⟨o, h⟩
theorem set_n (hu : X.A.units + 16 < cLine) : PSet X (rNPut X.tc) := by
  rintro pins s σ H o i v ov iv u Q I ro ri rv ⟨I0, p, kvs, ks, k, a, rfl, rfl, sub, at_, ko, hk, kk, hz, q⟩
  cases ro
  cases ri
  obtain ⟨z, hd, xs, rp, dd⟩ := dn_heap I at_.nat sub ko
  have hl : kvs.length = xs.length := Paired.length rp
  refine wpAny_setItem_heap (knd := nestedKind X.prog X.w) (hsz := by omega) (show X.A.units + 1 + 8 < cLine by omega) ⟨nested_is I k (hk.mono sub) rfl, kk.d8⟩ dd fun h' dd' hs => ?_
  have new : DnOk X.tc p (nput kvs k a v) h' := dn_new (T := X.tc) (Nat.le_trans nput_len hz) hd (nput_pair rv rp) dd'
  exact ⟨_, d_write (t' := s.toks + (nestedKind X.prog X.w).draws k) I (by rw [at_.at_]; exact True.intro) hs (dn_at new) (ob := DN X.tc p (nput kvs k a v)) ⟨new, dn_at new, fun h1 h2 q e => dn_stay q e⟩, q⟩
/-- d[k] = e -/
theorem ws_nput (j : Nat) (hu : X.A.units + 16 < cLine) (h : WE X e Γ fun r Γ1 => ∃ d k x ks mk, r = .da d ∧ Γ1[j]? = some (some x) ∧ VDM x ks mk ∧ KsOk ks ∧ KOk k ∧ ks.length < sizeLine ∧ XE X b Γ1 (.da (NestedKey.data k)) Γ1 ∧ WSs X rest (Γ1.set j (some (mk (kput ks k d)))) Φ)
    (hN : X.N[j]? = some nm := by rfl) (hvs : Vis X.env.scope nm := by first | exact Or.inl rfl | exact Or.inr (Or.inl rfl) | exact Or.inr (Or.inr rfl)) (h1 : (nm == ("__debug__" : Str)) = false := by decide) (h2 : (nm == ("__classdict__" : Str)) = false := by decide)
    (hs : swapsWithSole [.Subscript (.Name nm p) b pos] e apos.line X.env = pure false := by rfl) (hw : swappedStores [.Subscript (.Name nm p) b pos] e X.env = pure none := by rfl)
    (h5 : (assignEach [.Subscript (.Name nm p) b pos] X.env).map (·.2) = [assign (.Subscript (.Name nm p) b pos) X.env] := by rfl)
    (ha : ∀ v, assign (.Subscript (.Name nm p) b pos) X.env v = (do
      let ov ← holding [v] (eval (.Name nm p) X.env)
      let iv ← holding [v, ov] (eval b X.env)
      standAt pos
      holding [v, ov, iv] (setItem ov iv v)
      release [v, ov, iv] []) := by intro _; rfl) : WSs X (.Assign [.Subscript (.Name nm p) b pos] e apos :: rest) Γ Φ := fun I H σ F en D ek => by
  refine ⟨_, pss_cons (ps_asg wpE_ok (pg_sub (pe_var hN hvs h1 h2) wpE_ok (set_n hu) ha) hs hw h5) wpSs_ok, h I H σ F en _ ?_⟩
  rintro r Γ1 I1 H1 v F1 ⟨d, k, x, ks, mk, rfl, hx, hv, ko, kk, hz, hb, hq⟩ st1 en1
  obtain ⟨B, G, rfl, oo, en2, up⟩ := en1.pop
  cases oo with
  | da hd =>
    obtain ⟨q, kvs, e1, _, _⟩ := en2.dm hx hv
    refine ⟨_, e1, hb (fun r Γ' => r = .da k.data ∧ Γ' = Γ1) ⟨rfl, rfl⟩ I1 H1 σ G en2 _ ?_⟩
    rintro _ _ I2 H2 u F2 ⟨rfl, rfl⟩ st2 en3
    obtain ⟨B2, G2, rfl, oo2, en4, _⟩ := en3.pop
    cases oo2 with
    | da hh =>
      obtain ⟨q', kvs', e1', h3, h6⟩ := en4.dm hx hv
      rw [e1] at e1'
      cases e1'
      obtain ⟨a', rfl⟩ := kk.ref hh
      obtain ⟨g1, g2, g3⟩ := nput_rp (k := k) (a := a') h3.keys h3.krp h3.vrp hh (hd.mono st2.inc)
      obtain ⟨F5, en5, st5⟩ := h6 _ _ g1 g2 g3
      exact ⟨I2, q, kvs', ks, k, a', rfl, rfl, en4.sub, h3, ko, hh, kk, by rw [h3.nat.len]; exact hz, hq I2 _ σ F5 en5 D (ek.step ((st1.trans st2).trans st5))⟩
/-! ### truth -/
end
end TL
/-! TL29: dicts whose keys are tuples: locked, walked. -/
namespace TL
open PySem PySem.Spec PyProof.Rows L2
/-! ### locked -/
/-! ### walks -/
end TL
/-! TL30: instances of the text's own classes: attributes read and stored, methods called, instances made. -/
namespace TL
open PySem PySem.Spec PyProof.Rows L2
inductive VOB : OD → Addr → List (Str × OD) → (List (Str × OD) → OD) → Prop
  | ob {C : Addr} {fs : List (Str × OD)} : VOB (.ob C fs) C fs (.ob C)
  | pin {v : V} {C : Addr} {fs : List (Str × OD)} : VOB (.pin v (.ob C fs)) C fs fun fs => .pin v (.ob C fs)
section
variable {T : TC} {I H : Hp} {v : V} {x : OD} {B F : List Addr} {C : Addr} {fs : List (Str × OD)} {mk : List (Str × OD) → OD} {f : Str}
theorem VOB.own (h : VOB x C fs mk) (o : Own T I H v x B) : ∃ p dx fv F, v = .ref p ∧ B = p :: F ∧ H p = some (.ins C dx fv) ∧ I p = none ∧ fv.map Prod.fst = fs.map Prod.fst ∧ OwnL T I H (fv.map Prod.snd) (fs.map Prod.snd) F ∧
    ∀ (I' H' : Hp) (fv' : List (Str × V)) (fs' : List (Str × OD)) (F' : List Addr), H' p = some (.ins C dx fv') → I' p = none → fv'.map Prod.fst = fs'.map Prod.fst → OwnL T I' H' (fv'.map Prod.snd) (fs'.map Prod.snd) F' → Own T I' H' v (mk fs') (p :: F') := by
  cases h with
  | ob => cases o with
    | ob h1 h2 h3 h4 => exact ⟨_, _, _, _, rfl, rfl, h1, h2, h3, h4, fun I' H' fv' fs' F' a b c d => .ob a b c d⟩
  | pin => cases o with
    | pin o => cases o with
      | ob h1 h2 h3 h4 => exact ⟨_, _, _, _, rfl, rfl, h1, h2, h3, h4, fun I' H' fv' fs' F' a b c d => .pin (.ob a b c d)⟩
end
/-! ### methods -/
end TL
/-! TL31: isinstance, constants of the module, list.insert, list.pop(i), own things within own lists. -/
namespace TL
open PySem PySem.Spec PyProof.Rows L2
/-! ### isinstance -/
def tyD : PyData → String
  | .none => "NoneType"
  | .bool _ => "bool"
  | .int _ => "int"
  | .str _ => "str"
  | .list _ => "list"
  | .tuple _ => "tuple"
  | .dict _ => "dict"
def noDict : PyData → Bool
  | .dict _ => false
  | _ => true
theorem tyx_of {T : TC} {I H : Hp} {v : V} {d : PyData} (h : Rp T I v d) (hd : noDict d = true) (s : Same I H) : TyX T.K H v (.type (tyD d)) := by
  cases h with
  | non => exact .base .non
  | bl b => exact .base (.bl b)
  | int i => exact .base (.int i)
  | str x => exact .base (.str x)
  | lst q _ =>
    rcases q with (q | ⟨o, q⟩) | ⟨o, its, n, q, c, _⟩
    · exact .base (.lst (s _ _ q))
    · exact .base (.frz (s _ _ q))
    · exact .kList q c
  | tup q _ =>
    rcases q with (q | ⟨o, q⟩) | ⟨o, its, n, q, c, _⟩
    · exact .base (.tup (s _ _ q))
    · exact .fTuple (s _ _ q)
    · exact .kTuple q c
  | dk _ _ _ => cases hd
  | dn _ _ _ _ _ => cases hd
  | tn _ _ _ _ => cases hd
/-- is a value of type t one of type c -/
def isT (t c : String) : Bool := t == c || (t == "bool" && c == "int")
theorem kit_isT {K : PySem.W.Frag} {t c : String} (ht : t ∈ ["NoneType", "bool", "int", "str", "list", "tuple"]) (hc : c ∈ ["int", "bool", "str", "tuple"]) : PySem.W.kitOne K (.type t) (.type c) = some (isT t c) := by
  simp only [List.mem_cons, List.not_mem_nil, or_false] at ht hc
  rcases ht with rfl | rfl | rfl | rfl | rfl | rfl <;> rcases hc with rfl | rfl | rfl | rfl <;> rfl
section
variable {X : Cx} {e a b c o : Expr} {es : List Expr} {rest : List Stmt} {Γ Γ' Γ1 Γ2 : Sl} {Ψ : OD → Sl → Prop} {Φ : Out → Prop} {pos p apos cpos p2 : Pos} {r x y z : OD} {nm n2 f m : Str} {d : PyData} {ds : List PyData} {mk : List PyData → OD}
theorem tyD_mem (hd : noDict d = true) : tyD d ∈ ["NoneType", "bool", "int", "str", "list", "tuple"] := by
  cases d with
  | dict _ => cases hd
  | _ => simp [tyD]
theorem xe_isi {Ty : String} (B : Blt X.mg) (hT : X.mg n2 = none) (hv : bootBuiltins n2 = some (.type Ty)) (hc : Ty ∈ ["int", "bool", "str", "tuple"]) (ha : XE X a Γ (.da d) Γ1) (hd : noDict d = true := by rfl) (hg : Gl X "isinstance" := by rfl) (hg2 : Gl X n2 := by rfl)
    (hn : n2 ≠ "__name__" := by decide) (hdb : (n2 == ("__debug__" : Str)) = false := by decide)
    (he : starEach [a, .Name n2 p2] X.env = (false, eval a X.env) :: starEach [.Name n2 p2] X.env := by rfl) (he2 : starEach [.Name n2 p2] X.env = (false, eval (.Name n2 p2) X.env) :: starEach [] X.env := by rfl) (hpl : (backTo pos (starEach [.Name n2 p2] X.env)).any (·.1) = false := by rfl) :
    XE X (.Call (.Name "isinstance" p) [a, .Name n2 p2] [] pos) Γ (.da (.bool (isT (tyD d) Ty))) Γ1 := fun Ψ hq I H σ F en Q k => by
  refine ⟨_, pe_callB call_isi hg B.isinstance (by decide +kernel) (pa_cons wpE_ok (pa_cons (pe_bltn (v := .ty Ty) hg2 hT hv rfl hn hdb) pa_nil he2) he) (by decide) (by decide) he hpl, ha (fun r Γ' => r = .da d ∧ Γ' = Γ1) ⟨rfl, rfl⟩ I H σ F en _ ?_⟩
  rintro _ _ I1 H1 v F1 ⟨rfl, rfl⟩ st1 en1
  obtain ⟨B', G, rfl, oo, en2, _⟩ := en1.pop
  cases oo with
  | da hh => exact ⟨v, .ty Ty, .type (tyD d), .type Ty, isT (tyD d) Ty, rfl, .ty Ty, tyx_of hh hd en2.sub, kit_isT (tyD_mem hd) hc, k _ _ I1 H1 _ _ hq st1 (en2.da (.bl _))⟩
theorem xe_isInt (B : Blt X.mg) (ha : XE X a Γ (.da d) Γ1) (hd : noDict d = true := by rfl) (hg : Gl X "isinstance" := by rfl) (hg2 : Gl X "int" := by rfl)
    (he : starEach [a, .Name "int" p2] X.env = (false, eval a X.env) :: starEach [.Name "int" p2] X.env := by rfl) (he2 : starEach [.Name "int" p2] X.env = (false, eval (.Name "int" p2) X.env) :: starEach [] X.env := by rfl) (hpl : (backTo pos (starEach [.Name "int" p2] X.env)).any (·.1) = false := by rfl) :
    XE X (.Call (.Name "isinstance" p) [a, .Name "int" p2] [] pos) Γ (.da (.bool (isT (tyD d) "int"))) Γ1 := xe_isi B B.int (by decide +kernel) (by decide) ha hd hg hg2 (by decide) (by decide) he he2 hpl
theorem xe_isBool (B : Blt X.mg) (ha : XE X a Γ (.da d) Γ1) (hd : noDict d = true := by rfl) (hg : Gl X "isinstance" := by rfl) (hg2 : Gl X "bool" := by rfl)
    (he : starEach [a, .Name "bool" p2] X.env = (false, eval a X.env) :: starEach [.Name "bool" p2] X.env := by rfl) (he2 : starEach [.Name "bool" p2] X.env = (false, eval (.Name "bool" p2) X.env) :: starEach [] X.env := by rfl) (hpl : (backTo pos (starEach [.Name "bool" p2] X.env)).any (·.1) = false := by rfl) :
    XE X (.Call (.Name "isinstance" p) [a, .Name "bool" p2] [] pos) Γ (.da (.bool (isT (tyD d) "bool"))) Γ1 := xe_isi B B.bool (by decide +kernel) (by decide) ha hd hg hg2 (by decide) (by decide) he he2 hpl
theorem xe_isStr (B : Blt X.mg) (ha : XE X a Γ (.da d) Γ1) (hd : noDict d = true := by rfl) (hg : Gl X "isinstance" := by rfl) (hg2 : Gl X "str" := by rfl)
    (he : starEach [a, .Name "str" p2] X.env = (false, eval a X.env) :: starEach [.Name "str" p2] X.env := by rfl) (he2 : starEach [.Name "str" p2] X.env = (false, eval (.Name "str" p2) X.env) :: starEach [] X.env := by rfl) (hpl : (backTo pos (starEach [.Name "str" p2] X.env)).any (·.1) = false := by rfl) :
    XE X (.Call (.Name "isinstance" p) [a, .Name "str" p2] [] pos) Γ (.da (.bool (isT (tyD d) "str"))) Γ1 := xe_isi B B.str (by decide +kernel) (by decide) ha hd hg hg2 (by decide) (by decide) he he2 hpl
theorem xe_isTup (B : Blt X.mg) (ha : XE X a Γ (.da d) Γ1) (hd : noDict d = true := by rfl) (hg : Gl X "isinstance" := by rfl) (hg2 : Gl X "tuple" := by rfl)
    (he : starEach [a, .Name "tuple" p2] X.env = (false, eval a X.env) :: starEach [.Name "tuple" p2] X.env := by rfl) (he2 : starEach [.Name "tuple" p2] X.env = (false, eval (.Name "tuple" p2) X.env) :: starEach [] X.env := by rfl) (hpl : (backTo pos (starEach [.Name "tuple" p2] X.env)).any (·.1) = false := by rfl) :
    XE X (.Call (.Name "isinstance" p) [a, .Name "tuple" p2] [] pos) Γ (.da (.bool (isT (tyD d) "tuple"))) Γ1 := xe_isi B B.tuple (by decide +kernel) (by decide) ha hd hg hg2 (by decide) (by decide) he he2 hpl
/-! ### a number of the module -/
theorem xe_globI {i : Int} (hm : ∃ t, X.mg nm = some (.int i t)) (hg : Gl X nm := by rfl) (hdb : (nm == ("__debug__" : Str)) = false := by decide) : XE X (.Name nm p) Γ (.da (.int i)) Γ := fun Ψ hq => by
  obtain ⟨t, hm⟩ := hm
  exact we_const (fun _ => .int i) (pe_glob (v := .int i) hg hm ⟨t, rfl⟩ hdb) hq
/-! ### list.insert, list.pop(i) -/
theorem RpL.eraseAt {T : TC} {I : Hp} : ∀ {vs : List V} {ds : List PyData} (_ : RpL T I vs ds) (n : Nat), RpL T I (vs.eraseIdx n) (ds.eraseIdx n)
  | _, _, .nil, _ => .nil
  | _, _, .cons _ r, 0 => r
  | _, _, .cons h r, n + 1 => .cons h (RpL.eraseAt r n)
end
/-! ### own things within an own list -/
section
variable {T : TC} {I H : Hp}
theorem ownL_at : ∀ {vs : List V} {xs : List OD} {F : List Addr} {j : Nat} {x : OD}, OwnL T I H vs xs F → xs[j]? = some x → ∃ v B G, vs[j]? = some v ∧ Own T I H v x B ∧ F.Perm (B ++ G) ∧ (∀ b ∈ G, (∃ o, H b = some o) ∧ I b = none) ∧
    ∀ {I' H' : Hp} {x' : OD} {B' : List Addr}, Same I I' → (∀ b ∈ G, H' b = H b ∧ I' b = none) → Own T I' H' v x' B' → ∃ F', OwnL T I' H' vs (xs.set j x') F' ∧ F'.Perm (B' ++ G)
  | _, _, _, j, x, .nil, e => by simp at e
  | _, _, _, 0, x, .cons (F := F) (G := G) o r, e => by
    simp at e
    subst e
    exact ⟨_, F, G, rfl, o, List.Perm.refl _, r.cells, fun s k o' => ⟨_, .cons o' (r.frame s k), List.Perm.refl _⟩⟩
  | _, _, _, j + 1, x, .cons (F := F) (G := G) o r, e => by
    obtain ⟨v, B, G', h1, h2, h3, h4, h5⟩ := ownL_at (j := j) r (by simpa using e)
    have p1 : ∀ B' : List Addr, (F ++ (B' ++ G')).Perm (B' ++ (F ++ G')) := fun B' => by
      rw [← List.append_assoc, ← List.append_assoc]
      exact List.perm_append_comm.append_right G'
    refine ⟨v, B, F ++ G', by simpa using h1, h2, ((List.Perm.refl F).append h3).trans (p1 B), fun b hb => (List.mem_append.mp hb).elim (o.cells b) (h4 b), fun s k o' => ?_⟩
    obtain ⟨F', q1, q2⟩ := h5 s (fun b hb => k b (List.mem_append_right _ hb)) o'
    exact ⟨_, .cons (o.frame s fun b hb => k b (List.mem_append_left _ hb)) q1, ((List.Perm.refl F).append q2).trans (p1 _)⟩
/-- the j-th item of the own list in the i-th slot -/
theorem EnvF.item {σ : L2.St} {Γ : Sl} {F : List Addr} {i j : Nat} {xs : List OD} {x : OD} (en : EnvF T I H σ Γ F) (hx : Γ[i]? = some (some (.ls xs))) (hj : xs[j]? = some x) : ∃ p vs v B G, σ[i]? = some (some (.ref p)) ∧ H p = some (.lst vs) ∧ vs.length = xs.length ∧ vs[j]? = some v ∧ Own T I H v x B ∧ F.Perm (B ++ G) ∧
    (∀ b ∈ G, (∃ o, H b = some o) ∧ I b = none) ∧ ∀ {I' H' : Hp} {x' : OD} {B' : List Addr}, Same I I' → (∀ b ∈ G, H' b = H b ∧ I' b = none) → Same I' H' → Own T I' H' v x' B' → (B' ++ G).Nodup → ∃ F', EnvF T I' H' σ (Γ.set i (some (.ls (xs.set j x')))) F' ∧ ∀ b ∈ F', b ∈ B' ∨ b ∈ G := by
  have hl : i < Γ.length := (List.getElem?_eq_some_iff.mp hx).1
  obtain ⟨v0, A, B0, C, e1, rfl, o, _⟩ := en.env.at hx
  obtain ⟨A2, B2, C2, e2, kk, _, _⟩ := en.env.put hl
  cases o with
  | @ls p vs _ F1 h1 h2 h3 =>
    obtain ⟨v, B, G1, g1, g2, g3, g4, g5⟩ := ownL_at h3 hj
    -- the frame apart from the list
    obtain ⟨v9, B9, G9, e9, o9, en9, nd9, mem9⟩ := en.take hx
    rw [e1] at e9
    cases e9
    cases o9 with
    | @ls _ vs9 _ F9 k1 k2 k3 =>
      rw [h1] at k1
      cases k1
      obtain ⟨v8, B8, G8, l1, l2, l3, l4, l5⟩ := ownL_at k3 hj
      have p9 : (A ++ (p :: F1 ++ C)).Perm (p :: F9 ++ G9) := by
        refine (List.perm_ext_iff_of_nodup en.nd nd9).mpr fun b => ?_
        rw [mem9 b, List.mem_append]
      have pm : (p :: F9 ++ G9).Perm (B8 ++ (p :: (G8 ++ G9))) := by
        have q1 : (p :: F9 ++ G9).Perm (p :: (B8 ++ G8) ++ G9) := (l3.cons p).append_right G9
        refine q1.trans ?_
        rw [List.cons_append, List.append_assoc]
        exact List.perm_middle.symm
      refine ⟨p, vs, v8, B8, p :: (G8 ++ G9), e1, h1, h3.length, l1, l2, p9.trans pm, fun b hb => ?_, fun {I' H' x' B'} s k sub o' nd' => ?_⟩
      · rcases List.mem_cons.mp hb with rfl | hb
        · exact ⟨⟨_, h1⟩, h2⟩
        · exact (List.mem_append.mp hb).elim (l4 b) (en9.env.cells b)
      · obtain ⟨F', q1, q2⟩ := l5 s (fun b hb => k b (List.mem_cons_of_mem _ (List.mem_append_left _ hb))) o'
        have own' : Own T I' H' (.ref p) (.ls (xs.set j x')) (p :: F') := .ls ((k p List.mem_cons_self).1.trans h1) (k p List.mem_cons_self).2 q1
        have en' : EnvF T I' H' σ (Γ.set i none) G9 := ⟨en9.env.frame s fun b hb => k b (List.mem_cons_of_mem _ (List.mem_append_right _ hb)), en9.nd, sub⟩
        have pn : (p :: F' ++ G9).Perm (B' ++ (p :: (G8 ++ G9))) := by
          have r1 : (p :: F' ++ G9).Perm (p :: (B' ++ G8) ++ G9) := (q2.cons p).append_right G9
          refine r1.trans ?_
          rw [List.cons_append, List.append_assoc]
          exact List.perm_middle.symm
        have ndn : (p :: F' ++ G9).Nodup := pn.nodup_iff.mpr nd'
        obtain ⟨F3, en3, nd3, m3⟩ := en'.into e1 own' ndn
        rw [List.set_set] at en3
        refine ⟨F3, en3, fun b hb => ?_⟩
        exact List.mem_append.mp (pn.subset ((m3 b hb).elim (List.mem_append_left _) (List.mem_append_right _)))
end
end TL
/-! TL32: drawn bounds and arguments, max of an answer, lists within lists read and shortened. -/
namespace TL
open PySem PySem.Spec PyProof.Rows L2
section
variable {X : Cx} {e a b c o : Expr} {es : List Expr} {rest : List Stmt} {Γ Γ' Γ1 Γ2 Γ3 : Sl} {Ψ : OD → Sl → Prop} {Φ : Out → Prop} {pos p apos cpos p2 p3 : Pos} {r x y z : OD} {nm n2 f m : Str} {d : PyData} {ds : List PyData} {xs : List OD} {mk : List PyData → OD}
/-- a - b, of answers -/
theorem we_sub (h : WE X a Γ fun x Γ1 => ∃ i, x = .da (.int i) ∧ WE X b Γ1 fun y Γ2 => ∃ j, y = .da (.int j) ∧ Ψ (.da (.int (i - j))) Γ2) : WE X (.BinOp a .Sub b pos) Γ Ψ :=
  we_bin op_sub (h.mono fun x Γ1 ⟨i, e, h2⟩ => h2.mono fun y Γ2 ⟨j, e2, hq⟩ => ⟨_, by rw [e, e2]; exact o2_I0 fun _ => .int _, hq⟩)
theorem xe_maxE {ns : List Int} {m : Int} (B : Blt X.mg) (hc : X.calm = true) (ha : XE X a Γ (.da (.list (ns.map .int))) Γ1) (hm : m ∈ ns) (hx : ∀ y ∈ ns, y ≤ m) (hg : Gl X "max" := by rfl) (he : starEach [a] X.env = (false, eval a X.env) :: starEach [] X.env := by rfl) (hpl : (backTo pos (starEach [] X.env)).any (·.1) = false := by rfl) :
    XE X (.Call (.Name "max" p) [a] [] pos) Γ (.da (.int m)) Γ1 := xe_callB1 (wl := rMax X.K) (cr_max hc) (rd_max (T := X.tc) .da hm hx).opl hg B.max (by decide +kernel) ha (he := he) (hpl := hpl)
/-- xs.pop(e), xs an own list in a slot, the place drawn -/
theorem we_popAt (i : Nat) (h : WE X a Γ fun r Γ1 => ∃ (j : Nat) (x : OD) (ds : List PyData) (mk : List PyData → OD) (d : PyData), r = .da (.int j) ∧ Γ1[i]? = some (some x) ∧ VLL x ds mk ∧ ds[j]? = some d ∧ ds.length ≤ 2 ^ 62 ∧ Ψ (.da d) (Γ1.set i (some (mk (ds.eraseIdx j)))))
    (hx : Γ[i]? = some (some x) := by rfl) (hv : VLL x ds mk := by first | exact .ll | exact .pin) (hN : X.N[i]? = some nm := by rfl) (hvs : Vis X.env.scope nm := by first | exact Or.inl rfl | exact Or.inr (Or.inl rfl) | exact Or.inr (Or.inr rfl)) (h1 : (nm == ("__debug__" : Str)) = false := by decide) (h2 : (nm == ("__classdict__" : Str)) = false := by decide)
    (hst : starEach [a] X.env = (false, eval a X.env) :: starEach [] X.env := by rfl) (hb : attributeBase (.Name nm p) "pop" X.env (eval (.Name nm p) X.env) = eval (.Name nm p) X.env := by rfl)
    (hfew : ((backTo pos (starEach [a] X.env)).all (fun x => !x.1) && (backToKw pos (keywordEach [] X.env)).all (fun x => x.1.isSome)
      && decide (([a] : List Expr).length + ([] : List Keyword).length + (if ([] : List Keyword).isEmpty then 0 else 1) < 30)) = true := by rfl) (hline : (apos.endLine == pos.line) = true := by rfl) (hs2 : (backTo pos (starEach [] X.env)).any (·.1) = false := by rfl) :
    WE X (.Call (.Attribute (.Name nm p) "pop" apos) [a] [] pos) Γ Ψ := fun I H σ F en Q k => by
  refine ⟨_, pe_bm PySem.F.plainAttrs_list PySem.F.slot_list_pop PySem.F.type_list_pop mt_popAt (pe_var hN hvs h1 h2) (pa_cons wpE_ok pa_nil hst) hb hfew hline hst hs2, ?_⟩
  obtain ⟨q, vs, e1, g1, _, _⟩ := en.ll hx hv
  refine ⟨_, e1, .inl ⟨rfl, _, SqL.of g1⟩, h I H σ F en _ ?_⟩
  rintro r Γ1 I1 H1 v F1 ⟨j, x, ds, mk, d, rfl, hx2, hv2, hj, hz, hq⟩ st1 en1
  obtain ⟨B, G, rfl, oo, en2, _⟩ := en1.pop
  cases oo with
  | da hj' =>
    cases hj'
    obtain ⟨q', vs', e1', g3, g4, g5⟩ := en2.ll hx2 hv2
    rw [e1] at e1'
    cases e1'
    obtain ⟨u, hu, ru⟩ := g4.get hj
    have hl : j < vs'.length := (List.getElem?_eq_some_iff.mp hu).1
    have hl2 := g4.length
    obtain ⟨F5, en5, st5⟩ := g5 _ _ (RpL.eraseAt g4 j)
    have six : seqIndex? (j : Int) vs'.length = some j := (ixN_seq (show ixN vs'.length (j : Int) = some j by
      unfold ixN
      rw [if_pos (by omega), if_pos (by omega), Int.toNat_natCast])).1
    exact ⟨q, vs', j, j, u, rfl, rfl, g3, by omega, by omega, six, hu, k _ _ I1 _ u F5 hq (st1.trans st5) (en5.da ru)⟩
end
end TL
/-! TL33: methods by their bodies, drawn comprehensions, bounds of slices. -/
namespace TL
open PySem PySem.Spec PyProof.Rows L2
/-- a number of the module's top -/
def DKC (K : PySem.W.Frag) (nm : Str) (i : Int) : Prop := ∃ t, PySem.W.nsIn K mainGlobals nm = some (some (.int i t))
theorem DKC.mg {K : PySem.W.Frag} {h : Heap} {mg : Str → Option Value} {nm : Str} {i : Int} (d : DKC K nm i) (X : K.In h) (G : h.Ns mainGlobals mg) : ∃ t, mg nm = some (.int i t) := let ⟨t, e⟩ := d; ⟨t, PySem.W.mg_of X G e⟩
/-! ### slices -/
theorem cutD_to {ds : List PyData} {hi : Nat} : cutD ds none (some (hi : Int)) = ds.take hi := by
  unfold cutD
  rw [HT.sIx_none, HT.sIx_nat, List.drop_zero, Nat.sub_zero]
  rcases Nat.le_total hi ds.length with h | h
  · rw [Nat.min_eq_left h]
  · rw [Nat.min_eq_right h, List.take_length, List.take_of_length_le h]
theorem cutD_from {ds : List PyData} {lo : Nat} : cutD ds (some (lo : Int)) none = ds.drop lo := by
  unfold cutD
  rw [HT.sIx_nat, HT.sIx_none]
  rcases Nat.le_total lo ds.length with h | h
  · rw [Nat.min_eq_left h, List.take_of_length_le (by simp)]
  · rw [Nat.min_eq_right h, List.drop_length, List.drop_eq_nil_of_le h]
    simp
end TL
/-! TL34: and, or, not as values. -/
namespace TL
open PySem PySem.Spec PyProof.Rows L2
section
variable {X : Cx} {e a b c o : Expr} {es rest : List Expr} {Γ Γ' Γ1 Γ2 : Sl} {Ψ : OD → Sl → Prop} {pos p : Pos} {r x y z : OD} {k k2 k3 : Bool}
theorem bool_top {I H : Hp} {σ : L2.St} {F : List Addr} {v : V} (en : EnvF X.tc I H (some v :: σ) (some (.da (.bool k)) :: Γ) F) : v = .bl k ∧ EnvF X.tc I H σ Γ F := by
  obtain ⟨B, G, rfl, o, en2, _⟩ := en.pop
  cases o with
  | da o =>
    cases o
    exact ⟨rfl, en2⟩
theorem we_andB (h : WE X a Γ fun r Γ1 => ∃ k, r = .da (.bool k) ∧ (k = true → WE X (.BoolOp .And (b :: rest) pos) Γ1 Ψ) ∧ (k = false → Ψ (.da (.bool false)) Γ1)) : WE X (.BoolOp .And (a :: b :: rest) pos) Γ Ψ := fun I H σ F en Q kq =>
  ⟨_, pe_andT wpE_ok wpE_ok, h I H σ F en _ fun r Γ1 I1 H1 v F1 ⟨k, hr, h1, h2⟩ st1 en1 => by
    subst hr
    obtain ⟨rfl, en2⟩ := bool_top en1
    refine ⟨k, rfl, ?_⟩
    cases k with
    | true =>
      rw [if_pos rfl]
      exact h1 rfl I1 H1 σ F1 en2 Q fun r Γ' I' H' v F' q st => kq r Γ' I' H' v F' q (st1.trans st)
    | false =>
      rw [if_neg (by decide)]
      exact kq _ Γ1 I1 H1 _ F1 (h2 rfl) st1 en1⟩
theorem we_orB (h : WE X a Γ fun r Γ1 => ∃ k, r = .da (.bool k) ∧ (k = false → WE X (.BoolOp .Or (b :: rest) pos) Γ1 Ψ) ∧ (k = true → Ψ (.da (.bool true)) Γ1)) : WE X (.BoolOp .Or (a :: b :: rest) pos) Γ Ψ := fun I H σ F en Q kq =>
  ⟨_, pe_orT wpE_ok wpE_ok, h I H σ F en _ fun r Γ1 I1 H1 v F1 ⟨k, hr, h1, h2⟩ st1 en1 => by
    subst hr
    obtain ⟨rfl, en2⟩ := bool_top en1
    refine ⟨k, rfl, ?_⟩
    cases k with
    | false =>
      rw [if_neg (by decide)]
      exact h1 rfl I1 H1 σ F1 en2 Q fun r Γ' I' H' v F' q st => kq r Γ' I' H' v F' q (st1.trans st)
    | true =>
      rw [if_pos rfl]
      exact kq _ Γ1 I1 H1 _ F1 (h2 rfl) st1 en1⟩
theorem we_notB (h : WE X a Γ fun r Γ1 => ∃ k, r = .da (.bool k) ∧ Ψ (.da (.bool (!k))) Γ1) : WE X (.UnaryOp .Not a pos) Γ Ψ := fun I H σ F en Q kq =>
  ⟨_, pe_notT wpE_ok, h I H σ F en _ fun r Γ1 I1 H1 v F1 ⟨k, hr, h1⟩ st1 en1 => by
    subst hr
    obtain ⟨rfl, en2⟩ := bool_top en1
    exact ⟨k, rfl, kq _ Γ1 I1 H1 _ F1 h1 st1 (en2.da (.bl _))⟩⟩
theorem xe_notB (ha : XE X a Γ (.da (.bool k)) Γ1) : XE X (.UnaryOp .Not a pos) Γ (.da (.bool (!k))) Γ1 := fun _ hq => we_notB (ha _ ⟨k, rfl, hq⟩)
theorem pe_boolOne {op : BoolOp} {ta : TE} (h : PE X a ta) : PE X (.BoolOp op [a] pos) ta := ⟨fun pins s σ H Q I q => BoolOp_one (h.run pins s σ H Q I q)⟩
theorem we_and1B (h : WE X a Γ Ψ) : WE X (.BoolOp .And [a] pos) Γ Ψ := fun I H σ F en Q kq => ⟨_, pe_boolOne wpE_ok, h I H σ F en Q kq⟩
theorem we_or1B (h : WE X a Γ Ψ) : WE X (.BoolOp .Or [a] pos) Γ Ψ := fun I H σ F en Q kq => ⟨_, pe_boolOne wpE_ok, h I H σ F en Q kq⟩
theorem xe_andB (ha : XE X a Γ (.da (.bool k)) Γ) (hb : k = true → XE X b Γ (.da (.bool k2)) Γ) : XE X (.BoolOp .And [a, b] pos) Γ (.da (.bool (k && k2))) Γ := fun _ hq => we_andB (ha _ ⟨k, rfl, fun e => we_and1B (hb e _ (by rw [e, Bool.true_and] at hq; exact hq)), fun e => by rw [e, Bool.false_and] at hq; exact hq⟩)
theorem xe_orB (ha : XE X a Γ (.da (.bool k)) Γ) (hb : k = false → XE X b Γ (.da (.bool k2)) Γ) : XE X (.BoolOp .Or [a, b] pos) Γ (.da (.bool (k || k2))) Γ := fun _ hq => we_orB (ha _ ⟨k, rfl, fun e => we_or1B (hb e _ (by rw [e, Bool.false_or] at hq; exact hq)), fun e => by rw [e, Bool.true_or] at hq; exact hq⟩)
theorem xe_and3B (ha : XE X a Γ (.da (.bool k)) Γ) (hb : k = true → XE X b Γ (.da (.bool k2)) Γ) (hc : k = true → k2 = true → XE X c Γ (.da (.bool k3)) Γ) : XE X (.BoolOp .And [a, b, c] pos) Γ (.da (.bool (k && (k2 && k3)))) Γ :=
  fun _ hq => we_andB (ha _ ⟨k, rfl, fun e => xe_andB (hb e) (hc e) _ (by rw [e, Bool.true_and] at hq; exact hq), fun e => by rw [e, Bool.false_and] at hq; exact hq⟩)
theorem eqv_self {d : PyData} (h : d.plain = true) : PyData.eqv d d = true := PySem.SeqAt.eqv_refl_plain d h
end
end TL
/-! TL35: y = [..] with a drawn walk, for over a drawn walk, a method of a thing just made. -/
namespace TL
open PySem PySem.Spec PyProof.Rows L2
section
variable {X : Cx} {k : Nat} {scope : Scope} {it tg elt : Expr} {rest body : List Stmt} {Γ : Sl} {Ψ : OD → Sl → Prop} {Φ : Out → Prop} {pos spos py : Pos} {α β : Type} {nm : Str}
/-- for over a drawn walk -/
theorem ws_forW {kk : Nat} (f : Fr X kk) (E : α → PyData) (P : List α → Prop) (st : β → Sl) (Inv : List α → Nat → β → Prop) (hi : WI X tg it Γ fun ds Γ1 => ∃ (xs : List α) (b0 : β), P xs ∧ ds = xs.map E ∧ Inv xs 0 b0 ∧ Γ1 = st b0)
    (turn : ∀ (xs : List α) (n : Nat) (x : α) (b : β), P xs → xs[n]? = some x → Inv xs n b → WG X tg (.da (E x)) (st b) fun Γ3 => WSs X body Γ3 (loopΦ (fun Γ4 => ∃ b', Inv xs (n + 1) b' ∧ Γ4 = st b') (thn2 X rest Φ)))
    (fin : ∀ xs b, P xs → Inv xs xs.length b → WSs X rest (st b) Φ) (hs : ∀ x, foldedSetIterable it X.env x = pure x := by intro _; rfl) : WSs X (.For tg it body [] pos :: rest) Γ Φ := by
  refine ws_for (fun ds n Γ' => ∃ (xs : List α) (b' : β), P xs ∧ ds = xs.map E ∧ Inv xs n b' ∧ Γ' = st b') f.own f.calm ?_ hs
  intro I H σ F en R k
  refine hi I H σ F en R fun ds Γ1 I1 H1 F1 J ⟨xs, b0, hp, hds, h0, e0⟩ st1 en1 => k ds Γ1 I1 H1 F1 J ⟨⟨xs, b0, hp, hds, h0, e0⟩, ?_, ?_⟩ st1 en1
  · rintro n d Γ2 hn ⟨ys, b', hp', hds', hb, rfl⟩
    rw [hds', List.getElem?_map] at hn
    obtain ⟨x, hx, rfl⟩ := Option.map_eq_some_iff.mp hn
    intro I H σ F v en Q k
    refine turn ys n x b' hp' hx hb I H σ F v en Q fun Γ3 I' H' σ' F' h3 => k Γ3 I' H' σ' F' (h3.mono fun o ho => ?_)
    cases o with
    | nx Γ4 => exact ⟨ys, ho.choose, hp', hds', ho.choose_spec⟩
    | ct Γ4 => exact ⟨ys, ho.choose, hp', hds', ho.choose_spec⟩
    | bk Γ4 => exact ho
    | rt r Γ4 => exact ho
  · rintro Γ2 ⟨ys, b', hp', hds', hb, rfl⟩
    rw [hds', List.length_map] at hb
    exact fin ys b' hp' hb
end
end TL
/-! TL36: the law's own def, by its body. -/
namespace TL
open PySem PySem.Spec PyProof.Rows L2
theorem fn_def {P : Program} {w : World} {K : PySem.W.Frag} {mg : Str → Option Value} {bs : Heap} {k : Nat} {nm : Str} {st : Stmt} {N ps : List Str} {sp : SpD} (S : FnScope N ps (defScope st)) (ln : ∀ as Ψ, sp as Ψ → as.length = ps.length)
    (hb : ∀ (f : Addr) (cdv : Value) (A : Around) (fr : List PySem.Env) (s : Shared) (H : Hp) (E : XK), TL.Fr (dcx P w K mg bs N nm st f cdv A fr s H E) k → ∀ (as : List OD) (Ψ : OD → List OD → Prop) (vs : List V), sp as Ψ → vs.length = ps.length →
      WSs (dcx P w K mg bs N nm st f cdv A fr s H E) (defBody st) (start0 N as vs) (fnΦ as vs Ψ)) : ∀ f fd, Fun K nm nm st f fd → FnG P w K mg bs CX0 (k + 1) f fd ps (mkSp ⟨P, w, K⟩ sp) :=
  fun f fd F => fn_ok F S ln fun X' cdv A fr s H E hX hr hg as Ψ vs hsp hl => by
    subst hX
    exact hb f cdv A fr s H E ⟨S.nd, rfl, PassesOwn.never, hr, hg⟩ as Ψ vs hsp (by rw [hl, ln as Ψ hsp])
theorem dkc_mk {K : PySem.W.Frag} {nm : Str} {i : Int} {t : _} (a : PySem.W.nsIn K mainGlobals nm = some (some (.int i t))) : DKC K nm i := ⟨t, a⟩
end TL
/-! TL37: a set comprehension over an object that grows by set.add; for numbers. -/
namespace TL
open PySem PySem.Spec PyProof.Rows L2
abbrev bareSet (w : World) : Obj := { cls := .type "set", dict := none, data := .set #[] 0 (.fresh 0 0 (!w.params.followText "set-order")) }
end TL
/-! TL38: sorted({..}) and len({..}) of numbers. -/
namespace TL
open PySem PySem.Spec PyProof.Rows L2
/-- a set's members, listed once each -/
structure Mem1 (S : Int → Bool) (c : Nat) (ks : List Int) : Prop where
  nd : ks.Nodup
  mem : ∀ k, S k = true ↔ k ∈ ks
  len : c = ks.length
theorem Mem1.nil : Mem1 (fun _ => false) 0 [] := ⟨.nil, fun k => by simp, rfl⟩
end TL
/-! TL39: sorted(set(xs)), xs a list of numbers. -/
namespace TL
open PySem PySem.Spec PyProof.Rows L2
end TL
/-! TL40: min of a list of data; sorted and min of a dict with nested keys. -/
namespace TL
open PySem PySem.Spec PyProof.Rows L2
end TL
/-! TL41: min(xs) of data as an expression; sorted(d), min(d), d an own dict with nested keys. -/
namespace TL
open PySem PySem.Spec PyProof.Rows L2
/-! ### own dicts with nested keys -/
end TL
/-! TL42: [elt for .. in .. for .. in ..]. -/
namespace TL
open PySem PySem.Spec PyProof.Rows L2
/-- a list being made at D, the slots as Γ' says -/
structure LcAt (T : TC) (D : Addr) (I1 H1 : Hp) (F1 : List Addr) (σ' : L2.St) (Γ' : Sl) (acc : List PyData) (I2 H2 : Hp) (F2 : List Addr) : Prop where
  ws : ∃ ws, H2 D = some (.lst ws) ∧ RpL T I2 ws acc
  fr : I2 D = none
  en : EnvF T I2 H2 σ' Γ' F2
  nd : D ∉ F2
  st : Step I1 H1 F1 I2 H2 (D :: F2)
section
variable {T : TC} {D : Addr} {I1 H1 I2 H2 I3 H3 : Hp} {F1 F2 F3 : List Addr} {σ' σ3 : L2.St} {Γ' Γ3 : Sl} {acc : List PyData}
theorem LcAt.go (a : LcAt T D I1 H1 F1 σ' Γ' acc I2 H2 F2) (s : Step I2 H2 F2 I3 H3 F3) (e : EnvF T I3 H3 σ3 Γ3 F3) : LcAt T D I1 H1 F1 σ3 Γ3 acc I3 H3 F3 := by
  obtain ⟨ws, h1, h2⟩ := a.ws
  obtain ⟨g1, g2, g3⟩ := s.oth D _ h1 a.fr a.nd
  refine ⟨⟨ws, g1, h2.mono s.inc⟩, g2, e, g3, a.st.inc.trans s.inc, fun b ob q1 q2 q3 => ?_⟩
  obtain ⟨k1, k2, k3⟩ := a.st.oth b ob q1 q2 q3
  rw [List.mem_cons, not_or] at k3
  obtain ⟨k4, k5, k6⟩ := s.oth b ob k1 k2 k3.2
  exact ⟨k4, k5, fun q => (List.mem_cons.mp q).elim k3.1 k6⟩
theorem LcAt.less (a : LcAt T D I1 H1 F1 σ' Γ' acc I2 H2 F2) (m : ∀ b ∈ F3, b ∈ F2) (e : EnvF T I2 H2 σ3 Γ3 F3) : LcAt T D I1 H1 F1 σ3 Γ3 acc I2 H2 F3 := a.go (Step.less m) e
theorem LcAt.put {ws : List V} {y : V} {d : PyData} (a : LcAt T D I1 H1 F1 σ' Γ' acc I2 H2 F2) (hw : H2 D = some (.lst ws)) (hy : Rp T I2 y d) : LcAt T D I1 H1 F1 σ' Γ' (acc ++ [d]) I2 (upd H2 D (.lst (ws ++ [y]))) F2 := by
  obtain ⟨ws', h1, h2⟩ := a.ws
  rw [hw] at h1
  cases h1
  refine ⟨⟨_, upd_same, RpL.append h2 (.cons hy .nil)⟩, a.fr, ⟨a.en.env.frame (Same.refl _) fun b hb => ⟨upd_ne fun q => a.nd (q ▸ hb), (a.en.env.cells b hb).2⟩, a.en.nd, fun b u q => ?_⟩, a.nd, a.st.inc, fun b ob q1 q2 q3 => ?_⟩
  · rw [upd_ne fun e => by
      rw [e, a.fr] at q
      cases q]
    exact a.en.sub b u q
  · obtain ⟨k1, k2, k3⟩ := a.st.oth b ob q1 q2 q3
    refine ⟨?_, k2, k3⟩
    rw [upd_ne fun e => k3 (by rw [e]; exact List.mem_cons_self)]
    exact k1
end
end TL
/-! TL43: own dicts with nested keys, whose values are own lists: d.setdefault(k, []).append(x). -/
namespace TL
open PySem PySem.Spec PyProof.Rows L2
structure KeysAt (T : TC) (I H : Hp) (p : Addr) (kvs : NKV) (ks : List NestedKey) : Prop where
  at_ : H p = some (DN T p kvs)
  keys : kvs.map Prod.fst = ks
  krp : RpL T I (kvs.map fun q => V.ref q.2.1) (ks.map NestedKey.data)
/-! the reading of setdefault, the value at hand -/
/-! the own thing -/
inductive Lsts (T : TC) (I H : Hp) : List V → List Addr → List (List PyData) → Prop
  | nil : Lsts T I H [] [] []
  | cons {q : Addr} {vs ws : List V} {qs : List Addr} {ds : List PyData} {dss : List (List PyData)} : H q = some (.lst ws) → I q = none → RpL T I ws ds → Lsts T I H vs qs dss → Lsts T I H (.ref q :: vs) (q :: qs) (ds :: dss)
section
variable {T : TC} {I H I' H' : Hp}
theorem Lsts.frame (e : Same I I') : ∀ {vs : List V} {qs : List Addr} {dss : List (List PyData)}, Lsts T I H vs qs dss → (∀ b ∈ qs, H' b = H b ∧ I' b = none) → Lsts T I' H' vs qs dss
  | _, _, _, .nil, _ => .nil
  | _, _, _, .cons h i r t, k => .cons ((k _ List.mem_cons_self).1.trans h) (k _ List.mem_cons_self).2 (r.mono e) (t.frame e fun b hb => k b (List.mem_cons_of_mem _ hb))
theorem Lsts.cells : ∀ {vs : List V} {qs : List Addr} {dss : List (List PyData)}, Lsts T I H vs qs dss → ∀ b ∈ qs, (∃ o, H b = some o) ∧ I b = none
  | _, _, _, .cons h i r t, b, hb => by
    rcases List.mem_cons.mp hb with e | hb
    · rw [e]
      exact ⟨⟨_, h⟩, i⟩
    · exact t.cells b hb
theorem Lsts.len : ∀ {vs : List V} {qs : List Addr} {dss : List (List PyData)}, Lsts T I H vs qs dss → vs.length = dss.length ∧ qs.length = dss.length
  | _, _, _, .nil => ⟨rfl, rfl⟩
  | _, _, _, .cons _ _ _ t => ⟨congrArg (· + 1) t.len.1, congrArg (· + 1) t.len.2⟩
theorem Lsts.at : ∀ {vs : List V} {qs : List Addr} {dss : List (List PyData)} {j : Nat} {v : V}, Lsts T I H vs qs dss → vs[j]? = some v → ∃ q ws ds, v = .ref q ∧ q ∈ qs ∧ qs[j]? = some q ∧ dss[j]? = some ds ∧ H q = some (.lst ws) ∧ RpL T I ws ds
  | _, _, _, 0, v, .cons h i r t, e => by
    cases (show some (V.ref _) = some v from e)
    exact ⟨_, _, _, rfl, List.mem_cons_self, rfl, rfl, h, r⟩
  | _, _, _, j + 1, v, .cons h i r t, e => by
    obtain ⟨q, ws, ds, e1, e2, e3, e4, e5, e6⟩ := t.at (j := j) (v := v) e
    exact ⟨q, ws, ds, e1, List.mem_cons_of_mem _ e2, e3, e4, e5, e6⟩
theorem Lsts.put {y : V} {d : PyData} (hy : Rp T I y d) : ∀ {vs : List V} {qs : List Addr} {dss : List (List PyData)} {j : Nat} {q : Addr} {ws : List V} {ds : List PyData}, Lsts T I H vs qs dss → qs.Nodup → qs[j]? = some q → dss[j]? = some ds → H q = some (.lst ws) → RpL T I ws ds →
    Lsts T I (upd H q (.lst (ws ++ [y]))) vs qs (dss.set j (ds ++ [d]))
  | _, _, _, 0, q, ws, ds, .cons h i r t, nd, e1, e2, e3, e4 => by
    cases (show some _ = some q from e1)
    cases (show some _ = some ds from e2)
    have nd' := List.nodup_cons.mp nd
    exact .cons upd_same i (RpL.append e4 (.cons hy .nil)) (t.frame (Same.refl _) fun b hb => ⟨upd_ne fun z => nd'.1 (z ▸ hb), (t.cells b hb).2⟩)
  | _, _, _, j + 1, q, ws, ds, .cons (q := q0) (qs := qs0) h i r t, nd, e1, e2, e3, e4 => by
    have nd' := List.nodup_cons.mp nd
    have hq : q ∈ qs0 := List.mem_of_getElem? (i := j) e1
    exact .cons (by rw [upd_ne fun z => nd'.1 (by rw [z]; exact hq)]; exact h) i r (Lsts.put hy t nd'.2 e1 e2 e3 e4)
theorem KeysAt.frame {p : Addr} {kvs : NKV} {ks : List NestedKey} (e : Same I I') (k : KeysAt T I H p kvs ks) (h : H' p = H p) : KeysAt T I' H' p kvs ks := ⟨h.trans k.at_, k.keys, k.krp.mono e⟩
end
end TL
/-! TL44: d.setdefault(k, []).append(x) over own dicts of own lists. -/
namespace TL
open PySem PySem.Spec PyProof.Rows L2
section
variable {T : TC} {I H I' H' : Hp} {G G' : List Addr} {v : V} {x : OD} {B : List Addr}
theorem Step.keeps (st : Step I H G I' H' G') (o : Own T I H v x B) (nd : (B ++ G).Nodup) : ∀ b ∈ B, b ∉ G' ∧ H' b = H b ∧ I' b = none := fun b hb => by
  obtain ⟨⟨ob, e⟩, i⟩ := o.cells b hb
  obtain ⟨h1, h2, h3⟩ := st.oth b ob e i fun q => (List.nodup_append.mp nd).2.2 b hb b q rfl
  exact ⟨h3, h1.trans e.symm, h2⟩
end
end TL
/-! TL45: a dict of own lists made one of data; d.get(k, x), keys nested. -/
namespace TL
open PySem PySem.Spec PyProof.Rows L2
theorem Lsts.frz {T : TC} {I H : Hp} {B : List Addr} (inc : Same I (frzH I H B)) : ∀ {vs : List V} {qs : List Addr} {dss : List (List PyData)}, Lsts T I H vs qs dss → (∀ b ∈ qs, b ∈ B) → RpL T (frzH I H B) vs (dss.map .list)
  | _, _, _, .nil, _ => .nil
  | _, _, _, .cons (q := q) h i r t, hb => .cons (.lst (SqL.of (show frzH I H B q = some (.lst _) by rw [frzH_in (hb q List.mem_cons_self)]; exact h)) (r.mono inc)) (t.frz inc fun b hb' => hb b (List.mem_cons_of_mem _ hb'))
/-! d.get(k, x) -/
end TL
/-! TL46: zip of three tuples. -/
namespace TL
open PySem PySem.Spec PyProof.Rows L2
end TL
/-! TL47: tuples known to hold no dict of their own: tuple(xs), t.index(x). -/
namespace TL
open PySem PySem.Spec PyProof.Rows L2
/-- data: a tuple whose object is known -/
abbrev tnD (ds : List PyData) : PyData := .dict [(.list [], .tuple ds)]
theorem rp_tn {T : TC} {I : Hp} {v : V} {ds : List PyData} (h : Rp T I v (tnD ds)) : ∃ (a : Addr) (ob : Obj) (vs : List V), v = .ref a ∧ I a = some (.frz ob (.tup vs)) ∧ ob.dict = none ∧ RpL T I vs ds := by
  generalize e : tnD ds = d at h
  cases h with
  | tn h1 h2 r q =>
    injection e with e
    rw [← e] at q
    injection q with q _
    injection q with _ q
    injection q with q
    subst q
    exact ⟨_, _, _, rfl, h1, h2, r⟩
  | @dk a ob kvs _ h k r0 =>
    injection e with e
    subst e
    cases kvs with
    | nil => cases k
    | cons p r =>
      have k' : PyData.list [] = keyD p.1 := (List.cons.inj k).1
      cases hp : p.1 <;> rw [hp] at k' <;> cases k'
  | @dn a ob kvs _ h k r0 s0 n0 =>
    injection e with e
    subst e
    cases kvs with
    | nil => cases k
    | cons p r =>
      have k' : PyData.list [] = NestedKey.data p.1 := (List.cons.inj k).1
      cases hp : p.1 <;> rw [hp] at k' <;> simp [NestedKey.data] at k'
  | _ => cases e
section
variable {X : Cx} {a b e o : Expr} {Γ Γ1 Γ2 : Sl} {ds : List PyData} {pos p apos : Pos}
theorem xe_tn (h : XE X e Γ (.da (tnD ds)) Γ1) : XE X e Γ (.da (.tuple ds)) Γ1 := fun Ψ hq => we_conv (fun I H v B o => by
  cases o with
  | da o =>
    obtain ⟨a, ob, vs, rfl, h1, _, r⟩ := rp_tn o
    exact .da (.tup (.inl (.inr ⟨ob, h1⟩)) r)) (h _ ⟨rfl, hq⟩)
/-! ### tuple(xs) -/
theorem call_tupN : CallR X (.type "tuple") (fun xs H Q => ∃ p ys, xs = [.ref p] ∧ SqL X.K H p ys ∧ ∀ (l : Addr) (ob : Obj), H l = none → ob.dict = none → Q (.ref l) (upd H l (.frz ob (.tup ys)))) := by
  intro pins s σ H xs us Q I r h
  obtain ⟨p, ys, rfl, hq, q⟩ := h
  obtain ⟨u, rfl, rx⟩ := vals1 r
  cases rx
  obtain ⟨its, r', pl, hz⟩ := I.list hq
  have hlen := r'.length
  refine call_tuple_list pl.isList (fun h' kp => ?_) (by simp only [List.size_toArray] <;> omega)
  have I1 : Inv X pins σ H { s with heap := h' } := I.kept (t' := s.toks) kp
  let ob : Obj := { cls := .type "tuple", data := .seq its.toArray }
  have I2 : Inv X pins σ (upd H h'.objs.size (.frz ob (.tup ys))) { s with heap := h'.push ob } :=
    I1.laid (t' := s.toks) (fun b o e => Heap.get?_push_of_some _ e) (Nat.le_refl _) ⟨Heap.get?_push_size _ rfl, hz, its, r', IsTup.new _ _⟩
  exact ⟨.ref h'.objs.size, _, I2, rfl, q _ ob (I1.hok.fresh (Nat.le_refl _)) rfl⟩
def rTupN (T : TC) : List V → Hp → VK → Prop := fun xs H Q => ∃ p ys, xs = [.ref p] ∧ SqL T.K H p ys ∧ ∀ (l : Addr) (ob : Obj), H l = none → ob.dict = none → Q (.ref l) (upd H l (.frz ob (.tup ys)))
theorem rd_tupN {T : TC} {x : OD} (hv : SV x (.list ds)) : Rd1 T (rTupN T) x (.da (tnD ds)) := fun I H v B o s Q k => by
  obtain ⟨a, vs, rfl, h, r⟩ := hv.seq (.inl rfl) o s
  rcases h with ⟨_, h⟩ | ⟨h, _⟩
  · exact ⟨a, vs, rfl, h, fun l ob hl hd => k (upd I l (.frz ob (.tup vs))) _ _ [] (step_frz s hl) (.da (.tn upd_same hd (r.mono (upd_up (s.free hl))) rfl)) List.nodup_nil (upd_both s)⟩
  · cases h
/-! ### t.index(x) -/
end
end TL
/-! TL48: len and min of dicts with nested keys, own or data. -/
namespace TL
open PySem PySem.Spec PyProof.Rows L2
end TL
/-! TL49: chains of three comparisons. -/
namespace TL
open PySem PySem.Spec PyProof.Rows L2
section
variable {X : Cx} {a b c e : Expr} {Γ : Sl} {pos : Pos} {d d' g g2 : PyData}
/-- d in t, as a value -/
theorem xe_inV {ds : List PyData} (hu : X.A.units + 70 < cLine) {Γ1 Γ2 : Sl} (hb : XE X b Γ (.da d) Γ1) (ha : XE X a Γ1 (.da d') Γ2) (pd : d.plain = true) (pe : PyData.plainAll ds = true) (hh : d.depth ≤ 60) (hd' : d' = .list ds ∨ d' = .tuple ds := by first | exact .inl rfl | exact .inr rfl) (hm : behindInMarks .In a = false := by rfl) :
    XE X (.Compare b [.In] [a] pos) Γ (.da (.bool (ds.any fun z => PyData.eqv z d))) Γ2 := xe_cmp (op_inP hu) hm (by have q := (rd_in (T := X.tc) (neg := false) (x := .da d') .da hd' pd pe hh).op2' (f := rInP X.tc false); simpa using q) hb ha
end
end TL
/-! TL50: sets of nested tuples: the search, adding, set(xs). -/
namespace TL
open PySem PySem.Spec PyProof.Rows L2
/-- the tuple at a is the key k -/
abbrev NIs (h : Heap) (k : NestedKey) (a : Addr) : Prop := NestedIs h k (.ref a) ∧ k.depth ≤ 8
section
variable {P : Program} {w : World}
variable {A : Around} {E : Value → Shared → Prop} {s : Shared}
/-! ### the set -/
abbrev nh (w : World) (p : Addr × NestedKey) : Int := p.2.hash w
def nrows (w : World) (L : List (Addr × NestedKey)) : List (Int × Value) := L.map fun p => (nh w p, Value.ref p.1)
structure NSet (w : World) (h : Heap) (a : Addr) (L : List (Addr × NestedKey)) (es : Array (Int × Value)) (ep : Nat) (t : SetTable) : Prop where
  ob : ∃ o, h.get? a = some o ∧ o.ExactSet ∧ o.data = .set es ep t
  rows : es.toList = nrows w L
  tab : TabOk t (L.map (nh w))
  nd : (L.map Prod.snd).Nodup
  isk : ∀ p ∈ L, NIs h p.2 p.1
  room : L.length * 5 < t.mask * 3
  few : L.length < 64
variable {a : Addr} {L : List (Addr × NestedKey)} {es : Array (Int × Value)} {ep : Nat} {t : SetTable}
theorem NSet.size (R : NSet w s.heap a L es ep t) : es.size = L.length := by
  have := congrArg List.length R.rows
  rwa [nrows, Array.length_toList, List.length_map] at this
theorem NSet.at (R : NSet w s.heap a L es ep t) {i : Nat} {p : Addr × NestedKey} (h : L[i]? = some p) : es[i]? = some (nh w p, Value.ref p.1) := by
  rw [← Array.getElem?_toList, R.rows, nrows, List.getElem?_map, h]
  rfl
end
end TL
/-! TL51: sets of nested tuples: adding, len(set(xs)). -/
namespace TL
open PySem PySem.Spec PyProof.Rows L2
end TL
/-! TL52: len(set(xs)), xs a list of nested tuples, or a tuple of numbers. -/
namespace TL
open PySem PySem.Spec PyProof.Rows L2
/-- what the set has got of the first i keys -/
structure Has (ks : List (Addr × NestedKey)) (i : Nat) (L : List (Addr × NestedKey)) : Prop where
  sub : ∀ p ∈ L, p ∈ ks.take i
  all : ∀ p ∈ ks.take i, p.2 ∈ L.map Prod.snd
  len : L.length ≤ i
theorem Has.step {ks L L' : List (Addr × NestedKey)} {i : Nat} {x : Addr × NestedKey} (g : Has ks i L) (h : ks[i]? = some x) (h1 : x.2 ∈ L.map Prod.snd → L' = L) (h2 : x.2 ∉ L.map Prod.snd → L'.Perm (x :: L)) : Has ks (i + 1) L' := by
  have e : ks.take (i + 1) = ks.take i ++ [x] := by rw [List.take_succ, h]; rfl
  by_cases c : x.2 ∈ L.map Prod.snd
  · rw [h1 c]
    refine ⟨fun p hp => by rw [e]; exact List.mem_append_left _ (g.sub p hp), fun p hp => ?_, Nat.le_succ_of_le g.len⟩
    rw [e] at hp
    rcases List.mem_append.mp hp with z | z
    · exact g.all p z
    · rw [List.mem_singleton.mp z]; exact c
  · have pm := h2 c
    refine ⟨fun p hp => ?_, fun p hp => ?_, by rw [pm.length_eq, List.length_cons]; exact Nat.succ_le_succ g.len⟩
    · rw [e]
      rcases List.mem_cons.mp (pm.mem_iff.mp hp) with z | z
      · rw [z]; exact List.mem_append_right _ (List.mem_singleton.mpr rfl)
      · exact List.mem_append_left _ (g.sub p z)
    · rw [(pm.map Prod.snd).mem_iff, List.map_cons]
      rw [e] at hp
      rcases List.mem_append.mp hp with z | z
      · exact List.mem_cons_of_mem _ (g.all p z)
      · rw [List.mem_singleton.mp z]; exact List.mem_cons_self
section
variable {P : Program} {w : World} {A : Around} {E : Value → Shared → Prop} {s : Shared}
theorem NSet.keep {h h' : Heap} {a : Addr} {L : List (Addr × NestedKey)} {es : Array (Int × Value)} {ep : Nat} {t : SetTable} (R : NSet w h a L es ep t) (ha : ∀ o, h.get? a = some o → h'.get? a = some o) (hk : ∀ p ∈ L, NIs h' p.2 p.1) : NSet w h' a L es ep t := by
  obtain ⟨o, ho, r⟩ := R.ob
  exact ⟨⟨o, ha o ho, r⟩, R.rows, R.tab, R.nd, hk, R.room, R.few⟩
theorem NSet.new {h : Heap} {a : Addr} (ho : h.get? a = some (bareSet w)) : NSet w h a [] #[] 0 (.fresh 0 0 (!w.params.followText "set-order")) where
  ob := ⟨_, ho, ⟨rfl, rfl, rfl⟩, rfl⟩
  rows := rfl
  tab := ⟨List.Pairwise.nil, rfl, rfl, .inl rfl, fun x hx => by (cases hx), fun i h j hi => by (simp at hi)⟩
  nd := List.nodup_nil
  isk := fun p hp => by (cases hp)
  room := by show 0 * 5 < 7 * 3; decide
  few := by show 0 < 64; decide
end
/-! ### as expressions -/
/-- how many different ones there are -/
def Count {α : Type} (xs : List α) (n : Nat) : Prop := ∃ L : List α, L.Nodup ∧ (∀ x, x ∈ L ↔ x ∈ xs) ∧ L.length = n
theorem nodup_count {α : Type} [DecidableEq α] : ∀ {xs L : List α}, L.Nodup → (∀ x, x ∈ L ↔ x ∈ xs) → L.length = xs.length → xs.Nodup
  | [], _, _, _, _ => List.nodup_nil
  | x :: t, L, nd, mem, hl => by
    have hx : x ∉ t := fun hm => by
      have := List.Nodup.length_le_of_subset nd (l₂ := t) fun y hy => (List.mem_cons.mp ((mem y).mp hy)).elim (fun e => e ▸ hm) id
      rw [hl, List.length_cons] at this
      omega
    have hxL : x ∈ L := (mem x).mpr List.mem_cons_self
    refine List.nodup_cons.mpr ⟨hx, nodup_count (L := L.erase x) (nd.erase x) (fun y => ?_) ?_⟩
    · rw [nd.mem_erase_iff, mem y, List.mem_cons]
      constructor
      · rintro ⟨h1, h2⟩
        exact h2.resolve_left h1
      · exact fun h => ⟨fun e => hx (e ▸ h), .inr h⟩
    · rw [List.length_erase_of_mem hxL, hl, List.length_cons]
      omega
/-- as many as there are: no two are alike -/
theorem Count.nodup {α : Type} [DecidableEq α] {xs : List α} {n : Nat} (h : Count xs n) : (n = xs.length) ↔ xs.Nodup := by
  obtain ⟨L, nd, mem, rfl⟩ := h
  exact ⟨nodup_count nd mem, fun nx => ((List.perm_ext_iff_of_nodup nd nx).mpr mem).length_eq⟩
end TL
/-! TL53: enumerate(t), t a tuple or a list. -/
namespace TL
open PySem PySem.Spec PyProof.Rows L2
set_option maxHeartbeats 4000000 in
theorem meets_enum1 {v : Value} {o : Obj} {G : Heap → Prop} (Bg : Begins v o G) : Meets (Builtin.«enumerate.__new__» ⟨[.type "enumerate", v], []⟩) (fun _ R s => G s.heap ∧
      R (.ok (.ret (.ref (s.heap.push o).objs.size))) { s with heap := (s.heap.push o).push { cls := .type "enumerate", data := .fields #[.none, .bool false, .ref s.heap.objs.size, rawInt 0, .none, .none] } }) :=
  .of_wp fun prog w A R s h => by
    obtain ⟨hp, g, d, tk, os⟩ := s
    obtain ⟨h1, h⟩ := h
    have hsub := sub_enumerate
    have begun : ∀ {A' : Around} {E Q : Value → Shared → Prop}, Q (.ref hp.objs.size) ⟨hp.push o, g, d, tk, os⟩ → wpAny (model prog w) A' (pyIter v) Q E ⟨hp, g, d, tk, os⟩ :=
      fun q => Bg.iter prog w _ _ ⟨hp, g, d, tk, os⟩ _ h1 q
    wp_walk using begun
    refine wpAny_stack_any fun st => wpAny_pure ?_
    split
    · rename_i c _ _ _ _ _
      cases (c == Value.type "enumerate")
      · wp_walk using begun
        exact ⟨_, rfl, h⟩
      · wp_walk using begun
        exact ⟨_, rfl, h⟩
    · wp_walk using begun
      exact ⟨_, rfl, h⟩
section
variable {prog : Program} {w : World} {A : Around} {E : Value → Shared → Prop} {s : Shared}
/-- enumerate(v) -/
theorem enum1_begins {v : Value} {o : Obj} {G : Heap → Prop} {Q : Value → Shared → Prop} (Bg : Begins v o G) (h1 : G s.heap)
    (k : ∀ h', IsEnum h' (s.heap.objs.size + 1) s.heap.objs.size 0 .none → h'.get? s.heap.objs.size = some o → (∀ b o, s.heap.get? b = some o → h'.get? b = some o) → Q (.ref (s.heap.objs.size + 1)) { s with heap := h' }) :
    wpAny (model prog w) A (call (.type "enumerate") [v]) Q E s := by
  refine callType_new F.called_enumerate (by decide) (F.typeCall_enumerate_1 _) (F.newCall_enumerate_1 _) (fun ob => F.args_object_init_2 ob _) F.entry_enumerate_new (meets_enum1 Bg) ⟨h1, ?_⟩
  have sz : (s.heap.push o).objs.size = s.heap.objs.size + 1 := Heap.size_push ..
  show _ ∧ _
  rw [sz]
  have he : IsEnum ((s.heap.push o).push { cls := .type "enumerate", data := .fields #[.none, .bool false, .ref s.heap.objs.size, rawInt 0, .none, .none] }) (s.heap.objs.size + 1) s.heap.objs.size 0 .none := by
    have := Heap.get?_push_size (s.heap.push o) (o := { cls := .type "enumerate", data := .fields #[.none, .bool false, .ref s.heap.objs.size, rawInt 0, .none, .none] }) rfl
    rwa [sz] at this
  exact ⟨⟨_, he, rfl⟩, k _ he (Heap.get?_push_of_some _ (Heap.get?_push_size _ Bg.free)) fun b ob x => Heap.get?_push_of_some _ (Heap.get?_push_of_some _ x)⟩
end
/-- the tuple at a, each item in a new pair -/
def IteT (K : PySem.W.Frag) (a : Addr) : It :=
  ⟨fun i H => ∃ (xs : List V) (x : V), SqT K H a xs ∧ xs[i]? = some x, fun i H v H' => ∃ T x, v = .ref T ∧ H T = none ∧ H' = upd H T (.tup [.int (i : Nat), x]) ∧ ∀ xs, SqT K H a xs → xs[i]? = some x, fun i H => ∃ xs : List V, SqT K H a xs ∧ i = xs.length⟩
theorem turn_enumT {P : Program} {w : World} {K : PySem.W.Frag} {elts : List Expr} {kk : Nat} {tpos : Pos} {a e it : Addr} (na : a ≠ it) (nae : a ≠ e) :
    Turn P w K (.Tuple elts kk tpos) (IteT K a) [e, it] e (fun i h => (∃ old, IsEnum h e it ((i : Nat) : Int) old) ∧ h.IsTupleIter it a i ∧ e ≠ it) where
  mem := by simp
  obj := fun i h st b hb => by
    obtain ⟨⟨old, he⟩, ⟨o, ho, _, hd⟩, _⟩ := st
    simp only [List.mem_cons, List.not_mem_nil, or_false] at hb
    rcases hb with rfl | rfl
    · exact ⟨_, he, fun v q => nomatch q⟩
    · exact ⟨o, ho, fun v q => by rw [hd] at q; cases q⟩
  keep := fun i h h' st k => let ⟨⟨old, he⟩, hi, hne⟩ := st; ⟨⟨old, k e (by simp) _ he⟩, hi.at fun o q => k it (by simp) o q, hne⟩
  item := by
    intro X hP hw hK hc i pins s σ H E I hf st hg
    subst hP hw hK
    obtain ⟨⟨old, he⟩, hit, hne⟩ := st
    obtain ⟨xs, x, hq, hx⟩ := hg
    obtain ⟨its, rv, p, hz⟩ := I.tuple hq
    obtain ⟨u, hu, ru⟩ := rv.get hx
    have lte : e < s.heap.objs.size := Heap.lt_size he
    have lti : it < s.heap.objs.size := by obtain ⟨_, q, _⟩ := hit; exact Heap.lt_size q
    have quiet : X.A.in1.handled = none := I.ok.hd hc
    have il := (List.getElem?_eq_some_iff.mp hu).1
    refine wpAny_pyNext_enum_itemD (Draws.tuple quiet it a na its.toArray) he ⟨hit, p⟩ (by simpa using il) hne (by simp [hne, Ne.symm nae]) fun y h' tk hy ho st' hT hsz hk => ?_
    have ey : y = u := by
      rw [show its.toArray[i]? = its[i]? by simp, hu] at hy
      exact (Option.some.inj hy).symm
    subst ey
    obtain ⟨hit', _⟩ := st'
    refine ⟨_, rfl, wpAny_letOwnedTupleGo_enum (s := { s with heap := h', toks := tk + 1 }) ho fun h'' he' sb => ?_⟩
    have hT2 : h''.get? s.heap.objs.size = some { cls := .type "tuple", data := .seq #[.int i tk, y] } := (sb.2 _ (Nat.ne_of_gt lte)).trans hT
    have new : ObjOk X.prog X.w (upd H s.heap.objs.size (.tup [.int (i : Nat), x])) h'' s.heap.objs.size (.tup [.int (i : Nat), x]) :=
      ⟨by show 2 ≤ sizeLine; decide, [.int i tk, y], .cons ⟨_, rfl⟩ (.cons ru .nil), ⟨_, hT2, rfl, _, rfl⟩⟩
    have I1 : Inv X pins σ (upd H s.heap.objs.size (.tup [.int (i : Nat), x])) { s with heap := h'', toks := tk + 1 } :=
      I.turnedNew (ch := [e, it]) (fun b ob hb q => (sb.2 b (fun z => hb (by simp [z]))).trans (hk b ob (fun z => hb (by simp [z])) (fun z => hb (by simp [z])) q)) hf (Nat.le_refl _) new
    refine ⟨.ref s.heap.objs.size, _, I1, rfl, ⟨_, x, rfl, I.hok.fresh (Nat.le_refl _), rfl, fun ys hy => by rw [I.tuple_inj hy hq]; exact hx⟩, ⟨⟨y, ?_⟩, hit'.at fun o q => (sb.2 it (Ne.symm hne)).trans q, hne⟩, fun b hb => ?_⟩
    · rw [show ((i + 1 : Nat) : Int) = (i : Int) + 1 by omega]
      exact he'
    · have lt : b < s.heap.objs.size := by
        simp only [List.mem_cons, List.not_mem_nil, or_false] at hb
        rcases hb with rfl | rfl
        · exact lte
        · exact lti
      rw [upd_ne (Nat.ne_of_lt lt)]
      exact (hf b hb).1
  done := by
    intro X hP hw hK hc i pins s σ H E I hf st hg
    subst hP hw hK
    obtain ⟨⟨old, he⟩, hit, hne⟩ := st
    obtain ⟨xs, hq, hx⟩ := hg
    obtain ⟨its, rv, p, hz⟩ := I.tuple hq
    obtain ⟨f0, f1, f2, f3, f4, f5⟩ := hf it (by simp)
    have quiet : X.A.in1.handled = none := I.ok.hd hc
    have ei : i = its.toArray.size := by rw [hx, List.size_toArray, rv.length]
    subst ei
    exact wpAny_pyNext_enum_endD (Draws.tuple quiet it a na its.toArray) he ⟨hit, p⟩ fun h' eb => ⟨rfl, I.turned (t' := s.toks) (fun b o hb q => eb b o hb q) f0 f1 f3 f4 f5⟩
  self := fun A i s Q E st h => let ⟨⟨_, he⟩, _⟩ := st; wpAny_pyIter_enum he h
section
variable {X : Cx} {a : Expr} {elts : List Expr} {kk : Nat} {tpos p pos : Pos} {Γ Γ1 : Sl} {ta : TA} {d : PyData} {ds : List PyData}
def iEnumA (K : PySem.W.Frag) (ta : TA) : TI := fun σ H R => ta σ H fun vs H1 => ∃ b xs, vs = [.ref b] ∧ ((SqL K H1 b xs ∧ R (Ite K b) H1) ∨ (SqT K H1 b xs ∧ R (IteT K b) H1))
theorem pi_enumA (hg : Gl X "enumerate") (hm : X.mg "enumerate" = none) (ha : PA X [a] ta) (hs : starEach [a] X.env = [(false, eval a X.env)] := by rfl) : PI X (.Tuple elts kk tpos) (.Call (.Name "enumerate" p) [a] [] pos) (iEnumA X.K ta) := by
  refine ⟨fun pins s σ H R I h => ?_⟩
  refine Call_ (ld_blt I hg hm boot_enumerate (PyProof.Rows.callWith_type1 (thn (ha.run pos pins s σ H _ I h) fun us s1 ⟨vs, H1, I1, r1, q1⟩ => ?_) hs rfl))
  obtain ⟨b, xs, rfl, q⟩ := q1
  cases r1 with
  | cons r rr =>
    cases rr
    cases r
    have fresh : ∀ q, q ∈ [s1.heap.objs.size + 1, s1.heap.objs.size] → FpOk X pins H1 q := fun q hq => by
      have hle : s1.heap.objs.size ≤ q := by
        simp only [List.mem_cons, List.not_mem_nil, or_false] at hq
        rcases hq with rfl | rfl
        · exact Nat.le_add_right _ _
        · exact Nat.le_refl _
      exact I1.fpOk hle (I1.hok.fresh hle)
    rcases q with ⟨hq, q⟩ | ⟨hq, q⟩
    · obtain ⟨its, rv, p', hz⟩ := I1.list hq
      refine enum1_begins (begins_list b its.toArray) p'.isList fun h' he hit hk => wpAny_pyIter_enum he ?_
      exact ⟨s1.heap.objs.size + 1, [s1.heap.objs.size + 1, s1.heap.objs.size], _, _, H1, rfl, I1.kept (t' := s1.toks) hk, turn_enum b (s1.heap.objs.size + 1) s1.heap.objs.size, ⟨⟨.none, he⟩, ⟨_, hit, rfl, rfl⟩, Nat.succ_ne_self _⟩, fresh, q⟩
    · obtain ⟨its, rv, p', hz⟩ := I1.tuple hq
      have lt : b < s1.heap.objs.size := by obtain ⟨o, ho, _⟩ := id p'; exact Heap.lt_size ho
      refine enum1_begins (begins_tuple b its.toArray) p' fun h' he hit hk => wpAny_pyIter_enum he ?_
      exact ⟨s1.heap.objs.size + 1, [s1.heap.objs.size + 1, s1.heap.objs.size], _, _, H1, rfl, I1.kept (t' := s1.toks) hk, turn_enumT (Nat.ne_of_lt lt) (Nat.ne_of_lt (Nat.lt_succ_of_lt lt)), ⟨⟨.none, he⟩, ⟨_, hit, rfl, rfl⟩, Nat.succ_ne_self _⟩, fresh, q⟩
theorem walk_enumT {K : PySem.W.Frag} {b : Addr} {xs : List V} : Walk (IteT K b) xs.length (fun H => SqT K H b xs) (YPair (fun i => some (.int (i : Nat))) (fun i => xs[i]?)) := by
  refine ⟨fun i _ hi q => ⟨xs, xs[i], q, by simp [hi]⟩, fun _ q => ⟨xs, q, rfl⟩, fun i H v H' _ q y => ?_⟩
  obtain ⟨T, x, h1, h2, h3, h4⟩ := y
  exact ⟨T, .int (i : Nat), x, h1, h2, h3, rfl, h4 xs q⟩
/-- the pairs that enumerate gives -/
def enumD (ds : List PyData) : List PyData := List.zipWith (fun d e => PyData.tuple [d, e]) (rangeD 0 ds.length) ds
theorem isit_enum {T : TC} {I : Hp} {J : It} {vs : List V} {G : Hp → Prop} (w : Walk J vs.length G (YPair (fun i => some (.int (i : Nat))) (fun i => vs[i]?))) (hG : ∀ I' H, Same I I' → Same I' H → G H) (r : RpL T I vs ds) : IsIt T J (enumD ds) I := by
  have w2 : Walk J vs.length G (YPair (fun i => if i < vs.length then some (.int (i : Nat)) else none) (fun i => vs[i]?)) := ⟨w.goes, w.stops, fun i H v H' hi hg y => by
    obtain ⟨t, x, z, e1, e2, e3, e4, e5⟩ := w.yields i H v H' hi hg y
    exact ⟨t, x, z, e1, e2, e3, by show (if i < vs.length then some (V.int (i : Nat)) else none) = some x; rw [if_pos hi]; exact e4, e5⟩⟩
  refine isit_pairs w2 hG (by rw [rangeD_len, r.length]) r.length.symm (fun i v e => ?_) fun i v e => r.get' e
  replace e : (if i < vs.length then some (V.int (i : Nat)) else none) = some v := e
  split at e
  · rename_i hi
    cases e
    rw [r.length] at hi
    refine ⟨.int (0 + (i : Nat)), ?_, by rw [Int.zero_add]; exact .int _⟩
    unfold rangeD
    rw [List.getElem?_map, List.getElem?_range hi]
    rfl
  · cases e
theorem xi_enum (B : Blt X.mg) (ha : XE X a Γ (.da d) Γ1) (hd : d = .list ds ∨ d = .tuple ds := by first | exact .inl rfl | exact .inr rfl) (hg : Gl X "enumerate" := by rfl) (hs : starEach [a] X.env = (false, eval a X.env) :: starEach [] X.env := by rfl) (hs2 : starEach [a] X.env = [(false, eval a X.env)] := by rfl) :
    XI X (.Tuple elts kk tpos) (.Call (.Name "enumerate" p) [a] [] pos) Γ (enumD ds) Γ1 := fun Ψ hq I H σ F en R k => by
  refine ⟨_, pi_enumA hg B.enumerate wpA_ok hs2, wa_data (xa1 ha hs) en fun I1 H1 vs F1 r st1 en1 => ?_⟩
  obtain ⟨v, rfl, hv⟩ := rpL1 r
  rcases hd with rfl | rfl
  · cases hv with
    | lst q1 r1 => exact ⟨_, _, rfl, .inl ⟨en1.sub.seq q1, k _ _ I1 H1 F1 _ hq st1 en1 (isit_enum walk_enum (fun I' H' s s' => (s.trans s').seq q1) r1)⟩⟩
  · cases hv with
    | tup q1 r1 => exact ⟨_, _, rfl, .inr ⟨sqT_mono en1.sub q1, k _ _ I1 H1 F1 _ hq st1 en1 (isit_enum walk_enumT (fun I' H' s s' => sqT_mono (s.trans s') q1) r1)⟩⟩
end
/-- .. of a typed list -/
def enumN {α : Type} (xs : List α) : List (Nat × α) := (List.range xs.length).zip xs
theorem enumD_map {α : Type} {E : α → PyData} {xs : List α} : enumD (xs.map E) = (enumN xs).map fun p => .tuple [.int (p.1 : Nat), E p.2] := by
  have e : rangeD 0 (xs.map E).length = (List.range xs.length).map fun (i : Nat) => PyData.int i := by
    unfold rangeD
    rw [List.length_map]
    exact List.map_congr_left fun i _ => by rw [Int.zero_add]
  unfold enumD
  rw [e, zipW_map]
  rfl
theorem enumN_at {α : Type} {xs : List α} {n : Nat} {p : Nat × α} (h : (enumN xs)[n]? = some p) : p.1 = n ∧ xs[n]? = some p.2 := by
  unfold enumN at h
  rw [List.getElem?_zip_eq_some] at h
  obtain ⟨h1, h2⟩ := h
  have := (List.getElem?_eq_some_iff.mp h1).1
  rw [List.length_range] at this
  rw [List.getElem?_range this] at h1
  exact ⟨(Option.some.inj h1).symm, h2⟩
theorem enumN_len {α : Type} {xs : List α} : (enumN xs).length = xs.length := by simp [enumN]
theorem enumN_mem {α : Type} {xs : List α} {p : Nat × α} (h : p ∈ enumN xs) : xs[p.1]? = some p.2 := by
  obtain ⟨n, hn⟩ := List.getElem?_of_mem h
  obtain ⟨h1, h2⟩ := enumN_at hn
  rw [h1]
  exact h2
theorem mem_enumN {α : Type} {xs : List α} {i : Nat} {x : α} (h : xs[i]? = some x) : (i, x) ∈ enumN xs := by
  have hl := (List.getElem?_eq_some_iff.mp h).1
  refine List.mem_of_getElem? (i := i) ?_
  unfold enumN
  rw [List.getElem?_zip_eq_some]
  exact ⟨List.getElem?_range hl, h⟩
section
variable {X : Cx} {a : Expr} {elts : List Expr} {kk : Nat} {tpos p pos : Pos} {Γ Γ1 : Sl} {α : Type} {E : α → PyData} {xs : List α}
theorem xi_enumT (B : Blt X.mg) (ha : XE X a Γ (.da (.tuple (xs.map E))) Γ1) (hg : Gl X "enumerate" := by rfl) (hs : starEach [a] X.env = (false, eval a X.env) :: starEach [] X.env := by rfl) (hs2 : starEach [a] X.env = [(false, eval a X.env)] := by rfl) :
    XI X (.Tuple elts kk tpos) (.Call (.Name "enumerate" p) [a] [] pos) Γ ((enumN xs).map fun p => .tuple [.int (p.1 : Nat), E p.2]) Γ1 := by
  rw [← enumD_map]
  exact xi_enum B ha (.inr rfl) hg hs hs2
theorem xi_enumL (B : Blt X.mg) (ha : XE X a Γ (.da (.list (xs.map E))) Γ1) (hg : Gl X "enumerate" := by rfl) (hs : starEach [a] X.env = (false, eval a X.env) :: starEach [] X.env := by rfl) (hs2 : starEach [a] X.env = [(false, eval a X.env)] := by rfl) :
    XI X (.Tuple elts kk tpos) (.Call (.Name "enumerate" p) [a] [] pos) Γ ((enumN xs).map fun p => .tuple [.int (p.1 : Nat), E p.2]) Γ1 := by
  rw [← enumD_map]
  exact xi_enum B ha (.inl rfl) hg hs hs2
end
end TL
/-! TL54: xs.count(x) of data; own things within own lists: xs[b].append(e), f(a, xs[b], ..). -/
namespace TL
open PySem PySem.Spec PyProof.Rows L2
end TL
/-! TL55: zip of a tuple and a list. -/
namespace TL
open PySem PySem.Spec PyProof.Rows L2
end TL
/-! TL56: tuple(range(n)), list(range(n)) of numbers; the marks' numbering. -/
namespace TL
open PySem PySem.Spec PyProof.Rows L2
theorem rangeD_nat (n : Nat) : rangeD 0 n = ilist (List.range n) := List.map_congr_left fun i _ => by rw [Int.zero_add]
section
variable {X : Cx} {a : Expr} {Γ Γ1 : Sl} {p p2 pos cpos : Pos}
theorem xe_listRgN (B : Blt X.mg) (hc : X.calm = true) {n : Nat} (ha : XE X a Γ (.da (.int (n : Nat))) Γ1) (hn : n ≤ 16777216) (hg : Gl X "list" := by rfl) (hgr : Gl X "range" := by rfl) (na : starEach [a] X.env = (false, eval a X.env) :: starEach [] X.env := by rfl)
    (na2 : starEach [.Call (.Name "range" p2) [a] [] cpos] X.env = (false, eval (.Call (.Name "range" p2) [a] [] cpos) X.env) :: starEach [] X.env := by rfl) :
    XE X (.Call (.Name "list" p) [.Call (.Name "range" p2) [a] [] cpos] [] pos) Γ (.ll (ilist (List.range n))) Γ1 := by
  rw [← rangeD_nat]
  exact xe_listRg1 B hc ha (by omega) (by omega) hg hgr na na2
end
end TL
/-! TL57: y = [.. if c], the test drawn. -/
namespace TL
open PySem PySem.Spec PyProof.Rows L2
end TL
namespace TL
end TL
/-! TL58: lambda row: (len(row), row), called. -/
namespace TL
open PySem PySem.Spec PyProof.Rows L2
end TL
/-! TL59: a def's table of code objects as a hidden own thing; sorted(xs, key=lambda row: (len(row), row)). -/
namespace TL
open PySem PySem.Spec PyProof.Rows L2
/-! ### the table, owned -/
end TL
/-! TL60: sorted(xs, key=lambda row: (len(row), row)), xs a list of tuples of numbers. -/
namespace TL
open PySem PySem.Spec PyProof.Rows L2
end TL
/-! TL61: the law's call where one def of the program holds a lambda; defs whose code object is known. -/
namespace TL
open PySem PySem.Spec PyProof.Rows L2
end TL
namespace TL
open PySem PySem.Spec PyProof.Rows L2
/-! ### a def whose code object is known -/
end TL
/-! TL62: zip of a list and a tuple. -/
namespace TL
open PySem PySem.Spec PyProof.Rows L2
end TL
/-! TL63: sorted of a list of one item, whatever it is. -/
namespace TL
open PySem PySem.Spec PyProof.Rows L2
end TL
/-! TL64: x is None, data. -/
namespace TL
open PySem PySem.Spec PyProof.Rows L2
def isN : PyData → Bool
  | .none => true
  | _ => false
theorem rp_isN {T : TC} {I : Hp} {v : V} {d : PyData} (h : Rp T I v d) : decide (v = .non) = isN d := by cases h <;> first | rfl | (rename_i q; subst q; rfl)
section
variable {X : Cx} {a : Expr} {Γ Γ1 : Sl} {pos p : Pos} {d : PyData} {k : Nat}
theorem o2_isN {T : TC} : Op2 T (fun x y H Q => y = .non ∧ Q (.bl (decide (x = .non))) H) (.da d) (.da .none) (.da (.bool (isN d))) := Op2.pure fun I H v u h1 h2 s Q kk => by
  cases h2
  exact ⟨rfl, by rw [rp_isN h1]; exact kk _ (.bl _)⟩
end
end TL
/-! TL65: the goal that k_head leaves where the text holds a lambda (the hook tells the empty table). -/
namespace TL
open PySem PySem.Spec PyProof.Rows L2
end TL
namespace TL
open PySem PySem.Spec PyProof.Rows L2
end TL
/-! TL66: a < b for tuples whose items can be compared up to the first place that differs. -/
namespace PySem.SeqAt
open AutoSeq1 (wpAny_loadPart')
open MeetsSeq MeetsSeq2 MeetsSeq3 SeqRoads2
end PySem.SeqAt
/-! TL67: a < b for data that can be compared up to the first place that differs; sorted of tuples of which the first one is (). -/
namespace TL
open PySem PySem.Spec PyProof.Rows L2
mutual
/-- can be compared by < -/
def cmpb : PyData → PyData → Bool
  | .int _, .int _ => true
  | .str _, .str _ => true
  | .tuple xs, .tuple ys => cmpAll xs ys
  | _, _ => false
def cmpAll : List PyData → List PyData → Bool
  | x :: xs, y :: ys => if PyData.eqv x y = true then cmpAll xs ys else cmpb x y
  | [], _ => true
  | _ :: _, [] => true
end
mutual
/-- less, as Python has it -/
def ltd : PyData → PyData → Bool
  | .int i, .int j => decide (i < j)
  | .str x, .str y => decide (x.cps.toList < y.cps.toList)
  | .tuple xs, .tuple ys => ltAll xs ys
  | _, _ => false
def ltAll : List PyData → List PyData → Bool
  | x :: xs, y :: ys => if PyData.eqv x y = true then ltAll xs ys else ltd x y
  | [], y :: _ => true
  | [], [] => false
  | _ :: _, [] => false
end
end TL
/-! TL68: sorted of tuples, the first one (), where the answer is known; a < b of such data. -/
namespace TL
open PySem PySem.Spec PyProof.Rows L2
end TL
/-! TL69: sorted(xs), xs tuples that can be compared, the first one (); x < y. -/
namespace TL
open PySem PySem.Spec PyProof.Rows L2
structure SrtC (ds S : List PyData) : Prop where
  plain : PyData.plainAll ds = true
  len : ds.length ≤ sizeLine
  depth : ∀ d ∈ ds, d.depth ≤ 60
  tup : ∀ d ∈ ds, ∃ xs, d = .tuple xs
  head : ds.head? = some (.tuple [])
  perm : S.Perm ds
  cmp : ∀ x ∈ ds, ∀ y ∈ ds, cmpb x y = true
  ord : ∀ (i j : Nat) (x y : PyData), S[i]? = some x → S[j]? = some y → ltd x y = decide (i < j)
theorem SrtC.nodup {ds S : List PyData} (h : SrtC ds S) : S.Nodup := by
  refine List.pairwise_iff_getElem.mpr fun i j hi hj hij e => ?_
  have h1 := h.ord i j _ _ (List.getElem?_eq_getElem hi) (List.getElem?_eq_getElem hj)
  have h2 := h.ord j i _ _ (List.getElem?_eq_getElem hj) (List.getElem?_eq_getElem hi)
  rw [e] at h1 h2
  rw [h1] at h2
  have a : decide (i < j) = true := decide_eq_true hij
  have b : decide (j < i) = false := decide_eq_false (by omega)
  rw [a, b] at h2
  cases h2
end TL
/-! TL70: texts: len, index, slices, walk, comparison, in, +, split, str(int); constants of the module; list * n; sum; reversed walks. -/
namespace TL
open PySem PySem.Spec PyProof.Rows L2
section
variable {X : Cx} {a b c e it tg : Expr} {Γ Γ1 Γ2 Γ3 : Sl} {pos p p2 apos : Pos} {s t u nm : Str} {d : PyData} {ds : List PyData}
/-! ### texts -/
/-- one sign -/
abbrev sgn (c : Nat) : PyData := .str ⟨#[c]⟩
/-- s[j] -/
theorem xe_ixStr {j : Int} {c : Nat} (ha : XE X a Γ (.da (.str s)) Γ1) (hb : XE X b Γ1 (.da (.int j)) Γ2) (hl : s.length ≤ sizeLine) (hj : atI s.cps.toList j = some c) (hs : PlainIx b := by exact fun _ _ => rfl) : XE X (.Subscript a b pos) Γ (.da (sgn c)) Γ2 := fun Ψ hq I H σ F en Q k =>
  ⟨_, pe_ix ix_seq wpE_ok wpE_ok hs, two_core (ha _ (hb _ ⟨.da (sgn c), Op2.pure fun I H v u h1 h2 _ Q k => by
    cases h2
    cases h1
    exact .inr (.inr ⟨s, j, c, rfl, rfl, hl, hj, k _ (.str _)⟩), hq⟩)) I H σ F en Q k⟩
/-- s[lo:hi] -/
theorem xe_sliceStr {lo hi : Option Expr} {l u : Option Int} (ha : XE X a Γ (.da (.str s)) Γ1) (h1 : XO X lo Γ1 l Γ2) (h2 : XO X hi Γ2 u Γ3) (hl : s.length ≤ sizeLine) : XE X (.Subscript a (.Slice lo hi none p2) pos) Γ (.da (.str (cutS s l u))) Γ3 := fun Ψ hq I H σ F en Q k => by
  refine ⟨_, pe_slice sl_str wpE_ok wpO_ok wpO_ok, ha (fun r Γ' => r = .da (.str s) ∧ Γ' = Γ1) ⟨rfl, rfl⟩ I H σ F en _ ?_⟩
  rintro _ Γ1' I1 H1 v F1 ⟨rfl, e1⟩ st1 en1
  subst e1
  obtain ⟨B, G, rfl, o, en1', _⟩ := en1.pop
  cases o with
  | da o =>
    refine h1.go en1' _ fun I2 H2 F2 st2 en2 => h2.go en2 _ fun I3 H3 F3 st3 en3 => ?_
    cases o
    have st := (st1.trans st2).trans st3
    exact ⟨s, rfl, hl, k _ _ I3 H3 _ _ hq st (en3.da (.str _))⟩
/-! comparisons -/
def strLe (s t : Str) : Bool := !decide (t.cps.toList < s.cps.toList)
def strLt (s t : Str) : Bool := decide (s.cps.toList < t.cps.toList)
/-! in -/
/-! + -/
theorem xe_addStr (ha : XE X a Γ (.da (.str s)) Γ1) (hb : XE X b Γ1 (.da (.str t)) Γ2) (hl : s.length + t.length ≤ sizeLine) : XE X (.BinOp a .Add b pos) Γ (.da (.str (s ++ t))) Γ2 :=
  xe_bin op_add_str (Op2.pure fun I H v u h1 h2 _ Q k => by
    cases h1
    cases h2
    exact ⟨s, t, rfl, rfl, hl, k _ (.str _)⟩) ha hb
/-- str(i) -/
theorem xe_strInt (B : Blt X.mg) {i : Int} (ha : XE X a Γ (.da (.int i)) Γ1) (hi : i.natAbs.log2 < 1920) (hg : Gl X "str" := by rfl) (he : starEach [a] X.env = (false, eval a X.env) :: starEach [] X.env := by rfl) (hpl : (backTo pos (starEach [] X.env)).any (·.1) = false := by rfl) :
    XE X (.Call (.Name "str" p) [a] [] pos) Γ (.da (.str (toString i))) Γ1 := xe_callTy1 call_str_int (OpL.pure (ds := [.int i]) fun I H vs r _ Q k => by
      obtain ⟨v, rfl, h⟩ := rpL1 r
      cases h
      exact ⟨i, rfl, hi, k _ (.str _)⟩) hg B.str (by decide +kernel) ha (he := he) (hpl := hpl)
/-! ### constants of the module -/
/-- a constant of the module's top that is data -/
def DKV (K : PySem.W.Frag) (nm : Str) (d : PyData) : Prop := ∃ (u : Value) (v : V), PySem.W.nsIn K mainGlobals nm = some (some u) ∧ RelV v u ∧ ∀ (T : TC) (I : Hp), T.K = K → Rp T I v d
def GlD (X : Cx) (nm : Str) (d : PyData) : Prop := ∃ (u : Value) (v : V), X.mg nm = some u ∧ RelV v u ∧ ∀ I, Rp X.tc I v d
theorem xe_globD (hm : GlD X nm d) (hg : Gl X nm := by rfl) (hdb : (nm == ("__debug__" : Str)) = false := by decide) : XE X (.Name nm p) Γ (.da d) Γ := fun Ψ hq => by
  obtain ⟨u, v, hm, r, h⟩ := hm
  exact we_const h (pe_glob (v := v) hg hm r hdb) hq
/-! ### list * n, sum -/
theorem xe_sum (B : Blt X.mg) (hc : X.calm = true) {ns : List Int} (ha : XE X a Γ (.da (.list (ns.map .int))) Γ1) (hg : Gl X "sum" := by rfl) (he : starEach [a] X.env = (false, eval a X.env) :: starEach [] X.env := by rfl) (hpl : (backTo pos (starEach [] X.env)).any (·.1) = false := by rfl) :
    XE X (.Call (.Name "sum" p) [a] [] pos) Γ (.da (.int ns.sum)) Γ1 := xe_callB1 (cr_sum hc) (OpL.pure (ds := [.list (ns.map .int)]) fun I H vs r s Q k => by
      obtain ⟨v, rfl, h⟩ := rpL1 r
      cases h with
      | @lst q vs _ hq r =>
        rw [vs_ints r] at hq
        exact ⟨q, ns, rfl, s.seq hq, k _ (.int _)⟩) hg B.sum (by decide +kernel) ha (he := he) (hpl := hpl)
end
end TL
/-! TL71: len(set(xs)), xs texts; walks of reversed lists and tuples; tuple(reversed(xs)). -/
namespace TL
open PySem PySem.Spec PyProof.Rows L2
end TL
/-! TL72: name op= e; wide products and quotients. -/
namespace TL
open PySem PySem.Spec PyProof.Rows L2
section
variable {X : Cx} {a b e : Expr} {Γ Γ1 Γ2 : Sl} {Φ : Out → Prop} {rest : List Stmt} {pos p : Pos} {nm : Str} {d d' g : PyData} {i j : Int} {wr : R2}
theorem iop_mulW : OpR X (inplaceOp .Mult) (rI CMulW fun i j => .int (i * j)) := opI fun _ _ _ _ _ _ _ hc q => imul_int q hc.ok
/-- x op= e, x data -/
theorem xs_aug {op : Operator} (n : Nat) (hN : X.N.Nodup) (ho : OpR X (inplaceOp op) wr) (q : Op2 X.tc wr (.da d) (.da d') (.da g)) (h : XE X e Γ (.da d') Γ) (hr : WSs X rest (Γ.set n (some (.da g))) Φ) (hx : Γ[n]? = some (some (.da d)) := by rfl) (hi : X.N[n]? = some nm := by rfl) (hv : Loc X.env.scope nm := by first | exact Or.inl rfl | exact Or.inr rfl)
    (hl : Nat.blt n Γ.length = true := by rfl) (hf : X.fn nm = true ∨ X.env.scope.names.lookup nm = some .local := by first | exact .inl rfl | exact .inr rfl) : WSs X (.AugAssign (.Name nm p) op e pos :: rest) Γ Φ := fun I H σ F en D ek => by
  obtain ⟨v, B0, ev, ov⟩ := en.see hx
  refine ⟨_, pss_cons (ps_aug hN hi hv wpE_ok ho hf) wpSs_ok, v, ev, h (fun r Γ' => r = .da d' ∧ Γ' = Γ) ⟨rfl, rfl⟩ I H σ F en _ ?_⟩
  rintro _ _ I1 H1 u F1 ⟨rfl, rfl⟩ st1 en1
  obtain ⟨B, G, rfl, ou, en2, _⟩ := en1.pop
  cases ov with
  | da rv =>
    cases ou with
    | da ru =>
      refine q I1 H1 v u _ (.cons (.da (rv.mono st1.inc)) (.cons (.da ru) .nil)) (by simp) en2.sub _ fun I2 H2 z B' st2 oz nd2 sub2 => ?_
      cases oz with
      | da rz =>
        obtain ⟨en3, st3⟩ := en2.grow (by simpa using st2) sub2
        obtain ⟨F2, en4, m2⟩ := (en3.da rz).store (i := n) (Nat.le_of_ble_eq_true hl)
        exact hr I2 H2 _ F2 en4 D (ek.step (step_sub (st1.trans st3) m2))
theorem xs_augMul (n : Nat) (hN : X.N.Nodup) (hc : CMulW i j) (h : XE X e Γ (.da (.int j)) Γ) (hr : WSs X rest (Γ.set n (some (.da (.int (i * j))))) Φ) (hx : Γ[n]? = some (some (.da (.int i))) := by rfl) (hi : X.N[n]? = some nm := by rfl) (hv : Loc X.env.scope nm := by first | exact Or.inl rfl | exact Or.inr rfl)
    (hl : Nat.blt n Γ.length = true := by rfl) (hf : X.fn nm = true ∨ X.env.scope.names.lookup nm = some .local := by first | exact .inl rfl | exact .inr rfl) : WSs X (.AugAssign (.Name nm p) .Mult e pos :: rest) Γ Φ := xs_aug n hN iop_mulW (o2_I hc fun _ => .int _) h hr hx hi hv hl hf
theorem xe_mulW (hc : CMulW i j) (ha : XE X a Γ (.da (.int i)) Γ1) (hb : XE X b Γ1 (.da (.int j)) Γ2) : XE X (.BinOp a .Mult b pos) Γ (.da (.int (i * j))) Γ2 := xe_bin op_mulW (o2_I hc fun _ => .int _) ha hb
end
end TL
/-! TL73: a comprehension over range(n), n drawn, whose turns change own things in slots. -/
namespace TL
open PySem PySem.Spec PyProof.Rows L2
end TL
/-! TL74: a comprehension over a drawn walk, each answer as its item says; tuple(xs) of drawn lists, no dict. -/
namespace TL
open PySem PySem.Spec PyProof.Rows L2
section
variable {X : Cx} {k : Nat} {scope : Scope} {it tg elt : Expr} {Γ : Sl} {Ψ : OD → Sl → Prop} {pos : Pos} {α β : Type}
theorem we_lcWP (own : List (Str × Nat)) (u : α → Sl → Sl) (E : α → PyData) (F : β → PyData) (P : List α → Prop) (Pv : α → β → Prop) (fx : Fr X k) (h : WI X tg it Γ fun ds Γ1 => Γ1 = Γ ∧ ∃ xs : List α, P xs ∧ ds = xs.map E ∧ xs.length ≤ sizeLine)
    (hg : ∀ xs x, P xs → x ∈ xs → GB X scope own tg (E x) Γ (u x Γ)) (he : ∀ xs x, P xs → x ∈ xs → ∀ s H C cl fp, WE (Blk X scope s H C cl fp) elt (u x Γ) fun r Γ' => ∃ b, Frz r (F b) ∧ Pv x b ∧ Γ' = u x Γ)
    (hq : ∀ (xs : List α) (bs : List β), P xs → bs.length = xs.length → (∀ (i : Nat) (x : α) (b : β), xs[i]? = some x → bs[i]? = some b → Pv x b) → Ψ (.ll (bs.map F)) Γ)
    (hd3 : ∀ x, dropΓ (own.map (·.2)) (u x Γ) = Γ := by intro x; rfl) (hd : dropΓ (own.map (·.2)) Γ = Γ := by rfl) (ok : blkC X.N X.env.scope scope own = true := by rfl) (hs : ∀ x, foldedSetIterable it X.env x = pure x := by intro _; rfl) : WE X (.ListComp elt [⟨tg, it, [], 0⟩] scope pos) Γ Ψ := by
  refine we_lc own (fun ds n Γ' acc => ∃ (xs : List α) (bs : List β), P xs ∧ ds = xs.map E ∧ Γ' = Γ ∧ acc = bs.map F ∧ bs.length = n ∧ ∀ (i : Nat) (x : α) (b : β), xs[i]? = some x → bs[i]? = some b → Pv x b) fx.calm fx.nd ?_ ok hs
  intro I H σ F1 en R' k'
  refine h I H σ F1 en R' fun ds Γ1 I1 H1 F2 J ⟨e1, xs, hp, hds, hsz⟩ st1 en1 => k' ds Γ1 I1 H1 F2 J ⟨by rw [hds, List.length_map]; exact hsz, ⟨xs, [], hp, hds, by rw [e1]; exact hd, rfl, rfl, fun i x b _ h2 => by simp at h2⟩, ?_, ?_⟩ st1 en1
  · rintro n d Γ2 acc hn ⟨ys, bs, hp', hds', rfl, rfl, hl, hb⟩
    rw [hds', List.getElem?_map] at hn
    obtain ⟨x, hx, rfl⟩ := Option.map_eq_some_iff.mp hn
    have hm := List.mem_of_getElem? hx
    refine ⟨u x _, hg ys x hp' hm, fun k Γ4 => k = true ∧ Γ4 = u x _, fun s H C cl fp => wts_nil ⟨rfl, rfl⟩, ?_⟩
    rintro k Γ4 ⟨rfl, rfl⟩
    refine ⟨fun _ s H C cl fp => (he ys x hp' hm s H C cl fp).mono fun r Γ5 ⟨b, fz, pb, e5⟩ => ⟨F b, fz, ys, bs ++ [b], hp', hds', by rw [e5]; exact hd3 x, by simp, by simp [hl], fun i x' b' h1 h2 => ?_⟩, fun q => Bool.noConfusion q⟩
    by_cases hin : i < bs.length
    · rw [List.getElem?_append_left hin] at h2
      exact hb i x' b' h1 h2
    · rw [List.getElem?_append_right (by omega)] at h2
      have hi0 : i - bs.length = 0 := by
        have := (List.getElem?_eq_some_iff.mp h2).1
        simp at this
        omega
      rw [hi0] at h2
      simp at h2
      subst h2
      have : i = n := by omega
      subst this
      rw [hx] at h1
      cases h1
      exact pb
  · rintro Γ2 acc ⟨ys, bs, hp', hds', rfl, rfl, hl, hb⟩
    rw [hd]
    rw [hds', List.length_map] at hl
    exact hq ys bs hp' hl hb
end
/-- tuple(xs), xs a drawn list that is new: the tuple's object holds no dict -/
theorem we_tupN {X : Cx} {a : Expr} {Γ : Sl} {Ψ : OD → Sl → Prop} {p pos : Pos} (B : Blt X.mg) (h : WE X a Γ fun r Γ1 => ∃ ds, r = .ll ds ∧ Ψ (.da (tnD ds)) Γ1) (hg : Gl X "tuple" := by rfl) (he : starEach [a] X.env = (false, eval a X.env) :: starEach [] X.env := by rfl) (hpl : (backTo pos (starEach [] X.env)).any (·.1) = false := by rfl) :
    WE X (.Call (.Name "tuple" p) [a] [] pos) Γ Ψ := we_callTy (wl := rTupN X.tc) call_tupN hg B.tuple PyProof.Rows.boot_tuple (wa_cons (we_frz (h.mono fun r Γ1 ⟨ds, e, q⟩ => ⟨.list ds, e ▸ .ll, wa_nil ⟨_, (rd_tupN .da).opl, q⟩⟩)) he) (he := he) (hpl := hpl)
end TL
/-! TL75: chains of comparisons as values; sorted(t), t a tuple; x not in xs as a value; tuple + tuple of answers. -/
namespace TL
open PySem PySem.Spec PyProof.Rows L2
section
variable {X : Cx} {a b c e : Expr} {Γ Γ1 Γ2 : Sl} {pos p : Pos} {d d' g g2 : PyData} {ds : List PyData} {Ψ : OD → Sl → Prop}
theorem xe_chain {op op' : CmpOp} {wr wr' : R2} {k k' : Bool} (ho : OpR X (compareOp op) wr) (ho' : OpR X (compareOp op') wr') (q : Op2 X.tc wr (.da d) (.da d') (.da (.bool k))) (q' : Op2 X.tc wr' (.da d') (.da g) (.da (.bool k')))
    (ha : XE X a Γ (.da d) Γ) (hb : XE X b Γ (.da d') Γ) (hc : XE X c Γ (.da g) Γ) (hm : lastMarks [op, op'] [b, c] = false := by with_unfolding_all rfl) : XE X (.Compare a [op, op'] [b, c] pos) Γ (.da (.bool (k && k'))) Γ := fun Ψ hq I H σ F en Q kk => by
  refine ⟨_, pe_chain ho ho' wpE_ok wpE_ok wpE_ok hm, ha (fun r Γ' => r = .da d ∧ Γ' = Γ) ⟨rfl, rfl⟩ I H σ F en _ ?_⟩
  rintro _ _ I1 H1 v F1 ⟨rfl, rfl⟩ st1 en1
  obtain ⟨B1, G1, rfl, o1, en1', _⟩ := en1.pop
  cases o1 with
  | da r1 =>
    refine hb (fun r Γ'' => r = .da d' ∧ Γ'' = _) ⟨rfl, rfl⟩ I1 H1 σ G1 en1' _ ?_
    rintro _ _ I2 H2 u F2 ⟨rfl, rfl⟩ st2 en2
    obtain ⟨B2, G2, rfl, o2, en2', _⟩ := en2.pop
    cases o2 with
    | da r2 =>
      have ol : OwnL X.tc I2 H2 [v, u] [.da d, .da d'] ([] ++ ([] ++ [])) := .cons (.da (r1.mono st2.inc)) (.cons (.da r2) .nil)
      refine q I2 H2 v u _ ol (by simp) en2'.sub _ fun I3 H3 w B3 st3 o3 nd3 sub3 => ?_
      cases o3 with
      | da r3 =>
        cases r3
        obtain ⟨en3, st3'⟩ := en2'.grow (by simpa using st3) sub3
        have st123 := (st1.trans st2).trans st3'
        cases k with
        | false => exact ⟨false, rfl, kk _ _ I3 H3 _ _ hq st123 (en3.da (.bl _))⟩
        | true =>
          refine ⟨true, rfl, hc (fun r Γ'' => r = .da g ∧ Γ'' = _) ⟨rfl, rfl⟩ I3 H3 σ G2 en3 _ ?_⟩
          rintro _ _ I4 H4 y F4 ⟨rfl, rfl⟩ st4 en4
          obtain ⟨B4, G4, rfl, o4, en4', _⟩ := en4.pop
          cases o4 with
          | da r4 =>
            have ol2 : OwnL X.tc I4 H4 [u, y] [.da d', .da g] ([] ++ ([] ++ [])) := .cons (.da ((r2.mono st3'.inc).mono st4.inc)) (.cons (.da r4) .nil)
            refine q' I4 H4 u y _ ol2 (by simp) en4'.sub _ fun I5 H5 w5 B5 st5 o5 nd5 sub5 => ?_
            cases o5 with
            | da r5 =>
              obtain ⟨en5, st5'⟩ := en4'.grow (by simpa using st5) sub5
              exact kk _ _ I5 H5 _ _ (by simpa using hq) ((st123.trans st4).trans st5') (en5.da r5)
theorem xe_le_le {i j k : Int} (ha : XE X a Γ (.da (.int i)) Γ) (hb : XE X b Γ (.da (.int j)) Γ) (hc : XE X c Γ (.da (.int k)) Γ) (hm : lastMarks [.LtE, .LtE] [b, c] = false := by with_unfolding_all rfl) :
    XE X (.Compare a [.LtE, .LtE] [b, c] pos) Γ (.da (.bool (decide (i ≤ j) && decide (j ≤ k)))) Γ := xe_chain op_le op_le o2_bl o2_bl ha hb hc hm
theorem xt_or3 {k k2 k3 : Bool} (h : XT X a Γ k Γ) (h2 : k = false → XT X b Γ k2 Γ) (h3 : k = false → k2 = false → XT X c Γ k3 Γ) : XT X (.BoolOp .Or [a, b, c] pos) Γ (k || (k2 || k3)) Γ := fun _ hq =>
  (ww_or (h _ ⟨fun e => by rw [e, Bool.true_or] at hq; exact hq, fun e => ww_or (h2 e _ ⟨fun e2 => by rw [e, e2, Bool.false_or, Bool.true_or] at hq; exact hq, fun e2 => ww_or1 (h3 e e2 _ (by rw [e, e2, Bool.false_or, Bool.false_or] at hq; exact hq))⟩)⟩)).wt
theorem xt_and3 {k k2 k3 : Bool} (h : XT X a Γ k Γ) (h2 : k = true → XT X b Γ k2 Γ) (h3 : k = true → k2 = true → XT X c Γ k3 Γ) : XT X (.BoolOp .And [a, b, c] pos) Γ (k && (k2 && k3)) Γ := fun _ hq =>
  (ww_and (h _ ⟨fun e => ww_and (h2 e _ ⟨fun e2 => ww_and1 (h3 e e2 _ (by rw [e, e2, Bool.true_and, Bool.true_and] at hq; exact hq)), fun e2 => by rw [e, e2, Bool.true_and, Bool.false_and] at hq; exact hq⟩), fun e => by rw [e, Bool.false_and] at hq; exact hq⟩)).wt
/-! sorted(t) -/
end
end TL
/-! TL76: tuple(reversed(t)), t a tuple; x is not None; xs[:e], e drawn. -/
namespace TL
open PySem PySem.Spec PyProof.Rows L2
section
variable {X : Cx} {a b e : Expr} {Γ Γ1 Γ2 : Sl} {pos p p2 cpos : Pos} {d : PyData} {ds : List PyData} {k : Nat} {Ψ : OD → Sl → Prop}
theorem o2_isNotN {T : TC} : Op2 T (fun x y H Q => y = .non ∧ Q (.bl (!decide (x = .non))) H) (.da d) (.da .none) (.da (.bool (!isN d))) := Op2.pure fun I H v u h1 h2 s Q kk => by
  cases h2
  exact ⟨rfl, by rw [rp_isN h1]; exact kk _ (.bl _)⟩
theorem xt_isNotN (ha : XE X a Γ (.da d) Γ1) : XT X (.Compare a [.IsNot] [.Constant .none k p] pos) Γ (!isN d) Γ1 := xt_cmp op_notN (by rfl) o2_isNotN ha xe_non
end
end TL
/-! TL77: f"{a}m{c}", xs.extend(own list), x is not True, tuple * n, dict(list of pairs), comprehensions over a fixed list that change slots. -/
namespace TL
open PySem PySem.Spec PyProof.Rows L2
section
variable {X : Cx} {a b c e it tg elt : Expr} {Γ Γ1 Γ2 : Sl} {pos p p1 p2 p3 apos : Pos} {s t m nm : Str} {d : PyData} {ds es : List PyData} {x : OD} {mk : List PyData → OD} {Ψ : OD → Sl → Prop} {j k : Nat} {scope : Scope}
/-- xs.extend(e), e answers an own list of data -/
theorem we_extend (i : Nat) (h : WE X e Γ fun r Γ1 => ∃ es x ds mk, r = .ll es ∧ Γ1[i]? = some (some x) ∧ VLL x ds mk ∧ ds.length + es.length ≤ sizeLine ∧ Ψ (.da .none) (Γ1.set i (some (mk (ds ++ es)))))
    (hx : Γ[i]? = some (some x) := by rfl) (hv : VLL x ds mk := by first | exact .ll | exact .pin) (hN : X.N[i]? = some nm := by rfl) (hvs : Vis X.env.scope nm := by first | exact Or.inl rfl | exact Or.inr (Or.inl rfl) | exact Or.inr (Or.inr rfl)) (h1 : (nm == ("__debug__" : Str)) = false := by decide) (h2 : (nm == ("__classdict__" : Str)) = false := by decide)
    (hst : starEach [e] X.env = (false, eval e X.env) :: starEach [] X.env := by rfl)
    (hb : attributeBase (.Name nm p) "extend" X.env (eval (.Name nm p) X.env) = eval (.Name nm p) X.env := by rfl)
    (hfew : ((backTo pos (starEach [e] X.env)).all (fun x => !x.1) && (backToKw pos (keywordEach [] X.env)).all (fun x => x.1.isSome)
      && decide (([e] : List Expr).length + ([] : List Keyword).length + (if ([] : List Keyword).isEmpty then 0 else 1) < 30)) = true := by rfl) (hline : (apos.endLine == pos.line) = true := by rfl) (hs2 : (backTo pos (starEach [] X.env)).any (·.1) = false := by rfl) :
    WE X (.Call (.Attribute (.Name nm p) "extend" apos) [e] [] pos) Γ Ψ := fun I H σ F en Q kk => by
  refine ⟨_, pe_bm PySem.F.plainAttrs_list PySem.F.slot_list_extend PySem.F.type_list_extend mt_extend (pe_var hN hvs h1 h2) (pa_cons wpE_ok pa_nil hst) hb hfew hline hst hs2, ?_⟩
  obtain ⟨q, vs, e1, g1, _, _⟩ := en.ll hx hv
  refine ⟨_, e1, .inl ⟨rfl, _, SqL.of g1⟩, h I H σ F en _ ?_⟩
  rintro r Γ1 I1 H1 v F1 ⟨es, x, ds, mk, rfl, hx1, hv1, hlt, hq⟩ st1 en1
  obtain ⟨B, G, rfl, oo, en2, up⟩ := en1.pop
  cases oo with
  | @ll b zs _ hb' ib hd =>
    obtain ⟨q', vs', e1', h3, h4, h6⟩ := en2.ll hx1 hv1
    rw [e1] at e1'
    cases e1'
    obtain ⟨F5, en5, st5⟩ := h6 (vs' ++ zs) (ds ++ es) (RpL.append h4 hd)
    exact ⟨q, b, vs', zs, rfl, rfl, h3, hb', by rw [h4.length, hd.length]; exact hlt, kk _ _ I1 _ .non F5 hq ((st1.trans (.less fun b hb => List.mem_append_right _ hb)).trans st5) (en5.da .non)⟩
/-! dict(list of pairs) -/
end
end TL
/-! TL78: dicts from texts to typed values. -/
namespace TL
open PySem PySem.Spec PyProof.Rows L2
end TL
/-! TL79: sorted(set(xs)), xs a list of texts. -/
namespace TL
open PySem PySem.Spec PyProof.Rows L2
/-- the set object a holds the texts l, its table can be walked -/
def TxS (P : Program) (w : World) (h : Heap) (a : Addr) (l : List Str) : Prop := ∃ D : Froz.SD, h.get? a = some (Froz.sObj "set" D) ∧ Froz.TxOk P w D l ∧ Ris D.2.2.place.toList ∧ (w.params.followText "set-order" = true ∨ D.2.2.led = true)
/-- l: the texts of xs, each once -/
structure TxL (xs l : List Str) : Prop where
  nd : l.Nodup
  mem : ∀ x, x ∈ l ↔ x ∈ xs
  len : l.length ≤ xs.length
theorem TxL.new {xs l : List Str} {z : Str} (h : TxL xs l) (hz : z ∉ l) : TxL (xs ++ [z]) (z :: l) := ⟨List.nodup_cons.mpr ⟨hz, h.nd⟩, fun x => by
  rw [List.mem_cons, h.mem, List.mem_append, List.mem_singleton]
  exact Or.comm, by rw [List.length_append, List.length_cons]; exact Nat.succ_le_succ h.len⟩
theorem TxS.keep {P : Program} {w : World} {h h' : Heap} {a : Addr} {l : List Str} (x : TxS P w h a l) (k : ∀ o, h.get? a = some o → h'.get? a = some o) : TxS P w h' a l := let ⟨D, ho, r⟩ := x; ⟨D, k _ ho, r⟩
end TL
/-! TL80: an own list + a list. -/
namespace TL
open PySem PySem.Spec PyProof.Rows L2
end TL
/-! TL81: {k: v, ..} with several pairs of data. -/
namespace TL
open PySem PySem.Spec PyProof.Rows L2
inductive XPs (X : Cx) : List (Option Expr) → List Expr → Sl → List (Key × PyData) → Sl → Prop
  | nil {Γ : Sl} : XPs X [] [] Γ [] Γ
  | cons {a b : Expr} {ks : List (Option Expr)} {vs : List Expr} {Γ Γ1 Γ2 Γ3 : Sl} {k : Key} {d : PyData} {r : List (Key × PyData)} : XE X a Γ (.da (keyD k)) Γ1 → XE X b Γ1 (.da d) Γ2 → XPs X ks vs Γ2 r Γ3 → XPs X (some a :: ks) (b :: vs) Γ ((k, d) :: r) Γ3
def trsOf (X : Cx) : List (Option Expr) → List Expr → List (TE × TE)
  | some a :: ks, b :: vs => (wpE X a, wpE X b) :: trsOf X ks vs
  | _, _ => []
theorem XPs.go {X : Cx} {ks : List (Option Expr)} {vs : List Expr} {Γ Γ' : Sl} {r : List (Key × PyData)} (h : XPs X ks vs Γ r Γ') : ∀ {I H : Hp} {σ : L2.St} {F : List Addr} (en : EnvF X.tc I H σ Γ F) (Q : List (V × V) → Hp → Prop),
    (∀ (kvs : List (Key × V)) (I' H' : Hp) (F' : List Addr), kvs.map Prod.fst = r.map Prod.fst → RpL X.tc I' (kvs.map Prod.snd) (r.map Prod.snd) → Step I H F I' H' F' → EnvF X.tc I' H' σ Γ' F' → Q (kvs.map fun kv => (kV kv.1, kv.2)) H') → tPairs (trsOf X ks vs) σ H Q := by
  induction h with
  | nil => exact fun en Q k => k [] _ _ _ rfl .nil .refl en
  | @cons a b ks vs Γ Γ1 Γ2 Γ3 k d r ha hb _ ih =>
    intro I H σ F en Q kq
    refine ha (fun r Γ' => r = .da (keyD k) ∧ Γ' = Γ1) ⟨rfl, rfl⟩ I H σ F en _ ?_
    rintro _ _ I1 H1 u F1 ⟨rfl, rfl⟩ st1 en1
    obtain ⟨B1, G1, rfl, o1, en1', _⟩ := en1.pop
    cases o1 with
    | da hk =>
      refine hb (fun r Γ' => r = .da d ∧ Γ' = Γ2) ⟨rfl, rfl⟩ I1 H1 σ G1 en1' _ ?_
      rintro _ _ I2 H2 w F2 ⟨rfl, rfl⟩ st2 en2
      obtain ⟨B2, G2, rfl, o2, en2', _⟩ := en2.pop
      cases o2 with
      | da hd =>
        refine ih en2' _ fun kvs I3 H3 F3 e1 e2 st3 en3 => ?_
        rw [rp_key hk]
        have := kq ((k, w) :: kvs) I3 H3 F3 (by rw [List.map_cons, List.map_cons, e1]) (.cons (hd.mono st3.inc) e2) ((st1.trans st2).trans st3) en3
        exact this
theorem XPs.len {X : Cx} {ks : List (Option Expr)} {vs : List Expr} {Γ Γ' : Sl} {r : List (Key × PyData)} (h : XPs X ks vs Γ r Γ') : r.length = ks.length := by
  induction h with
  | nil => rfl
  | cons _ _ _ ih => rw [List.length_cons, List.length_cons, ih]
end TL
/-! TL82: the drawing's state as a dict (cells, place, great, turn, seed). -/
namespace TL
open PySem PySem.Spec PyProof.Rows L2
end TL
/-! TL83: a def whose last parameter is None by default: f(..), f(.., x), f(.., b = x). -/
namespace TL
open PySem PySem.Spec PyProof.Rows L2
/-- a def whose last parameter b is None by default -/
def DefN (P : Program) (w : World) (K : PySem.W.Frag) (mg : Str → Option Value) (bs : Heap) (k : Nat) (nm : Str) (ps : List Str) (b : Str) (sp : SpD) : Prop :=
  ∃ f fd, FnG P w K mg bs CX0 k f fd ps (mkSp ⟨P, w, K⟩ sp) ∧ mg nm = some (.ref f) ∧ PySem.W.keepIn K (.ref f) = true ∧ Binds K fd ps [] ∧ Binds K fd ps [.none] ∧ KBn K fd ps (ps.length - 1) [b] (fun us ws => us ++ ws) (fun us ws => us ++ ws)
theorem DefN.mono {P : Program} {w : World} {K : PySem.W.Frag} {mg : Str → Option Value} {bs : Heap} {j k : Nat} {nm b : Str} {ps : List Str} {sp : SpD} (h : DefN P w K mg bs j nm ps b sp) (l : j ≤ k) : DefN P w K mg bs k nm ps b sp :=
  let ⟨f, fd, a, b, c, d, e, g⟩ := h
  ⟨f, fd, a.mono l, b, c, d, e, g⟩
section
variable {X : Cx} {k : Nat} {ps : List Str} {x b : Str} {p pos kpos : Pos} {e e' : Expr} {es : List Expr} {sp : SpD} {Γ Γ1 Γ2 : Sl} {Ψ : OD → Sl → Prop} {ds : List PyData} {d : PyData} {E : XK}
theorem ownL_rp {T : TC} {I H : Hp} : ∀ {ds : List PyData} {vs : List V}, RpL T I vs ds → OwnL T I H vs (ds.map OD.da) []
  | _, _, .nil => .nil
  | _, _, .cons h r => .cons (F := []) (G := []) (.da h) (ownL_rp r)
theorem data_fin {I H I1 H1 : Hp} {σ : L2.St} {F F1 : List Addr} {vs : List V} {Q : VK} (hsp : sp (ds.map .da) fun r _ => Ψ r Γ1) (r : RpL X.tc I1 vs ds) (st : Step I H F I1 H1 F1) (en : EnvF X.tc I1 H1 σ Γ1 F1)
    (k : ∀ (r : OD) (Γ' : Sl) (I' H' : Hp) (v : V) (F' : List Addr), Ψ r Γ' → Step I H F I' H' F' → EnvF X.tc I' H' (some v :: σ) (some r :: Γ') F' → Q v H') : mkSp X.tc sp vs H1 Q E := by
  refine ⟨I1, ds.map .da, [], _, ownL_rp r, List.nodup_nil, en.sub, hsp, fun r as' I2 H2 v F2 hΨ st2 ol nd2 sub2 => ?_⟩
  cases ol with
  | cons o ol =>
    rename_i B G
    obtain ⟨en3, st3⟩ := en.use (B := []) (by simpa using en.nd) (step_sub st2 fun b hb => List.mem_append_left _ hb) o (List.nodup_append.mp nd2).1 sub2
    exact k _ _ _ _ _ _ hΨ (st.trans (by simpa using st3)) en3
theorem wa_n : WA X [] Γ fun rs _ Γ' => rs = ([] : List PyData).map .da ∧ Γ' = Γ := wa_nil ⟨rfl, rfl⟩
theorem wa_d (h : XE X e Γ (.da d) Γ1) (q : WA X es Γ1 fun rs _ Γ' => rs = ds.map .da ∧ Γ' = Γ2) (hs : starEach (e :: es) X.env = (false, eval e X.env) :: starEach es X.env := by rfl) : WA X (e :: es) Γ fun rs _ Γ' => rs = (d :: ds).map .da ∧ Γ' = Γ2 :=
  wa_cons (h _ (fun I H σ F en Q k => q I H σ F en Q fun rs refs Γ' I' H' vs F' hh => k rs refs Γ' I' H' vs F' (by obtain ⟨rfl, rfl⟩ := hh; exact ⟨rfl, rfl⟩))) hs
end
end TL
/-! TL84: short rules: t[0], t[1], t[2] of tuples seen; a name against a word; ifs whose answer is known. -/
namespace TL
open PySem PySem.Spec PyProof.Rows L2
theorem atI_n {α : Type} {xs : List α} {i : Nat} {x : α} (h : xs[i]? = some x) : atI xs (i : Int) = some x := by
  have hl := (List.getElem?_eq_some_iff.mp h).1
  unfold atI ixN
  rw [if_pos (by omega), if_pos (by omega)]
  exact h
section
variable {X : Cx} {a b c e : Expr} {A R ss rest : List Stmt} {Γ Γ1 Γ2 : Sl} {Ψ : OD → Sl → Prop} {Φ : Out → Prop} {pos p p2 : Pos} {d d0 d1 d2 : PyData} {ds : List PyData} {j : Nat} {s t : Str} {k : Bool} {r : OD}
theorem ix0 (h : XE X a Γ (.da (.tuple (d :: ds))) Γ1) (hs : PlainIx (.Constant (.int 0) j p) := by exact fun _ _ => rfl) : XE X (.Subscript a (.Constant (.int 0) j p) pos) Γ (.da d) Γ1 := xe_ix h xe_int (.inr rfl) (atI_n (i := 0) rfl)
theorem ix1 (h : XE X a Γ (.da (.tuple (d0 :: d :: ds))) Γ1) : XE X (.Subscript a (.Constant (.int 1) j p) pos) Γ (.da d) Γ1 := xe_ix h xe_int (.inr rfl) (atI_n (i := 1) rfl)
theorem ix2 (h : XE X a Γ (.da (.tuple (d0 :: d1 :: d :: ds))) Γ1) : XE X (.Subscript a (.Constant (.int 2) j p) pos) Γ (.da d) Γ1 := xe_ix h xe_int (.inr rfl) (atI_n (i := 2) rfl)
theorem il0 (h : XE X a Γ (.da (.list (d :: ds))) Γ1) : XE X (.Subscript a (.Constant (.int 0) j p) pos) Γ (.da d) Γ1 := xe_ix h xe_int (.inl rfl) (atI_n (i := 0) rfl)
theorem il1 (h : XE X a Γ (.da (.list (d0 :: d :: ds))) Γ1) : XE X (.Subscript a (.Constant (.int 1) j p) pos) Γ (.da d) Γ1 := xe_ix h xe_int (.inl rfl) (atI_n (i := 1) rfl)
theorem il2 (h : XE X a Γ (.da (.list (d0 :: d1 :: d :: ds))) Γ1) : XE X (.Subscript a (.Constant (.int 2) j p) pos) Γ (.da d) Γ1 := xe_ix h xe_int (.inl rfl) (atI_n (i := 2) rfl)
theorem xt_eqStr (hu : X.A.units + 64 < cLine) (ha : XE X a Γ (.da (.str s)) Γ1) (hb : XE X b Γ1 (.da (.str t)) Γ2) : XT X (.Compare a [.Eq] [b] pos) Γ (decide (s = t)) Γ2 := by
  have e : PyData.eqv (.str s) (.str t) = decide (s = t) := by rw [PyData.eqv]; exact (Bool.eq_iff_iff.mpr (by simp))
  rw [← e]
  exact xt_eqP hu ha hb
/-- a == 'word', known -/
theorem xt_isW (hu : X.A.units + 64 < cLine) (ha : XE X a Γ (.da (.str s)) Γ1) (e : decide (s = t) = k) : XT X (.Compare a [.Eq] [.Constant (.str t) j p] pos) Γ k Γ1 := xt_cast (xt_eqStr hu ha xe_str) e
theorem xs_ifF (h : XT X c Γ false Γ1) (q : WSs X R Γ1 (thn2 X rest Φ)) : WSs X (.If c A R pos :: rest) Γ Φ := xs_if h (fun he => by cases he) fun _ => q
theorem xs_ifT (h : XT X c Γ true Γ1) (q : WSs X A Γ1 (thn2 X rest Φ)) : WSs X (.If c A R pos :: rest) Γ Φ := xs_if h (fun _ => q) fun he => by cases he
/-- if a == 'word': ..: not so, and no else -/
theorem no_w (hu : X.A.units + 64 < cLine) (ha : XE X a Γ (.da (.str s)) Γ1) (q : WSs X rest Γ1 Φ) (e : decide (s = t) = false := by decide +kernel) : WSs X (.If (.Compare a [.Eq] [.Constant (.str t) j p] p2) A [] pos :: rest) Γ Φ := xs_ifF (xt_isW hu ha e) (ws_nil q)
theorem is_w (hu : X.A.units + 64 < cLine) (ha : XE X a Γ (.da (.str s)) Γ1) (q : WSs X A Γ1 (thn2 X rest Φ)) (e : decide (s = t) = true := by decide +kernel) : WSs X (.If (.Compare a [.Eq] [.Constant (.str t) j p] p2) A R pos :: rest) Γ Φ := xs_ifT (xt_isW hu ha e) q
theorem we_modD {m : Int} (m0 : 0 < m) (h : WE X a Γ fun x Γ1 => ∃ i : Int, x = .da (.int i) ∧ XE X b Γ1 (.da (.int m)) Γ1 ∧ Ψ (.da (.int (i % m))) Γ1) : WE X (.BinOp a .Mod b pos) Γ Ψ :=
  we_bin op_mod (h.mono fun x Γ1 ⟨i, e, hb, q⟩ => hb _ ⟨.da (.int (i % m)), by rw [e]; exact o2_I m0 fun _ => .int _, q⟩)
theorem we_int1 (B : Blt X.mg) (h : WE X a Γ fun x Γ1 => ∃ i : Int, x = .da (.int i) ∧ Ψ (.da (.int i)) Γ1) (hg : Gl X "int" := by rfl) (he : starEach [a] X.env = (false, eval a X.env) :: starEach [] X.env := by rfl) (hpl : (backTo pos (starEach [] X.env)).any (·.1) = false := by rfl) :
    WE X (.Call (.Name "int" p) [a] [] pos) Γ Ψ := we_callTy call_int1 hg B.int (by decide +kernel) (wa_cons (h.mono fun x Γ1 ⟨i, e, q⟩ => wa_nil ⟨.da (.int i), by
      rw [e]
      exact OpL.pure (ds := [.int i]) fun I H vs r _ Q k => by
        obtain ⟨v, rfl, h⟩ := rpL1 r
        cases h
        exact .inl ⟨i, rfl, k _ (.int i)⟩, q⟩) he) (he := he) (hpl := hpl)
end
end TL
/-! TL85: draws within tests and min; roads that meet. -/
namespace TL
open PySem PySem.Spec PyProof.Rows L2
section
variable {X : Cx} {a b c e : Expr} {A R ss rest : List Stmt} {Γ Γ1 Γ2 : Sl} {Ψ : OD → Sl → Prop} {Φ : Out → Prop} {Φt : Bool → Sl → Prop} {pos p p2 : Pos} {d d0 d1 d2 : PyData} {ds : List PyData} {s t : Str} {k : Bool} {r : OD}
/-- e == j, e drawn -/
theorem wt_eqI {j : Int} (hu : X.A.units + 64 < cLine) (h : WE X a Γ fun r Γ1 => ∃ i : Int, r = .da (.int i) ∧ XE X b Γ1 (.da (.int j)) Γ1 ∧ Φt (decide (i = j)) Γ1) : WT X (.Compare a [.Eq] [b] pos) Γ Φt :=
  wt_cmp (op_eqP hu) (nomark _) (h.mono fun r Γ1 ⟨i, e, hb, q⟩ => hb _ ⟨decide (i = j), by rw [e, ← eqv_int]; exact o2_eq rfl rfl (by simp [PyData.depth]), q⟩)
theorem we_min2 (B : Blt X.mg) (hc : X.calm = true) (h : WE X a Γ fun x Γ1 => ∃ i : Int, x = .da (.int i) ∧ WE X b Γ1 fun y Γ2 => ∃ j : Int, y = .da (.int j) ∧ Ψ (.da (.int (if j < i then j else i))) Γ2) (hg : Gl X "min" := by rfl) (he : starEach [a, b] X.env = (false, eval a X.env) :: starEach [b] X.env := by rfl)
    (he2 : starEach [b] X.env = (false, eval b X.env) :: starEach [] X.env := by rfl) (hpl : (backTo pos (starEach [b] X.env)).any (·.1) = false := by rfl) : WE X (.Call (.Name "min" p) [a, b] [] pos) Γ Ψ :=
  we_callB (call_min2 hc) hg B.min (by decide +kernel) (wa_cons (h.mono fun x Γ1 ⟨i, e, h2⟩ => wa_cons (h2.mono fun y Γ2 ⟨j, e2, hq⟩ => wa_nil ⟨_, by
      subst e e2
      exact OpL.pure (ds := [.int i, .int j]) fun I H vs r _ Q k => by
        obtain ⟨v, u, rfl, h, h'⟩ := rpL2 r
        cases h
        cases h'
        exact ⟨i, j, rfl, k _ (.int _)⟩, hq⟩) he2) he) (he := he) (hpl := hpl)
theorem min3_int (i j k : Int) : nuMin3 (.int i) (.int j) (.int k) = some (.int (min (min i j) k)) := by
  have h2 : ∀ i j : Int, nuMin2 (.int i) (.int j) = some (.int (min i j)) := fun i j => by
    show some (if decide (j < i) = true then V.int j else V.int i) = _
    by_cases h : j < i
    · rw [if_pos (decide_eq_true h), Int.min_eq_right (Int.le_of_lt h)]
    · rw [if_neg (by simpa using h), Int.min_eq_left (by omega)]
  rw [nuMin3, h2]
  exact h2 _ _
theorem we_min3 (B : Blt X.mg) (hc : X.calm = true) {j k : Int} (h : WE X a Γ fun x Γ1 => ∃ i : Int, x = .da (.int i) ∧ XE X b Γ1 (.da (.int j)) Γ1 ∧ XE X c Γ1 (.da (.int k)) Γ1 ∧ Ψ (.da (.int (min (min i j) k))) Γ1) (hg : Gl X "min" := by rfl) (he : starEach [a, b, c] X.env = (false, eval a X.env) :: starEach [b, c] X.env := by rfl)
    (he2 : starEach [b, c] X.env = (false, eval b X.env) :: starEach [c] X.env := by rfl) (he3 : starEach [c] X.env = (false, eval c X.env) :: starEach [] X.env := by rfl) (hpl : (backTo pos (starEach [b, c] X.env)).any (·.1) = false := by rfl) : WE X (.Call (.Name "min" p) [a, b, c] [] pos) Γ Ψ :=
  we_callB (call_min3Nu hc) hg B.min (by decide +kernel) (wa_cons (h.mono fun x Γ1 ⟨i, e, h2, h3, hq⟩ => wa_cons (h2 _ (wa_cons (h3 _ (wa_nil ⟨.da (.int (min (min i j) k)), by
      subst e
      exact OpL.pure (ds := [.int i, .int j, .int k]) fun I H vs r _ Q kk => by
        cases r with
        | cons h r =>
          obtain ⟨v, u, rfl, h', h''⟩ := rpL2 r
          cases h
          cases h'
          cases h''
          exact ⟨_, _, _, _, rfl, min3_int i j k, kk _ (.int _)⟩, hq⟩)) he3)) he2) he) (he := he) (hpl := hpl)
theorem xt_isN {j : Nat} (ha : XE X a Γ (.da d) Γ1) : XT X (.Compare a [.Is] [.Constant .none j p] pos) Γ (isN d) Γ1 := xt_cmp op_isN (by rfl) o2_isN ha xe_non
/-- roads that meet -/
theorem ws_join {ι : Type} (st : ι → Sl) (Inv : ι → Prop) (hA : (∀ i, Inv i → WSs X rest (st i) Φ) → WSs X ss Γ Φ) (hB : ∀ i, Inv i → WSs X rest (st i) Φ) : WSs X ss Γ Φ := hA hB
/-- if e: A, its rest met by both roads -/
theorem ws_meet {ι : Type} (st : ι → Sl) (Inv : ι → Prop) (hA : (∀ i, Inv i → thn2 X rest Φ (.nx (st i))) → WT X c Γ fun k Γ1 => (k = true → WSs X A Γ1 (thn2 X rest Φ)) ∧ (k = false → WSs X R Γ1 (thn2 X rest Φ))) (hB : ∀ i, Inv i → WSs X rest (st i) Φ) : WSs X (.If c A R pos :: rest) Γ Φ := ws_if (hA hB)
end
end TL
/-! TL86: e.index(x) of a list that is data; plain values (ints, texts, bools, tuples of such). -/
namespace TL
open PySem PySem.Spec PyProof.Rows L2
/-- plain values, at most n deep -/
inductive Vd : Nat → PyData → Prop
  | int {n : Nat} (i : Int) : Vd n (.int i)
  | bool {n : Nat} (b : Bool) : Vd n (.bool b)
  | str {n : Nat} (s : Str) : PyData.strOk s = true → Vd n (.str s)
  | tup {n : Nat} {xs : List PyData} : (∀ x ∈ xs, Vd n x) → xs.length ≤ 1000 → Vd (n + 1) (.tuple xs)
theorem plainAll_ofM {xs : List PyData} (h : ∀ x ∈ xs, x.plain = true) : PyData.plainAll xs = true := by
  induction xs with
  | nil => simp [PyData.plainAll]
  | cons x xs ih => simp [PyData.plainAll, h x List.mem_cons_self, ih fun y hy => h y (List.mem_cons_of_mem _ hy)]
theorem layAll_mem {xs : List PyData} (h : ∀ x ∈ xs, x.canLay0 = true) : PyData.canLayAll0 xs = true := by
  induction xs with
  | nil => simp [PyData.canLayAll0]
  | cons x xs ih => simp [PyData.canLayAll0, h x List.mem_cons_self, ih fun y hy => h y (List.mem_cons_of_mem _ hy)]
theorem depthAll_mem {xs : List PyData} {n : Nat} (h : ∀ x ∈ xs, x.depth ≤ n) : PyData.depthAll xs ≤ n := by
  induction xs with
  | nil => simp [PyData.depthAll]
  | cons x xs ih =>
    have h1 := h x List.mem_cons_self
    have h2 := ih fun y hy => h y (List.mem_cons_of_mem _ hy)
    simp only [PyData.depthAll]
    omega
theorem Vd.plain {n : Nat} {d : PyData} (h : Vd n d) : d.plain = true := by
  induction h with
  | int i => rfl
  | bool b => rfl
  | str s _ => rfl
  | tup h _ ih => simpa [PyData.plain] using plainAll_ofM ih
theorem Vd.lay {n : Nat} {d : PyData} (h : Vd n d) : d.canLay0 = true := by
  induction h with
  | int i => rfl
  | bool b => rfl
  | str s h => simpa [PyData.canLay0] using h
  | tup h _ ih => simpa [PyData.canLay0] using layAll_mem ih
theorem Vd.depth {n : Nat} {d : PyData} (h : Vd n d) : d.depth ≤ n := by
  induction h with
  | int i => exact Nat.zero_le _
  | bool b => exact Nat.zero_le _
  | str s _ => exact Nat.zero_le _
  | tup h _ ih =>
    rw [PyData.depth]
    have := depthAll_mem ih
    omega
theorem Vd.shaped {n : Nat} {d : PyData} (h : Vd n d) (hn : n ≤ 60) : SeqAt.shaped d = true := by
  unfold SeqAt.shaped
  rw [h.lay, Bool.true_and]
  exact decide_eq_true (Nat.le_trans h.depth (by omega))
theorem Vd.mono {n m : Nat} {d : PyData} (h : Vd n d) (l : n ≤ m) : Vd m d := by
  induction h generalizing m with
  | int i => exact .int i
  | bool b => exact .bool b
  | str s h => exact .str s h
  | tup h hl ih =>
    obtain ⟨m, rfl⟩ : ∃ k, m = k + 1 := ⟨m - 1, by omega⟩
    exact .tup (fun x hx => ih x hx (by omega)) hl
theorem Vd.noDict {n : Nat} {d : PyData} (h : Vd n d) : noDict d = true := by cases h <;> rfl
end TL
/-! TL87: and of drawn things; == of a draw as a value; contracts made weaker. -/
namespace TL
open PySem PySem.Spec PyProof.Rows L2
section
variable {X : Cx} {a b c e : Expr} {A R ss rest : List Stmt} {Γ Γ1 Γ2 : Sl} {Ψ : OD → Sl → Prop} {Φ : Out → Prop} {Φt : Bool → Sl → Prop} {pos p p2 : Pos}
theorem wt_and2 (h : WT X a Γ fun k Γ1 => (k = true → WT X b Γ1 Φt) ∧ (k = false → Φt false Γ1)) : WT X (.BoolOp .And [a, b] pos) Γ Φt := (ww_and (h.mono fun k Γ1 q => ⟨fun e => ww_and1 (q.1 e), q.2⟩)).wt
theorem xe_ltB {i j : Int} (ha : XE X a Γ (.da (.int i)) Γ1) (hb : XE X b Γ1 (.da (.int j)) Γ2) : XE X (.Compare a [.Lt] [b] pos) Γ (.da (.bool (decide (i < j)))) Γ2 := xe_cmp op_lt (nomark _) o2_bl ha hb
end
section
variable {X : Cx} {k : Nat} {ps : List Str} {x : Str} {p p2 pos : Pos} {e : Expr} {es : List Expr} {sp : SpD} {Γ Γ1 : Sl} {Ψ : OD → Sl → Prop} {ds : List PyData}
/-- f(..), all arguments data: the slots stay as the arguments leave them -/
theorem we_fnP (G : Def X.prog X.w X.K X.mg X.base k x ps sp) (hr : Room k X.A) (hgd : X.A.guards = some []) (h : WA X (e :: es) Γ fun rs _ Γ' => rs = ds.map .da ∧ Γ' = Γ1) (hq : sp (ds.map OD.da) fun r _ => Ψ r Γ1) (hg : Gl X x := by rfl) (hdb : (x == ("__debug__" : Str)) = false := by decide)
    (he : starEach (e :: es) X.env = (false, eval e X.env) :: starEach es X.env := by rfl) (hpl : (backTo pos (starEach es X.env)).any (·.1) = false := by rfl) : WE X (.Call (.Name x p) (e :: es) [] pos) Γ Ψ := fun I H σ F en Q kk =>
  let ⟨_, _, FG, hm, hk, hb⟩ := G
  ⟨_, pe_callG FG hr hgd hg hm hk hb pass0 wpA_ok hdb he hpl, wa_data h en fun I1 H1 vs F1 r st en1 => by
    rw [List.append_nil]
    exact data_fin hq r st en1 kk⟩
end
theorem Def.weak {P : Program} {w : World} {K : PySem.W.Frag} {mg : Str → Option Value} {bs : Heap} {k : Nat} {nm : Str} {ps : List Str} {sp sp' : SpD} (h : ∀ as Ψ, sp' as Ψ → sp as Ψ) (G : Def P w K mg bs k nm ps sp) : Def P w K mg bs k nm ps sp' := by
  obtain ⟨f, fd, F, a, b, c⟩ := G
  have up : ∀ vs H Q E, mkSp ⟨P, w, K⟩ sp' vs H Q E → mkSp ⟨P, w, K⟩ sp vs H Q E := fun vs H Q E ⟨I, as, F, Ψ, o, nd, s, q, k⟩ => ⟨I, as, F, Ψ, o, nd, s, h _ _ q, k⟩
  exact ⟨f, fd, ⟨fun vs H Q E q => F.arity _ _ _ _ (up _ _ _ _ q), fun A fr s H ar us vs Q E r g e0 bd rv q => F.go A fr s H ar us vs Q E r g e0 bd rv (up _ _ _ _ q)⟩, a, b, c⟩
end TL
/-! TL88: xs.extend(t), t a tuple. -/
namespace TL
open PySem PySem.Spec PyProof.Rows L2
end TL
/-! TL89: a comprehension with a condition whose elements are known by an invariant only. -/
namespace TL
open PySem PySem.Spec PyProof.Rows L2
section
variable {X : Cx} {k : Nat} {scope : Scope} {it tg elt c : Expr} {Γ : Sl} {Ψ : OD → Sl → Prop} {pos : Pos} {α β : Type}
theorem we_lcFI (own : List (Str × Nat)) (u : α → Sl → Sl) (xs : List α) (E : α → PyData) (F : β → PyData) (pr : α → Bool) (Inv : Nat → List β → Prop) (fx : Fr X k)
    (hi : XI X tg it Γ (xs.map E) Γ) (hsz : xs.length ≤ sizeLine) (i0 : Inv 0 [])
    (hg : ∀ x ∈ xs, GB X scope own tg (E x) Γ (u x Γ)) (ht : ∀ x ∈ xs, TB X scope c (u x Γ) (pr x) (u x Γ))
    (hn : ∀ (i : Nat) (x : α) (bs : List β), xs[i]? = some x → pr x = false → Inv i bs → Inv (i + 1) bs)
    (he : ∀ (i : Nat) (x : α) (bs : List β), xs[i]? = some x → pr x = true → Inv i bs → ∀ s H C cl fp, WE (Blk X scope s H C cl fp) elt (u x Γ) fun r Γ' => ∃ b, Frz r (F b) ∧ Inv (i + 1) (bs ++ [b]) ∧ Γ' = u x Γ)
    (hq : ∀ bs : List β, Inv xs.length bs → Ψ (.ll (bs.map F)) Γ)
    (hd3 : ∀ x, dropΓ (own.map (·.2)) (u x Γ) = Γ := by intro x; rfl) (hd : dropΓ (own.map (·.2)) Γ = Γ := by rfl)
    (ok : blkC X.N X.env.scope scope own = true := by rfl) (hs : ∀ x, foldedSetIterable it X.env x = pure x := by intro _; rfl) : WE X (.ListComp elt [⟨tg, it, [c], 0⟩] scope pos) Γ Ψ := by
  refine we_lc own (fun ds i Γ' acc => ∃ bs : List β, ds = xs.map E ∧ Γ' = Γ ∧ acc = bs.map F ∧ Inv i bs) fx.calm fx.nd ?_ ok hs
  refine hi _ ⟨by rw [List.length_map]; exact hsz, ⟨[], rfl, hd, rfl, i0⟩, ?_, ?_⟩
  · rintro i d _ _ hx ⟨bs, _, rfl, rfl, iv⟩
    rw [List.getElem?_map] at hx
    obtain ⟨x, hxx, rfl⟩ := Option.map_eq_some_iff.mp hx
    have hm := List.mem_of_getElem? hxx
    refine ⟨u x _, hg x hm, fun k Γ4 => k = pr x ∧ Γ4 = u x _, fun s H C cl fp => wts_one (ht x hm s H C cl fp _ ⟨rfl, rfl⟩), ?_⟩
    rintro k Γ4 ⟨rfl, rfl⟩
    exact ⟨fun hp s H C cl fp => (he i x bs hxx hp iv s H C cl fp).mono fun r Γ5 ⟨b, fz, iv2, e5⟩ => ⟨F b, fz, bs ++ [b], rfl, by rw [e5]; exact hd3 x, by rw [List.map_append]; rfl, iv2⟩, fun hp => ⟨bs, rfl, hd3 x, rfl, hn i x bs hxx hp iv⟩⟩
  · rintro _ _ ⟨bs, _, rfl, rfl, iv⟩
    rw [hd]
    rw [List.length_map] at iv
    exact hq bs iv
end
end TL
/-! TL90: a drawn number that is not another. -/
namespace TL
open PySem PySem.Spec PyProof.Rows L2
section
variable {X : Cx} {a b : Expr} {Γ : Sl} {Φt : Bool → Sl → Prop} {pos : Pos}
theorem wt_neI {j : Int} (hu : X.A.units + 64 < cLine) (h : WE X a Γ fun r Γ1 => ∃ i : Int, r = .da (.int i) ∧ XE X b Γ1 (.da (.int j)) Γ1 ∧ Φt (!decide (i = j)) Γ1) : WT X (.Compare a [.NotEq] [b] pos) Γ Φt :=
  wt_cmp (op_neP hu) (nomark _) (h.mono fun r Γ1 ⟨i, e, hb, q⟩ => hb _ ⟨!decide (i = j), by rw [e, ← eqv_int]; exact o2_ne rfl rfl (by simp [PyData.depth]), q⟩)
end
end TL
/-! TL91: a comprehension over an own list in a slot, that stays own. -/
namespace TL
open PySem PySem.Spec PyProof.Rows L2
theorem wipe_some {σ : L2.St} {i : Nat} {v : V} : ∀ vs : List Nat, (wipe σ vs)[i]? = some (some v) → σ[i]? = some (some v)
  | [], h => h
  | w :: vs, h => by
    rw [wipe, List.getElem?_set] at h
    split at h
    · split at h <;> cases h
    · exact wipe_some vs h
section
variable {X : Cx} {elt tg : Expr} {ifs : List Expr} {rest : List Stmt} {Γ : Sl} {Ψ : OD → Sl → Prop} {Φ : Out → Prop} {pos spos py p : Pos} {nm nm0 : Str} {scope : Scope} {own : List (Str × Nat)}
theorem lc_readL {scope : Scope} {own : List (Str × Nat)} (i0 : Nat) (ds : List PyData) (J : Nat → Sl → List PyData → Prop)
    (hx : ∀ (n : Nat) (Γ2 : Sl) (acc : List PyData), J n Γ2 acc → Γ2[i0]? = some (some (.ll ds))) (hsz : ds.length ≤ sizeLine) (j0 : J 0 (dropΓ (own.map (·.2)) Γ) [])
    (turn : ∀ (n : Nat) (d : PyData) (Γ2 : Sl) (acc : List PyData), ds[n]? = some d → J n Γ2 acc → LcTurn X scope own tg elt ifs d Γ2 (fun Γ3 => J (n + 1) Γ3 acc) fun x Γ3 => J (n + 1) Γ3 (acc ++ [x]))
    (fin : ∀ (Γ2 : Sl) (acc : List PyData), J ds.length Γ2 acc → Ψ (.ll acc) (dropΓ (own.map (·.2)) Γ2))
    (I H : Hp) (σ : L2.St) (F : List Addr) (en : EnvF X.tc I H σ Γ F) (Q : VK) (k : ∀ (r : OD) (Γ' : Sl) (I' H' : Hp) (v : V) (F' : List Addr), Ψ r Γ' → Step I H F I' H' F' → EnvF X.tc I' H' (some v :: σ) (some r :: Γ') F' → Q v H') :
    tLc (iList X.K (tVar i0)) (fun v σ H Q => ∀ s H0 C cl fp, wpG (Blk X scope s H0 C cl fp) tg v σ H Q) (fun σ H Q => ∀ s H0 C cl fp, wpTs (Blk X scope s H0 C cl fp) ifs σ H Q) (fun σ H Q => ∀ s H0 C cl fp, wpE (Blk X scope s H0 C cl fp) elt σ H Q) (own.map (·.2)) σ H Q := by
  generalize hvs : own.map (·.2) = vs at j0 turn fin
  obtain ⟨F0, en0, m0⟩ := env_drop vs en
  obtain ⟨p, ws0, e0, g0, r0, _⟩ := en0.ll (hx 0 _ _ j0) .ll
  have eσ : σ[i0]? = some (some (.ref p)) := wipe_some vs e0
  refine ⟨_, eσ, p, rfl, ⟨ws0, SqL.of g0⟩, fun D hD => ?_⟩
  have st1 : Step I H F I H F := .refl
  have en1 : EnvF X.tc I H σ Γ F := en
  have at0 : ∀ (n : Nat) (Γ2 : Sl) (acc : List PyData) (I2 H2 : Hp) (F2 : List Addr), J n Γ2 acc → EnvF X.tc I2 H2 (wipe σ vs) Γ2 F2 → ∃ us, SqL X.K H2 p us ∧ RpL X.tc I2 us ds := fun n Γ2 acc I2 H2 F2 jn en3 => by
    obtain ⟨q, us, e, g, r, _⟩ := en3.ll (hx n _ _ jn) .ll
    rw [e0] at e
    injection e with e
    injection e with e
    injection e with e
    subst e
    exact ⟨us, SqL.of g, r⟩
  obtain ⟨F1', en1', m1⟩ := env_drop vs en1
  have en2 : EnvF X.tc I (upd H D (.lst [])) (wipe σ vs) (dropΓ vs Γ) F1' := ⟨en1'.env.frame (Same.refl _) fun b hb => by
    obtain ⟨⟨ob, q1⟩, q2⟩ := en1'.env.cells b hb
    exact ⟨upd_ne (ne_of_none q1 hD), q2⟩, en1'.nd, upd_sub en1'.sub hD⟩
  have nD : D ∉ F1' := fun hb => by
    obtain ⟨⟨ob, q1⟩, _⟩ := en1'.env.cells D hb
    rw [hD] at q1
    cases q1
  have st2 : Step I H F I (upd H D (.lst [])) (D :: F1') := (step_new (F := F) hD).of_mem (fun b hb => hb) fun b hb => (List.mem_cons.mp hb).elim (fun q => q ▸ List.mem_cons_self) fun q => List.mem_cons_of_mem _ (m1 b q)
  refine ⟨fun n m H' => m = ds.length - n ∧ n ≤ ds.length ∧ ∃ Γ2 I2 F2 acc ws, J n Γ2 acc ∧ acc.length ≤ n ∧ H' D = some (.lst ws) ∧ I2 D = none ∧ RpL X.tc I2 ws acc ∧ EnvF X.tc I2 H' (wipe σ vs) Γ2 F2 ∧ D ∉ F2 ∧ Step I H F I2 H' (D :: F2),
    ⟨_, rfl, Nat.zero_le _, dropΓ vs Γ, I, F1', [], [], j0, Nat.le_refl _, upd_same, en1.sub.free hD, .nil, en2, nD, st2⟩, ?_⟩
  rintro n m H2 ⟨rfl, hn, Γ2, I2, F2, acc, ws, jn, hacc, hD2, iD2, rws, en3, nD2, st3⟩
  obtain ⟨us2, sq2, ru2⟩ := at0 n Γ2 acc I2 H2 F2 jn en3
  by_cases hlt : n < ds.length
  · refine .inr ⟨⟨us2, us2[n]'(by rw [ru2.length]; exact hlt), sq2, by simp [ru2.length, hlt]⟩, fun H' => ∃ Γ3 I3 F3 acc' ws', J (n + 1) Γ3 acc' ∧ acc'.length ≤ n + 1 ∧ H' D = some (.lst ws') ∧ I3 D = none ∧ RpL X.tc I3 ws' acc' ∧ EnvF X.tc I3 H' (wipe σ vs) Γ3 F3 ∧ D ∉ F3 ∧ Step I H F I3 H' (D :: F3),
      fun H' q => ⟨ds.length - (n + 1), by omega, rfl, hlt, q⟩, fun v H3 hy => ?_⟩
    obtain ⟨rfl, hy⟩ := hy
    obtain ⟨d, hd, hr⟩ := ru2.get' (hy us2 sq2)
    have st4 : Step I2 H3 [] I2 H3 [] := .refl
    have sub3 : Same I2 H3 := en3.sub
    obtain ⟨hD3, iD3, _⟩ := st4.oth D _ hD2 iD2 (by simp)
    obtain ⟨en4, st4'⟩ := en3.grow st4 sub3
    obtain ⟨Γ3, tg3, Ψ4, tt4, te5⟩ := turn n d Γ2 acc hd jn
    rw [hvs] at tg3 te5
    intro s0 H0 C0 cl0 fp0
    refine tg3 s0 H0 C0 cl0 fp0 I2 H3 (wipe σ vs) F2 v en4 hr _ ?_
    rintro _ I5 H5 σ5 F5 rfl st5 en5 w5
    rw [wipe_wipe] at w5
    refine ⟨w5, fun s1 H1' C1 cl1 fp1 => tt4 s1 H1' C1 cl1 fp1 I5 H5 σ5 F5 en5 _ fun kb Γ4 I6 H6 F6 h6 st6 en6 => ?_⟩
    have st36 : Step I2 H3 F2 I6 H6 F6 := st5.trans st6
    obtain ⟨hD6, iD6, nD6⟩ := st36.oth D _ hD3 iD3 nD2
    have st16 : Step I H F I6 H6 (D :: F6) := by
      refine ⟨(st3.inc.trans st4.inc).trans st36.inc, fun b ob q1 q2 q3 => ?_⟩
      obtain ⟨g1, g2, g3⟩ := st3.oth b ob q1 q2 q3
      rw [List.mem_cons, not_or] at g3
      obtain ⟨g4, g5, g6⟩ := st4'.oth b ob g1 g2 g3.2
      obtain ⟨g7, g8, g9⟩ := st36.oth b ob g4 g5 g6
      exact ⟨g7, g8, fun q => (List.mem_cons.mp q).elim g3.1 g9⟩
    have rws6 := (rws.mono st4.inc).mono st36.inc
    -- back to the wiped slots
    have back : ∀ {Γ7 : Sl} {I7 H7 : Hp} {F7 : List Addr}, EnvF X.tc I7 H7 σ5 Γ7 F7 → ∃ F8, EnvF X.tc I7 H7 (wipe σ vs) (dropΓ vs Γ7) F8 ∧ ∀ b ∈ F8, b ∈ F7 := fun en7 => by
      obtain ⟨F8, en8, m8⟩ := env_drop vs en7
      rw [w5] at en8
      exact ⟨F8, en8, m8⟩
    cases kb with
    | false =>
      rw [if_neg Bool.false_ne_true]
      obtain ⟨F8, en8, m8⟩ := back en6
      exact ⟨_, I6, F8, acc, ws, (te5 false Γ4 h6).2 rfl, by omega, hD6, iD6, rws6, en8, fun q => nD6 (m8 D q), st16.of_mem (fun b hb => hb) fun b hb => (List.mem_cons.mp hb).elim (fun q => q ▸ List.mem_cons_self) fun q => List.mem_cons_of_mem _ (m8 b q)⟩
    | true =>
      rw [if_pos rfl]
      intro s2 H2' C2 cl2 fp2
      refine (te5 true Γ4 h6).1 rfl s2 H2' C2 cl2 fp2 I6 H6 σ5 F6 en6 _ ?_
      rintro r Γ5 I7 H7 y F7 ⟨x, fz, hj⟩ st7 en7
      obtain ⟨I8, F8, st8, en8⟩ := en7.frz fz
      obtain ⟨B, G, rfl, oo, en9, _⟩ := en8.pop
      cases oo with
      | da hx =>
        have st68 := st7.trans st8
        obtain ⟨hD8, iD8, nD8⟩ := st68.oth D _ hD6 iD6 nD6
        obtain ⟨F9, en10, m9⟩ := back en9
        have nD9 : D ∉ F9 := fun q => nD8 (m9 D q)
        have en11 : EnvF X.tc I8 (upd H7 D (.lst (ws ++ [y]))) (wipe σ vs) (dropΓ vs Γ5) F9 := ⟨en10.env.frame (Same.refl _) fun b hb => ⟨upd_ne fun q => nD9 (q ▸ hb), (en10.env.cells b hb).2⟩, en10.nd, fun b u q => by
          rw [upd_ne fun e => by
            rw [e, iD8] at q
            cases q]
          exact en10.sub b u q⟩
        refine ⟨ws, hD8, by rw [rws.length]; omega, dropΓ vs Γ5, I8, F9, acc ++ [x], ws ++ [y], hj, by simp; omega, upd_same, iD8, RpL.append (rws6.mono st68.inc) (.cons hx .nil), en11, nD9, ?_⟩
        refine ⟨st16.inc.trans st68.inc, fun b ob q1 q2 q3 => ?_⟩
        obtain ⟨g1, g2, g3⟩ := st16.oth b ob q1 q2 q3
        rw [List.mem_cons, not_or] at g3
        obtain ⟨g4, g5, g6⟩ := st68.oth b ob g1 g2 g3.2
        refine ⟨by rw [upd_ne g3.1]; exact g4, g5, fun q => (List.mem_cons.mp q).elim g3.1 fun q => g6 (m9 b q)⟩
  · have e : n = ds.length := by omega
    subst e
    refine .inl ⟨⟨us2, sq2, Nat.le_of_eq ru2.length⟩, ?_⟩
    obtain ⟨F3, en4, m4⟩ := env_undrop vs en3
    have nd : (D :: F3).Nodup := List.nodup_cons.mpr ⟨fun q => nD2 (m4 D q), en4.nd⟩
    exact k _ _ I2 H2 (.ref D) (D :: F3) (fin Γ2 acc jn) (st1.trans (st3.of_mem (fun b hb => hb) fun b hb => (List.mem_cons.mp hb).elim (fun q => q ▸ List.mem_cons_self) fun q => List.mem_cons_of_mem _ (m4 b q))) ⟨.cons (.ll hD2 iD2 rws) en4.env, nd, en4.sub⟩
/-- [.. for x in xs if ..], xs an own list in a slot -/
theorem we_lcL (i0 : Nat) (ds : List PyData) (own : List (Str × Nat)) (J : Nat → Sl → List PyData → Prop) (hc : X.calm = true) (hN : X.N.Nodup)
    (hx : ∀ (n : Nat) (Γ2 : Sl) (acc : List PyData), J n Γ2 acc → Γ2[i0]? = some (some (.ll ds))) (hsz : ds.length ≤ sizeLine) (j0 : J 0 (dropΓ (own.map (·.2)) Γ) [])
    (turn : ∀ (n : Nat) (d : PyData) (Γ2 : Sl) (acc : List PyData), ds[n]? = some d → J n Γ2 acc → LcTurn X scope own tg elt ifs d Γ2 (fun Γ3 => J (n + 1) Γ3 acc) fun x Γ3 => J (n + 1) Γ3 (acc ++ [x]))
    (fin : ∀ (Γ2 : Sl) (acc : List PyData), J ds.length Γ2 acc → Ψ (.ll acc) (dropΓ (own.map (·.2)) Γ2))
    (hN0 : X.N[i0]? = some nm0 := by rfl) (hvs : Vis X.env.scope nm0 := by first | exact Or.inl rfl | exact Or.inr (Or.inl rfl) | exact Or.inr (Or.inr rfl)) (h1 : (nm0 == ("__debug__" : Str)) = false := by decide) (h2 : (nm0 == ("__classdict__" : Str)) = false := by decide)
    (ok : blkC X.N X.env.scope scope own = true := by rfl) (hs : ∀ x, foldedSetIterable (.Name nm0 p) X.env x = pure x := by intro _; rfl) : WE X (.ListComp elt [⟨tg, .Name nm0 p, ifs, 0⟩] scope pos) Γ Ψ := fun I H σ F en Q k =>
  ⟨_, pe_lc hc hN (pi_list (pe_var hN0 hvs h1 h2)) (blkOk_by ok) (g := fun v σ H Q => ∀ s H0 C cl fp, wpG (Blk X scope s H0 C cl fp) tg v σ H Q) (tt := fun σ H Q => ∀ s H0 C cl fp, wpTs (Blk X scope s H0 C cl fp) ifs σ H Q) (te := fun σ H Q => ∀ s H0 C cl fp, wpE (Blk X scope s H0 C cl fp) elt σ H Q)
    (fun s H0 C cl fp => ⟨fun pins s' σ H v u Q I r h => wpG_ok.run pins s' σ H v u Q I r (h s H0 C cl fp)⟩) (fun s H0 C cl fp => ⟨fun pins s' σ H Q I h => wpTs_ok.run pins s' σ H Q I (h s H0 C cl fp)⟩) (fun s H0 C cl fp => ⟨fun pins s' σ H Q I h => wpE_ok.run pins s' σ H Q I (h s H0 C cl fp)⟩) hs,
    lc_readL i0 ds J hx hsz j0 turn fin I H σ F en Q k⟩
end
end TL
/-! TL92: a, b = e1, e2 with data on the right. -/
namespace TL
open PySem PySem.Spec PyProof.Rows L2
section
variable {X : Cx} {a b : Expr} {rest : List Stmt} {Γ Γ2 : Sl} {Φ : Out → Prop} {x y : Str} {px py pt pos : Pos} {kt k2 : Nat} {pt2 : Pos} {d1 d2 : PyData}
theorem ws_par (i j : Nat) (hc : X.calm = true) (hN : X.N.Nodup) (h : WA X [a, b] Γ fun rs _ Γ1 => rs = [d1, d2].map .da ∧ Γ1 = Γ2) (q : WSs X rest ((Γ2.set i (some (.da d1))).set j (some (.da d2))) Φ)
    (hi : X.N[i]? = some x := by rfl) (hj : X.N[j]? = some y := by rfl) (hij : i ≠ j := by decide) (hx : X.env.scope.names.lookup x = some .local := by rfl) (hy : X.env.scope.names.lookup y = some .local := by rfl)
    (hl : Nat.blt i Γ2.length = true := by rfl) (hl2 : Nat.blt j Γ2.length = true := by rfl) (hw : swappedStores [.Tuple [.Name x px, .Name y py] kt pt] (.Tuple [a, b] k2 pt2) X.env = pure (some [x, y]) := by rfl)
    (hs : swapsWithSole [.Tuple [.Name x px, .Name y py] kt pt] (.Tuple [a, b] k2 pt2) pos.line X.env = pure false := by rfl) : WSs X (.Assign [.Tuple [.Name x px, .Name y py] kt pt] (.Tuple [a, b] k2 pt2) pos :: rest) Γ Φ := fun I H σ F en D ek =>
  ⟨_, pss_cons (ps_par hc hN hi hj hij hx hy wpA_ok hw hs) wpSs_ok, wa_data h en fun I1 H1 vs F1 r st1 en1 => by
    obtain ⟨v, u, rfl, h2, h3⟩ := rpL2 r
    refine ⟨v, u, rfl, ?_⟩
    obtain ⟨F2, en2, m2⟩ := (en1.da h2).store (Nat.le_of_ble_eq_true hl)
    obtain ⟨F3, en3, m3⟩ := (en2.da h3).store (i := j) (by rw [List.length_set]; exact Nat.le_of_ble_eq_true hl2)
    exact q I1 H1 _ F3 en3 D (ek.step (step_sub st1 fun b hb => m2 b (m3 b hb)))⟩
end
end TL
/-! TL93: xs[e], xs an own list in a slot, e drawn. -/
namespace TL
open PySem PySem.Spec PyProof.Rows L2
section
variable {X : Cx} {b : Expr} {Γ : Sl} {Ψ : OD → Sl → Prop} {pos p : Pos} {x0 : OD} {nm : Str} {ds0 : List PyData} {mk0 : List PyData → OD}
theorem we_ixll (i : Nat) (h : WE X b Γ fun r Γ1 => ∃ (j : Int) (d : PyData) (x : OD) (ds : List PyData) (mk : List PyData → OD), r = .da (.int j) ∧ Γ1[i]? = some (some x) ∧ VLL x ds mk ∧ atI ds j = some d ∧ Ψ (.da d) Γ1) (hx : Γ[i]? = some (some x0) := by rfl) (hv : VLL x0 ds0 mk0 := by first | exact .ll | exact .pin)
    (hs : PlainIx b := by exact fun _ _ => rfl) (hN : X.N[i]? = some nm := by rfl) (hvs : Vis X.env.scope nm := by first | exact Or.inl rfl | exact Or.inr (Or.inl rfl) | exact Or.inr (Or.inr rfl)) (h1 : (nm == ("__debug__" : Str)) = false := by decide) (h2 : (nm == ("__classdict__" : Str)) = false := by decide) :
    WE X (.Subscript (.Name nm p) b pos) Γ Ψ := fun I H σ F en Q kk => by
  obtain ⟨q, vs, e1, _, _, _⟩ := en.ll hx hv
  refine ⟨_, pe_ix ix_list (pe_var hN hvs h1 h2) wpE_ok hs, _, e1, h I H σ F en _ ?_⟩
  rintro _ Γ1 I1 H1 u F1 ⟨j, d, x, ds, mk, rfl, hx1, hv1, hd, hq⟩ st1 en1
  obtain ⟨B, G, rfl, oo, en2, up⟩ := en1.pop
  cases oo with
  | da hh =>
    cases hh
    obtain ⟨q', vs', e1', h3, h4, _⟩ := en2.ll hx1 hv1
    rw [e1] at e1'
    cases e1'
    obtain ⟨w, hw, rw'⟩ := atI_rp h4 hd
    exact ⟨q, vs', j, w, rfl, rfl, SqL.of h3, hw, kk _ _ I1 H1 w _ hq st1 (en2.da rw')⟩
end
end TL
/-! K14b: kinds and the ascending lists of their values, in plain words. -/
namespace Law
open PySem PySem.Spec PyProof.Rows L2 TL
inductive Kd where
  | num (lo hi : Int)
  | pick (t : Bool) (ns : List Str)
  | opt (k : Kd)
  | row (k : Kd) (m : Nat)
  | one (as : List (Str × Kd))
  | rec_ (ps : List (Str × Kd))
  | bad (w : Str) (ds : List PyData)
abbrev strsD (ns : List Str) : List PyData := ns.map .str
/-- names as a tuple; t: the object is known to hold no dict -/
def namesD (t : Bool) (ns : List Str) : PyData := if t = true then tnD (strsD ns) else .tuple (strsD ns)
mutual
def kD : Kd → PyData
  | .num lo hi => .tuple [.str "num", .int lo, .int hi]
  | .pick t ns => .tuple [.str "pick", namesD t ns]
  | .opt k => .tuple [.str "opt", kD k]
  | .row k m => .tuple [.str "row", kD k, .int (m : Nat)]
  | .one as => .tuple [.str "one", .tuple (armsD as)]
  | .rec_ ps => .tuple [.str "rec", .tuple (armsD ps)]
  | .bad w ds => .tuple (.str w :: ds)
def armsD : List (Str × Kd) → List PyData
  | [] => []
  | (n, k) :: as => .tuple [.str n, kD k] :: armsD as
end
def armD (p : Str × Kd) : PyData := .tuple [.str p.1, kD p.2]
theorem armsD_map : ∀ as : List (Str × Kd), armsD as = as.map armD
  | [] => by rw [armsD]; rfl
  | (n, k) :: as => by rw [armsD, armsD_map as]; rfl
/-- rows of at most m items, in Python's order -/
def lexi (V : List PyData) : Nat → List (List PyData)
  | 0 => [[]]
  | m + 1 => [] :: V.flatMap fun v => (lexi V m).map (v :: ·)
mutual
/-- all values, ascending -/
def vl : Kd → List PyData
  | .num lo hi => rangeD lo (hi + 1 - lo).toNat
  | .pick _ ns => strsD ns
  | .opt k => .tuple [] :: (vl k).map fun v => .tuple [v]
  | .row k m => (lexi (vl k) m).map .tuple
  | .one as => vlOne as
  | .rec_ ps => (vlRec ps).map .tuple
  | .bad _ _ => []
def vlOne : List (Str × Kd) → List PyData
  | [] => []
  | (n, k) :: as => ((vl k).map fun v => .tuple [.str n, v]) ++ vlOne as
def vlRec : List (Str × Kd) → List (List PyData)
  | [] => [[]]
  | (_, k) :: ps => (vl k).flatMap fun v => (vlRec ps).map (v :: ·)
end
/-- how many values -/
def sz (k : Kd) : Nat := (vl k).length
/-- how many rows of at most m items -/
def rs (s : Nat) : Nat → Nat
  | 0 => 1
  | m + 1 => 1 + s * rs s m
theorem len_flat {α β γ : Type} {L : List β} {f : α → β → γ} : ∀ {V : List α}, (V.flatMap fun v => L.map (f v)).length = V.length * L.length
  | [] => by simp
  | v :: V => by
    rw [List.flatMap_cons, List.length_append, List.length_map, len_flat, List.length_cons, Nat.succ_mul]
    omega
theorem len_lexi {V : List PyData} : ∀ m : Nat, (lexi V m).length = rs V.length m
  | 0 => rfl
  | m + 1 => by rw [lexi, List.length_cons, len_flat, len_lexi m, rs]; omega
theorem sz_num {lo hi : Int} (h : lo ≤ hi + 1) : (sz (.num lo hi) : Int) = hi - lo + 1 := by
  rw [sz, vl, rangeD_len]
  omega
theorem sz_pick {t : Bool} {ns : List Str} : sz (.pick t ns) = ns.length := by rw [sz, vl, List.length_map]
theorem sz_opt {k : Kd} : sz (.opt k) = 1 + sz k := by
  rw [sz, vl, List.length_cons, List.length_map, sz]
  omega
theorem sz_row {k : Kd} {m : Nat} : sz (.row k m) = rs (sz k) m := by rw [sz, vl, List.length_map, len_lexi, sz]
theorem len_one : ∀ as : List (Str × Kd), (vlOne as).length = (as.map fun p => sz p.2).sum
  | [] => by rw [vlOne]; rfl
  | (n, k) :: as => by rw [vlOne, List.length_append, List.length_map, len_one as, List.map_cons, List.sum_cons, sz]
theorem sz_one {as : List (Str × Kd)} : sz (.one as) = (as.map fun p => sz p.2).sum := by rw [sz, vl, len_one]
/-- the product of sizes -/
def prodS : List (Str × Kd) → Nat
  | [] => 1
  | p :: ps => sz p.2 * prodS ps
theorem len_rec : ∀ ps : List (Str × Kd), (vlRec ps).length = prodS ps
  | [] => by rw [vlRec]; rfl
  | (n, k) :: ps => by rw [vlRec, len_flat, len_rec ps, prodS, sz]
theorem sz_rec {ps : List (Str × Kd)} : sz (.rec_ ps) = prodS ps := by rw [sz, vl, List.length_map, len_rec]
/-! ### kinds of few bounds -/
/-- at most n deep, of small numbers -/
inductive Ok : Nat → Kd → Prop
  | num {n : Nat} {lo hi : Int} : lo ≤ hi → hi - lo ≤ 2000 → lo.natAbs ≤ 2000 → hi.natAbs ≤ 2000 → Ok (n + 1) (.num lo hi)
  | pick {n : Nat} {t : Bool} {ns : List Str} : ns.length ≤ 16 → Ok (n + 1) (.pick t ns)
  | opt {n : Nat} {k : Kd} : Ok n k → Ok (n + 1) (.opt k)
  | row {n m : Nat} {k : Kd} : Ok n k → m ≤ 4 → Ok (n + 1) (.row k m)
  | one {n : Nat} {as : List (Str × Kd)} : as.length ≤ 6 → (∀ p ∈ as, Ok n p.2) → Ok (n + 1) (.one as)
  | rec_ {n : Nat} {ps : List (Str × Kd)} : ps.length ≤ 6 → (∀ p ∈ ps, Ok n p.2) → Ok (n + 1) (.rec_ ps)
def bnd : Nat → Nat
  | 0 => 0
  | n + 1 => 6 * bnd n + 11
theorem rs_le {s b : Nat} (hs : s ≤ 2 ^ b) : ∀ m : Nat, rs s m ≤ 2 ^ ((b + 1) * m)
  | 0 => by rw [rs, Nat.mul_zero]; exact Nat.le_refl _
  | m + 1 => by
    have h1 : s * rs s m ≤ 2 ^ b * 2 ^ ((b + 1) * m) := Nat.mul_le_mul hs (rs_le hs m)
    have h2 : 0 < 2 ^ b * 2 ^ ((b + 1) * m) := Nat.mul_pos (Nat.two_pow_pos _) (Nat.two_pow_pos _)
    rw [rs, show (b + 1) * (m + 1) = (b + (b + 1) * m) + 1 by rw [Nat.mul_succ]; omega, Nat.pow_succ, Nat.pow_add]
    omega
theorem sum_le {α : Type} {f : α → Nat} {b : Nat} : ∀ {xs : List α}, (∀ x ∈ xs, f x ≤ b) → (xs.map f).sum ≤ xs.length * b
  | [], _ => by simp
  | x :: xs, h => by
    have h1 := h x List.mem_cons_self
    have h2 := sum_le (xs := xs) fun y hy => h y (List.mem_cons_of_mem _ hy)
    rw [List.map_cons, List.sum_cons, List.length_cons, Nat.succ_mul]
    omega
theorem prod_le {b : Nat} : ∀ {ps : List (Str × Kd)}, (∀ p ∈ ps, sz p.2 ≤ 2 ^ b) → prodS ps ≤ 2 ^ (b * ps.length)
  | [], _ => Nat.le_refl _
  | p :: ps, h => by
    have h1 := h p List.mem_cons_self
    have h2 := prod_le (ps := ps) fun y hy => h y (List.mem_cons_of_mem _ hy)
    rw [prodS, List.length_cons, Nat.mul_succ, Nat.pow_add, Nat.mul_comm (2 ^ _)]
    exact Nat.mul_le_mul h1 h2
theorem sz_le : ∀ {n : Nat} {k : Kd}, Ok n k → sz k ≤ 2 ^ bnd n
  | n + 1, _, .num (lo := lo) (hi := hi) h1 h2 _ _ => by
    have := sz_num (lo := lo) (hi := hi) (by omega)
    have h3 : (2 : Nat) ^ 11 ≤ 2 ^ bnd (n + 1) := Nat.pow_le_pow_right (by decide) (by rw [bnd]; omega)
    omega
  | n + 1, _, .pick h => by
    have h3 : (2 : Nat) ^ 11 ≤ 2 ^ bnd (n + 1) := Nat.pow_le_pow_right (by decide) (by rw [bnd]; omega)
    rw [sz_pick]
    omega
  | n + 1, _, .opt h => by
    have h1 := sz_le h
    have h3 : (2 : Nat) ^ (bnd n + 1) ≤ 2 ^ bnd (n + 1) := Nat.pow_le_pow_right (by decide) (by rw [bnd]; omega)
    have h4 := Nat.two_pow_pos (bnd n)
    rw [sz_opt]
    rw [Nat.pow_succ] at h3
    omega
  | n + 1, _, .row (m := m) h hm => by
    rw [sz_row]
    refine Nat.le_trans (rs_le (sz_le h) m) (Nat.pow_le_pow_right (by decide) ?_)
    have : (bnd n + 1) * m ≤ (bnd n + 1) * 4 := Nat.mul_le_mul_left _ hm
    rw [bnd]
    omega
  | n + 1, _, .one (as := as) hl h => by
    rw [sz_one]
    refine Nat.le_trans (sum_le (b := 2 ^ bnd n) fun p hp => sz_le (h p hp)) ?_
    have h3 : (2 : Nat) ^ (bnd n + 3) ≤ 2 ^ bnd (n + 1) := Nat.pow_le_pow_right (by decide) (by rw [bnd]; omega)
    have : as.length * 2 ^ bnd n ≤ 6 * 2 ^ bnd n := Nat.mul_le_mul_right _ hl
    rw [Nat.pow_add] at h3
    omega
  | n + 1, _, .rec_ (ps := ps) hl h => by
    rw [sz_rec]
    refine Nat.le_trans (prod_le fun p hp => sz_le (h p hp)) (Nat.pow_le_pow_right (by decide) ?_)
    have : bnd n * ps.length ≤ bnd n * 6 := Nat.mul_le_mul_left _ hl
    rw [bnd]
    omega
theorem Ok.mono : ∀ {n m : Nat} {k : Kd}, Ok n k → n ≤ m → Ok m k
  | _, 0, _, a, h => by cases a <;> exact absurd h (Nat.not_succ_le_zero _)
  | _, m + 1, _, .num a b c d, _ => .num a b c d
  | _, m + 1, _, .pick a, _ => .pick a
  | _, m + 1, _, .opt a, h => .opt (a.mono (Nat.le_of_succ_le_succ h))
  | _, m + 1, _, .row a b, h => .row (a.mono (Nat.le_of_succ_le_succ h)) b
  | _, m + 1, _, .one a b, h => .one a fun p hp => (b p hp).mono (Nat.le_of_succ_le_succ h)
  | _, m + 1, _, .rec_ a b, h => .rec_ a fun p hp => (b p hp).mono (Nat.le_of_succ_le_succ h)
end Law
/-! K14c: the values by their ranks, in plain words. -/
namespace Law
open PySem PySem.Spec PyProof.Rows L2 TL
theorem rs_pos {s : Nat} : ∀ m : Nat, 0 < rs s m
  | 0 => Nat.one_pos
  | m + 1 => by rw [rs]; omega
theorem lexi_len {V : List PyData} : ∀ {n : Nat} {t : List PyData}, t ∈ lexi V n → t.length ≤ n ∧ ∀ v ∈ t, v ∈ V
  | 0, t, h => by
    rw [lexi, List.mem_singleton] at h
    subst h
    exact ⟨Nat.le_refl _, fun v hv => by cases hv⟩
  | n + 1, t, h => by
    rw [lexi, List.mem_cons] at h
    rcases h with rfl | h
    · exact ⟨Nat.zero_le _, fun v hv => by cases hv⟩
    · obtain ⟨v, hv, h⟩ := List.mem_flatMap.mp h
      obtain ⟨t', ht, rfl⟩ := List.mem_map.mp h
      obtain ⟨h1, h2⟩ := lexi_len ht
      exact ⟨by rw [List.length_cons]; omega, fun w hw => (List.mem_cons.mp hw).elim (fun e => e ▸ hv) (h2 w)⟩
/-! ### records -/
theorem prod_app : ∀ {a b : List (Str × Kd)}, prodS (a ++ b) = prodS a * prodS b
  | [], b => by rw [List.nil_append, prodS, Nat.one_mul]
  | p :: a, b => by rw [List.cons_append, prodS, prod_app, prodS, Nat.mul_assoc]
theorem rec_len : ∀ {ps : List (Str × Kd)} {t : List PyData}, t ∈ vlRec ps → t.length = ps.length
  | [], t, h => by
    rw [vlRec, List.mem_singleton] at h
    rw [h]
    rfl
  | (n, k) :: ps, t, h => by
    rw [vlRec] at h
    obtain ⟨v, hv, h⟩ := List.mem_flatMap.mp h
    obtain ⟨t', ht, rfl⟩ := List.mem_map.mp h
    rw [List.length_cons, rec_len ht, List.length_cons]
/-! ### arms -/
theorem one_mem : ∀ {as : List (Str × Kd)} {x : PyData}, x ∈ vlOne as → ∃ p v, p ∈ as ∧ v ∈ vl p.2 ∧ x = .tuple [.str p.1, v]
  | [], x, h => by rw [vlOne] at h; cases h
  | (n, k) :: as, x, h => by
    rw [vlOne, List.mem_append] at h
    rcases h with h | h
    · obtain ⟨v, hv, rfl⟩ := List.mem_map.mp h
      exact ⟨(n, k), v, List.mem_cons_self, hv, rfl⟩
    · obtain ⟨p, v, hp, hv, e⟩ := one_mem h
      exact ⟨p, v, List.mem_cons_of_mem _ hp, hv, e⟩
end Law
/-! K14d: the lists of values ascend strictly. -/
namespace Law
open PySem PySem.Spec PyProof.Rows L2 TL
/-- strictly ascending values -/
def W (L : List PyData) : Prop := ∀ (i j : Nat) (x y : PyData), L[i]? = some x → L[j]? = some y → PyData.eqv x y = decide (i = j) ∧ cmpb x y = true ∧ ltd x y = decide (i < j)
theorem eqv_tup (xs ys : List PyData) : PyData.eqv (.tuple xs) (.tuple ys) = PyData.eqvAll xs ys := by rw [PyData.eqv]
/-- names, strictly ascending -/
def SN (ns : List Str) : Prop := ns.Pairwise fun a b => strLt a b = true
theorem strLt_ne {a b : Str} (h : strLt a b = true) : a ≠ b := fun e => by
  rw [e, strLt, decide_eq_true_eq] at h
  exact List.lt_irrefl _ h
theorem SN.nodup {ns : List Str} (h : SN ns) : ns.Nodup := h.imp fun h => strLt_ne h
end Law
/-! K14e: right kinds: their values ascend, can be shown. -/
namespace Law
open PySem PySem.Spec PyProof.Rows L2 TL
structure NmOk (s : Str) : Prop where
  len : s.cps.size ≤ 16
  cps : (s.cps.toList.all fun c => decide (c < 16 ^ 8)) = true
  ok : PyData.strOk s = true
/-- right kinds, at most n deep -/
inductive Rt : Nat → Kd → Prop
  | num {n : Nat} {lo hi : Int} : lo ≤ hi → hi - lo ≤ 2000 → lo.natAbs ≤ 2000 → hi.natAbs ≤ 2000 → Rt (n + 1) (.num lo hi)
  | pick {n : Nat} {ns : List Str} : (0 < ns.length ∧ ns.length ≤ 16) → SN ns → (∀ s ∈ ns, NmOk s) → Rt (n + 1) (.pick true ns)
  | opt {n : Nat} {k : Kd} : Rt n k → Rt (n + 1) (.opt k)
  | row {n m : Nat} {k : Kd} : Rt n k → (0 < m ∧ m ≤ 4) → Rt (n + 1) (.row k m)
  | one {n : Nat} {as : List (Str × Kd)} : (0 < as.length ∧ as.length ≤ 6) → SN (as.map (·.1)) → (∀ p ∈ as, NmOk p.1) → (∀ p ∈ as, Rt n p.2) → Rt (n + 1) (.one as)
  | rec_ {n : Nat} {ps : List (Str × Kd)} : ps.length ≤ 6 → (∀ p ∈ ps, Rt n p.2) → Rt (n + 1) (.rec_ ps)
theorem Rt.ok : ∀ {n : Nat} {k : Kd}, Rt n k → Ok n k
  | _, _, .num a b c d => .num a b c d
  | _, _, .pick a _ _ => .pick a.2
  | _, _, .opt a => .opt a.ok
  | _, _, .row a b => .row a.ok b.2
  | _, _, .one a _ _ d => .one a.2 fun p hp => (d p hp).ok
  | _, _, .rec_ a b => .rec_ a fun p hp => (b p hp).ok
theorem Rt.mono : ∀ {n m : Nat} {k : Kd}, Rt n k → n ≤ m → Rt m k
  | _, 0, _, a, h => by cases a <;> exact absurd h (Nat.not_succ_le_zero _)
  | _, m + 1, _, .num a b c d, _ => .num a b c d
  | _, m + 1, _, .pick a b c, _ => .pick a b c
  | _, m + 1, _, .opt a, h => .opt (a.mono (Nat.le_of_succ_le_succ h))
  | _, m + 1, _, .row a b, h => .row (a.mono (Nat.le_of_succ_le_succ h)) b
  | _, m + 1, _, .one a b c d, h => .one a b c fun p hp => (d p hp).mono (Nat.le_of_succ_le_succ h)
  | _, m + 1, _, .rec_ a b, h => .rec_ a fun p hp => (b p hp).mono (Nat.le_of_succ_le_succ h)
theorem Fn.str {n w : Nat} {s : Str} (h : NmOk s) (hw : 16 ≤ w) : Fn n w (.str s) where
  plain := rfl
  shows := rfl
  nodict := rfl
  depth := Nat.zero_le _
  short := by rw [PyData.leavesShort]; exact h.cps
  weight := by rw [PyData.weight]; have := h.len; omega
theorem rec_vals : ∀ {ps : List (Str × Kd)} {t : List PyData}, t ∈ vlRec ps → ∀ v ∈ t, ∃ p ∈ ps, v ∈ vl p.2
  | [], t, h, v, hv => by
    rw [vlRec, List.mem_singleton] at h
    rw [h] at hv
    cases hv
  | (n, k) :: ps, t, h, v, hv => by
    rw [vlRec] at h
    obtain ⟨w, hw, h⟩ := List.mem_flatMap.mp h
    obtain ⟨t', ht, rfl⟩ := List.mem_map.mp h
    rcases List.mem_cons.mp hv with rfl | hv
    · exact ⟨_, List.mem_cons_self, hw⟩
    · obtain ⟨p, hp, q⟩ := rec_vals ht v hv
      exact ⟨p, List.mem_cons_of_mem _ hp, q⟩
theorem range_mem {lo : Int} {n : Nat} {v : PyData} (h : v ∈ rangeD lo n) : ∃ i : Nat, i < n ∧ v = .int (lo + (i : Nat)) := by
  obtain ⟨i, hi, rfl⟩ := List.mem_map.mp h
  exact ⟨i, List.mem_range.mp hi, rfl⟩
theorem prod_pos : ∀ {ps : List (Str × Kd)}, (∀ p ∈ ps, 0 < sz p.2) → 0 < prodS ps
  | [], _ => Nat.one_pos
  | p :: ps, h => by
    rw [prodS]
    exact Nat.mul_pos (h p List.mem_cons_self) (prod_pos fun q hq => h q (List.mem_cons_of_mem _ hq))
theorem Rt.pos : ∀ {n : Nat} {k : Kd}, Rt n k → 0 < sz k
  | _, _, .num (lo := lo) (hi := hi) a _ _ _ => by
    have := sz_num (lo := lo) (hi := hi) (by omega)
    omega
  | _, _, .pick a _ _ => by rw [sz_pick]; exact a.1
  | _, _, .opt a => by rw [sz_opt]; omega
  | _, _, .row a _ => by
    rw [sz_row]
    rename_i m _ _
    cases m with
    | zero => exact Nat.one_pos
    | succ m => rw [rs]; omega
  | _, _, .one (as := as) a _ _ d => by
    rw [sz_one]
    cases as with
    | nil => exact absurd a.1 (by decide)
    | cons p as =>
      have := (d p List.mem_cons_self).pos
      rw [List.map_cons, List.sum_cons]
      omega
  | _, _, .rec_ _ b => by
    rw [sz_rec]
    exact prod_pos fun p hp => (b p hp).pos
end Law
/-! K14l: the law's rows by their lengths; sorted they are lexi. -/
namespace Law
open PySem PySem.Spec PyProof.Rows L2 TL
/-- each row made longer by each value -/
def longer (R : List (List PyData)) (V : List PyData) : List (List PyData) := R.flatMap fun x => V.map fun v => x ++ [v]
/-- the rows of j items -/
def pw (V : List PyData) : Nat → List (List PyData)
  | 0 => [[]]
  | j + 1 => longer (pw V j) V
theorem prod_take {ps : List (Str × Kd)} (h : ∀ p ∈ ps, 0 < sz p.2) (i : Nat) : prodS (ps.take i) ≤ prodS ps := by
  have e := congrArg prodS (List.take_append_drop i ps)
  rw [prod_app] at e
  have := prod_pos (ps := ps.drop i) fun p hp => h p (List.mem_of_mem_drop hp)
  rw [← e]
  exact Nat.le_mul_of_pos_right _ this
end Law
namespace Law
open PySem PySem.Spec PyProof.Rows L2 TL
/-! the text of law_k13_ways_fit by places -/
def top (i : Nat) : Stmt := PySem.Challenge.pw_tellgarner_k13_ways_fit.main.body.getD i (.Pass ⟨0, 0, 0, 0⟩)
abbrev s_is_number : Stmt := top 1
theorem sc_is_number : FnScope ["thing"] ["thing"] (defScope s_is_number) := ⟨rfl, rfl, rfl, by decide +kernel, rfl, by decide +kernel, by decide +kernel⟩
abbrev s_size_of : Stmt := top 2
theorem sc_size_of : FnScope ["kind", "word", "size", "name", "inner", "arm"] ["kind"] (defScope s_size_of) := ⟨rfl, rfl, rfl, by decide +kernel, rfl, by decide +kernel, by decide +kernel⟩
abbrev s_row_sizes : Stmt := top 3
theorem sc_row_sizes : FnScope ["kind", "most", "size", "sizes", "place"] ["kind", "most"] (defScope s_row_sizes) := ⟨rfl, rfl, rfl, by decide +kernel, rfl, by decide +kernel, by decide +kernel⟩
abbrev s_is_value : Stmt := top 4
theorem sc_is_value : FnScope ["kind", "value", "word", "one", "part"] ["kind", "value"] (defScope s_is_value) := ⟨rfl, rfl, rfl, by decide +kernel, rfl, by decide +kernel, by decide +kernel⟩
abbrev s_is_arm_value : Stmt := top 5
theorem sc_is_arm_value : FnScope ["arms", "tag", "value", "name", "kind"] ["arms", "tag", "value"] (defScope s_is_arm_value) := ⟨rfl, rfl, rfl, by decide +kernel, rfl, by decide +kernel, by decide +kernel⟩
abbrev s_fits : Stmt := top 10
theorem sc_fits : FnScope ["way", "left", "right"] ["way", "left", "right"] (defScope s_fits) := ⟨rfl, rfl, rfl, by decide +kernel, rfl, by decide +kernel, by decide +kernel⟩
abbrev s_fits_within : Stmt := top 11
theorem sc_fits_within : FnScope ["way", "left", "right", "depth", "word"] ["way", "left", "right", "depth"] (defScope s_fits_within) := ⟨rfl, rfl, rfl, by decide +kernel, rfl, by decide +kernel, by decide +kernel⟩
abbrev s_fits_bare : Stmt := top 12
theorem sc_fits_bare : FnScope ["word", "left", "right"] ["word", "left", "right"] (defScope s_fits_bare) := ⟨rfl, rfl, rfl, by decide +kernel, rfl, by decide +kernel, by decide +kernel⟩
abbrev s_fits_table : Stmt := top 13
theorem sc_fits_table : FnScope ["forth", "back", "left", "right", "entry"] ["forth", "back", "left", "right"] (defScope s_fits_table) := ⟨rfl, rfl, rfl, by decide +kernel, rfl, by decide +kernel, by decide +kernel⟩
abbrev s_fits_some : Stmt := top 14
theorem sc_fits_some : FnScope ["way", "left", "right", "depth"] ["way", "left", "right", "depth"] (defScope s_fits_some) := ⟨rfl, rfl, rfl, by decide +kernel, rfl, by decide +kernel, by decide +kernel⟩
abbrev s_fits_must : Stmt := top 15
theorem sc_fits_must : FnScope ["way", "left", "right", "depth"] ["way", "left", "right", "depth"] (defScope s_fits_must) := ⟨rfl, rfl, rfl, by decide +kernel, rfl, by decide +kernel, by decide +kernel⟩
abbrev s_fits_inside : Stmt := top 16
theorem sc_fits_inside : FnScope ["way", "left", "right", "depth", "word"] ["way", "left", "right", "depth"] (defScope s_fits_inside) := ⟨rfl, rfl, rfl, by decide +kernel, rfl, by decide +kernel, by decide +kernel⟩
abbrev s_fits_arms : Stmt := top 17
theorem sc_fits_arms : FnScope ["trios", "left", "right", "depth", "seen", "tag", "other", "way", "inner", "outer", "trio"] ["trios", "left", "right", "depth"] (defScope s_fits_arms) := ⟨rfl, rfl, rfl, by decide +kernel, rfl, by decide +kernel, by decide +kernel⟩
abbrev s_arm_kind : Stmt := top 18
theorem sc_arm_kind : FnScope ["kind", "tag", "name", "inner"] ["kind", "tag"] (defScope s_arm_kind) := ⟨rfl, rfl, rfl, by decide +kernel, rfl, by decide +kernel, by decide +kernel⟩
abbrev s_has_all_tags : Stmt := top 19
theorem sc_has_all_tags : FnScope ["kind", "tags", "name", "inner"] ["kind", "tags"] (defScope s_has_all_tags) := ⟨rfl, rfl, rfl, by decide +kernel, rfl, by decide +kernel, by decide +kernel⟩
abbrev s_fits_parts : Stmt := top 20
theorem sc_fits_parts : FnScope ["trios", "left", "right", "depth", "place", "other", "way", "trio"] ["trios", "left", "right", "depth"] (defScope s_fits_parts) := ⟨rfl, rfl, rfl, by decide +kernel, rfl, by decide +kernel, by decide +kernel⟩
abbrev s_is_place : Stmt := top 21
theorem sc_is_place : FnScope ["kind", "place"] ["kind", "place"] (defScope s_is_place) := ⟨rfl, rfl, rfl, by decide +kernel, rfl, by decide +kernel, by decide +kernel⟩
abbrev s_part_kind : Stmt := top 22
theorem sc_part_kind : FnScope ["kind", "place"] ["kind", "place"] (defScope s_part_kind) := ⟨rfl, rfl, rfl, by decide +kernel, rfl, by decide +kernel, by decide +kernel⟩
abbrev s_each_place_once : Stmt := top 23
theorem sc_each_place_once : FnScope ["kind", "places", "place"] ["kind", "places"] (defScope s_each_place_once) := ⟨rfl, rfl, rfl, by decide +kernel, rfl, by decide +kernel, by decide +kernel⟩
abbrev s_l_state : Stmt := top 25
theorem sc_l_state : FnScope ["script", "seed", "cell"] ["script"] (defScope s_l_state) := ⟨rfl, rfl, rfl, by decide +kernel, rfl, by decide +kernel, by decide +kernel⟩
abbrev s_l_mixed : Stmt := top 26
theorem sc_l_mixed : FnScope ["seed", "count", "first", "second", "third"] ["seed", "count"] (defScope s_l_mixed) := ⟨rfl, rfl, rfl, by decide +kernel, rfl, by decide +kernel, by decide +kernel⟩
abbrev s_l_own_draw : Stmt := top 27
theorem sc_l_own_draw : FnScope ["state", "many", "cell", "digit"] ["state", "many"] (defScope s_l_own_draw) := ⟨rfl, rfl, rfl, by decide +kernel, rfl, by decide +kernel, by decide +kernel⟩
abbrev s_l_own_names : Stmt := top 28
theorem sc_l_own_names : FnScope ["state", "many", "letters", "start", "stride", "firsts", "mode", "size", "place", "tails", "k", "first"] ["state", "many"] (defScope s_l_own_names) := ⟨rfl, rfl, rfl, by decide +kernel, rfl, by decide +kernel, by decide +kernel⟩
abbrev s_l_own_size : Stmt := top 29
theorem sc_l_own_size : FnScope ["kind", "inner", "size", "part", "arm"] ["kind"] (defScope s_l_own_size) := ⟨rfl, rfl, rfl, by decide +kernel, rfl, by decide +kernel, by decide +kernel⟩
abbrev s_l_depth : Stmt := top 30
theorem sc_l_depth : FnScope ["kind", "piece"] ["kind"] (defScope s_l_depth) := ⟨rfl, rfl, rfl, by decide +kernel, rfl, by decide +kernel, by decide +kernel⟩
abbrev s_l_own_is_value : Stmt := top 31
theorem sc_l_own_is_value : FnScope ["kind", "value", "inner", "arm", "k", "part"] ["kind", "value"] (defScope s_l_own_is_value) := ⟨rfl, rfl, rfl, by decide +kernel, rfl, by decide +kernel, by decide +kernel⟩
abbrev s_l_num : Stmt := top 32
theorem sc_l_num : FnScope ["state", "most", "size", "low"] ["state", "most"] (defScope s_l_num) := ⟨rfl, rfl, rfl, by decide +kernel, rfl, by decide +kernel, by decide +kernel⟩
abbrev s_l_own_pick : Stmt := top 33
theorem sc_l_own_pick : FnScope ["state", "most"] ["state", "most"] (defScope s_l_own_pick) := ⟨rfl, rfl, rfl, by decide +kernel, rfl, by decide +kernel, by decide +kernel⟩
abbrev s_l_own_kind : Stmt := top 34
theorem sc_l_own_kind : FnScope ["state", "room", "most", "shape", "many", "names", "name"] ["state", "room", "most"] (defScope s_l_own_kind) := ⟨rfl, rfl, rfl, by decide +kernel, rfl, by decide +kernel, by decide +kernel⟩
abbrev s_l_row : Stmt := top 35
theorem sc_l_row : FnScope ["state", "inner", "most", "longest"] ["state", "inner", "most"] (defScope s_l_row) := ⟨rfl, rfl, rfl, by decide +kernel, rfl, by decide +kernel, by decide +kernel⟩
abbrev s_l_arms : Stmt := top 36
theorem sc_l_arms : FnScope ["state", "names", "models", "room", "most", "found", "rest", "k", "name", "share"] ["state", "names", "models", "room", "most"] (defScope s_l_arms) := ⟨rfl, rfl, rfl, by decide +kernel, rfl, by decide +kernel, by decide +kernel⟩
abbrev s_l_recs : Stmt := top 37
theorem sc_l_recs : FnScope ["state", "names", "models", "room", "most", "found", "rest", "k", "name"] ["state", "names", "models", "room", "most"] (defScope s_l_recs) := ⟨rfl, rfl, rfl, by decide +kernel, rfl, by decide +kernel, by decide +kernel⟩
abbrev s_l_inner : Stmt := top 38
theorem sc_l_inner : FnScope ["state", "model", "room", "most"] ["state", "model", "room", "most"] (defScope s_l_inner) := ⟨rfl, rfl, rfl, by decide +kernel, rfl, by decide +kernel, by decide +kernel⟩
abbrev s_l_like : Stmt := top 39
theorem sc_l_like : FnScope ["state", "kind", "room", "most", "turn", "found"] ["state", "kind", "room", "most"] (defScope s_l_like) := ⟨rfl, rfl, rfl, by decide +kernel, rfl, by decide +kernel, by decide +kernel⟩
abbrev s_l_changed : Stmt := top 40
theorem sc_l_changed : FnScope ["state", "kind", "room", "most", "models", "shift", "many", "piece"] ["state", "kind", "room", "most"] (defScope s_l_changed) := ⟨rfl, rfl, rfl, by decide +kernel, rfl, by decide +kernel, by decide +kernel⟩
abbrev s_l_own_value : Stmt := top 41
theorem sc_l_own_value : FnScope ["state", "kind", "arm", "k", "part"] ["state", "kind"] (defScope s_l_own_value) := ⟨rfl, rfl, rfl, by decide +kernel, rfl, by decide +kernel, by decide +kernel⟩
abbrev s_l_words : Stmt := top 42
theorem sc_l_words : FnScope ["left", "right", "deep", "words", "pair"] ["left", "right", "deep"] (defScope s_l_words) := ⟨rfl, rfl, rfl, by decide +kernel, rfl, by decide +kernel, by decide +kernel⟩
abbrev s_l_own_way : Stmt := top 43
theorem sc_l_own_way : FnScope ["state", "left", "right", "deep", "words", "word"] ["state", "left", "right", "deep"] (defScope s_l_own_way) := ⟨rfl, rfl, rfl, by decide +kernel, rfl, by decide +kernel, by decide +kernel⟩
abbrev s_l_table : Stmt := top 44
theorem sc_l_table : FnScope ["state", "left", "right", "forth", "k"] ["state", "left", "right"] (defScope s_l_table) := ⟨rfl, rfl, rfl, by decide +kernel, rfl, by decide +kernel, by decide +kernel⟩
abbrev s_l_turned : Stmt := top 45
theorem sc_l_turned : FnScope ["state", "trios", "shift"] ["state", "trios"] (defScope s_l_turned) := ⟨rfl, rfl, rfl, by decide +kernel, rfl, by decide +kernel, by decide +kernel⟩
abbrev s_l_arm_trios : Stmt := top 46
theorem sc_l_arm_trios : FnScope ["state", "lefts", "rights", "deep", "pairs", "met", "step", "pair", "trios", "one", "other", "k"] ["state", "lefts", "rights", "deep"] (defScope s_l_arm_trios) := ⟨rfl, rfl, rfl, by decide +kernel, rfl, by decide +kernel, by decide +kernel⟩
abbrev s_l_part_trios : Stmt := top 47
theorem sc_l_part_trios : FnScope ["state", "lefts", "rights", "deep", "free", "trios", "k", "part", "place", "other"] ["state", "lefts", "rights", "deep"] (defScope s_l_part_trios) := ⟨rfl, rfl, rfl, by decide +kernel, rfl, by decide +kernel, by decide +kernel⟩
abbrev s_l_part_of : Stmt := top 48
theorem sc_l_part_of : FnScope ["kind", "place"] ["kind", "place"] (defScope s_l_part_of) := ⟨rfl, rfl, rfl, by decide +kernel, rfl, by decide +kernel, by decide +kernel⟩
abbrev s_l_own_fits : Stmt := top 49
theorem sc_l_own_fits : FnScope ["way", "left", "right", "deep", "word"] ["way", "left", "right", "deep"] (defScope s_l_own_fits) := ⟨rfl, rfl, rfl, by decide +kernel, rfl, by decide +kernel, by decide +kernel⟩
abbrev s_l_fits_table : Stmt := top 50
theorem sc_l_fits_table : FnScope ["forth", "back", "left", "right", "entries", "value"] ["forth", "back", "left", "right"] (defScope s_l_fits_table) := ⟨rfl, rfl, rfl, by decide +kernel, rfl, by decide +kernel, by decide +kernel⟩
abbrev s_l_fits_arms : Stmt := top 51
theorem sc_l_fits_arms : FnScope ["trios", "lefts", "rights", "deep", "tags", "others", "pairs", "k", "trio", "one", "other", "firsts", "seconds", "arm", "pair", "tag"] ["trios", "lefts", "rights", "deep"] (defScope s_l_fits_arms) := ⟨rfl, rfl, rfl, by decide +kernel, rfl, by decide +kernel, by decide +kernel⟩
abbrev s_l_fits_parts : Stmt := top 52
theorem sc_l_fits_parts : FnScope ["trios", "left", "right", "deep", "ones", "twos", "trio"] ["trios", "left", "right", "deep"] (defScope s_l_fits_parts) := ⟨rfl, rfl, rfl, by decide +kernel, rfl, by decide +kernel, by decide +kernel⟩
abbrev s_l_kids : Stmt := top 53
theorem sc_l_kids : FnScope ["way", "trio"] ["way"] (defScope s_l_kids) := ⟨rfl, rfl, rfl, by decide +kernel, rfl, by decide +kernel, by decide +kernel⟩
abbrev s_l_own_nodes : Stmt := top 54
theorem sc_l_own_nodes : FnScope ["way", "found", "kid"] ["way"] (defScope s_l_own_nodes) := ⟨rfl, rfl, rfl, by decide +kernel, rfl, by decide +kernel, by decide +kernel⟩
abbrev s_l_put : Stmt := top 55
theorem sc_l_put : FnScope ["way", "place", "fresh", "trios", "trio", "many"] ["way", "place", "fresh"] (defScope s_l_put) := ⟨rfl, rfl, rfl, by decide +kernel, rfl, by decide +kernel, by decide +kernel⟩
abbrev s_l_odd : Stmt := top 56
theorem sc_l_odd : FnScope ["state", "value", "menu"] ["state", "value"] (defScope s_l_odd) := ⟨rfl, rfl, rfl, by decide +kernel, rfl, by decide +kernel, by decide +kernel⟩
abbrev s_l_own_bent : Stmt := top 57
theorem sc_l_own_bent : FnScope ["state", "node", "word", "turn"] ["state", "node"] (defScope s_l_own_bent) := ⟨rfl, rfl, rfl, by decide +kernel, rfl, by decide +kernel, by decide +kernel⟩
abbrev s_l_bent_table : Stmt := top 58
theorem sc_l_bent_table : FnScope ["state", "node", "side", "row", "turn", "place"] ["state", "node"] (defScope s_l_bent_table) := ⟨rfl, rfl, rfl, by decide +kernel, rfl, by decide +kernel, by decide +kernel⟩
abbrev s_l_bent_trios : Stmt := top 59
theorem sc_l_bent_trios : FnScope ["state", "node", "strange", "trios", "place", "trio", "mate", "turn"] ["state", "node", "strange"] (defScope s_l_bent_trios) := ⟨rfl, rfl, rfl, by decide +kernel, rfl, by decide +kernel, by decide +kernel⟩
abbrev s_l_wide : Stmt := top 60
theorem sc_l_wide : FnScope ["state", "size", "low"] ["state", "size"] (defScope s_l_wide) := ⟨rfl, rfl, rfl, by decide +kernel, rfl, by decide +kernel, by decide +kernel⟩
abbrev s_l_chain : Stmt := top 61
theorem sc_l_chain : FnScope ["state", "left", "right", "way", "step"] ["state"] (defScope s_l_chain) := ⟨rfl, rfl, rfl, by decide +kernel, rfl, by decide +kernel, by decide +kernel⟩
abbrev s_l_long_table : Stmt := top 62
theorem sc_l_long_table : FnScope ["state", "left", "right"] ["state"] (defScope s_l_long_table) := ⟨rfl, rfl, rfl, by decide +kernel, rfl, by decide +kernel, by decide +kernel⟩
abbrev s_l_world : Stmt := top 63
theorem sc_l_world : FnScope ["state", "turn", "left", "right"] ["state"] (defScope s_l_world) := ⟨rfl, rfl, rfl, by decide +kernel, rfl, by decide +kernel, by decide +kernel⟩
abbrev s_l_asked : Stmt := top 64
theorem sc_l_asked : FnScope ["way", "left", "right", "told"] ["way", "left", "right"] (defScope s_l_asked) := ⟨rfl, rfl, rfl, by decide +kernel, rfl, by decide +kernel, by decide +kernel⟩
abbrev s_l_changed_way : Stmt := top 65
theorem sc_l_changed_way : FnScope ["state", "way", "turn", "nodes", "place"] ["state", "way"] (defScope s_l_changed_way) := ⟨rfl, rfl, rfl, by decide +kernel, rfl, by decide +kernel, by decide +kernel⟩
abbrev s_l_all_asked : Stmt := top 66
theorem sc_l_all_asked : FnScope ["state", "way", "left", "right", "step", "bent", "turn", "told"] ["state", "way", "left", "right"] (defScope s_l_all_asked) := ⟨rfl, rfl, rfl, by decide +kernel, rfl, by decide +kernel, by decide +kernel⟩
abbrev s_law : Stmt := top 67
theorem sc_law : FnScope ["script", "state", "worlds", "world"] ["script"] (defScope s_law) := ⟨rfl, rfl, rfl, by decide +kernel, rfl, by decide +kernel, by decide +kernel⟩
theorem atI_nat {α : Type} {xs : List α} {i : Nat} {x : α} (h : xs[i]? = some x) : atI xs (i : Int) = some x := by
  have hl := (List.getElem?_eq_some_iff.mp h).1
  unfold atI ixN
  rw [if_pos (by omega), if_pos (by omega)]
  exact h
/-- xs[e], the place drawn -/
theorem we_ixD {X : Cx} {a b : Expr} {Γ Γ1 : Sl} {Ψ : OD → Sl → Prop} {pos : Pos} {ds : List PyData} (ha : XE X a Γ (.da (.list ds)) Γ1) (h : WE X b Γ1 fun r Γ2 => ∃ (j : Nat) (d : PyData), r = .da (.int j) ∧ ds[j]? = some d ∧ Ψ (.da d) Γ2) (hs : PlainIx b := by exact fun _ _ => rfl) : WE X (.Subscript a b pos) Γ Ψ := fun I H σ F en Q k =>
  ⟨_, pe_ix ix_seq wpE_ok wpE_ok hs, two_core (ha _ (h.mono fun r Γ2 ⟨j, d, e, hj, hq⟩ => by
    subst e
    exact ⟨.da d, Op2.pure fun I H v u h1 h2 s Q k => by
      cases h2
      cases h1 with
      | lst q r =>
        obtain ⟨w, hw, rw'⟩ := atI_rp r (atI_nat hj)
        exact .inl ⟨_, _, (j : Nat), w, rfl, rfl, s.seq q, hw, k _ rw'⟩, hq⟩)) I H σ F en Q k⟩
end Law
/-! K14f: size_of, row_sizes, _law_size, _law_row_sizes. -/
namespace Law
open PySem PySem.Spec PyProof.Rows L2 TL
section
variable {X : Cx} {a b e : Expr} {Γ Γ1 Γ2 : Sl} {pos : Pos} {s t : Str} {i j : Int}
theorem xt_eqS (hu : X.A.units + 64 < cLine) (ha : XE X a Γ (.da (.str s)) Γ1) (hb : XE X b Γ1 (.da (.str t)) Γ2) : XT X (.Compare a [.Eq] [b] pos) Γ (decide (s = t)) Γ2 := by
  have q := xt_eqP (pos := pos) hu ha hb
  rw [eqv_str] at q
  exact q
theorem xe_names {t : Bool} {ns : List Str} (h : XE X e Γ (.da (namesD t ns)) Γ1) : XE X e Γ (.da (.tuple (strsD ns))) Γ1 := by
  cases t with
  | true => exact xe_tn (xe_castD h (if_pos rfl))
  | false => exact xe_castD h (if_neg (by decide))
end
theorem atI_neg1 {α : Type} {xs : List α} {x : α} : atI (xs ++ [x]) (-1) = some x := by
  unfold atI ixN
  rw [List.length_append, List.length_singleton, if_neg (by decide), if_pos (by omega)]
  show (xs ++ [x])[(-1 + ((xs.length + 1 : Nat) : Int)).toNat]? = some x
  rw [show (-1 + ((xs.length + 1 : Nat) : Int)).toNat = xs.length by omega, List.getElem?_append_right (Nat.le_refl _), Nat.sub_self]
  rfl
/-- the numbers of rows, as data -/
def rsD (s m : Nat) : List PyData := (List.range (m + 1)).map fun i => .int (rs s i : Nat)
theorem rsD_succ {s m : Nat} : rsD s (m + 1) = rsD s m ++ [.int (rs s (m + 1) : Nat)] := by
  rw [rsD, List.range_succ, List.map_append]
  rfl
theorem rsD_last {s m : Nat} : atI (rsD s m) (-1) = some (.int (rs s m : Nat)) := by
  rw [rsD, List.range_succ, List.map_append]
  exact atI_neg1
theorem rsD_len {s m : Nat} : (rsD s m).length = m + 1 := by rw [rsD, List.length_map, List.length_range]
theorem log_le {i : Nat} {b : Nat} (h : i ≤ 2 ^ b) : i.log2 ≤ b := by
  by_cases h0 : i = 0
  · rw [h0]; exact Nat.zero_le _
  · have := (Nat.log2_lt (k := b + 1) h0).mpr (by rw [Nat.pow_succ]; have := Nat.two_pow_pos b; omega)
    omega
theorem mulW {i j b c : Nat} (hi : i ≤ 2 ^ b) (hj : j ≤ 2 ^ c) (h : b + c < 1000000) : CMulW (i : Nat) (j : Nat) := by
  have h1 := log_le hi
  have h2 := log_le hj
  show (i : Int).natAbs.log2 + (j : Int).natAbs.log2 < 1000000
  rw [Int.natAbs_natCast, Int.natAbs_natCast]
  omega
theorem bnd_le : ∀ {n : Nat}, n ≤ 5 → bnd n ≤ 20000
  | 0, _ => by decide
  | 1, _ => by decide
  | 2, _ => by decide
  | 3, _ => by decide
  | 4, _ => by decide
  | 5, _ => by decide
def spSize (n : Nat) : SpD := fun as Ψ => ∃ k : Kd, as = [.da (kD k)] ∧ Ok n k ∧ Ψ (.da (.int (sz k : Nat))) as
def spRows (n : Nat) : SpD := fun as Ψ => ∃ (k : Kd) (m : Nat), as = [.da (kD k), .da (.int (m : Nat))] ∧ Ok n k ∧ m ≤ 4 ∧ Ψ (.ll (rsD (sz k) m)) as
theorem fold_prod : ∀ (ps : List (Str × Kd)) (a : Nat), ps.foldl (fun a p => a * sz p.2) a = a * prodS ps
  | [], a => by rw [List.foldl_nil, prodS, Nat.mul_one]
  | p :: ps, a => by rw [List.foldl_cons, fold_prod ps, prodS, Nat.mul_assoc]
theorem sum_cast : ∀ as : List (Str × Kd), (as.map fun p => ((sz p.2 : Nat) : Int)).sum = (((as.map fun p => sz p.2).sum : Nat) : Int)
  | [] => rfl
  | p :: as => by rw [List.map_cons, List.map_cons, List.sum_cons, List.sum_cons, sum_cast as, Int.natCast_add]
theorem take_fold {ps : List (Str × Kd)} {n i : Nat} (h : Ok (n + 1) (.rec_ ps)) (hn : n ≤ 5) : ∃ b, b ≤ 120000 ∧ (ps.take i).foldl (fun a p => a * sz p.2) 1 ≤ 2 ^ b := by
  cases h with
  | rec_ hl hk =>
    rw [fold_prod, Nat.one_mul]
    refine ⟨_, ?_, prod_le (b := bnd n) (ps := ps.take i) fun p hp => sz_le (hk p (List.mem_of_mem_take hp))⟩
    have h1 : (ps.take i).length ≤ 6 := by rw [List.length_take]; omega
    have h2 := bnd_le (n := n) (by omega)
    exact Nat.le_trans (Nat.mul_le_mul h2 h1) (by decide)
theorem sz6 {α : Type} {xs : List α} {m : Nat} (h : xs.length ≤ m) (hm : m ≤ 1000) : xs.length ≤ sizeLine := Nat.le_trans h (Nat.le_trans hm (by decide))
section
variable {P : Program} {w : World} {K : PySem.W.Frag} {mg : Str → Option Value} {bs h : Heap} (X : K.In h) (G : h.Ns mainGlobals mg) (B : Blt mg)
include X G B
theorem d_rows (D : DK K "row_sizes" s_row_sizes) {n : Nat} (hn : n ≤ 4) {r : Nat} (gS : Def P w K mg bs r "size_of" ["kind"] (spSize n)) : Def P w K mg bs (r + 1) "row_sizes" ["kind", "most"] (spRows n) := by
  refine def_ok X G D sc_row_sizes (fun f fd F => F.binds (ps := ["kind", "most"]) fun _ _ _ _ _ _ us hl => match us, hl with | [_, _], _ => rfl) (fun as Ψ h => by obtain ⟨_, _, rfl, _⟩ := h; rfl) fun f cdv A fr s H E fx as Ψ vs hsp hl => ?_
  obtain ⟨k, m, rfl, ok, hm, hq⟩ := hsp
  obtain ⟨v0, v1, rfl⟩ := ar2 hl
  have nd := fx.nd
  show WSs _ _ [some (.da (kD k)), some (.da (.int (m : Nat))), none, none, none] _
  refine xs_set 2 nd (fun Ψ' hq' => we_fnR gS fx.room fx.gd (wr_da (xv 0) (wr_nil ⟨_, _, rfl, k, rfl, ok, hq'⟩))) ?_
  refine ws_set 3 nd (we_lst (wa_cons (xe_int _ (wa_nil ⟨[.int 1], rfl, by decide, ?_⟩))))
  have hb := sz_le ok
  have b5 := bnd_le (n := n) (by omega)
  refine ws_fold fx (List.range m) (fun (i : Nat) => .int i) (fun j : Nat => [some (.da (kD k)), some (.da (.int (m : Nat))), some (.da (.int (sz k : Nat))), some (.ll (rsD (sz k) j)), none]) (fun j _ => j + 1) 0 (xi_rangeN B (xv 1) (by omega)) rfl (fun j x hx => ?_) ?_
  · refine wg_name 4 nd ?_
    have hj : ((List.range m).take j).foldl (fun j _ => j + 1) 0 = j := by
      have lt := (List.getElem?_eq_some_iff.mp hx).1
      rw [List.length_range] at lt
      have : ∀ (l : List Nat) (a : Nat), l.foldl (fun j _ => j + 1) a = a + l.length := fun l => by
        induction l with
        | nil => intro a; rfl
        | cons y l ih => intro a; rw [List.foldl_cons, ih, List.length_cons]; omega
      rw [this, List.length_take, List.length_range]
      omega
    have lt : j < m := by
      have lt := (List.getElem?_eq_some_iff.mp hx).1
      rwa [List.length_range] at lt
    rw [hj]
    have rl := rs_le hb j
    have jj : (bnd n + 1) * j ≤ 80004 := Nat.le_trans (Nat.mul_le_mul (Nat.succ_le_succ b5) (show j ≤ 4 by omega)) (by decide)
    refine ws_expr (we_append 3 (we_pure (xe_add xe_int (xe_mulW (mulW hb rl (by omega)) (xv 2) (xe_ixll 3 (j := -1) (xe_neg xe_int) (hd := rsD_last)))) ⟨_, _, _, _, rfl, rfl, .ll, by rw [rsD_len]; exact Nat.lt_of_le_of_lt (show j + 1 ≤ 5 by omega) (by decide), ?_⟩))
    refine ws_drop 4 (ws_nil ?_)
    show _ = _
    rw [rsD_succ, rs]
    push_cast
    rfl
  · have : ∀ (l : List Nat) (a : Nat), l.foldl (fun j _ => j + 1) a = a + l.length := fun l => by
      induction l with
      | nil => intro a; rfl
      | cons y l ih => intro a; rw [List.foldl_cons, ih, List.length_cons]; omega
    rw [this, List.length_range, Nat.zero_add]
    exact xs_ret (xe_move 3) ⟨_, .da (.da .nil), hq⟩
end
end Law
/-! K14g: size_of, _law_size. -/
namespace Law
open PySem PySem.Spec PyProof.Rows L2 TL
section
variable {P : Program} {w : World} {K : PySem.W.Frag} {mg : Str → Option Value} {bs h : Heap} (X : K.In h) (G : h.Ns mainGlobals mg) (B : Blt mg)
include X G B
theorem d_size (DS : DK K "size_of" s_size_of) (DR : DK K "row_sizes" s_row_sizes) : ∀ n : Nat, n ≤ 5 → Def P w K mg bs (2 * n + 1) "size_of" ["kind"] (spSize n)
  | 0, _ => by
    refine def_ok X G DS sc_size_of (fun f fd F => F.binds (ps := ["kind"]) fun _ _ _ _ _ _ us hl => match us, hl with | [_], _ => rfl) (fun as Ψ h => by obtain ⟨_, rfl, _⟩ := h; rfl) fun f cdv A fr s H E fx as Ψ vs hsp hl => ?_
    obtain ⟨k, rfl, ok, _⟩ := hsp
    cases ok
  | n + 1, hn => by
    have gS := d_size DS DR n (Nat.le_of_succ_le hn)
    have gR := d_rows X G B DR (n := n) (by omega) gS
    show Def P w K mg bs (2 * n + 2 + 1) "size_of" ["kind"] (spSize (n + 1))
    refine def_ok X G DS sc_size_of (fun f fd F => F.binds (ps := ["kind"]) fun _ _ _ _ _ _ us hl => match us, hl with | [_], _ => rfl) (fun as Ψ h => by obtain ⟨_, rfl, _⟩ := h; rfl) fun f cdv A fr s H E fx as Ψ vs hsp hl => ?_
    obtain ⟨k, rfl, ok, hq⟩ := hsp
    obtain ⟨v0, rfl⟩ := ar1 hl
    have nd := fx.nd
    have r1 := fx.room.mono (show 2 * n + 1 ≤ 2 * n + 2 by omega)
    have hok := ok
    cases ok with
    | num h1 _ _ _ =>
      rw [kD] at hq ⊢
      show WSs _ _ [some (.da _), none, none, none, none, none] _
      refine xs_set 1 nd (xe_ix (xv 0) xe_int (.inr rfl) (j := 0) (d := .str "num") rfl) ?_
      refine xs_if (xt_cast (j' := true) (xt_eqS fx.u (xv 1) xe_str) (by decide +kernel)) (fun _ => ?_) (fun he => by cases he)
      rw [sz_num (by omega)] at hq
      exact xs_ret (xe_add (xe_sub (xe_ix (xv 0) xe_int (.inr rfl) rfl) (xe_ix (xv 0) xe_int (.inr rfl) rfl)) xe_int) ⟨_, .da .nil, hq⟩
    | pick h1 =>
      rw [kD] at hq ⊢
      show WSs _ _ [some (.da _), none, none, none, none, none] _
      refine xs_set 1 nd (xe_ix (xv 0) xe_int (.inr rfl) (j := 0) (d := .str "pick") rfl) ?_
      refine xs_if (xt_cast (j' := false) (xt_eqS fx.u (xv 1) xe_str) (by decide +kernel)) (fun he => by cases he) fun _ => ws_nil ?_
      refine xs_if (xt_cast (j' := true) (xt_eqS fx.u (xv 1) xe_str) (by decide +kernel)) (fun _ => ?_) (fun he => by cases he)
      rw [sz_pick] at hq
      exact xs_ret (xe_cast (xe_len B (xe_names (xe_ix (xv 0) xe_int (.inr rfl) rfl)) (.inr rfl)) (by rw [List.length_map])) ⟨_, .da .nil, hq⟩
    | @opt _ k1 h1 =>
      rw [kD] at hq ⊢
      show WSs _ _ [some (.da _), none, none, none, none, none] _
      refine xs_set 1 nd (xe_ix (xv 0) xe_int (.inr rfl) (j := 0) (d := .str "opt") rfl) ?_
      refine xs_if (xt_cast (j' := false) (xt_eqS fx.u (xv 1) xe_str) (by decide +kernel)) (fun he => by cases he) fun _ => ws_nil ?_
      refine xs_if (xt_cast (j' := false) (xt_eqS fx.u (xv 1) xe_str) (by decide +kernel)) (fun he => by cases he) fun _ => ws_nil ?_
      refine xs_if (xt_cast (j' := true) (xt_eqS fx.u (xv 1) xe_str) (by decide +kernel)) (fun _ => ?_) (fun he => by cases he)
      rw [sz_opt] at hq
      exact xs_ret (xe_cast (xe_add xe_int (fun Ψ' hq' => we_fnR gS r1 fx.gd (wr_da (xe_ix (xv 0) xe_int (.inr rfl) rfl) (wr_nil ⟨_, _, rfl, k1, rfl, h1, hq'⟩)))) (by push_cast; rfl)) ⟨_, .da .nil, hq⟩
    | @row _ m k1 h1 h2 =>
      rw [kD] at hq ⊢
      show WSs _ _ [some (.da _), none, none, none, none, none] _
      refine xs_set 1 nd (xe_ix (xv 0) xe_int (.inr rfl) (j := 0) (d := .str "row") rfl) ?_
      refine xs_if (xt_cast (j' := false) (xt_eqS fx.u (xv 1) xe_str) (by decide +kernel)) (fun he => by cases he) fun _ => ws_nil ?_
      refine xs_if (xt_cast (j' := false) (xt_eqS fx.u (xv 1) xe_str) (by decide +kernel)) (fun he => by cases he) fun _ => ws_nil ?_
      refine xs_if (xt_cast (j' := false) (xt_eqS fx.u (xv 1) xe_str) (by decide +kernel)) (fun he => by cases he) fun _ => ws_nil ?_
      refine xs_if (xt_cast (j' := true) (xt_eqS fx.u (xv 1) xe_str) (by decide +kernel)) (fun _ => ?_) (fun he => by cases he)
      rw [sz_row] at hq
      exact xs_ret (xe_ix (xe_frz (fun Ψ' hq' => we_fnR gR fx.room fx.gd (wr_da (xe_ix (xv 0) xe_int (.inr rfl) rfl) (wr_da (xe_ix (xv 0) xe_int (.inr rfl) rfl) (wr_nil ⟨_, _, rfl, k1, m, rfl, h1, h2, hq'⟩))))) (xe_neg xe_int) (.inl rfl) rsD_last) ⟨_, .da .nil, hq⟩
    | @one _ as1 h1 h2 =>
      rw [kD] at hq ⊢
      show WSs _ _ [some (.da _), none, none, none, none, none] _
      refine xs_set 1 nd (xe_ix (xv 0) xe_int (.inr rfl) (j := 0) (d := .str "one") rfl) ?_
      refine xs_if (xt_cast (j' := false) (xt_eqS fx.u (xv 1) xe_str) (by decide +kernel)) (fun he => by cases he) fun _ => ws_nil ?_
      refine xs_if (xt_cast (j' := false) (xt_eqS fx.u (xv 1) xe_str) (by decide +kernel)) (fun he => by cases he) fun _ => ws_nil ?_
      refine xs_if (xt_cast (j' := false) (xt_eqS fx.u (xv 1) xe_str) (by decide +kernel)) (fun he => by cases he) fun _ => ws_nil ?_
      refine xs_if (xt_cast (j' := false) (xt_eqS fx.u (xv 1) xe_str) (by decide +kernel)) (fun he => by cases he) fun _ => ws_nil ?_
      refine xs_if (xt_cast (j' := true) (xt_eqS fx.u (xv 1) xe_str) (by decide +kernel)) (fun _ => ?_) (fun he => by cases he)
      rw [sz_one] at hq
      rw [armsD_map] at hq ⊢
      have ee : (as1.map fun p => PyData.int ((sz p.2 : Nat) : Int)) = (as1.map fun p => ((sz p.2 : Nat) : Int)).map PyData.int := by rw [List.map_map]; rfl
      exact xs_ret (xe_cast (xe_sum B fx.calm (xe_castD (xe_frz (xe_lcM [("arm", 5)] (fun (p : Str × Kd) Γ => Γ.set 5 (some (.da (armD p)))) as1 armD (fun p => .int ((sz p.2 : Nat) : Int)) fx (R := fun p => .da (.int ((sz p.2 : Nat) : Int))) (xi_tup (xe_ix (xv 0) xe_int (.inr rfl) rfl)) (sz6 h1 (by decide)) (fun p hp s H C cl fp => gc_name 5 nd rfl) (fun p hp s H C cl fp Ψ2 hq2 => we_fnR gS r1 fx.gd (wr_da (xe_ix (xv 5) xe_int (.inr rfl) rfl) (wr_nil ⟨_, _, rfl, p.2, rfl, h2 p hp, hq2⟩))))) (congrArg PyData.list ee))) (sum_cast as1)) ⟨_, .da .nil, hq⟩
    | @rec_ _ ps h1 h2 =>
      rw [kD] at hq ⊢
      show WSs _ _ [some (.da _), none, none, none, none, none] _
      refine xs_set 1 nd (xe_ix (xv 0) xe_int (.inr rfl) (j := 0) (d := .str "rec") rfl) ?_
      refine xs_if (xt_cast (j' := false) (xt_eqS fx.u (xv 1) xe_str) (by decide +kernel)) (fun he => by cases he) fun _ => ws_nil ?_
      refine xs_if (xt_cast (j' := false) (xt_eqS fx.u (xv 1) xe_str) (by decide +kernel)) (fun he => by cases he) fun _ => ws_nil ?_
      refine xs_if (xt_cast (j' := false) (xt_eqS fx.u (xv 1) xe_str) (by decide +kernel)) (fun he => by cases he) fun _ => ws_nil ?_
      refine xs_if (xt_cast (j' := false) (xt_eqS fx.u (xv 1) xe_str) (by decide +kernel)) (fun he => by cases he) fun _ => ws_nil ?_
      refine xs_if (xt_cast (j' := false) (xt_eqS fx.u (xv 1) xe_str) (by decide +kernel)) (fun he => by cases he) fun _ => ws_nil ?_
      rw [armsD_map] at hq ⊢
      rw [sz_rec] at hq
      refine xs_set 2 nd xe_int ?_
      have hb : ∀ i, ∃ b, b ≤ 120000 ∧ (ps.take i).foldl (fun a p => a * sz p.2) 1 ≤ 2 ^ b := fun i => take_fold hok (by omega)
      refine ws_fold fx ps armD (fun a : Nat => [some (.da (.tuple [.str "rec", .tuple (ps.map armD)])), some (.da (.str "rec")), some (.da (.int (a : Nat))), none, none, none]) (fun a p => a * sz p.2) 1 (xi_tup (xe_ix (xv 0) xe_int (.inr rfl) rfl)) rfl (fun i p hp => ?_) ?_
      · refine wg_tup fx.calm (wgs_cons (wg_name 3 nd (wgs_cons (wg_name 4 nd (wgs_nil ?_)))))
        have hpm := List.mem_of_getElem? hp
        obtain ⟨b, hb1, hb2⟩ := hb i
        have hs := sz_le (h2 p hpm)
        have b5 := bnd_le (n := n) (by omega)
        refine xs_augMul 2 nd (mulW hb2 hs (by omega)) (fun Ψ' hq' => we_fnR gS r1 fx.gd (wr_da (xv 4) (wr_nil ⟨_, _, rfl, p.2, rfl, h2 p hpm, hq'⟩))) ?_
        refine ws_drop 3 (ws_drop 4 (ws_nil ?_))
        show _ = _
        push_cast
        rfl
      · rw [fold_prod, Nat.one_mul]
        exact xs_ret (xv 2) ⟨_, .da .nil, hq⟩
end
end Law
/-! K14h: value_at, row_at, arm_at. -/
namespace Law
open PySem PySem.Spec PyProof.Rows L2 TL
theorem rs_ge {s m : Nat} : s ≤ rs s (m + 1) := by
  have := Nat.mul_le_mul_left s (rs_pos (s := s) m)
  rw [rs]
  omega
theorem prod_ge : ∀ {ps : List (Str × Kd)} {p : Str × Kd}, p ∈ ps → 0 < prodS ps → 0 < sz p.2 ∧ sz p.2 ≤ prodS ps
  | q :: ps, p, hp, h => by
    rw [prodS] at h ⊢
    have h1 := Nat.pos_of_mul_pos_right h
    have h2 := Nat.pos_of_mul_pos_left h
    rcases List.mem_cons.mp hp with rfl | hp
    · exact ⟨by omega, Nat.le_mul_of_pos_right _ (by omega)⟩
    · obtain ⟨g1, g2⟩ := prod_ge hp (by omega)
      exact ⟨g1, Nat.le_trans g2 (Nat.le_mul_of_pos_left _ (by omega))⟩
theorem sum_ge : ∀ {as : List (Str × Kd)} {p : Str × Kd}, p ∈ as → sz p.2 ≤ (as.map fun p => sz p.2).sum
  | q :: as, p, hp => by
    rw [List.map_cons, List.sum_cons]
    rcases List.mem_cons.mp hp with rfl | hp
    · omega
    · have := sum_ge hp
      omega
theorem range_get {lo : Int} {n r : Nat} {v : PyData} (h : (rangeD lo n)[r]? = some v) : v = .int (lo + (r : Nat)) := by
  rw [rangeD, List.getElem?_map] at h
  cases e : (List.range n)[r]? with
  | none => rw [e] at h; cases h
  | some k =>
    rw [e] at h
    obtain ⟨h1, h2⟩ := List.getElem?_eq_some_iff.mp e
    rw [List.getElem_range] at h2
    subst h2
    exact (Option.some.inj h).symm
end Law
/-! K14i: rank_of, rank_of_row, rank_of_arm. -/
namespace Law
open PySem PySem.Spec PyProof.Rows L2 TL
theorem plain_strs : ∀ ns : List Str, PyData.plainAll (strsD ns) = true
  | [] => rfl
  | n :: ns => by
    rw [strsD, List.map_cons]
    simp [PyData.plainAll, PyData.plain, plain_strs ns]
end Law
/-! K14j: rank_of. -/
/-! K14p: sorted of texts. -/
namespace Law
open PySem PySem.Spec PyProof.Rows L2 TL
def sortS (ns : List Str) : List Str := ns.mergeSort strLe
theorem le_str (a b : Str) : PySem.W.dataLe false id (PyData.str a) (PyData.str b) = strLe a b := by
  have := congrFun (congrFun (PySem.W.dataLe_str (β := Str) id) a) b
  rw [show PySem.W.dataLe false id (PyData.str a) (PyData.str b) = PySem.W.dataLe false (fun n : Str => PyData.str (id n)) a b from rfl, this, strLe]
  by_cases h : b.cps.toList < a.cps.toList
  · rw [decide_eq_true h]
    exact decide_eq_false (List.not_le.mpr h)
  · rw [decide_eq_false h]
    exact decide_eq_true (List.not_lt.mp h)
theorem sortD_strs {ns : List Str} : sortD (strsD ns) = strsD (sortS ns) := by
  show sortD (List.map _ _) = _
  rw [sortD_map]
  unfold sortS
  congr 2
  funext a b
  exact le_str a b
theorem sortS_perm (ns : List Str) : (sortS ns).Perm ns := List.mergeSort_perm ns _
theorem sortS_SN {ns : List Str} (nd : ns.Nodup) : SN (sortS ns) := by
  have pw := List.pairwise_mergeSort (le := strLe) (fun a b c h1 h2 => by
    simp only [strLe, Bool.not_eq_true', decide_eq_false_iff_not] at *
    exact List.not_lt.mpr (List.le_trans (List.not_lt.mp h1) (List.not_lt.mp h2))) (fun a b => by
    simp only [strLe, Bool.or_eq_true, Bool.not_eq_true', decide_eq_false_iff_not]
    by_cases h : b.cps.toList < a.cps.toList
    · exact .inr fun h' => List.lt_irrefl _ (List.lt_trans h h')
    · exact .inl h) ns
  have nd2 : (sortS ns).Nodup := (sortS_perm ns).nodup_iff.mpr nd
  refine List.Pairwise.imp₂ (fun a b h1 h2 => ?_) pw nd2
  simp only [strLe, Bool.not_eq_true', decide_eq_false_iff_not] at h1
  rw [strLt, decide_eq_true_eq]
  by_cases h : a.cps.toList < b.cps.toList
  · exact h
  · have h := List.not_lt.mp h
    refine absurd ?_ h2
    have : a.cps.toList = b.cps.toList := List.le_antisymm (List.not_lt.mp h1) h
    exact Str.ext' (Array.toList_inj.mp this)
theorem srt_strs {ns : List Str} (hz : ns.length ≤ sizeLine) : SrtOk (strsD ns) := by
  refine ⟨plain_strs ns, ?_, .inr ?_, by rw [List.length_map]; exact hz, ?_⟩
  · rintro d hd d' hd'
    obtain ⟨a, _, rfl⟩ := List.mem_map.mp hd
    obtain ⟨b, _, rfl⟩ := List.mem_map.mp hd'
    rfl
  · intro d hd
    obtain ⟨a, _, rfl⟩ := List.mem_map.mp hd
    exact ⟨fun h => (by cases h), fun xs h => (by cases h)⟩
  · intro d hd
    obtain ⟨a, _, rfl⟩ := List.mem_map.mp hd
    exact Nat.zero_le _
end Law
/-! K14k: the drawing: _law_state, _law_mixed, _law_own_draw; _law_own_names. -/
namespace Law
open PySem PySem.Spec PyProof.Rows L2 TL
def spState (T : TC) : SpD := fun as Ψ => ∃ ns : List Int, as = [.da (.list (ns.map .int))] ∧ ns.length ≤ 63 ∧ Ψ (.op (dw T)) as
def spMixed : SpD := fun as Ψ => ∃ s c : Int, as = [.da (.int s), .da (.int c)] ∧ ∀ r : Int, Ψ (.da (.int r)) as
def spDrawO (T : TC) : SpD := fun as Ψ => ∃ m : Int, as = [.op (dw T), .da (.int m)] ∧ 0 < m ∧ m < 1073741824 ∧ ∀ r : Int, 0 ≤ r → r < m → Ψ (.da (.int r)) [.op (dw T), .da (.int m)]
section
variable {X : Cx} {Γ : Sl} {Ψ : OD → Sl → Prop} {a : Expr} {pos p p2 : Pos} {nm : Str} {m : Int} {k : Nat} {ps : List Str} {x : OD}
/-- _law_own_draw(state, e), the state in the i-th slot -/
theorem we_drawO (i : Nat) (G : Def X.prog X.w X.K X.mg X.base k "_law_own_draw" ps (spDrawO X.tc)) (hr : Room k X.A) (hgd : X.A.guards = some []) (h : XE X a (Γ.set i none) (.da (.int m)) (Γ.set i none)) (h0 : 0 < m) (h1 : m < 1073741824) (hq : ∀ r : Int, 0 ≤ r → r < m → Ψ (.da (.int r)) Γ)
    (hx : Γ[i]? = some (some x) := by rfl) (hv0 : VOp (dw X.tc) x := by first | exact .op | exact .pin) (hN : X.N[i]? = some nm := by rfl) (hv : Vis X.env.scope nm := by first | exact Or.inl rfl | exact Or.inr (Or.inl rfl) | exact Or.inr (Or.inr rfl)) (h2 : (nm == ("__debug__" : Str)) = false := by decide) (h3 : (nm == ("__classdict__" : Str)) = false := by decide)
    (hg : Gl X "_law_own_draw" := by rfl) (he : starEach [.Name nm p2, a] X.env = (false, eval (.Name nm p2) X.env) :: starEach [a] X.env := by rfl) (he2 : starEach [a] X.env = (false, eval a X.env) :: starEach [] X.env := by rfl) (hpl : (backTo pos (starEach [a] X.env)).any (·.1) = false := by rfl) :
    WE X (.Call (.Name "_law_own_draw" p) [.Name nm p2, a] [] pos) Γ Ψ :=
  we_drawG i G hr hgd hv0 h ⟨m, rfl, h0, h1, fun r g1 g2 => ⟨rfl, hq r g1 g2⟩⟩ (fun as Ψ1 Ψ2 hm ⟨m, e, g0, g1, q⟩ => ⟨m, e, g0, g1, fun r a b => hm _ _ (q r a b)⟩) hx hN hv h2 h3 hg (by decide) he he2 hpl
/-- .. the draw as a natural number below n -/
theorem we_drawN {n : Nat} (i : Nat) (G : Def X.prog X.w X.K X.mg X.base k "_law_own_draw" ps (spDrawO X.tc)) (hr : Room k X.A) (hgd : X.A.guards = some []) (h : XE X a (Γ.set i none) (.da (.int (n : Nat))) (Γ.set i none)) (h0 : 0 < n) (h1 : n < 1000000000) (hq : ∀ r : Nat, r < n → Ψ (.da (.int (r : Nat))) Γ)
    (hx : Γ[i]? = some (some x) := by rfl) (hv0 : VOp (dw X.tc) x := by first | exact .op | exact .pin) (hN : X.N[i]? = some nm := by rfl) (hv : Vis X.env.scope nm := by first | exact Or.inl rfl | exact Or.inr (Or.inl rfl) | exact Or.inr (Or.inr rfl)) (h2 : (nm == ("__debug__" : Str)) = false := by decide) (h3 : (nm == ("__classdict__" : Str)) = false := by decide)
    (hg : Gl X "_law_own_draw" := by rfl) (he : starEach [.Name nm p2, a] X.env = (false, eval (.Name nm p2) X.env) :: starEach [a] X.env := by rfl) (he2 : starEach [a] X.env = (false, eval a X.env) :: starEach [] X.env := by rfl) (hpl : (backTo pos (starEach [a] X.env)).any (·.1) = false := by rfl) :
    WE X (.Call (.Name "_law_own_draw" p) [.Name nm p2, a] [] pos) Γ Ψ :=
  we_drawO i G hr hgd h (by omega) (by omega) (fun r r0 r1 => by
    obtain ⟨j, rfl⟩ := Int.eq_ofNat_of_zero_le r0
    exact hq j (by omega)) hx hv0 hN hv h2 h3 hg he he2 hpl
end
section
variable {P : Program} {w : World} {K : PySem.W.Frag} {mg : Str → Option Value} {bs h : Heap} (X : K.In h) (G : h.Ns mainGlobals mg) (B : Blt mg)
include X G B
theorem d_state (D : DK K "_law_state" s_l_state) : Def P w K mg bs 1 "_law_state" ["script"] (spState ⟨P, w, K⟩) := by
  refine def_ok X G D sc_l_state (fun f fd F => F.binds (ps := ["script"]) fun _ _ _ _ _ _ us hl => match us, hl with | [_], _ => rfl) (fun as Ψ h => by obtain ⟨_, rfl, _⟩ := h; rfl) fun f cdv A fr s H E fx as Ψ vs hsp hl => ?_
  obtain ⟨ns, rfl, l63, hq⟩ := hsp
  obtain ⟨v0, rfl⟩ := ar1 hl
  have nd := fx.nd
  show WSs _ _ [some (.da (.list (ns.map .int))), none, none] _
  refine xs_set 1 nd xe_int ?_
  refine ws_forT fx ns .int (fun z : Int => [some (.da (.list (ns.map .int))), some (.da (.int z)), none]) (fun _ _ => True) 7 (xi_lst (xv 0)) trivial rfl ?_ ?_
  · rintro i c z hc _
    refine wg_name 2 nd ?_
    refine xs_set 1 nd (xe_mod (by decide) (xe_int1 B (xe_add (xe_mul (.inr ⟨by decide, by decide⟩) (xv 1) xe_int) (xv 2))) xe_int) ?_
    exact ws_drop 2 (ws_nil ⟨_, trivial, rfl⟩)
  · rintro z _
    refine ws_ret (we_conv (x := .ll (dS ns 0 0 z 0)) (dw_new (Int.le_refl 0)) ?_)
    refine we_lst (wa_cons (xe_frz (xe_lcM [("cell", 2)] (fun (c : Int) Γ => Γ.set 2 (some (.da (.int c)))) ns .int .int fx (R := fun c => .da (.int c)) (xi_lst (xv 0)) (Nat.le_trans l63 (by decide)) (fun c hc s H C cl fp => gc_name 2 nd rfl) fun c hc s H C cl fp => xe_int1 B (xv 2)) _ (wa_cons (xe_int _ (wa_cons (xe_int _ (wa_cons (we_pure (xv 1) (wa_cons (xe_int _ (wa_nil ⟨dS ns 0 0 z 0, rfl, by show 5 ≤ sizeLine; decide, rfl, ?_⟩)))))))))))
    exact ⟨_, .da .nil, hq⟩
theorem d_mixed (D : DK K "_law_mixed" s_l_mixed) : Def P w K mg bs 1 "_law_mixed" ["seed", "count"] spMixed := by
  refine def_ok X G D sc_l_mixed (fun f fd F => F.binds (ps := ["seed", "count"]) fun _ _ _ _ _ _ us hl => match us, hl with | [_, _], _ => rfl) (fun as Ψ h => by obtain ⟨_, _, rfl, _⟩ := h; rfl) fun f cdv A fr s H E fx as Ψ vs hsp hl => ?_
  obtain ⟨s, c, rfl, hq⟩ := hsp
  obtain ⟨v0, v1, rfl⟩ := ar2 hl
  have nd := fx.nd
  show WSs _ _ [some (.da (.int s)), some (.da (.int c)), none, none, none] _
  have small : ∀ i n : Int, 0 < n → n < 2 ^ 64 → -(2 ^ 64) < i % n ∧ i % n < 2 ^ 64 := fun i n h0 h1 => ⟨by have := Int.emod_nonneg i (Int.ne_of_gt h0); omega, by have := Int.emod_lt_of_pos i h0; omega⟩
  refine xs_set 2 nd (xe_mod (by decide) (xe_int1 B (xe_add (xe_add (xe_mul (.inr ⟨by decide, by decide⟩) (xv 0) xe_int) (xe_mul (.inr ⟨by decide, by decide⟩) (xv 1) xe_int)) xe_int)) xe_int) ?_
  refine xs_set 3 nd (xe_mod (by decide) (xe_int1 B (xe_add (xe_add (xe_mul (.inl (small _ 2147483647 (by decide) (by decide))) (xv 2) (xv 2)) (xv 0)) xe_int)) xe_int) ?_
  refine xs_set 4 nd (xe_mod (by decide) (xe_int1 B (xe_add (xe_mul (.inl (small _ 2147483629 (by decide) (by decide))) (xv 3) (xe_add (xe_add (xv 3) (xv 1)) xe_int)) xe_int)) xe_int) ?_
  exact xs_ret (xe_fdiv ⟨by decide, by decide⟩ (xv 4) xe_int) ⟨_, .da (.da .nil), hq _⟩
theorem d_own_draw (D : DK K "_law_own_draw" s_l_own_draw) (gM : Def P w K mg bs 1 "_law_mixed" ["seed", "count"] spMixed) : Def P w K mg bs 2 "_law_own_draw" ["state", "many"] (spDrawO ⟨P, w, K⟩) := by
  refine def_ok X G D sc_l_own_draw (fun f fd F => F.binds (ps := ["state", "many"]) fun _ _ _ _ _ _ us hl => match us, hl with | [_, _], _ => rfl) (fun as Ψ h => by obtain ⟨_, rfl, _⟩ := h; rfl) fun f cdv A fr s H E fx as Ψ vs hsp hl => ?_
  obtain ⟨m, rfl, m0, m1, hq⟩ := hsp
  obtain ⟨v0, v1, rfl⟩ := ar2 hl
  show WSs _ _ [some (.pin v0 (.op (dw ⟨P, w, K⟩))), some (.da (.int m)), none, none] _
  have nd := fx.nd
  refine ws_convE 0 (y := fun j : {q : List Int × Int × Int × Int × Int // 0 ≤ q.2.1} => .pin v0 (.ll (dS j.1.1 j.1.2.1 j.1.2.2.1 j.1.2.2.2.1 j.1.2.2.2.2))) (fun I H v B o => dw_open I H v v0 B o) ?_
  rintro ⟨⟨sc, p, c, w0, n⟩, p0⟩
  have p0 : 0 ≤ p := p0
  show WSs _ _ [some (.pin v0 (.ll (dS sc p c w0 n))), some (.da (.int m)), none, none] _
  have hQ : ∀ i : Int, Ψ (.da (.int (i % m))) [.op (dw ⟨P, w, K⟩), .da (.int m)] := fun i => hq _ (Int.emod_nonneg _ (by omega)) (Int.emod_lt_of_pos _ m0)
  -- behind the first if: a state whose place is not negative
  have tail : ∀ (p c w0 n : Int) (o2 : Option OD), 0 ≤ p → WSs (dcx P w K mg bs ["state", "many", "cell", "digit"] "_law_own_draw" s_l_own_draw f cdv A fr s H E) ((defBody s_l_own_draw).drop 1) [some (.pin v0 (.ll (dS sc p c w0 n))), some (.da (.int m)), o2, none] (fnΦ [.op (dw ⟨P, w, K⟩), .da (.int m)] [v0, v1] Ψ) := by
    intro p c w0 n o2 p0
    refine xs_if (xt_gt (xe_ixll 0 (j := 2) xe_int) xe_int) (fun hc => ?_) fun hc => ?_
    · refine xs_set 3 nd (xe_mod m0 (xe_int1 B (xe_ixll 0 (j := 2) xe_int)) (xv 1)) ?_
      refine ws_setll 0 (j := 2) (n := 2) (we_pure (xe_fdiv ⟨m0, m1⟩ (xe_int1 B (xe_ixll 0 (j := 2) xe_int)) (xv 1)) ⟨_, _, _, _, rfl, rfl, .pin, rfl, xe_int, ?_⟩)
      refine ws_conv 0 (y := .pin v0 (.op (dw ⟨P, w, K⟩))) (fun I H v B o => dw_shut p0 I H v v0 B o) ?_
      exact xs_ret (xv 3) ⟨_, .own (.da .nil), hQ _⟩
    · refine ws_nil ?_
      show WSs _ _ [some (.pin v0 (.ll (dS sc p c w0 n))), some (.da (.int m)), o2, none] _
      refine ws_setll 0 (j := 4) (n := 4) (we_pure (xe_add (xe_ixll 0 (j := 4) xe_int) xe_int) ⟨_, _, _, _, rfl, rfl, .pin, rfl, xe_int, ?_⟩)
      show WSs _ _ [some (.pin v0 (.ll (dS sc p c w0 (n + 1)))), some (.da (.int m)), o2, none] _
      refine ws_ret (we_convAt 0 (we_modD (m := m) m0 (we_int1 B (we_fnR gM fx.room fx.gd (wr_da (xe_ixll 0 (j := 3) xe_int) (wr_da (xe_ixll 0 (j := 4) xe_int) (wr_nil ⟨_, _, rfl, _, _, rfl, fun r => ⟨r, rfl, r, rfl, xv 1, _, .pin v0 (.op (dw ⟨P, w, K⟩)), rfl, fun I H v B o => dw_shut p0 I H v v0 B o, ?_⟩⟩)))))))
      exact ⟨_, .own (.da .nil), hQ _⟩
  refine xs_if (xt_and2 (xt_eqI fx.u (xe_ixll 0 (j := 2) xe_int) xe_int) fun _ => xt_lt (xe_ixll 0 (j := 1) xe_int) (xe_len B (xe_ixll 0 (j := 0) xe_int) (.inl rfl))) (fun hc => ?_) fun _ => ws_nil (tail p c w0 n none p0)
  rw [Bool.and_eq_true, decide_eq_true_eq, decide_eq_true_eq, List.length_map] at hc
  obtain ⟨v, hv⟩ := atI_int (sc := sc) p0 hc.2
  refine xs_set 2 nd (xe_ix (xe_ixll 0 (j := 0) xe_int) (xe_ixll 0 (j := 1) xe_int) (.inl rfl) hv) ?_
  show WSs _ _ [some (.pin v0 (.ll (dS sc p c w0 n))), some (.da (.int m)), some (.da (.int _)), none] _
  refine ws_setll 0 (j := 1) (n := 1) (we_pure (xe_add (xe_ixll 0 (j := 1) xe_int) xe_int) ⟨_, _, _, _, rfl, rfl, .pin, rfl, xe_int, ?_⟩)
  show WSs _ _ [some (.pin v0 (.ll (dS sc (p + 1) c w0 n))), some (.da (.int m)), some (.da (.int _)), none] _
  refine xs_if (xt_lt (xe_abs B (xv 2)) (xe_pow ⟨by decide, by decide, by decide⟩ xe_int xe_int)) (fun _ => ?_) fun _ => ws_nil ?_
  · refine ws_conv 0 (y := .pin v0 (.op (dw ⟨P, w, K⟩))) (fun I H v B o => dw_shut (p := p + 1) (by omega) I H v v0 B o) ?_
    exact xs_ret (xe_mod m0 (xe_int1 B (xv 2)) (xv 1)) ⟨_, .own (.da .nil), hQ _⟩
  · refine ws_setll 0 (j := 2) (n := 2) (we_pure (xe_abs B (xv 2)) ⟨_, _, _, _, rfl, rfl, .pin, rfl, xe_int, ?_⟩)
    exact ws_nil (tail (p + 1) _ w0 n _ (by omega))
end
end Law
/-! K14m: _law_own_names: drawn names are different and short. -/
namespace Law
open PySem PySem.Spec PyProof.Rows L2 TL
/-- names: so many, different, showable -/
structure Nm (m : Nat) (ns : List Str) : Prop where
  len : ns.length = m
  nd : ns.Nodup
  ok : ∀ s ∈ ns, NmOk s
def azS : Str := "abcdefghijklmnopqrstuvwxyz"
def wdS : Str := "q7k2w9e4"
def tlS : Str := "3zr5uv8"
abbrev ltS (i : Nat) : Str := ⟨#[97 + i]⟩
def f1 (z p i : Nat) : Str := cutS wdS none (some (p : Nat)) ++ ltS i ++ cutS wdS (some ((p : Nat) + 1 : Int)) (some (z : Nat))
def f2 (i t : Nat) : Str := ltS i ++ cutS tlS none (some (t : Nat))
def f3 (n : Nat) : Str := "q" ++ toString (n : Int)
def nmB (s : Str) : Bool := decide (s.cps.size ≤ 16) && (s.cps.toList.all fun c => decide (c < 16 ^ 8)) && PyData.strOk s
theorem nmB_ok {s : Str} (h : nmB s = true) : NmOk s := by
  rw [nmB, Bool.and_eq_true, Bool.and_eq_true, decide_eq_true_eq] at h
  exact ⟨h.1.1, h.1.2, h.2⟩
theorem az_at : ∀ i : Nat, i < 26 → atI azS.cps.toList (i : Int) = some (97 + i) := by decide +kernel
theorem ok0 : ∀ i : Nat, i < 26 → nmB (ltS i) = true := by decide +kernel
theorem ok1a : ∀ z : Nat, z < 8 → ∀ p : Nat, p < z → ∀ i : Nat, i < 26 → (decide (z < 3) || (nmB (f1 z p i) && decide ((f1 z p i).cps[p]? = some (97 + i)))) = true := by decide +kernel
theorem ok1c : ∀ z : Nat, z < 8 → ∀ p : Nat, p < 8 → (cutS wdS none (some (p : Nat))).length ≤ 8 ∧ (cutS wdS (some ((p : Nat) + 1 : Int)) (some (z : Nat))).length ≤ 8 := by decide +kernel
theorem ok1 {z p i : Nat} (hz : z < 8) (h3 : 3 ≤ z) (hp : p < z) (hi : i < 26) : nmB (f1 z p i) = true ∧ (f1 z p i).cps[p]? = some (97 + i) := by
  have h := ok1a z hz p hp i hi
  rw [Bool.or_eq_true, Bool.and_eq_true, decide_eq_true_eq, decide_eq_true_eq] at h
  exact h.resolve_left (by omega)
theorem ok2 : ∀ i : Nat, i < 26 → ∀ t : Nat, t < 8 → nmB (f2 i t) = true ∧ (f2 i t).cps[0]? = some (97 + i) ∧ (cutS tlS none (some (t : Nat))).length ≤ 8 := by decide +kernel
theorem ok3 : ∀ n : Nat, n < 200 → nmB (f3 n) = true ∧ (toString (n : Int) : Str).length ≤ 8 := by decide +kernel
def dec3 (s : Str) : Nat := (s.cps.toList.drop 1).foldl (fun a c => 10 * a + (c - 48)) 0
theorem inj3 : ∀ n : Nat, n < 200 → dec3 (f3 n) = n := by decide +kernel
theorem f3_inj {a b : Nat} (ha : a < 200) (hb : b < 200) (e : f3 a = f3 b) : a = b := by rw [← inj3 a ha, e, inj3 b hb]
/-- the letters' places are different -/
theorem e_inj {s t k l : Nat} (ht : t ∈ [1, 3, 5, 7, 9, 11]) (hk : k < 26) (hl : l < 26) (e : (s + t * k) % 26 = (s + t * l) % 26) : k = l := by
  simp only [List.mem_cons, List.not_mem_nil, or_false] at ht
  rcases ht with rfl | rfl | rfl | rfl | rfl | rfl <;> omega
theorem nodup_map {α : Type} {f : Nat → α} {m : Nat} (h : ∀ k l, k < m → l < m → f k = f l → k = l) : ((List.range m).map f).Nodup :=
  List.pairwise_map.mpr (List.Pairwise.imp_of_mem (fun {a b} ha hb n e => n (h a b (List.mem_range.mp ha) (List.mem_range.mp hb) e)) List.nodup_range)
theorem nm_of {m : Nat} {f : Nat → Str} (h : ∀ k l, k < m → l < m → f k = f l → k = l) (ok : ∀ k, k < m → nmB (f k) = true) : Nm m ((List.range m).map f) :=
  ⟨by simp, nodup_map h, fun s hs => by
    obtain ⟨k, hk, rfl⟩ := List.mem_map.mp hs
    exact nmB_ok (ok k (List.mem_range.mp hk))⟩
abbrev eK (s t k : Nat) : Nat := (s + t * k) % 26
theorem eK_lt (s t k : Nat) : eK s t k < 26 := Nat.mod_lt _ (by decide)
theorem lt_inj {i j : Nat} (e : ltS i = ltS j) : i = j := by
  have h : (ltS i).cps[0]? = (ltS j).cps[0]? := by rw [e]
  have h : some (97 + i) = some (97 + j) := h
  have := Option.some.inj h
  omega
theorem nm0 {m s t : Nat} (hm : m ≤ 12) (ht : t ∈ [1, 3, 5, 7, 9, 11]) : Nm m ((List.range m).map fun k => ltS (eK s t k)) :=
  nm_of (fun k l hk hl e => e_inj ht (by omega) (by omega) (lt_inj e)) fun k _ => ok0 _ (eK_lt s t k)
theorem nm1 {m s t z p : Nat} (hm : m ≤ 12) (ht : t ∈ [1, 3, 5, 7, 9, 11]) (hz : z < 8) (h3 : 3 ≤ z) (hp : p < z) : Nm m ((List.range m).map fun k => f1 z p (eK s t k)) :=
  nm_of (fun k l hk hl e => e_inj (s := s) ht (by omega) (by omega) (by
    have h1 := (ok1 hz h3 hp (eK_lt s t k)).2
    have h2 := (ok1 hz h3 hp (eK_lt s t l)).2
    have e : f1 z p (eK s t k) = f1 z p (eK s t l) := e
    rw [e, h2] at h1
    have := Option.some.inj h1
    have : eK s t k = eK s t l := by omega
    exact this)) fun k _ => (ok1 hz h3 hp (eK_lt s t k)).1
theorem nm2 {m s t : Nat} (u : Nat → Nat) (hm : m ≤ 12) (ht : t ∈ [1, 3, 5, 7, 9, 11]) (hu : ∀ k, k < m → u k < 8) : Nm m ((List.range m).map fun k => f2 (eK s t k) (u k)) :=
  nm_of (fun k l hk hl e => e_inj (s := s) ht (by omega) (by omega) (by
    have h1 := (ok2 _ (eK_lt s t k) _ (hu k hk)).2.1
    have h2 := (ok2 _ (eK_lt s t l) _ (hu l hl)).2.1
    have e : f2 (eK s t k) (u k) = f2 (eK s t l) (u l) := e
    rw [e, h2] at h1
    have := Option.some.inj h1
    have : eK s t k = eK s t l := by omega
    exact this)) fun k hk => (ok2 _ (eK_lt s t k) _ (hu k hk)).1
theorem st_lt {m s t k : Nat} (hm : m ≤ 12) (hs : s < 26) (ht : t ∈ [1, 3, 5, 7, 9, 11]) (hk : k < m) : s + t * k < 200 := by
  have : t ≤ 11 := by simp only [List.mem_cons, List.not_mem_nil, or_false] at ht; omega
  have : t * k ≤ 11 * 12 := Nat.mul_le_mul this (by omega)
  omega
theorem nm3 {m s t : Nat} (hm : m ≤ 12) (hs : s < 26) (ht : t ∈ [1, 3, 5, 7, 9, 11]) : Nm m ((List.range m).map fun k => f3 (s + t * k)) :=
  nm_of (fun k l hk hl e => by
    have h := f3_inj (st_lt hm hs ht hk) (st_lt hm hs ht hl) e
    simp only [List.mem_cons, List.not_mem_nil, or_false] at ht
    rcases ht with rfl | rfl | rfl | rfl | rfl | rfl <;> omega) fun k hk => (ok3 _ (st_lt hm hs ht hk)).1
theorem app_len (s t : Str) : (s ++ t).length = s.length + t.length := by
  show (s.cps ++ t.cps).size = _
  rw [Array.size_append]
  rfl
def spONames (T : TC) : SpD := fun as Ψ => ∃ m : Nat, as = [.op (dw T), .da (.int (m : Nat))] ∧ m ≤ 12 ∧ ∀ (ns : List Str) (r : OD), Nm m ns → Frz r (.list (strsD ns)) → Ψ r as
section
variable {P : Program} {w : World} {K : PySem.W.Frag} {mg : Str → Option Value} {bs h : Heap} (X : K.In h) (G : h.Ns mainGlobals mg) (B : Blt mg)
include X G B
theorem d_own_names (D : DK K "_law_own_names" s_l_own_names) (gD : Def P w K mg bs 2 "_law_own_draw" ["state", "many"] (spDrawO ⟨P, w, K⟩)) : Def P w K mg bs 3 "_law_own_names" ["state", "many"] (spONames ⟨P, w, K⟩) := by
  refine def_ok X G D sc_l_own_names (fun f fd F => F.binds (ps := ["state", "many"]) fun _ _ _ _ _ _ us hl => match us, hl with | [_, _], _ => rfl) (fun as Ψ h => by obtain ⟨_, rfl, _⟩ := h; rfl) fun f cdv A fr s H E fx as Ψ vs hsp hl => ?_
  obtain ⟨m, rfl, m12, hq⟩ := hsp
  obtain ⟨v0, v1, rfl⟩ := ar2 hl
  have nd := fx.nd
  have lm : (List.range m).length ≤ sizeLine := by rw [List.length_range]; exact Nat.le_trans m12 (by decide)
  show WSs _ _ [some (.pin v0 (.op (dw ⟨P, w, K⟩))), some (.da (.int (m : Nat))), none, none, none, none, none, none, none, none, none, none] _
  refine xs_set 2 nd (xe_str (i := azS)) ?_
  refine ws_set 3 nd (we_drawN (n := 26) 0 gD fx.room fx.gd xe_int (by decide) (by decide) fun s0 hs0 => ?_)
  refine ws_set 4 nd (we_ixD (ds := [1, 3, 5, 7, 9, 11].map fun i : Nat => PyData.int (i : Nat)) (xe_frz (fun _ hq' => we_lst (wa_cons (xe_int _ (wa_cons (xe_int _ (wa_cons (xe_int _ (wa_cons (xe_int _ (wa_cons (xe_int _ (wa_cons (xe_int _ (wa_nil ⟨[1, 3, 5, 7, 9, 11].map fun i : Nat => PyData.int (i : Nat), rfl, (by decide), hq'⟩))))))))))))))) (we_drawN (n := 6) 0 gD fx.room fx.gd xe_int (by decide) (by decide) fun j hj => ?_))
  obtain ⟨t0, ht0, et⟩ : ∃ t0 : Nat, t0 ∈ [1, 3, 5, 7, 9, 11] ∧ ([1, 3, 5, 7, 9, 11].map fun i : Nat => PyData.int (i : Nat))[j]? = some (.int (t0 : Nat)) := by
    rw [List.getElem?_map]
    have hj' : j < [1, 3, 5, 7, 9, 11].length := hj
    rw [List.getElem?_eq_getElem hj']
    exact ⟨_, List.getElem_mem hj', rfl⟩
  refine ⟨j, _, rfl, et, ?_⟩
  show WSs _ _ [some (.pin v0 (.op (dw ⟨P, w, K⟩))), some (.da (.int (m : Nat))), some (.da (.str azS)), some (.da (.int (s0 : Nat))), some (.da (.int (t0 : Nat))), none, none, none, none, none, none, none] _
  refine xs_setLcM [("k", 10)] (fun (k : Nat) Γ => Γ.set 10 (some (.da (.int (k : Nat))))) (List.range m) (fun (k : Nat) => .int (k : Nat)) (fun k => .str (ltS (eK s0 t0 k))) 5 fx (R := fun k => .da (.str (ltS (eK s0 t0 k)))) (xi_rangeN B (xv 1) (by omega)) lm (fun k hk s H C cl fp => gc_name 10 nd rfl) (fun k hk s H C cl fp => ?_) ?_
  · refine xe_ixStr (c := 97 + eK s0 t0 k) (xv 2) (xe_cast (j := ((eK s0 t0 k : Nat) : Int)) (xe_mod (by decide) (xe_int1 B (xe_add (xv 3) (xe_mul (.inl ?_) (xv 4) (xv 10)))) xe_int) (by push_cast; rfl)) (by decide +kernel) (az_at _ (eK_lt _ _ _))
    simp only [List.mem_cons, List.not_mem_nil, or_false] at ht0
    omega
  refine ws_frz 5 .ll ?_
  refine ws_set 6 nd (we_drawN (n := 4) 0 gD fx.room fx.gd xe_int (by decide) (by decide) fun md hmd => ?_)
  show WSs _ _ [some (.pin v0 (.op (dw ⟨P, w, K⟩))), some (.da (.int (m : Nat))), some (.da (.str azS)), some (.da (.int (s0 : Nat))), some (.da (.int (t0 : Nat))), some (.da (.list ((List.range m).map fun k => .str (ltS (eK s0 t0 k))))), some (.da (.int (md : Nat))), none, none, none, none, none] _
  refine xs_if (xt_eqI fx.u (xv 6) xe_int) (fun _ => ?_) fun _ => ws_nil (xs_if (xt_eqI fx.u (xv 6) xe_int) (fun _ => ?_) fun _ => ws_nil (xs_if (xt_eqI fx.u (xv 6) xe_int) (fun _ => ?_) fun _ => ws_nil ?_))
  · refine ws_set 7 nd (we_add (we_pure xe_int ⟨3, rfl, we_drawN (n := 5) 0 gD fx.room fx.gd xe_int (by decide) (by decide) fun z hz => ⟨(z : Nat), rfl, ?_⟩⟩))
    have ez : (3 : Int) + (z : Nat) = ((3 + z : Nat) : Int) := by push_cast; rfl
    rw [ez]
    refine ws_set 8 nd (we_drawN (n := 3 + z) 0 gD fx.room fx.gd (xv 7) (by omega) (by omega) fun p hp => ?_)
    refine xs_ret (xe_lcM [("first", 11)] (fun (k : Nat) Γ => Γ.set 11 (some (.da (.str (ltS (eK s0 t0 k)))))) (List.range m) (fun k => .str (ltS (eK s0 t0 k))) (fun k => .str (f1 (3 + z) p (eK s0 t0 k))) fx (R := fun k => .da (.str (f1 (3 + z) p (eK s0 t0 k)))) (xi_lst (xv 5)) lm (fun k hk s H C cl fp => gc_name 11 nd rfl) fun k hk s H C cl fp => ?_) ?_
    · have o := ok1c (3 + z) (by omega) p (by omega)
      exact xe_addStr (xe_addStr (xe_sliceStr (l := none) (u := some (p : Nat)) xe_str .none (.some (xv 8)) (by decide +kernel)) (xv 11) (Nat.le_trans (Nat.add_le_add_right o.1 1) (by decide))) (xe_sliceStr (l := some ((p : Nat) + 1 : Int)) (u := some ((3 + z : Nat) : Int)) xe_str (.some (xe_add (xv 8) xe_int)) (.some (xv 7)) (by decide +kernel)) (by
        rw [app_len]
        exact Nat.le_trans (Nat.add_le_add (Nat.add_le_add_right o.1 1) o.2) (by decide))
    · exact ⟨_, .own (.da .nil), hq _ _ (nm1 (s := s0) m12 ht0 (show 3 + z < 8 by omega) (by omega) hp) (by rw [strsD, List.map_map]; exact .ll)⟩
  · refine ws_set 9 nd (we_lcA [("first", 11)] (fun (k : Nat) Γ => Γ.set 11 (some (.da (.str (ltS (eK s0 t0 k)))))) (List.range m) (fun k => .str (ltS (eK s0 t0 k))) (fun (t : Nat) => .int (t : Nat)) (fun _ _ t => t < 8) fx (xi_lst (xv 5)) lm (fun k hk s H C cl fp => gc_name 11 nd rfl) (fun i k hk s H C cl fp => ?_) fun ts hl2 hts => ?_)
    · exact we_drawN (n := 8) 0 gD (fx.blk.room) fx.blk.gd xe_int (by decide) (by decide) fun t ht => ⟨t, .da, ht, rfl⟩
    · have tk : ∀ k, k < m → ∃ t, ts[k]? = some t ∧ t < 8 := fun k hk => by
        have h1 : k < ts.length := by rw [hl2, List.length_range]; exact hk
        exact ⟨ts[k], List.getElem?_eq_getElem h1, hts k k _ (List.getElem?_range hk) (List.getElem?_eq_getElem h1)⟩
      show WSs _ _ [some (.pin v0 (.op (dw ⟨P, w, K⟩))), some (.da (.int (m : Nat))), some (.da (.str azS)), some (.da (.int (s0 : Nat))), some (.da (.int (t0 : Nat))), some (.da (.list ((List.range m).map fun k => .str (ltS (eK s0 t0 k))))), some (.da (.int (md : Nat))), none, none, some (.ll (ts.map fun t : Nat => .int (t : Nat))), none, none] _
      refine xs_ret (xe_lcM [("k", 10), ("first", 11)] (fun (q : Nat × Nat) Γ => (Γ.set 10 (some (.da (.int (q.1 : Nat))))).set 11 (some (.da (.str (ltS (eK s0 t0 q.2)))))) (enumN (List.range m)) (fun q => .tuple [.int (q.1 : Nat), .str (ltS (eK s0 t0 q.2))]) (fun q => .str (f2 (eK s0 t0 q.2) (ts.getD q.1 0))) fx (R := fun q => .da (.str (f2 (eK s0 t0 q.2) (ts.getD q.1 0)))) (xi_enumL (E := fun k => PyData.str (ltS (eK s0 t0 k))) (xs := List.range m) B (xv 5)) (by rw [enumN_len]; exact lm) (fun q hq s H C cl fp => gc_tup fx.calm (gsc_cons (gc_name 10 nd (gsc_cons (gc_name 11 nd (gsc_nil rfl)))))) fun q hq s H C cl fp => ?_) ?_
      · have h1 := enumN_mem hq
        have hm : q.1 < m := by
          have := (List.getElem?_eq_some_iff.mp h1).1
          rwa [List.length_range] at this
        obtain ⟨t, e1, t8⟩ := tk q.1 hm
        rw [List.getD_eq_getElem?_getD, e1]
        exact xe_addStr (xv 11) (xe_sliceStr (l := none) (u := some (t : Nat)) xe_str .none (.some (xe_ixll 9 (j := ((q.1 : Nat) : Int)) (xv 10) (hd := atI_n (by rw [List.getElem?_map, e1]; rfl)))) (by decide +kernel)) (Nat.le_trans (Nat.add_le_add_left (ok2 0 (by decide) t t8).2.2 1) (by decide))
      · have e : (enumN (List.range m)).map (fun q => PyData.str (f2 (eK s0 t0 q.2) (ts.getD q.1 0))) = strsD ((List.range m).map fun k => f2 (eK s0 t0 k) (ts.getD k 0)) := by
          rw [strsD, List.map_map]
          refine List.ext_getElem? fun i => ?_
          rw [List.getElem?_map, List.getElem?_map]
          rcases Nat.lt_or_ge i m with hi | hi
          · have h2 : (enumN (List.range m))[i]? = some (i, i) := by
              unfold enumN
              rw [List.getElem?_zip_eq_some]
              exact ⟨by rw [List.length_range]; exact List.getElem?_range hi, List.getElem?_range hi⟩
            rw [h2, List.getElem?_range hi]
            rfl
          · rw [List.getElem?_eq_none (by rw [enumN_len, List.length_range]; exact hi), List.getElem?_eq_none (by rw [List.length_range]; exact hi)]
            rfl
        rw [e]
        exact ⟨_, .own (.da .nil), hq _ _ (nm2 (s := s0) (fun k => ts.getD k 0) m12 ht0 fun k hk => by
          obtain ⟨t, e1, t8⟩ := tk k hk
          show ts.getD k 0 < 8
          rw [List.getD_eq_getElem?_getD, e1]
          exact t8) .ll⟩
  · refine xs_ret (xe_lcM [("k", 10)] (fun (k : Nat) Γ => Γ.set 10 (some (.da (.int (k : Nat))))) (List.range m) (fun (k : Nat) => .int (k : Nat)) (fun k => .str (f3 (s0 + t0 * k))) fx (R := fun k => .da (.str (f3 (s0 + t0 * k)))) (xi_rangeN B (xv 1) (by omega)) lm (fun k hk s H C cl fp => gc_name 10 nd rfl) fun k hk s H C cl fp => ?_) ?_
    · have st := st_lt m12 hs0 ht0 (List.mem_range.mp hk)
      exact xe_addStr xe_str (xe_strInt B (xe_cast (j := ((s0 + t0 * k : Nat) : Int)) (xe_add (xv 3) (xe_mul (i := ((t0 : Nat) : Int)) (.inl (by simp only [List.mem_cons, List.not_mem_nil, or_false] at ht0; omega)) (xv 4) (xv 10))) (by push_cast; rfl)) (Nat.lt_of_le_of_lt (log_le (b := 8) (show (s0 + t0 * k : Nat) ≤ 2 ^ 8 by omega)) (by decide))) (Nat.le_trans (Nat.add_le_add_left (ok3 _ st).2 1) (by decide))
    · exact ⟨_, .own (.da .nil), hq _ _ (nm3 m12 hs0 ht0) (by rw [strsD, List.map_map]; exact .ll)⟩
  · exact xs_ret (xv 5) ⟨_, .own (.da .nil), hq _ _ (nm0 (s := s0) m12 ht0) (by rw [strsD, List.map_map]; exact .da)⟩
end
end Law
/-! K14n: _law_own_size, _law_depth, _law_rows, _law_own_values. -/
namespace Law
open PySem PySem.Spec PyProof.Rows L2 TL
theorem pows_cut {m : Nat} (h : 0 < m ∧ m ≤ 4) (s : Int) : cutD [PyData.int (s ^ (0 : Int).toNat), .int s, .int (s ^ (2 : Int).toNat), .int (s ^ (3 : Int).toNat), .int (s ^ (4 : Int).toNat)] none (some ((m : Nat) + 1 : Int)) = (([s ^ 0, s, s ^ 2, s ^ 3, s ^ 4] : List Int).take (m + 1)).map .int := by
  have : m = 1 ∨ m = 2 ∨ m = 3 ∨ m = 4 := by omega
  rcases this with rfl | rfl | rfl | rfl <;> rfl
theorem pows_sum {m : Nat} (h : 0 < m ∧ m ≤ 4) (s : Nat) : ((([(s : Int) ^ 0, s, (s : Int) ^ 2, (s : Int) ^ 3, (s : Int) ^ 4] : List Int).take (m + 1))).sum = ((rs s m : Nat) : Int) := by
  have : m = 1 ∨ m = 2 ∨ m = 3 ∨ m = 4 := by omega
  rcases this with rfl | rfl | rfl | rfl <;> simp only [rs, List.take, List.sum_cons, List.sum_nil] <;> push_cast <;> grind
theorem rs_ge1 {s m : Nat} (h : 0 < m) : s ≤ rs s m := by
  cases m with
  | zero => cases h
  | succ m => exact rs_ge
mutual
def dep : Kd → Nat
  | .num _ _ => 1
  | .pick _ _ => 1
  | .opt k => 1 + dep k
  | .row k _ => 1 + dep k
  | .one as => 1 + depL as
  | .rec_ ps => 1 + depL ps
  | .bad _ _ => 1
def depL : List (Str × Kd) → Nat
  | [] => 0
  | (_, k) :: as => max (dep k) (depL as)
end
theorem depL_mem : ∀ as : List (Str × Kd), ((depL as : Nat) : Int) ∈ (0 : Int) :: as.map fun p => ((dep p.2 : Nat) : Int)
  | [] => by rw [depL]; simp
  | (n, k) :: as => by
    have ih := depL_mem as
    rw [depL]
    rcases Nat.le_total (dep k) (depL as) with h | h
    · rw [Nat.max_eq_right h]
      simp only [List.map_cons, List.mem_cons] at ih ⊢
      rcases ih with e | e
      · exact .inl e
      · exact .inr (.inr e)
    · rw [Nat.max_eq_left h]
      simp
theorem depL_le : ∀ as : List (Str × Kd), ∀ y ∈ (0 : Int) :: as.map fun p => ((dep p.2 : Nat) : Int), y ≤ ((depL as : Nat) : Int)
  | [], y, h => by simp at h; rw [h]; omega
  | (n, k) :: as, y, h => by
    rw [depL]
    simp only [List.map_cons, List.mem_cons] at h
    have ih := depL_le as
    have m1 := Nat.le_max_left (dep k) (depL as)
    have m2 := Nat.le_max_right (dep k) (depL as)
    rcases h with e | e | e
    · omega
    · omega
    · have := ih y (List.mem_cons_of_mem _ e)
      omega
theorem depL_at : ∀ {as : List (Str × Kd)} {p : Str × Kd}, p ∈ as → dep p.2 ≤ depL as
  | (n, k) :: as, p, h => by
    rw [depL]
    rcases List.mem_cons.mp h with rfl | h
    · exact Nat.le_max_left _ _
    · exact Nat.le_trans (depL_at h) (Nat.le_max_right _ _)
theorem dep_rt : ∀ {n : Nat} {k : Kd}, Rt n k → ∀ {r : Nat}, dep k ≤ r → Rt r k
  | n + 1, _, .num a b c d, r, h => by
    rw [dep] at h
    obtain ⟨r, rfl⟩ : ∃ x, r = x + 1 := ⟨r - 1, by omega⟩
    exact .num a b c d
  | n + 1, _, .pick a b c, r, h => by
    rw [dep] at h
    obtain ⟨r, rfl⟩ : ∃ x, r = x + 1 := ⟨r - 1, by omega⟩
    exact .pick a b c
  | n + 1, _, .opt a, r, h => by
    rw [dep] at h
    obtain ⟨r, rfl⟩ : ∃ x, r = x + 1 := ⟨r - 1, by omega⟩
    exact .opt (dep_rt a (by omega))
  | n + 1, _, .row a b, r, h => by
    rw [dep] at h
    obtain ⟨r, rfl⟩ : ∃ x, r = x + 1 := ⟨r - 1, by omega⟩
    exact .row (dep_rt a (by omega)) b
  | n + 1, _, .one a b c d, r, h => by
    rw [dep] at h
    obtain ⟨r, rfl⟩ : ∃ x, r = x + 1 := ⟨r - 1, by omega⟩
    exact .one a b c fun p hp => dep_rt (d p hp) (by have := depL_at hp; omega)
  | n + 1, _, .rec_ a b, r, h => by
    rw [dep] at h
    obtain ⟨r, rfl⟩ : ∃ x, r = x + 1 := ⟨r - 1, by omega⟩
    exact .rec_ a fun p hp => dep_rt (b p hp) (by have := depL_at hp; omega)
theorem foldP (ps : List (Str × Kd)) (i : Nat) : (ps.take i).foldl (fun a p => a * sz p.2) 1 = prodS (ps.take i) := by rw [fold_prod, Nat.one_mul]
theorem xe_lst1 {X : Cx} {a : Expr} {Γ Γ1 : Sl} {pos : Pos} {d : PyData} (h : XE X a Γ (.da d) Γ1) (hs : starEach [a] X.env = (false, eval a X.env) :: starEach [] X.env := by rfl) : XE X (.List [a] pos) Γ (.ll [d]) Γ1 := fun Ψ hq => we_lst (wa_cons (h _ (wa_nil ⟨[d], rfl, (show 1 ≤ sizeLine by decide), hq⟩)) hs)
def spOSize (n : Nat) : SpD := fun as Ψ => ∃ k : Kd, as = [.da (kD k)] ∧ Rt n k ∧ sz k < 2 ^ 60 ∧ Ψ (.da (.int (sz k : Nat))) as
def spDep (n : Nat) : SpD := fun as Ψ => ∃ k : Kd, as = [.da (kD k)] ∧ Rt n k ∧ Ψ (.da (.int (dep k : Nat))) as
theorem few4 {n : Nat} (h : n ≤ 8000) : n ≤ sizeLine := Nat.le_trans h (by decide)
section
variable {P : Program} {w : World} {K : PySem.W.Frag} {mg : Str → Option Value} {bs h : Heap} (X : K.In h) (G : h.Ns mainGlobals mg) (B : Blt mg)
include X G B
theorem d_osize (D : DK K "_law_own_size" s_l_own_size) : ∀ n : Nat, n ≤ 5 → Def P w K mg bs (n + 1) "_law_own_size" ["kind"] (spOSize n)
  | 0, _ => by
    refine def_ok X G D sc_l_own_size (fun f fd F => F.binds (ps := ["kind"]) fun _ _ _ _ _ _ us hl => match us, hl with | [_], _ => rfl) (fun as Ψ h => by obtain ⟨_, rfl, _⟩ := h; rfl) fun f cdv A fr s H E fx as Ψ vs hsp hl => ?_
    obtain ⟨k, rfl, rt, h60, hq⟩ := hsp
    obtain ⟨v0, rfl⟩ := ar1 hl
    have nd := fx.nd
    cases rt
  | n + 1, hn => by
    have ih := d_osize D n (Nat.le_of_succ_le hn)
    refine def_ok X G D sc_l_own_size (fun f fd F => F.binds (ps := ["kind"]) fun _ _ _ _ _ _ us hl => match us, hl with | [_], _ => rfl) (fun as Ψ h => by obtain ⟨_, rfl, _⟩ := h; rfl) fun f cdv A fr s H E fx as Ψ vs hsp hl => ?_
    obtain ⟨k, rfl, rt, h60, hq⟩ := hsp
    obtain ⟨v0, rfl⟩ := ar1 hl
    have nd := fx.nd
    have hrt := rt
    cases rt with
    | @num _ lo hi h1 h2 h3 h4 =>
      rw [kD] at hq ⊢
      show WSs _ _ [some (.da _), none, none, none, none] _
      refine is_w fx.u (ix0 (xv 0)) ?_
      exact xs_ret (xe_cast (xe_add (xe_sub (ix2 (xv 0)) (ix1 (xv 0))) xe_int) (sz_num (by omega)).symm) ⟨_, .da .nil, hq⟩
    | @pick _ ns h1 sn nm =>
      rw [sz_pick] at hq
      rw [kD] at hq ⊢
      show WSs _ _ [some (.da _), none, none, none, none] _
      refine no_w fx.u (ix0 (xv 0)) ?_
      refine is_w fx.u (ix0 (xv 0)) ?_
      exact xs_ret (xe_cast (xe_len B (xe_names (ix1 (xv 0))) (.inr rfl)) (by rw [List.length_map])) ⟨_, .da .nil, hq⟩
    | @opt _ k1 h1 =>
      rw [sz_opt] at hq h60
      rw [kD] at hq ⊢
      show WSs _ _ [some (.da _), none, none, none, none] _
      refine no_w fx.u (ix0 (xv 0)) ?_
      refine no_w fx.u (ix0 (xv 0)) ?_
      refine is_w fx.u (ix0 (xv 0)) ?_
      exact xs_ret (xe_cast (xe_add xe_int (fun Ψ' hq' => we_fnR ih fx.room fx.gd (wr_da (ix1 (xv 0)) (wr_nil ⟨_, _, rfl, k1, rfl, h1, by omega, hq'⟩)))) (by push_cast; rfl)) ⟨_, .da .nil, hq⟩
    | @row _ m k1 h1 h2 =>
      have le := rs_ge1 (s := sz k1) h2.1
      rw [sz_row] at hq h60
      rw [kD] at hq ⊢
      show WSs _ _ [some (.da _), none, none, none, none] _
      refine no_w fx.u (ix0 (xv 0)) ?_
      refine no_w fx.u (ix0 (xv 0)) ?_
      refine no_w fx.u (ix0 (xv 0)) ?_
      refine is_w fx.u (ix0 (xv 0)) ?_
      refine xs_set 1 nd (fun Ψ' hq' => we_fnR ih fx.room fx.gd (wr_da (ix1 (xv 0)) (wr_nil ⟨_, _, rfl, k1, rfl, h1, by omega, hq'⟩))) ?_
      have cp : ∀ j : Int, 0 ≤ j → j ≤ 4 → CPow ((sz k1 : Nat) : Int) j := fun j h0 h4 => ⟨h0, by omega, by omega⟩
      refine xs_ret (xe_cast (xe_sum B fx.calm (ns := ([((sz k1 : Nat) : Int) ^ 0, (sz k1 : Nat), ((sz k1 : Nat) : Int) ^ 2, ((sz k1 : Nat) : Int) ^ 3, ((sz k1 : Nat) : Int) ^ 4] : List Int).take (m + 1)) (xe_castD (xe_frz (xe_sliceL (l := none) (u := some ((m : Nat) + 1 : Int)) (xe_frz (fun _ hq' => we_lst (wa_cons (xe_pow (cp _ (by decide) (by decide)) (xv 1) xe_int _ (wa_cons (we_pure (xv 1) (wa_cons (xe_pow (cp _ (by decide) (by decide)) (xv 1) xe_int _ (wa_cons (xe_pow (cp _ (by decide) (by decide)) (xv 1) xe_int _ (wa_cons (xe_pow (cp _ (by decide) (by decide)) (xv 1) xe_int _ (wa_nil ⟨[_, _, _, _, _], rfl, (by show 5 ≤ sizeLine; decide), hq'⟩))))))))))))) .none (.some (xe_add (ix2 (xv 0)) xe_int)))) (congrArg PyData.list (pows_cut h2 _)))) (pows_sum h2 _)) ⟨_, .da .nil, hq⟩
    | @one _ as1 h1 sn nm h2 =>
      rw [sz_one] at hq h60
      rw [kD] at hq ⊢
      show WSs _ _ [some (.da _), none, none, none, none] _
      refine no_w fx.u (ix0 (xv 0)) ?_
      refine no_w fx.u (ix0 (xv 0)) ?_
      refine no_w fx.u (ix0 (xv 0)) ?_
      refine no_w fx.u (ix0 (xv 0)) ?_
      refine is_w fx.u (ix0 (xv 0)) ?_
      rw [armsD_map] at hq ⊢
      have ee : (as1.map fun p => PyData.int ((sz p.2 : Nat) : Int)) = (as1.map fun p => ((sz p.2 : Nat) : Int)).map PyData.int := by rw [List.map_map]; rfl
      exact xs_ret (xe_cast (xe_sum B fx.calm (xe_castD (xe_frz (xe_lcM [("arm", 4)] (fun (p : Str × Kd) Γ => Γ.set 4 (some (.da (armD p)))) as1 armD (fun p => .int ((sz p.2 : Nat) : Int)) fx (R := fun p => .da (.int ((sz p.2 : Nat) : Int))) (xi_tup (ix1 (xv 0))) (sz6 h1.2 (by decide)) (fun p hp s H C cl fp => gc_name 4 nd rfl) (fun p hp s H C cl fp Ψ2 hq2 => we_fnR ih fx.room fx.gd (wr_da (ix1 (xv 4)) (wr_nil ⟨_, _, rfl, p.2, rfl, h2 p hp, Nat.lt_of_le_of_lt (sum_ge hp) h60, hq2⟩))))) (congrArg PyData.list ee))) (sum_cast as1)) ⟨_, .da .nil, hq⟩
    | @rec_ _ ps h1 h2 =>
      rw [sz_rec] at hq h60
      rw [kD] at hq ⊢
      show WSs _ _ [some (.da _), none, none, none, none] _
      refine no_w fx.u (ix0 (xv 0)) ?_
      refine no_w fx.u (ix0 (xv 0)) ?_
      refine no_w fx.u (ix0 (xv 0)) ?_
      refine no_w fx.u (ix0 (xv 0)) ?_
      refine no_w fx.u (ix0 (xv 0)) ?_
      rw [armsD_map] at hq ⊢
      have pos : ∀ p ∈ ps, 0 < sz p.2 := fun p hp => (h2 p hp).pos
      refine xs_set 2 nd xe_int ?_
      refine ws_fold fx ps armD (fun a : Nat => [some (.da (.tuple [.str "rec", .tuple (ps.map armD)])), none, some (.da (.int (a : Nat))), none, none]) (fun a p => a * sz p.2) 1 (xi_tup (ix1 (xv 0))) rfl (fun i p hp => ?_) ?_
      · refine wg_name 3 nd ?_
        have hpm := List.mem_of_getElem? hp
        have l1 := prod_take pos i
        have l2 := prod_ge hpm (prod_pos pos)
        rw [foldP]
        refine xs_set 2 nd (xe_mul (i := ((prodS (ps.take i) : Nat) : Int)) (.inl ⟨by omega, by omega⟩) (xv 2) (fun Ψ' hq' => we_fnR ih fx.room fx.gd (wr_da (ix1 (xv 3)) (wr_nil ⟨_, _, rfl, p.2, rfl, h2 p hpm, by omega, hq'⟩)))) ?_
        refine ws_drop 3 (ws_nil ?_)
        show _ = _
        push_cast
        rfl
      · rw [fold_prod, Nat.one_mul]
        exact xs_ret (xv 2) ⟨_, .da .nil, hq⟩
theorem d_depth (D : DK K "_law_depth" s_l_depth) : ∀ n : Nat, n ≤ 5 → Def P w K mg bs (n + 1) "_law_depth" ["kind"] (spDep n)
  | 0, _ => by
    refine def_ok X G D sc_l_depth (fun f fd F => F.binds (ps := ["kind"]) fun _ _ _ _ _ _ us hl => match us, hl with | [_], _ => rfl) (fun as Ψ h => by obtain ⟨_, rfl, _⟩ := h; rfl) fun f cdv A fr s H E fx as Ψ vs hsp hl => ?_
    obtain ⟨k, rfl, rt, hq⟩ := hsp
    obtain ⟨v0, rfl⟩ := ar1 hl
    have nd := fx.nd
    cases rt
  | n + 1, hn => by
    have ih := d_depth D n (Nat.le_of_succ_le hn)
    refine def_ok X G D sc_l_depth (fun f fd F => F.binds (ps := ["kind"]) fun _ _ _ _ _ _ us hl => match us, hl with | [_], _ => rfl) (fun as Ψ h => by obtain ⟨_, rfl, _⟩ := h; rfl) fun f cdv A fr s H E fx as Ψ vs hsp hl => ?_
    obtain ⟨k, rfl, rt, hq⟩ := hsp
    obtain ⟨v0, rfl⟩ := ar1 hl
    have nd := fx.nd
    have hrt := rt
    cases rt with
    | @num _ lo hi h1 h2 h3 h4 =>
      rw [dep] at hq
      rw [kD] at hq ⊢
      show WSs _ _ [some (.da _), none] _
      refine xs_if (xt_cast (j' := true) (xt_or2 (k2 := false) (xt_isW fx.u (ix0 (xv 0)) (k := true) (by decide +kernel)) fun he => by cases he) rfl) (fun _ => ?_) (fun he => by cases he)
      exact xs_ret xe_int ⟨_, .da .nil, hq⟩
    | @pick _ ns h1 sn nm =>
      rw [dep] at hq
      rw [kD] at hq ⊢
      show WSs _ _ [some (.da _), none] _
      refine xs_if (xt_cast (j' := true) (xt_or2 (xt_isW fx.u (ix0 (xv 0)) (k := false) (by decide +kernel)) fun _ => xt_isW fx.u (ix0 (xv 0)) (k := true) (by decide +kernel)) rfl) (fun _ => ?_) (fun he => by cases he)
      exact xs_ret xe_int ⟨_, .da .nil, hq⟩
    | @opt _ k1 h1 =>
      rw [dep] at hq
      rw [kD] at hq ⊢
      show WSs _ _ [some (.da _), none] _
      refine xs_ifF (xt_cast (j' := false) (xt_or2 (xt_isW fx.u (ix0 (xv 0)) (k := false) (by decide +kernel)) fun _ => xt_isW fx.u (ix0 (xv 0)) (k := false) (by decide +kernel)) rfl) (ws_nil ?_)
      refine xs_if (xt_cast (j' := true) (xt_or2 (k2 := false) (xt_isW fx.u (ix0 (xv 0)) (k := true) (by decide +kernel)) fun he => by cases he) rfl) (fun _ => ?_) (fun he => by cases he)
      exact xs_ret (xe_cast (xe_add xe_int (fun Ψ' hq' => we_fnR ih fx.room fx.gd (wr_da (ix1 (xv 0)) (wr_nil ⟨_, _, rfl, k1, rfl, h1, hq'⟩)))) (by push_cast; rfl)) ⟨_, .da .nil, hq⟩
    | @row _ m k1 h1 h2 =>
      rw [dep] at hq
      rw [kD] at hq ⊢
      show WSs _ _ [some (.da _), none] _
      refine xs_ifF (xt_cast (j' := false) (xt_or2 (xt_isW fx.u (ix0 (xv 0)) (k := false) (by decide +kernel)) fun _ => xt_isW fx.u (ix0 (xv 0)) (k := false) (by decide +kernel)) rfl) (ws_nil ?_)
      refine xs_if (xt_cast (j' := true) (xt_or2 (xt_isW fx.u (ix0 (xv 0)) (k := false) (by decide +kernel)) fun _ => xt_isW fx.u (ix0 (xv 0)) (k := true) (by decide +kernel)) rfl) (fun _ => ?_) (fun he => by cases he)
      exact xs_ret (xe_cast (xe_add xe_int (fun Ψ' hq' => we_fnR ih fx.room fx.gd (wr_da (ix1 (xv 0)) (wr_nil ⟨_, _, rfl, k1, rfl, h1, hq'⟩)))) (by push_cast; rfl)) ⟨_, .da .nil, hq⟩
    | @one _ as1 h1 sn nm h2 =>
      rw [dep] at hq
      rw [kD] at hq ⊢
      show WSs _ _ [some (.da _), none] _
      refine xs_ifF (xt_cast (j' := false) (xt_or2 (xt_isW fx.u (ix0 (xv 0)) (k := false) (by decide +kernel)) fun _ => xt_isW fx.u (ix0 (xv 0)) (k := false) (by decide +kernel)) rfl) (ws_nil ?_)
      refine xs_ifF (xt_cast (j' := false) (xt_or2 (xt_isW fx.u (ix0 (xv 0)) (k := false) (by decide +kernel)) fun _ => xt_isW fx.u (ix0 (xv 0)) (k := false) (by decide +kernel)) rfl) (ws_nil ?_)
      rw [armsD_map] at hq ⊢
      have ee : [PyData.int 0] ++ (as1.map fun p => PyData.int ((dep p.2 : Nat) : Int)) = ((0 : Int) :: as1.map fun p => ((dep p.2 : Nat) : Int)).map PyData.int := by rw [List.map_cons, List.map_map]; rfl
      have l6 : as1.length ≤ 6 := h1.2
      exact xs_ret (xe_cast (xe_add xe_int (xe_maxE B fx.calm (xe_castD (xe_frz (xe_catL (ds := [.int 0]) (by rw [List.length_map]; exact few4 (show 1 + as1.length ≤ 8000 by omega)) (xe_frz (xe_lst1 xe_int)) (xe_frz (xe_lcM [("piece", 1)] (fun (p : Str × Kd) Γ => Γ.set 1 (some (.da (armD p)))) as1 armD (fun p => .int ((dep p.2 : Nat) : Int)) fx (R := fun p => .da (.int ((dep p.2 : Nat) : Int))) (xi_tup (ix1 (xv 0))) (sz6 l6 (by decide)) (fun p hp s H C cl fp => gc_name 1 nd rfl) (fun p hp s H C cl fp Ψ2 hq2 => we_fnR ih fx.room fx.gd (wr_da (ix1 (xv 1)) (wr_nil ⟨_, _, rfl, p.2, rfl, h2 p hp, hq2⟩))))))) (congrArg PyData.list ee)) (depL_mem as1) (depL_le as1))) (by push_cast; rfl)) ⟨_, .da .nil, hq⟩
    | @rec_ _ ps h1 h2 =>
      rw [dep] at hq
      rw [kD] at hq ⊢
      show WSs _ _ [some (.da _), none] _
      refine xs_ifF (xt_cast (j' := false) (xt_or2 (xt_isW fx.u (ix0 (xv 0)) (k := false) (by decide +kernel)) fun _ => xt_isW fx.u (ix0 (xv 0)) (k := false) (by decide +kernel)) rfl) (ws_nil ?_)
      refine xs_ifF (xt_cast (j' := false) (xt_or2 (xt_isW fx.u (ix0 (xv 0)) (k := false) (by decide +kernel)) fun _ => xt_isW fx.u (ix0 (xv 0)) (k := false) (by decide +kernel)) rfl) (ws_nil ?_)
      rw [armsD_map] at hq ⊢
      have ee : [PyData.int 0] ++ (ps.map fun p => PyData.int ((dep p.2 : Nat) : Int)) = ((0 : Int) :: ps.map fun p => ((dep p.2 : Nat) : Int)).map PyData.int := by rw [List.map_cons, List.map_map]; rfl
      have l6 : ps.length ≤ 6 := h1
      exact xs_ret (xe_cast (xe_add xe_int (xe_maxE B fx.calm (xe_castD (xe_frz (xe_catL (ds := [.int 0]) (by rw [List.length_map]; exact few4 (show 1 + ps.length ≤ 8000 by omega)) (xe_frz (xe_lst1 xe_int)) (xe_frz (xe_lcM [("piece", 1)] (fun (p : Str × Kd) Γ => Γ.set 1 (some (.da (armD p)))) ps armD (fun p => .int ((dep p.2 : Nat) : Int)) fx (R := fun p => .da (.int ((dep p.2 : Nat) : Int))) (xi_tup (ix1 (xv 0))) (sz6 l6 (by decide)) (fun p hp s H C cl fp => gc_name 1 nd rfl) (fun p hp s H C cl fp Ψ2 hq2 => we_fnR ih fx.room fx.gd (wr_da (ix1 (xv 1)) (wr_nil ⟨_, _, rfl, p.2, rfl, h2 p hp, hq2⟩))))))) (congrArg PyData.list ee)) (depL_mem ps) (depL_le ps))) (by push_cast; rfl)) ⟨_, .da .nil, hq⟩
end
end Law
/-! K14q: drawn kinds. -/
namespace Law
open PySem PySem.Spec PyProof.Rows L2 TL
/-- a right kind, at most n deep, of at most b values -/
structure Lk (n b : Nat) (k : Kd) : Prop where
  rt : Rt n k
  few : sz k ≤ b
theorem Lk.mono {n m b c : Nat} {k : Kd} (h : Lk n b k) (l : n ≤ m) (l2 : b ≤ c) : Lk m c k := ⟨h.rt.mono l, Nat.le_trans h.few l2⟩
abbrev ST (T : TC) : OD := .op (dw T)
def spONum (T : TC) : SpD := fun as Ψ => ∃ b : Nat, as = [ST T, .da (.int (b : Nat))] ∧ 1 ≤ b ∧ b ≤ 30 ∧ ∀ k, Lk 1 b k → Ψ (.da (kD k)) as
def spONumN (T : TC) : SpD := fun as Ψ => ∃ b : Nat, as = [ST T, .da (.int (b : Nat))] ∧ 1 ≤ b ∧ b ≤ 30 ∧ ∀ lo hi, Rt 1 (.num lo hi) → sz (.num lo hi) ≤ b → Ψ (.da (kD (.num lo hi))) as
def spORow (T : TC) (n : Nat) : SpD := fun as Ψ => ∃ (k : Kd) (b : Nat), as = [ST T, .da (kD k), .da (.int (b : Nat))] ∧ Rt n k ∧ sz k + 1 ≤ b ∧ b ≤ 30 ∧ ∀ m : Nat, 0 < m → m ≤ 4 → sz (.row k m) ≤ b → Ψ (.da (kD (.row k m))) as
/-- a model: none or a right kind -/
def Mdl (d : PyData) : Prop := d = .none ∨ ∃ k, d = kD k ∧ Rt 4 k ∧ sz k ≤ 4000
def spOInner (T : TC) (r : Nat) : SpD := fun as Ψ => ∃ (d : PyData) (b : Nat), as = [ST T, .da d, .da (.int (r : Nat)), .da (.int (b : Nat))] ∧ Mdl d ∧ 1 ≤ r ∧ 1 ≤ b ∧ b ≤ 30 ∧ ∀ k, Lk r b k → Ψ (.da (kD k)) as
def spOKind (T : TC) (r : Nat) : SpD := fun as Ψ => ∃ b : Nat, as = [ST T, .da (.int (r : Nat)), .da (.int (b : Nat))] ∧ 1 ≤ r ∧ 1 ≤ b ∧ b ≤ 30 ∧ ∀ k, Lk r b k → Ψ (.da (kD k)) as
def spOLike (T : TC) (r : Nat) : SpD := fun as Ψ => ∃ (k0 : Kd) (b : Nat), as = [ST T, .da (kD k0), .da (.int (r : Nat)), .da (.int (b : Nat))] ∧ Rt 4 k0 ∧ sz k0 ≤ 4000 ∧ 1 ≤ r ∧ 1 ≤ b ∧ b ≤ 30 ∧ ∀ k, Lk r b k → Ψ (.da (kD k)) as
def spOChg (T : TC) (r : Nat) : SpD := fun as Ψ => ∃ (k0 : Kd) (b : Nat), as = [ST T, .da (kD k0), .da (.int (r : Nat)), .da (.int (b : Nat))] ∧ Rt 4 k0 ∧ sz k0 ≤ 4000 ∧ 2 ≤ r ∧ 3 ≤ b ∧ b ≤ 30 ∧ ∀ k, Lk r b k → Ψ (.da (kD k)) as
def sumS (as : List (Str × Kd)) : Nat := (as.map fun p => sz p.2).sum
/-- arms with so many names, models for each, of at most b values in all -/
def spOArms (T : TC) (r : Nat) : SpD := fun as Ψ => ∃ (ns : List Str) (ms : List PyData) (b : Nat), as = [ST T, .da (.list (strsD ns)), .da (.list ms), .da (.int ((r + 1 : Nat) : Int)), .da (.int (b : Nat))] ∧ ns.length ≤ ms.length ∧ ns.length ≤ 6 ∧ (∀ d ∈ ms, Mdl d) ∧ ns.length ≤ b ∧ 1 ≤ r ∧ b ≤ 30 ∧
  ∀ xs : List (Str × Kd), xs.map (·.1) = ns → (∀ p ∈ xs, Rt r p.2) → sumS xs ≤ b → Ψ (.da (.tuple (xs.map armD))) as
def spORecs (T : TC) (r : Nat) : SpD := fun as Ψ => ∃ (ns : List Str) (ms : List PyData) (b : Nat), as = [ST T, .da (.list (strsD ns)), .da (.list ms), .da (.int ((r + 1 : Nat) : Int)), .da (.int (b : Nat))] ∧ ns.length ≤ ms.length ∧ ns.length ≤ 6 ∧ (∀ d ∈ ms, Mdl d) ∧ 1 ≤ r ∧ 1 ≤ b ∧ b ≤ 30 ∧
  ∀ xs : List (Str × Kd), xs.map (·.1) = ns → (∀ p ∈ xs, Rt r p.2) → prodS xs ≤ b → Ψ (.da (.tuple (xs.map armD))) as
theorem Nm.sorted {m : Nat} {ns : List Str} (h : Nm m ns) : SN (sortS ns) ∧ (sortS ns).length = m ∧ ∀ s ∈ sortS ns, NmOk s :=
  ⟨sortS_SN h.nd, by rw [(sortS_perm ns).length_eq, h.len], fun s hs => h.ok s ((sortS_perm ns).mem_iff.mp hs)⟩
theorem Nm.pick {n m : Nat} {ns : List Str} (h : Nm m ns) (h0 : 1 ≤ m) (h16 : m ≤ 16) : Lk (n + 1) m (.pick true (sortS ns)) := by
  obtain ⟨a, b, c⟩ := h.sorted
  exact ⟨.pick ⟨by omega, by omega⟩ a c, by rw [sz_pick, b]; exact Nat.le_refl _⟩
theorem rs_small {s m : Nat} (hs : s ≤ 30) (hm : m ≤ 4) : rs s m < 2 ^ 60 := by
  have := rs_le (s := s) (b := 5) (by omega) m
  have h2 : (2 : Nat) ^ ((5 + 1) * m) ≤ 2 ^ 24 := Nat.pow_le_pow_right (by decide) (by omega)
  omega
theorem sumS_app {a b : List (Str × Kd)} : sumS (a ++ b) = sumS a + sumS b := by rw [sumS, List.map_append, List.sum_append]; rfl
theorem sumS_one {p : Str × Kd} : sumS [p] = sz p.2 := by simp [sumS]
theorem prodS_snoc {a : List (Str × Kd)} {p : Str × Kd} : prodS (a ++ [p]) = prodS a * sz p.2 := by
  rw [prod_app]
  show prodS a * (sz p.2 * 1) = _
  rw [Nat.mul_one]
theorem map_take {α β : Type} {f : α → β} {xs : List α} {ns : List β} {i : Nat} {n : β} {x : α} (h : xs.map f = ns.take i) (hn : ns[i]? = some n) (e : f x = n) : (xs ++ [x]).map f = ns.take (i + 1) := by
  rw [List.map_append, h, List.take_add_one, hn, List.map_cons, e]
  rfl
theorem share_ok {rest d : Nat} (hd : 0 < d) (h : d ≤ rest) : 1 ≤ rest / d ∧ rest / d ≤ rest ∧ d - 1 ≤ rest - rest / d := by
  have h1 : 1 ≤ rest / d := (Nat.le_div_iff_mul_le hd).mpr (by omega)
  have h2 : rest / d * d ≤ rest := Nat.div_mul_le_self _ _
  refine ⟨h1, Nat.div_le_self _ _, ?_⟩
  have h3 : rest / d * (d - 1) + rest / d = rest / d * d := by
    rw [← Nat.mul_succ]
    congr 1
    omega
  have h4 : 1 * (d - 1) ≤ rest / d * (d - 1) := Nat.mul_le_mul_right _ h1
  omega
theorem int_div (a b : Nat) : ((a : Nat) : Int) / ((b : Nat) : Int) = ((a / b : Nat) : Int) := by norm_cast
theorem min_cast {a b : Nat} : (if ((b : Nat) : Int) < ((a : Nat) : Int) then ((b : Nat) : Int) else ((a : Nat) : Int)) = ((min a b : Nat) : Int) := by
  split <;> omega
theorem max_cast {a b : Nat} : (if ((b : Nat) : Int) > ((a : Nat) : Int) then ((b : Nat) : Int) else ((a : Nat) : Int)) = ((max a b : Nat) : Int) := by
  split <;> omega
theorem isN_kD (k : Kd) : isN (kD k) = false := by cases k <;> (rw [kD]; rfl)
def wordK : Kd → Str
  | .num _ _ => "num"
  | .pick _ _ => "pick"
  | .opt _ => "opt"
  | .row _ _ => "row"
  | .one _ => "one"
  | .rec_ _ => "rec"
  | .bad w _ => w
theorem kD_word (k : Kd) : ∃ ds, kD k = .tuple (.str (wordK k) :: ds) := by cases k <;> exact ⟨_, by rw [kD]; rfl⟩
theorem low4 {sz0 j : Nat} (hj : j < 4) (h : sz0 ≤ 30) : ∃ lo : Int, [PyData.int (-1000), .int (1001 - (sz0 : Nat)), .int (-500), .int 93][j]? = some (.int lo) ∧ -1000 ≤ lo ∧ lo + (sz0 : Nat) ≤ 1001 := by
  rcases j with _ | _ | _ | _ | j
  · exact ⟨_, rfl, by omega, by omega⟩
  · exact ⟨_, rfl, by omega, by omega⟩
  · exact ⟨_, rfl, by omega, by omega⟩
  · exact ⟨_, rfl, by omega, by omega⟩
  · omega
section
variable {P : Program} {w : World} {K : PySem.W.Frag} {mg : Str → Option Value} {bs h : Heap} (X : K.In h) (G : h.Ns mainGlobals mg) (B : Blt mg)
include X G B
theorem d_onum (D : DK K "_law_num" s_l_num) (gD : Def P w K mg bs 2 "_law_own_draw" ["state", "many"] (spDrawO ⟨P, w, K⟩)) : Def P w K mg bs 3 "_law_num" ["state", "most"] (spONumN ⟨P, w, K⟩) := by
  refine def_ok X G D sc_l_num (fun f fd F => F.binds (ps := ["state", "most"]) fun _ _ _ _ _ _ us hl => match us, hl with | [_, _], _ => rfl) (fun as Ψ h => by obtain ⟨_, rfl, _⟩ := h; rfl) fun f cdv A fr s H E fx as Ψ vs hsp hl => ?_
  obtain ⟨b, rfl, b1, b20, hq⟩ := hsp
  obtain ⟨v0, v1, rfl⟩ := ar2 hl
  have nd := fx.nd
  show WSs _ _ [some (.pin v0 (ST ⟨P, w, K⟩)), some (.da (.int (b : Nat))), none, none] _
  refine ws_set 2 nd (we_add (we_pure xe_int ⟨1, rfl, we_drawN (n := b) 0 gD fx.room fx.gd (xv 1) (by omega) (by omega) fun z hz => ⟨(z : Nat), rfl, ?_⟩⟩))
  have ez : (1 : Int) + (z : Nat) = ((1 + z : Nat) : Int) := by push_cast; rfl
  rw [ez]
  refine ws_set 3 nd (we_sub (we_drawN (n := 9) 0 gD fx.room fx.gd xe_int (by decide) (by decide) fun q hq9 => ⟨(q : Nat), rfl, we_pure xe_int ⟨4, rfl, ?_⟩⟩))
  show WSs _ _ [some (.pin v0 (ST ⟨P, w, K⟩)), some (.da (.int (b : Nat))), some (.da (.int ((1 + z : Nat) : Int))), some (.da (.int ((q : Nat) - 4)))] _
  refine ws_meet (fun lo : Int => [some (.pin v0 (ST ⟨P, w, K⟩)), some (.da (.int (b : Nat))), some (.da (.int ((1 + z : Nat) : Int))), some (.da (.int lo))]) (fun lo => -1000 ≤ lo ∧ lo + ((1 + z : Nat) : Int) ≤ 1001) (fun key => wt_eqI fx.u (we_drawN (n := 12) 0 gD fx.room fx.gd xe_int (by decide) (by decide) fun t _ => ⟨(t : Nat), rfl, xe_int, fun _ => ?_, fun _ => ws_nil (key _ ⟨by omega, by omega⟩)⟩)) ?_
  · refine ws_set 3 nd (we_ixD (ds := [PyData.int (-1000), .int (1001 - ((1 + z : Nat) : Int)), .int (-500), .int 93]) (xe_frz (fun _ hq' => we_lst (wa_cons (xe_neg xe_int _ (wa_cons (xe_sub xe_int (xv 2) _ (wa_cons (xe_neg xe_int _ (wa_cons (xe_int _ (wa_nil ⟨_, rfl, (by show 4 ≤ sizeLine; decide), hq'⟩))))))))))) (we_drawN (n := 4) 0 gD fx.room fx.gd xe_int (by decide) (by decide) fun j hj => ?_))
    obtain ⟨lo, e, l1, l2⟩ := low4 (sz0 := 1 + z) hj (by omega)
    exact ⟨j, _, rfl, e, ws_nil (key lo ⟨l1, l2⟩)⟩
  · rintro lo ⟨l1, l2⟩
    refine xs_ret (xe_tup3 xe_str (xv 3) (xe_sub (xe_add (xv 3) (xv 2)) xe_int)) ⟨_, .own (.da .nil), ?_⟩
    have q2 := hq lo (lo + ((1 + z : Nat) : Int) - 1) (.num (by omega) (by omega) (by omega) (by omega)) (by have := sz_num (lo := lo) (hi := lo + ((1 + z : Nat) : Int) - 1) (by omega); omega)
    rw [kD] at q2
    exact q2
theorem d_opick (D : DK K "_law_own_pick" s_l_own_pick) (gD : Def P w K mg bs 2 "_law_own_draw" ["state", "many"] (spDrawO ⟨P, w, K⟩)) (gN : Def P w K mg bs 3 "_law_own_names" ["state", "many"] (spONames ⟨P, w, K⟩)) : Def P w K mg bs 4 "_law_own_pick" ["state", "most"] (spONum ⟨P, w, K⟩) := by
  refine def_ok X G D sc_l_own_pick (fun f fd F => F.binds (ps := ["state", "most"]) fun _ _ _ _ _ _ us hl => match us, hl with | [_, _], _ => rfl) (fun as Ψ h => by obtain ⟨_, rfl, _⟩ := h; rfl) fun f cdv A fr s H E fx as Ψ vs hsp hl => ?_
  obtain ⟨b, rfl, b1, b20, hq⟩ := hsp
  obtain ⟨v0, v1, rfl⟩ := ar2 hl
  have nd := fx.nd
  have r2 := fx.room.mono (show 2 ≤ 3 by decide)
  show WSs _ _ [some (.pin v0 (ST ⟨P, w, K⟩)), some (.da (.int (b : Nat)))] _
  refine ws_ret (we_tup (wa_cons (xe_str _ (wa_cons (we_tupN B (we_sorted B fx.u70 (we_fnR gN fx.room fx.gd (wr_ref 0 (wr_cons (we_add (we_pure xe_int ⟨1, rfl, we_drawN (n := min b 12) 0 gD r2 fx.gd (xe_cast (xe_min2 B fx.calm (xv 1) xe_int) (min_cast (a := b) (b := 12))) (by omega) (by omega) fun j hj => ⟨(j : Nat), rfl, wr_nil ⟨_, _, rfl, 1 + j, by push_cast; rfl, by omega, fun ns r nm fz => ⟨strsD ns, fz, srt_strs (by rw [nm.len]; exact few4 (by omega)), ?_⟩⟩⟩⟩)))))))))))
  have q2 := hq (.pick true (sortS ns)) ((nm.pick (n := 0) (by omega) (by omega)).mono (Nat.le_refl _) (by omega))
  rw [kD, namesD, if_pos rfl, ← sortD_strs] at q2
  exact ⟨_, rfl, wa_nil ⟨[_, _], rfl, (by show 2 ≤ sizeLine; decide), _, .own (.da .nil), q2⟩⟩
theorem d_orow (D : DK K "_law_row" s_l_row) (gD : Def P w K mg bs 2 "_law_own_draw" ["state", "many"] (spDrawO ⟨P, w, K⟩)) {n : Nat} (hn : n ≤ 4) (gS : Def P w K mg bs (n + 2) "_law_own_size" ["kind"] (spOSize (n + 1))) : Def P w K mg bs (n + 3) "_law_row" ["state", "inner", "most"] (spORow ⟨P, w, K⟩ n) := by
  refine def_ok X G D sc_l_row (fun f fd F => F.binds (ps := ["state", "inner", "most"]) fun _ _ _ _ _ _ us hl => match us, hl with | [_, _, _], _ => rfl) (fun as Ψ h => by obtain ⟨_, _, rfl, _⟩ := h; rfl) fun f cdv A fr s H E fx as Ψ vs hsp hl => ?_
  obtain ⟨k, b, rfl, rt, hb, b20, hq⟩ := hsp
  obtain ⟨v0, v1, v2, rfl⟩ := ar3 hl
  have nd := fx.nd
  have r2 := fx.room.mono (show 2 ≤ n + 2 by omega)
  show WSs _ _ [some (.pin v0 (ST ⟨P, w, K⟩)), some (.da (kD k)), some (.da (.int (b : Nat))), none] _
  refine ws_set 3 nd (we_add (we_pure xe_int ⟨1, rfl, we_drawN (n := 4) 0 gD r2 fx.gd xe_int (by decide) (by decide) fun z hz => ⟨(z : Nat), rfl, ?_⟩⟩))
  have ez : (1 : Int) + (z : Nat) = ((1 + z : Nat) : Int) := by push_cast; rfl
  rw [ez]
  refine ws_whileT fx (fun l : Nat => [some (.pin v0 (ST ⟨P, w, K⟩)), some (.da (kD k)), some (.da (.int (b : Nat))), some (.da (.int (l : Nat)))]) (fun l => 0 < l ∧ l ≤ 4) (fun l => l) (1 + z) ⟨by omega, by omega⟩ rfl ?_
  rintro l ⟨l0, l4⟩
  have hs := rs_small (s := sz k) (m := l) (by omega) l4
  refine xt_and2 (xt_gt (xv 3) xe_int) (fun _ => xt_gt (fun Ψ' hq' => we_fnR gS fx.room fx.gd (wr_da (xe_tup3 xe_str (xv 1) (xv 3)) (wr_nil ⟨_, _, rfl, .row k l, by rw [kD], .row rt ⟨l0, l4⟩, by rw [sz_row]; exact hs, hq'⟩))) (xv 2)) _ ⟨fun hc => ?_, fun hc => ?_⟩
  · rw [Bool.and_eq_true, decide_eq_true_eq, decide_eq_true_eq] at hc
    refine xs_set 3 nd (xe_cast (j := ((l - 1 : Nat) : Int)) (xe_sub (xv 3) xe_int) (by omega)) ?_
    exact ws_nil ⟨l - 1, ⟨by omega, by omega⟩, by omega, rfl⟩
  · have hle : sz (.row k l) ≤ b := by
      rw [Bool.and_eq_false_iff, decide_eq_false_iff_not, decide_eq_false_iff_not] at hc
      rcases hc with hc | hc
      · have : l = 1 := by omega
        subst this
        rw [sz_row]
        show 1 + sz k * 1 ≤ b
        omega
      · omega
    have q2 := hq l l0 l4 hle
    rw [kD] at q2
    exact xs_ret (xe_tup3 xe_str (xv 1) (xv 3)) ⟨_, .own (.da (.da .nil)), q2⟩
end
end Law
/-! K14r: _law_inner, _law_arms, _law_recs, _law_own_kind, _law_changed, _law_like. -/
namespace Law
open PySem PySem.Spec PyProof.Rows L2 TL
theorem none_mdl {n : Nat} : ∀ d ∈ List.replicate n PyData.none, Mdl d := fun d hd => .inl (List.eq_of_mem_replicate hd)
theorem map_none {ns : List Str} : (ns.map fun _ => PyData.none) = List.replicate ns.length .none := by
  induction ns with
  | nil => rfl
  | cons n ns ih => rw [List.map_cons, ih]; rfl
theorem mem_snoc {α : Type} {P : α → Prop} {xs : List α} {x : α} (h : ∀ y ∈ xs, P y) (hx : P x) : ∀ y ∈ xs ++ [x], P y := fun y hy => by
  rcases List.mem_append.mp hy with h1 | h1
  · exact h y h1
  · rw [List.mem_singleton.mp h1]
    exact hx
theorem one_lk {r b : Nat} {xs : List (Str × Kd)} (h0 : 0 < xs.length) (h6 : xs.length ≤ 6) (sn : SN (xs.map (·.1))) (nm : ∀ p ∈ xs, NmOk p.1) (rt : ∀ p ∈ xs, Rt r p.2) (hs : sumS xs ≤ b) : Lk (r + 1) b (.one xs) := ⟨.one ⟨h0, h6⟩ sn nm rt, by rw [sz_one]; exact hs⟩
theorem rec_lk {r b : Nat} {xs : List (Str × Kd)} (h6 : xs.length ≤ 6) (rt : ∀ p ∈ xs, Rt r p.2) (hs : prodS xs ≤ b) : Lk (r + 1) b (.rec_ xs) := ⟨.rec_ h6 rt, by rw [sz_rec]; exact hs⟩
theorem nm_names {ns : List Str} {xs : List (Str × Kd)} (h : ∀ s ∈ ns, NmOk s) (e : xs.map (·.1) = ns) : ∀ p ∈ xs, NmOk p.1 := fun p hp => h _ (by rw [← e]; exact List.mem_map_of_mem hp)
section
variable {P : Program} {w : World} {K : PySem.W.Frag} {mg : Str → Option Value} {bs h : Heap} (X : K.In h) (G : h.Ns mainGlobals mg) (B : Blt mg)
include X G B
theorem d_oinner (D : DK K "_law_inner" s_l_inner) {r : Nat} (gK : Def P w K mg bs (4 * r + 7) "_law_own_kind" ["state", "room", "most"] (spOKind ⟨P, w, K⟩ r)) (gL : Def P w K mg bs (4 * r + 8) "_law_like" ["state", "kind", "room", "most"] (spOLike ⟨P, w, K⟩ r)) : Def P w K mg bs (4 * r + 9) "_law_inner" ["state", "model", "room", "most"] (spOInner ⟨P, w, K⟩ r) := by
  refine def_ok X G D sc_l_inner (fun f fd F => F.binds (ps := ["state", "model", "room", "most"]) fun _ _ _ _ _ _ us hl => match us, hl with | [_, _, _, _], _ => rfl) (fun as Ψ h => by obtain ⟨_, _, rfl, _⟩ := h; rfl) fun f cdv A fr s H E fx as Ψ vs hsp hl => ?_
  obtain ⟨d, b, rfl, md, r1, b1, b20, hq⟩ := hsp
  obtain ⟨v0, v1, v2, v3, rfl⟩ := ar4 hl
  have nd := fx.nd
  have rK := fx.room.mono (show 4 * r + 7 ≤ 4 * r + 8 by omega)
  show WSs _ _ [some (.pin v0 (ST ⟨P, w, K⟩)), some (.da d), some (.da (.int (r : Nat))), some (.da (.int (b : Nat)))] _
  rcases md with rfl | ⟨k0, rfl, rt, few⟩
  · refine xs_ifT (xt_cast (xt_isN (xv 1)) rfl) ?_
    exact ws_ret (we_fnR gK rK fx.gd (wr_ref 0 (wr_da (xv 2) (wr_da (xv 3) (wr_nil ⟨_, _, rfl, b, rfl, r1, b1, b20, fun k lk => ⟨_, .own (.da (.da (.da .nil))), hq k lk⟩⟩)))))
  · refine xs_ifF (xt_cast (xt_isN (xv 1)) (isN_kD k0)) (ws_nil ?_)
    exact ws_ret (we_fnR gL fx.room fx.gd (wr_ref 0 (wr_da (xv 1) (wr_da (xv 2) (wr_da (xv 3) (wr_nil ⟨_, _, rfl, k0, b, rfl, rt, few, r1, b1, b20, fun k lk => ⟨_, .own (.da (.da (.da .nil))), hq k lk⟩⟩))))))
theorem d_oarms (D : DK K "_law_arms" s_l_arms) {r : Nat} (r4 : r ≤ 4) (gI : Def P w K mg bs (4 * r + 9) "_law_inner" ["state", "model", "room", "most"] (spOInner ⟨P, w, K⟩ r)) (gS : Def P w K mg bs 5 "_law_own_size" ["kind"] (spOSize 4)) : Def P w K mg bs (4 * r + 10) "_law_arms" ["state", "names", "models", "room", "most"] (spOArms ⟨P, w, K⟩ r) := by
  refine def_ok X G D sc_l_arms (fun f fd F => F.binds (ps := ["state", "names", "models", "room", "most"]) fun _ _ _ _ _ _ us hl => match us, hl with | [_, _, _, _, _], _ => rfl) (fun as Ψ h => by obtain ⟨_, _, _, rfl, _⟩ := h; rfl) fun f cdv A fr s H E fx as Ψ vs hsp hl => ?_
  obtain ⟨ns, ms, b, rfl, lm, l6, hm, lb, r1, b20, hq⟩ := hsp
  obtain ⟨v0, v1, v2, v3, v4, rfl⟩ := ar5 hl
  have nd := fx.nd
  have rS := fx.room.mono (show 5 ≤ 4 * r + 9 by omega)
  show WSs _ _ [some (.pin v0 (ST ⟨P, w, K⟩)), some (.da (.list (strsD ns))), some (.da (.list ms)), some (.da (.int ((r + 1 : Nat) : Int))), some (.da (.int (b : Nat))), none, none, none, none, none] _
  refine xs_set 5 nd xe_lst0 ?_
  refine xs_set 6 nd (xv 4) ?_
  refine ws_forT fx (enumN ns) (fun p => .tuple [.int (p.1 : Nat), .str p.2]) (fun q : List (Str × Kd) × Nat => [some (.pin v0 (ST ⟨P, w, K⟩)), some (.da (.list (strsD ns))), some (.da (.list ms)), some (.da (.int ((r + 1 : Nat) : Int))), some (.da (.int (b : Nat))), some (.ll (q.1.map armD)), some (.da (.int (q.2 : Nat))), none, none, none]) (fun i q => q.1.map (·.1) = ns.take i ∧ (∀ p ∈ q.1, Rt r p.2) ∧ q.1.length = i ∧ sumS q.1 + q.2 = b ∧ ns.length ≤ q.2 + i) ([], b) (xi_enumL (E := PyData.str) (xs := ns) B (xv 1)) ⟨rfl, (fun p hp => by cases hp), rfl, (by show 0 + b = b; omega), (by show ns.length ≤ b + 0; omega)⟩ rfl ?_ ?_
  · rintro i ⟨i', name⟩ ⟨xs, R⟩ hp ⟨e1, rt, len, hs, hR⟩
    obtain ⟨e2, hn⟩ := enumN_at hp
    have e2 : i' = i := e2
    subst e2
    have hn : ns[i']? = some name := hn
    have hi := (List.getElem?_eq_some_iff.mp hn).1
    have len : xs.length = i' := len
    have e1 : xs.map (·.1) = ns.take i' := e1
    have rt : ∀ p ∈ xs, Rt r p.2 := rt
    have em := List.getElem?_eq_getElem (l := ms) (i := i') (by omega)
    have md := hm _ (List.getElem_mem (l := ms) (n := i') (by omega))
    refine wg_tup fx.calm (wgs_cons (wg_name 7 nd (wgs_cons (wg_name 8 nd (wgs_nil ?_)))))
    have hs : sumS xs + R = b := hs
    have hR : ns.length ≤ R + i' := hR
    obtain ⟨s1, s2, s3⟩ := share_ok (rest := R) (d := ns.length - i') (by omega) (by omega)
    have ed : (((strsD ns).length : Nat) : Int) - ((i' : Nat) : Int) = ((ns.length - i' : Nat) : Int) := by rw [List.length_map]; omega
    refine xs_set 9 nd (xe_cast (j := ((R / (ns.length - i') : Nat) : Int)) (xe_max2 B fx.calm xe_int (xe_cast (xe_fdiv (j := ((ns.length - i' : Nat) : Int)) ⟨by omega, by omega⟩ (xv 6) (xe_cast (xe_sub (xe_len B (xv 1) (.inl rfl)) (xv 7)) ed)) (int_div _ _))) ((max_cast (a := 1)).trans (by rw [Nat.max_eq_right s1]))) ?_
    refine ws_expr (we_append 5 (we_tup (wa_cons (we_pure (xv 8) (wa_cons (we_fnR gI fx.room fx.gd (wr_ref 0 (wr_da (xe_ix (xv 2) (xv 7) (.inl rfl) (atI_n em)) (wr_da (xe_cast (j := ((r : Nat) : Int)) (xe_sub (xv 3) xe_int) (by omega)) (wr_da (xv 9) (wr_nil ⟨_, _, rfl, ms[i'], R / (ns.length - i'), rfl, md, r1, s1, by omega, fun k lk => wa_nil ⟨[.str name, kD k], rfl, (by show 2 ≤ sizeLine; decide), _, _, xs.map armD, _, rfl, rfl, .ll, few4 (by rw [List.length_map]; omega), ?_⟩⟩)))))))))))
    have lks := lk.few
    have pos := lk.rt.pos
    show WSs _ _ [some (.pin v0 (ST ⟨P, w, K⟩)), some (.da (.list (strsD ns))), some (.da (.list ms)), some (.da (.int ((r + 1 : Nat) : Int))), some (.da (.int (b : Nat))), some (.ll (xs.map armD ++ [armD (name, k)])), some (.da (.int (R : Nat))), some (.da (.int (i' : Nat))), some (.da (.str name)), some (.da (.int ((R / (ns.length - i') : Nat) : Int)))] _
    refine xs_set 6 nd (xe_cast (j := ((R - sz k : Nat) : Int)) (xe_sub (xv 6) (fun Ψ' hq' => we_fnR gS rS fx.gd (wr_da (ix1 (xe_ixll 5 (j := -1) (xe_neg xe_int) (hd := atI_neg1))) (wr_nil ⟨_, _, rfl, k, rfl, lk.rt.mono r4, by omega, hq'⟩)))) (by omega)) ?_
    refine ws_drop 7 (ws_drop 8 (ws_drop 9 (ws_nil ⟨(xs ++ [(name, k)], R - sz k), ⟨map_take e1 hn rfl, mem_snoc rt lk.rt, by rw [List.length_append, len]; rfl, ?_, ?_⟩, by rw [List.map_append]; rfl⟩)))
    · show sumS (xs ++ [(name, k)]) + _ = b
      rw [sumS_app, sumS_one]
      show sumS xs + sz k + _ = b
      omega
    · show ns.length ≤ R - sz k + (i' + 1)
      omega
  · rintro ⟨xs, R⟩ ⟨e1, rt, len, hs, hR⟩
    rw [enumN_len] at e1 len hR
    have e1 : xs.map (·.1) = ns.take ns.length := e1
    rw [List.take_length] at e1
    have hs : sumS xs + R = b := hs
    refine xs_ret (xe_tupOfS 5 B) ⟨_, .own (.da (.da (.da (.da .nil)))), hq xs e1 rt (by omega)⟩
theorem d_orecs (D : DK K "_law_recs" s_l_recs) {r : Nat} (r4 : r ≤ 4) (gI : Def P w K mg bs (4 * r + 9) "_law_inner" ["state", "model", "room", "most"] (spOInner ⟨P, w, K⟩ r)) (gS : Def P w K mg bs 5 "_law_own_size" ["kind"] (spOSize 4)) : Def P w K mg bs (4 * r + 10) "_law_recs" ["state", "names", "models", "room", "most"] (spORecs ⟨P, w, K⟩ r) := by
  refine def_ok X G D sc_l_recs (fun f fd F => F.binds (ps := ["state", "names", "models", "room", "most"]) fun _ _ _ _ _ _ us hl => match us, hl with | [_, _, _, _, _], _ => rfl) (fun as Ψ h => by obtain ⟨_, _, _, rfl, _⟩ := h; rfl) fun f cdv A fr s H E fx as Ψ vs hsp hl => ?_
  obtain ⟨ns, ms, b, rfl, lm, l6, hm, r1, b1, b20, hq⟩ := hsp
  obtain ⟨v0, v1, v2, v3, v4, rfl⟩ := ar5 hl
  have nd := fx.nd
  have rS := fx.room.mono (show 5 ≤ 4 * r + 9 by omega)
  show WSs _ _ [some (.pin v0 (ST ⟨P, w, K⟩)), some (.da (.list (strsD ns))), some (.da (.list ms)), some (.da (.int ((r + 1 : Nat) : Int))), some (.da (.int (b : Nat))), none, none, none, none] _
  refine xs_set 5 nd xe_lst0 ?_
  refine xs_set 6 nd (xv 4) ?_
  refine ws_forT fx (enumN ns) (fun p => .tuple [.int (p.1 : Nat), .str p.2]) (fun q : List (Str × Kd) × Nat => [some (.pin v0 (ST ⟨P, w, K⟩)), some (.da (.list (strsD ns))), some (.da (.list ms)), some (.da (.int ((r + 1 : Nat) : Int))), some (.da (.int (b : Nat))), some (.ll (q.1.map armD)), some (.da (.int (q.2 : Nat))), none, none]) (fun i q => q.1.map (·.1) = ns.take i ∧ (∀ p ∈ q.1, Rt r p.2) ∧ q.1.length = i ∧ prodS q.1 * q.2 ≤ b ∧ 1 ≤ q.2) ([], b) (xi_enumL (E := PyData.str) (xs := ns) B (xv 1)) ⟨rfl, (fun p hp => by cases hp), rfl, (by show 1 * b ≤ b; omega), b1⟩ rfl ?_ ?_
  · rintro i ⟨i', name⟩ ⟨xs, R⟩ hp ⟨e1, rt, len, hs, hR⟩
    obtain ⟨e2, hn⟩ := enumN_at hp
    have e2 : i' = i := e2
    subst e2
    have hn : ns[i']? = some name := hn
    have hi := (List.getElem?_eq_some_iff.mp hn).1
    have len : xs.length = i' := len
    have e1 : xs.map (·.1) = ns.take i' := e1
    have rt : ∀ p ∈ xs, Rt r p.2 := rt
    have em := List.getElem?_eq_getElem (l := ms) (i := i') (by omega)
    have md := hm _ (List.getElem_mem (l := ms) (n := i') (by omega))
    refine wg_tup fx.calm (wgs_cons (wg_name 7 nd (wgs_cons (wg_name 8 nd (wgs_nil ?_)))))
    have hs : prodS xs * R ≤ b := hs
    have hR : 1 ≤ R := hR
    have hRb : R ≤ b := Nat.le_trans (Nat.le_mul_of_pos_left _ (prod_pos fun p hp => (rt p hp).pos)) hs
    refine ws_expr (we_append 5 (we_tup (wa_cons (we_pure (xv 8) (wa_cons (we_fnR gI fx.room fx.gd (wr_ref 0 (wr_da (xe_ix (xv 2) (xv 7) (.inl rfl) (atI_n em)) (wr_da (xe_cast (j := ((r : Nat) : Int)) (xe_sub (xv 3) xe_int) (by omega)) (wr_da (xe_cast (j := ((min R 4 : Nat) : Int)) (xe_max2 B fx.calm xe_int (xe_cast (xe_min2 B fx.calm (xv 6) xe_int) (min_cast (a := R) (b := 4)))) ((max_cast (a := 1)).trans (by rw [Nat.max_eq_right (by omega)]))) (wr_nil ⟨_, _, rfl, ms[i'], min R 4, rfl, md, r1, by omega, by omega, fun k lk => wa_nil ⟨[.str name, kD k], rfl, (by show 2 ≤ sizeLine; decide), _, _, xs.map armD, _, rfl, rfl, .ll, few4 (by rw [List.length_map]; omega), ?_⟩⟩)))))))))))
    have lks := lk.few
    have pos := lk.rt.pos
    show WSs _ _ [some (.pin v0 (ST ⟨P, w, K⟩)), some (.da (.list (strsD ns))), some (.da (.list ms)), some (.da (.int ((r + 1 : Nat) : Int))), some (.da (.int (b : Nat))), some (.ll (xs.map armD ++ [armD (name, k)])), some (.da (.int (R : Nat))), some (.da (.int (i' : Nat))), some (.da (.str name))] _
    have h1 : 1 ≤ R / sz k := (Nat.le_div_iff_mul_le pos).mpr (by omega)
    refine xs_set 6 nd (xe_cast (j := ((R / sz k : Nat) : Int)) (xe_fdiv (j := ((sz k : Nat) : Int)) ⟨by omega, by omega⟩ (xv 6) (fun Ψ' hq' => we_fnR gS rS fx.gd (wr_da (ix1 (xe_ixll 5 (j := -1) (xe_neg xe_int) (hd := atI_neg1))) (wr_nil ⟨_, _, rfl, k, rfl, lk.rt.mono r4, by omega, hq'⟩)))) (int_div _ _)) ?_
    refine ws_drop 7 (ws_drop 8 (ws_nil ⟨(xs ++ [(name, k)], R / sz k), ⟨map_take e1 hn rfl, mem_snoc rt lk.rt, by rw [List.length_append, len]; rfl, ?_, h1⟩, by rw [List.map_append]; rfl⟩))
    show prodS (xs ++ [(name, k)]) * (R / sz k) ≤ b
    rw [prodS_snoc, Nat.mul_assoc]
    exact Nat.le_trans (Nat.mul_le_mul_left _ (Nat.mul_div_le R (sz k))) hs
  · rintro ⟨xs, R⟩ ⟨e1, rt, len, hs, hR⟩
    rw [enumN_len] at e1 len
    have e1 : xs.map (·.1) = ns.take ns.length := e1
    rw [List.take_length] at e1
    have hs : prodS xs * R ≤ b := hs
    refine xs_ret (xe_tupOfS 5 B) ⟨_, .own (.da (.da (.da (.da .nil)))), hq xs e1 rt (Nat.le_trans (Nat.le_mul_of_pos_right _ (show 1 ≤ R from hR)) hs)⟩
end
end Law
/-! K14s: _law_own_kind, _law_changed, _law_like; all together by the room. -/
namespace Law
open PySem PySem.Spec PyProof.Rows L2 TL
theorem opt_lk {r b : Nat} {k : Kd} (h : Lk r (b - 1) k) (hb : 1 ≤ b) : Lk (r + 1) b (.opt k) := ⟨.opt h.rt, by rw [sz_opt]; have := h.few; omega⟩
theorem min1_cast {a b : Nat} : (if ((b : Nat) : Int) < 1 + ((a : Nat) : Int) then ((b : Nat) : Int) else 1 + ((a : Nat) : Int)) = ((min (1 + a) b : Nat) : Int) := by
  split <;> omega
theorem min3_cast {a b : Nat} : min (min (1 + ((a : Nat) : Int)) 6) ((b : Nat) : Int) = ((min (min (1 + a) 6) b : Nat) : Int) := by omega
theorem mdls {xs : List (Str × Kd)} (rt : ∀ p ∈ xs, Rt 4 p.2) (few : ∀ p ∈ xs, sz p.2 ≤ 4000) : ∀ d ∈ (xs.map fun p => kD p.2) ++ [PyData.none], Mdl d := mem_snoc (fun d hd => by
  obtain ⟨p, hp, rfl⟩ := List.mem_map.mp hd
  exact .inr ⟨p.2, rfl, rt p hp, few p hp⟩) (.inl rfl)
theorem turn_len {ds : List PyData} {s : Nat} : (ds.drop s ++ ds.take s).length = ds.length := by rw [List.length_append, List.length_drop, List.length_take]; omega
theorem turn_mem {P : PyData → Prop} {ds : List PyData} {s : Nat} (h : ∀ d ∈ ds, P d) : ∀ d ∈ ds.drop s ++ ds.take s, P d := fun d hd => by
  rcases List.mem_append.mp hd with h1 | h1
  · exact h d (List.mem_of_mem_drop h1)
  · exact h d (List.mem_of_mem_take h1)
section
variable {P : Program} {w : World} {K : PySem.W.Frag} {mg : Str → Option Value} {bs h : Heap} (X : K.In h) (G : h.Ns mainGlobals mg) (B : Blt mg)
include X G B
theorem d_okind (D : DK K "_law_own_kind" s_l_own_kind) {r : Nat} (r3 : r ≤ 3) (gD : Def P w K mg bs 2 "_law_own_draw" ["state", "many"] (spDrawO ⟨P, w, K⟩)) (gN : Def P w K mg bs 3 "_law_own_names" ["state", "many"] (spONames ⟨P, w, K⟩)) (gNum : Def P w K mg bs 3 "_law_num" ["state", "most"] (spONum ⟨P, w, K⟩)) (gPk : Def P w K mg bs 4 "_law_own_pick" ["state", "most"] (spONum ⟨P, w, K⟩)) (gK : Def P w K mg bs (4 * r + 7) "_law_own_kind" ["state", "room", "most"] (spOKind ⟨P, w, K⟩ r)) (gRw : Def P w K mg bs (r + 3) "_law_row" ["state", "inner", "most"] (spORow ⟨P, w, K⟩ r)) (gA : Def P w K mg bs (4 * r + 10) "_law_arms" ["state", "names", "models", "room", "most"] (spOArms ⟨P, w, K⟩ r)) (gRc : Def P w K mg bs (4 * r + 10) "_law_recs" ["state", "names", "models", "room", "most"] (spORecs ⟨P, w, K⟩ r)) : Def P w K mg bs (4 * r + 11) "_law_own_kind" ["state", "room", "most"] (spOKind ⟨P, w, K⟩ (r + 1)) := by
  refine def_ok X G D sc_l_own_kind (fun f fd F => F.binds (ps := ["state", "room", "most"]) fun _ _ _ _ _ _ us hl => match us, hl with | [_, _, _], _ => rfl) (fun as Ψ h => by obtain ⟨_, rfl, _⟩ := h; rfl) fun f cdv A fr s H E fx as Ψ vs hsp hl => ?_
  obtain ⟨b, rfl, rr1, b1, b20, hq⟩ := hsp
  obtain ⟨v0, v1, v2, rfl⟩ := ar3 hl
  have nd := fx.nd
  have r2 := fx.room.mono (show 2 ≤ 4 * r + 10 by omega)
  have rN := fx.room.mono (show 3 ≤ 4 * r + 10 by omega)
  have rP := fx.room.mono (show 4 ≤ 4 * r + 10 by omega)
  have rK := fx.room.mono (show 4 * r + 7 ≤ 4 * r + 10 by omega)
  have rW := fx.room.mono (show r + 3 ≤ 4 * r + 10 by omega)
  show WSs _ _ [some (.pin v0 (ST ⟨P, w, K⟩)), some (.da (.int ((r + 1 : Nat) : Int))), some (.da (.int (b : Nat))), none, none, none, none] _
  refine ws_set 3 nd (we_drawN (n := 9) 0 gD r2 fx.gd xe_int (by decide) (by decide) fun z hz => ?_)
  show WSs _ _ [some (.pin v0 (ST ⟨P, w, K⟩)), some (.da (.int ((r + 1 : Nat) : Int))), some (.da (.int (b : Nat))), some (.da (.int (z : Nat))), none, none, none] _
  refine xs_if (xt_or3 (xt_lt (xv 1) xe_int) (fun _ => xt_lt (xv 2) xe_int) fun _ _ => xt_lt (xv 3) xe_int) (fun _ => ?_) fun hc => ws_nil ?_
  · refine xs_if (xt_eqI fx.u (xv 3) xe_int) (fun _ => ?_) fun _ => ws_nil ?_
    · exact ws_ret (we_fnR gPk rP fx.gd (wr_ref 0 (wr_da (xe_cast (xe_min2 B fx.calm (xv 2) xe_int) (min_cast (a := b) (b := 5))) (wr_nil ⟨_, _, rfl, min b 5, rfl, by omega, by omega, fun k lk => ⟨_, .own (.da (.da .nil)), hq k (lk.mono (by omega) (by omega))⟩⟩))))
    · exact ws_ret (we_fnR gNum rN fx.gd (wr_ref 0 (wr_da (xe_cast (xe_min2 B fx.calm (xv 2) xe_int) (min_cast (a := b) (b := 6))) (wr_nil ⟨_, _, rfl, min b 6, rfl, by omega, by omega, fun k lk => ⟨_, .own (.da (.da .nil)), hq k (lk.mono (by omega) (by omega))⟩⟩))))
  rw [Bool.or_eq_false_iff, Bool.or_eq_false_iff, decide_eq_false_iff_not, decide_eq_false_iff_not, decide_eq_false_iff_not] at hc
  have r1 : 1 ≤ r := by omega
  have b3 : 3 ≤ b := by omega
  refine xs_if (xt_eqI fx.u (xv 3) xe_int) (fun _ => ?_) fun _ => ws_nil ?_
  · refine ws_ret (we_tup (wa_cons (xe_str _ (wa_cons (we_fnR gK rK fx.gd (wr_ref 0 (wr_da (xe_cast (j := ((r : Nat) : Int)) (xe_sub (xv 1) xe_int) (by omega)) (wr_da (xe_cast (j := ((b - 1 : Nat) : Int)) (xe_sub (xv 2) xe_int) (by omega)) (wr_nil ⟨_, _, rfl, b - 1, rfl, r1, by omega, by omega, fun k lk => wa_nil ⟨[_, _], rfl, (by show 2 ≤ sizeLine; decide), _, .own (.da (.da .nil)), ?_⟩⟩)))))))))
    have q2 := hq (.opt k) (opt_lk lk b1)
    rw [kD] at q2
    exact q2
  refine xs_if (xt_eqI fx.u (xv 3) xe_int) (fun _ => ?_) fun _ => ws_nil ?_
  · exact ws_ret (we_fnR gRw rW fx.gd (wr_ref 0 (wr_cons (we_fnR gK rK fx.gd (wr_ref 0 (wr_da (xe_cast (j := ((r : Nat) : Int)) (xe_sub (xv 1) xe_int) (by omega)) (wr_da (xe_cast (j := ((min 3 (b - 1) : Nat) : Int)) (xe_min2 B fx.calm xe_int (xe_cast (j := ((b - 1 : Nat) : Int)) (xe_sub (xv 2) xe_int) (by omega))) (min_cast (a := 3) (b := b - 1))) (wr_nil ⟨_, _, rfl, min 3 (b - 1), rfl, r1, by omega, by omega, fun k lk => wr_da (xv 2) (wr_nil ⟨_, _, rfl, k, b, rfl, lk.rt, by have := lk.few; omega, b20, fun m m0 m4 le => ⟨_, .own (.da (.da .nil)), hq (.row k m) ⟨.row lk.rt ⟨m0, m4⟩, le⟩⟩⟩)⟩))))))))
  refine xs_if (xt_lt (xv 3) xe_int) (fun _ => ?_) fun _ => ws_nil ?_
  · refine ws_set 4 nd (we_min2 B fx.calm (we_add (we_pure xe_int ⟨1, rfl, we_drawN (n := 3) 0 gD r2 fx.gd xe_int (by decide) (by decide) fun j hj => ⟨(j : Nat), rfl, _, rfl, we_pure (xv 2) ⟨_, rfl, ?_⟩⟩⟩)))
    rw [min1_cast]
    show WSs _ _ [some (.pin v0 (ST ⟨P, w, K⟩)), some (.da (.int ((r + 1 : Nat) : Int))), some (.da (.int (b : Nat))), some (.da (.int (z : Nat))), some (.da (.int ((min (1 + j) b : Nat) : Int))), none, none] _
    refine ws_meet (fun m : Nat => [some (.pin v0 (ST ⟨P, w, K⟩)), some (.da (.int ((r + 1 : Nat) : Int))), some (.da (.int (b : Nat))), some (.da (.int (z : Nat))), some (.da (.int (m : Nat))), none, none]) (fun m => 1 ≤ m ∧ m ≤ 6 ∧ m ≤ b) (fun key => wt_eqI fx.u (we_drawN (n := 16) 0 gD r2 fx.gd xe_int (by decide) (by decide) fun t _ => ⟨(t : Nat), rfl, xe_int, fun _ => ?_, fun _ => ws_nil (key _ ⟨by omega, by omega, by omega⟩)⟩)) ?_
    · exact xs_set 4 nd (xe_cast (xe_min2 B fx.calm xe_int (xv 2)) (min_cast (a := 6) (b := b))) (ws_nil (key _ ⟨by omega, by omega, by omega⟩))
    rintro m ⟨m1, m6, mb⟩
    refine ws_set 5 nd (we_sorted B fx.u70 (we_fnR gN rN fx.gd (wr_ref 0 (wr_da (xv 4) (wr_nil ⟨_, _, rfl, m, rfl, by omega, fun ns rr nm fz => ⟨strsD ns, fz, srt_strs (by rw [nm.len]; exact few4 (by omega)), ?_⟩⟩)))))
    obtain ⟨sn, sl, so⟩ := nm.sorted
    rw [sortD_strs]
    refine ws_frz 5 .ll ?_
    show WSs _ _ [some (.pin v0 (ST ⟨P, w, K⟩)), some (.da (.int ((r + 1 : Nat) : Int))), some (.da (.int (b : Nat))), some (.da (.int (z : Nat))), some (.da (.int (m : Nat))), some (.da (.list (strsD (sortS ns)))), none] _
    refine ws_ret (we_tup (wa_cons (xe_str _ (wa_cons (we_fnR gA fx.room fx.gd (wr_ref 0 (wr_da (xv 5) (wr_da (xe_castD (xe_frz (xe_lcM [("name", 6)] (fun (s : Str) Γ => Γ.set 6 (some (.da (.str s)))) (sortS ns) .str (fun _ => .none) fx (R := fun _ => .da .none) (xi_lst (xv 5)) (few4 (by omega)) (fun s hs s2 H C cl fp => gc_name 6 nd rfl) fun s hs s2 H C cl fp => xe_non)) (congrArg PyData.list map_none)) (wr_da (xv 1) (wr_da (xv 2) (wr_nil ⟨_, _, rfl, sortS ns, _, b, rfl, by rw [List.length_replicate]; exact Nat.le_refl _, by omega, none_mdl, by omega, r1, b20, fun xs e1 rt hs => wa_nil ⟨[_, _], rfl, (by show 2 ≤ sizeLine; decide), _, .own (.da (.da .nil)), ?_⟩⟩)))))))))))
    have lx : xs.length = m := by rw [← sl, ← e1, List.length_map]
    have q2 := hq (.one xs) (one_lk (by omega) (by omega) (by rw [e1]; exact sn) (nm_names so e1) rt hs)
    rw [kD, armsD_map] at q2
    exact q2
  refine ws_set 4 nd (we_drawN (n := 4) 0 gD r2 fx.gd xe_int (by decide) (by decide) fun j hj => ?_)
  show WSs _ _ [some (.pin v0 (ST ⟨P, w, K⟩)), some (.da (.int ((r + 1 : Nat) : Int))), some (.da (.int (b : Nat))), some (.da (.int (z : Nat))), some (.da (.int (j : Nat))), none, none] _
  refine ws_meet (fun m : Nat => [some (.pin v0 (ST ⟨P, w, K⟩)), some (.da (.int ((r + 1 : Nat) : Int))), some (.da (.int (b : Nat))), some (.da (.int (z : Nat))), some (.da (.int (m : Nat))), none, none]) (fun m => m ≤ 6) (fun key => wt_eqI fx.u (we_drawN (n := 16) 0 gD r2 fx.gd xe_int (by decide) (by decide) fun t _ => ⟨(t : Nat), rfl, xe_int, fun _ => ?_, fun _ => ws_nil (key _ (by omega))⟩)) ?_
  · exact xs_set 4 nd (xe_int (i := ((6 : Nat) : Int))) (ws_nil (key _ (by omega)))
  rintro m m6
  have m6 : m ≤ 6 := m6
  refine ws_set 5 nd (we_fnR gN rN fx.gd (wr_ref 0 (wr_da (xv 4) (wr_nil ⟨_, _, rfl, m, rfl, by omega, fun ns rr nm fz => ?_⟩))))
  have nl := nm.len
  refine ws_frz 5 fz ?_
  show WSs _ _ [some (.pin v0 (ST ⟨P, w, K⟩)), some (.da (.int ((r + 1 : Nat) : Int))), some (.da (.int (b : Nat))), some (.da (.int (z : Nat))), some (.da (.int (m : Nat))), some (.da (.list (strsD ns))), none] _
  refine ws_ret (we_tup (wa_cons (xe_str _ (wa_cons (we_fnR gRc fx.room fx.gd (wr_ref 0 (wr_da (xv 5) (wr_da (xe_castD (xe_frz (xe_lcM [("name", 6)] (fun (s : Str) Γ => Γ.set 6 (some (.da (.str s)))) ns .str (fun _ => .none) fx (R := fun _ => .da .none) (xi_lst (xv 5)) (few4 (by omega)) (fun s hs s2 H C cl fp => gc_name 6 nd rfl) fun s hs s2 H C cl fp => xe_non)) (congrArg PyData.list map_none)) (wr_da (xv 1) (wr_da (xv 2) (wr_nil ⟨_, _, rfl, ns, _, b, rfl, by rw [List.length_replicate]; exact Nat.le_refl _, by omega, none_mdl, r1, b1, b20, fun xs e1 rt hs => wa_nil ⟨[_, _], rfl, (by show 2 ≤ sizeLine; decide), _, .own (.da (.da .nil)), ?_⟩⟩)))))))))))
  have lx : xs.length = m := by rw [← nl, ← e1, List.length_map]
  have q2 := hq (.rec_ xs) (rec_lk (by omega) rt hs)
  rw [kD, armsD_map] at q2
  exact q2
theorem d_ochg (D : DK K "_law_changed" s_l_changed) {r : Nat} (r3 : r ≤ 3) (gD : Def P w K mg bs 2 "_law_own_draw" ["state", "many"] (spDrawO ⟨P, w, K⟩)) (gN : Def P w K mg bs 3 "_law_own_names" ["state", "many"] (spONames ⟨P, w, K⟩)) (gNum : Def P w K mg bs 3 "_law_num" ["state", "most"] (spONum ⟨P, w, K⟩)) (gPk : Def P w K mg bs 4 "_law_own_pick" ["state", "most"] (spONum ⟨P, w, K⟩)) (gL : Def P w K mg bs (4 * r + 8) "_law_like" ["state", "kind", "room", "most"] (spOLike ⟨P, w, K⟩ r)) (gRw : Def P w K mg bs (r + 3) "_law_row" ["state", "inner", "most"] (spORow ⟨P, w, K⟩ r)) (gA : Def P w K mg bs (4 * r + 10) "_law_arms" ["state", "names", "models", "room", "most"] (spOArms ⟨P, w, K⟩ r)) (gRc : Def P w K mg bs (4 * r + 10) "_law_recs" ["state", "names", "models", "room", "most"] (spORecs ⟨P, w, K⟩ r)) : Def P w K mg bs (4 * r + 11) "_law_changed" ["state", "kind", "room", "most"] (spOChg ⟨P, w, K⟩ (r + 1)) := by
  refine def_ok X G D sc_l_changed (fun f fd F => F.binds (ps := ["state", "kind", "room", "most"]) fun _ _ _ _ _ _ us hl => match us, hl with | [_, _, _, _], _ => rfl) (fun as Ψ h => by obtain ⟨_, _, rfl, _⟩ := h; rfl) fun f cdv A fr s H E fx as Ψ vs hsp hl => ?_
  obtain ⟨k0, b, rfl, rt0, few0, rr2, b3, b20, hq⟩ := hsp
  obtain ⟨v0, v1, v2, v3, rfl⟩ := ar4 hl
  have nd := fx.nd
  have r2 := fx.room.mono (show 2 ≤ 4 * r + 10 by omega)
  have rN := fx.room.mono (show 3 ≤ 4 * r + 10 by omega)
  have rP := fx.room.mono (show 4 ≤ 4 * r + 10 by omega)
  have rL := fx.room.mono (show 4 * r + 8 ≤ 4 * r + 10 by omega)
  have rW := fx.room.mono (show r + 3 ≤ 4 * r + 10 by omega)
  have r1 : 1 ≤ r := by omega
  cases rt0 with
  | @num _ lo hi h1 h2 h3 h4 =>
    rw [kD] at hq ⊢
    show WSs _ _ [some (.pin v0 (ST ⟨P, w, K⟩)), some (.da _), some (.da (.int ((r + 1 : Nat) : Int))), some (.da (.int (b : Nat))), none, none, none, none] _
    refine is_w fx.u (ix0 (xv 1)) ?_
    exact ws_ret (we_fnR gNum rN fx.gd (wr_ref 0 (wr_da (xe_cast (xe_min2 B fx.calm (xv 3) xe_int) (min_cast (a := b) (b := 6))) (wr_nil ⟨_, _, rfl, min b 6, rfl, by omega, by omega, fun k lk => ⟨_, .own (.da (.da (.da .nil))), hq k (lk.mono (by omega) (by omega))⟩⟩))))
  | @pick _ ns h1 sn nm =>
    rw [kD] at hq ⊢
    show WSs _ _ [some (.pin v0 (ST ⟨P, w, K⟩)), some (.da _), some (.da (.int ((r + 1 : Nat) : Int))), some (.da (.int (b : Nat))), none, none, none, none] _
    refine no_w fx.u (ix0 (xv 1)) ?_
    refine is_w fx.u (ix0 (xv 1)) ?_
    exact ws_ret (we_fnR gPk rP fx.gd (wr_ref 0 (wr_da (xe_cast (xe_min2 B fx.calm (xv 3) xe_int) (min_cast (a := b) (b := 5))) (wr_nil ⟨_, _, rfl, min b 5, rfl, by omega, by omega, fun k lk => ⟨_, .own (.da (.da (.da .nil))), hq k (lk.mono (by omega) (by omega))⟩⟩))))
  | @opt _ k1 h1 =>
    rw [kD] at hq ⊢
    rw [sz_opt] at few0
    show WSs _ _ [some (.pin v0 (ST ⟨P, w, K⟩)), some (.da _), some (.da (.int ((r + 1 : Nat) : Int))), some (.da (.int (b : Nat))), none, none, none, none] _
    refine no_w fx.u (ix0 (xv 1)) ?_
    refine no_w fx.u (ix0 (xv 1)) ?_
    refine is_w fx.u (ix0 (xv 1)) ?_
    refine ws_ret (we_tup (wa_cons (xe_str _ (wa_cons (we_fnR gL rL fx.gd (wr_ref 0 (wr_da (ix1 (xv 1)) (wr_da (xe_cast (j := ((r : Nat) : Int)) (xe_sub (xv 2) xe_int) (by omega)) (wr_da (xe_cast (j := ((b - 1 : Nat) : Int)) (xe_sub (xv 3) xe_int) (by omega)) (wr_nil ⟨_, _, rfl, k1, b - 1, rfl, h1.mono (by omega), by omega, r1, by omega, by omega, fun k lk => wa_nil ⟨[_, _], rfl, (by show 2 ≤ sizeLine; decide), _, .own (.da (.da (.da .nil))), ?_⟩⟩))))))))))
    have q2 := hq (.opt k) (opt_lk lk (by omega))
    rw [kD] at q2
    exact q2
  | @row _ m0 k1 h1 h2 =>
    rw [kD] at hq ⊢
    have lek := rs_ge1 (s := sz k1) h2.1
    rw [sz_row] at few0
    show WSs _ _ [some (.pin v0 (ST ⟨P, w, K⟩)), some (.da _), some (.da (.int ((r + 1 : Nat) : Int))), some (.da (.int (b : Nat))), none, none, none, none] _
    refine no_w fx.u (ix0 (xv 1)) ?_
    refine no_w fx.u (ix0 (xv 1)) ?_
    refine no_w fx.u (ix0 (xv 1)) ?_
    refine is_w fx.u (ix0 (xv 1)) ?_
    exact ws_ret (we_fnR gRw rW fx.gd (wr_ref 0 (wr_cons (we_fnR gL rL fx.gd (wr_ref 0 (wr_da (ix1 (xv 1)) (wr_da (xe_cast (j := ((r : Nat) : Int)) (xe_sub (xv 2) xe_int) (by omega)) (wr_da (xe_cast (j := ((min 3 (b - 1) : Nat) : Int)) (xe_min2 B fx.calm xe_int (xe_cast (j := ((b - 1 : Nat) : Int)) (xe_sub (xv 3) xe_int) (by omega))) (min_cast (a := 3) (b := b - 1))) (wr_nil ⟨_, _, rfl, k1, min 3 (b - 1), rfl, h1.mono (by omega), by omega, r1, by omega, by omega, fun k lk => wr_da (xv 3) (wr_nil ⟨_, _, rfl, k, b, rfl, lk.rt, by have := lk.few; omega, b20, fun m m0 m4 le => ⟨_, .own (.da (.da (.da .nil))), hq (.row k m) ⟨.row lk.rt ⟨m0, m4⟩, le⟩⟩⟩)⟩)))))))))
  | @one _ as1 h1 sn nm h2 =>
    rw [kD] at hq ⊢
    rw [sz_one] at few0
    have few : ∀ p ∈ as1, sz p.2 ≤ 4000 := fun p hp => Nat.le_trans (sum_ge hp) few0
    have l6 : as1.length ≤ 6 := h1.2
    rw [armsD_map] at hq ⊢
    show WSs _ _ [some (.pin v0 (ST ⟨P, w, K⟩)), some (.da _), some (.da (.int ((r + 1 : Nat) : Int))), some (.da (.int (b : Nat))), none, none, none, none] _
    refine no_w fx.u (ix0 (xv 1)) ?_
    refine no_w fx.u (ix0 (xv 1)) ?_
    refine no_w fx.u (ix0 (xv 1)) ?_
    refine no_w fx.u (ix0 (xv 1)) ?_
    refine xs_set 4 nd (xe_catL (ds := as1.map fun p => kD p.2) (es' := [PyData.none]) (by rw [List.length_map]; exact few4 (show as1.length + 1 ≤ 8000 by omega)) (xe_frz (xe_lcM [("piece", 7)] (fun (p : Str × Kd) Γ => Γ.set 7 (some (.da (armD p)))) as1 armD (fun p => kD p.2) fx (R := fun p => .da (kD p.2)) (xi_tup (ix1 (xv 1))) (few4 (by omega)) (fun p hp s H C cl fp => gc_name 7 nd rfl) (fun p hp s H C cl fp => ix1 (xv 7)))) (xe_frz (xe_lst1 xe_non))) ?_
    refine ws_frz 4 .ll ?_
    have md := mdls (xs := as1) (fun p hp => (h2 p hp).mono (by omega)) few
    have lm : ((as1.map fun p => kD p.2) ++ [PyData.none]).length = as1.length + 1 := by rw [List.length_append, List.length_map]; rfl
    generalize (as1.map fun p => kD p.2) ++ [PyData.none] = ms at md lm ⊢
    show WSs _ _ [some (.pin v0 (ST ⟨P, w, K⟩)), some (.da (.tuple [.str "one", .tuple (as1.map armD)])), some (.da (.int ((r + 1 : Nat) : Int))), some (.da (.int (b : Nat))), some (.da (.list ms)), none, none, none] _
    refine ws_set 5 nd (we_drawN (n := ms.length) 0 gD r2 fx.gd (xe_len B (xv 4) (.inl rfl)) (by omega) (by omega) fun s hs => ?_)
    refine xs_set 4 nd (xe_catL (ds := ms.drop s) (es' := ms.take s) (few4 (by rw [List.length_drop, List.length_take]; omega)) (xe_castD (xe_frz (xe_sliceL (l := some ((s : Nat) : Int)) (u := none) (xv 4) (.some (xv 5)) .none)) (by rw [cutD_from])) (xe_castD (xe_frz (xe_sliceL (l := none) (u := some ((s : Nat) : Int)) (xv 4) .none (.some (xv 5)))) (by rw [cutD_to]))) ?_
    refine ws_frz 4 .ll ?_
    have md := turn_mem (s := s) md
    have lm : (ms.drop s ++ ms.take s).length = as1.length + 1 := turn_len.trans lm
    generalize ms.drop s ++ ms.take s = ms2 at md lm ⊢
    show WSs _ _ [some (.pin v0 (ST ⟨P, w, K⟩)), some (.da (.tuple [.str "one", .tuple (as1.map armD)])), some (.da (.int ((r + 1 : Nat) : Int))), some (.da (.int (b : Nat))), some (.da (.list ms2)), some (.da (.int (s : Nat))), none, none] _
    refine is_w fx.u (ix0 (xv 1)) ?_
    refine ws_set 6 nd (we_min3 B fx.calm (we_add (we_pure xe_int ⟨1, rfl, we_drawN (n := ms2.length) 0 gD r2 fx.gd (xe_len B (xv 4) (.inl rfl)) (by omega) (by omega) fun j hj => ⟨(j : Nat), rfl, _, rfl, xe_int, xv 3, ?_⟩⟩)))
    rw [min3_cast]
    have m1 : 1 ≤ min (min (1 + j) 6) b := by omega
    have m6 : min (min (1 + j) 6) b ≤ 6 := by omega
    have mb : min (min (1 + j) 6) b ≤ b := by omega
    have mm : min (min (1 + j) 6) b ≤ ms2.length := by omega
    generalize min (min (1 + j) 6) b = m at m1 m6 mb mm ⊢
    show WSs _ _ [some (.pin v0 (ST ⟨P, w, K⟩)), some (.da (.tuple [.str "one", .tuple (as1.map armD)])), some (.da (.int ((r + 1 : Nat) : Int))), some (.da (.int (b : Nat))), some (.da (.list ms2)), some (.da (.int (s : Nat))), some (.da (.int (m : Nat))), none] _
    refine ws_ret (we_tup (wa_cons (xe_str _ (wa_cons (we_fnR gA fx.room fx.gd (wr_ref 0 (wr_cons (we_frz (we_sorted B fx.u70 (we_fnR gN rN fx.gd (wr_ref 0 (wr_da (xv 6) (wr_nil ⟨_, _, rfl, m, rfl, by omega, fun ns rr nm fz => ⟨strsD ns, fz, srt_strs (by rw [nm.len]; exact few4 (by omega)), .list (strsD (sortS ns)), by rw [sortD_strs]; exact .ll, wr_da (xv 4) (wr_da (xv 2) (wr_da (xv 3) (wr_nil ⟨_, _, rfl, sortS ns, ms2, b, rfl, by rw [nm.sorted.2.1]; exact mm, by rw [nm.sorted.2.1]; exact m6, md, by rw [nm.sorted.2.1]; exact mb, r1, b20, fun xs e1 rt hs => wa_nil ⟨[_, _], rfl, (by show 2 ≤ sizeLine; decide), _, .own (.da (.da (.da .nil))), ?_⟩⟩)))⟩⟩)))))))))))))
    obtain ⟨sn2, sl2, so2⟩ := nm.sorted
    have lx : xs.length = m := by rw [← sl2, ← e1, List.length_map]
    have q2 := hq (.one xs) (one_lk (by omega) (by omega) (by rw [e1]; exact sn2) (nm_names so2 e1) rt hs)
    rw [kD, armsD_map] at q2
    exact q2
  | @rec_ _ ps h1 h2 =>
    rw [kD] at hq ⊢
    rw [sz_rec] at few0
    have few : ∀ p ∈ ps, sz p.2 ≤ 4000 := fun p hp => Nat.le_trans (prod_ge hp (prod_pos fun p hp => (h2 p hp).pos)).2 few0
    have l6 : ps.length ≤ 6 := h1
    rw [armsD_map] at hq ⊢
    show WSs _ _ [some (.pin v0 (ST ⟨P, w, K⟩)), some (.da _), some (.da (.int ((r + 1 : Nat) : Int))), some (.da (.int (b : Nat))), none, none, none, none] _
    refine no_w fx.u (ix0 (xv 1)) ?_
    refine no_w fx.u (ix0 (xv 1)) ?_
    refine no_w fx.u (ix0 (xv 1)) ?_
    refine no_w fx.u (ix0 (xv 1)) ?_
    refine xs_set 4 nd (xe_catL (ds := ps.map fun p => kD p.2) (es' := [PyData.none]) (by rw [List.length_map]; exact few4 (show ps.length + 1 ≤ 8000 by omega)) (xe_frz (xe_lcM [("piece", 7)] (fun (p : Str × Kd) Γ => Γ.set 7 (some (.da (armD p)))) ps armD (fun p => kD p.2) fx (R := fun p => .da (kD p.2)) (xi_tup (ix1 (xv 1))) (few4 (by omega)) (fun p hp s H C cl fp => gc_name 7 nd rfl) (fun p hp s H C cl fp => ix1 (xv 7)))) (xe_frz (xe_lst1 xe_non))) ?_
    refine ws_frz 4 .ll ?_
    have md := mdls (xs := ps) (fun p hp => (h2 p hp).mono (by omega)) few
    have lm : ((ps.map fun p => kD p.2) ++ [PyData.none]).length = ps.length + 1 := by rw [List.length_append, List.length_map]; rfl
    generalize (ps.map fun p => kD p.2) ++ [PyData.none] = ms at md lm ⊢
    show WSs _ _ [some (.pin v0 (ST ⟨P, w, K⟩)), some (.da (.tuple [.str "rec", .tuple (ps.map armD)])), some (.da (.int ((r + 1 : Nat) : Int))), some (.da (.int (b : Nat))), some (.da (.list ms)), none, none, none] _
    refine ws_set 5 nd (we_drawN (n := ms.length) 0 gD r2 fx.gd (xe_len B (xv 4) (.inl rfl)) (by omega) (by omega) fun s hs => ?_)
    refine xs_set 4 nd (xe_catL (ds := ms.drop s) (es' := ms.take s) (few4 (by rw [List.length_drop, List.length_take]; omega)) (xe_castD (xe_frz (xe_sliceL (l := some ((s : Nat) : Int)) (u := none) (xv 4) (.some (xv 5)) .none)) (by rw [cutD_from])) (xe_castD (xe_frz (xe_sliceL (l := none) (u := some ((s : Nat) : Int)) (xv 4) .none (.some (xv 5)))) (by rw [cutD_to]))) ?_
    refine ws_frz 4 .ll ?_
    have md := turn_mem (s := s) md
    have lm : (ms.drop s ++ ms.take s).length = ps.length + 1 := turn_len.trans lm
    generalize ms.drop s ++ ms.take s = ms2 at md lm ⊢
    show WSs _ _ [some (.pin v0 (ST ⟨P, w, K⟩)), some (.da (.tuple [.str "rec", .tuple (ps.map armD)])), some (.da (.int ((r + 1 : Nat) : Int))), some (.da (.int (b : Nat))), some (.da (.list ms2)), some (.da (.int (s : Nat))), none, none] _
    refine no_w fx.u (ix0 (xv 1)) ?_
    refine ws_set 6 nd (we_min2 B fx.calm (we_drawN (n := ms2.length + 1) 0 gD r2 fx.gd (xe_cast (xe_add (xe_len B (xv 4) (.inl rfl)) xe_int) (by push_cast; rfl)) (by omega) (by omega) fun j hj => ⟨(j : Nat), rfl, we_pure xe_int ⟨_, rfl, ?_⟩⟩))
    have e6 : (if (6 : Int) < ((j : Nat) : Int) then (6 : Int) else ((j : Nat) : Int)) = ((min j 6 : Nat) : Int) := min_cast (a := j) (b := 6)
    rw [e6]
    have m6 : min j 6 ≤ 6 := by omega
    have mm : min j 6 ≤ ms2.length := by omega
    generalize min j 6 = m at m6 mm ⊢
    show WSs _ _ [some (.pin v0 (ST ⟨P, w, K⟩)), some (.da (.tuple [.str "rec", .tuple (ps.map armD)])), some (.da (.int ((r + 1 : Nat) : Int))), some (.da (.int (b : Nat))), some (.da (.list ms2)), some (.da (.int (s : Nat))), some (.da (.int (m : Nat))), none] _
    refine ws_ret (we_tup (wa_cons (xe_str _ (wa_cons (we_fnR gRc fx.room fx.gd (wr_ref 0 (wr_cons (we_frz (we_fnR gN rN fx.gd (wr_ref 0 (wr_da (xv 6) (wr_nil ⟨_, _, rfl, m, rfl, by omega, fun ns rr nm fz => ⟨_, fz, wr_da (xv 4) (wr_da (xv 2) (wr_da (xv 3) (wr_nil ⟨_, _, rfl, ns, ms2, b, rfl, by rw [nm.len]; exact mm, by rw [nm.len]; exact m6, md, r1, by omega, b20, fun xs e1 rt hs => wa_nil ⟨[_, _], rfl, (by show 2 ≤ sizeLine; decide), _, .own (.da (.da (.da .nil))), ?_⟩⟩)))⟩⟩))))))))))))
    have lx : xs.length = m := by rw [← nm.len, ← e1, List.length_map]
    have q2 := hq (.rec_ xs) (rec_lk (by omega) rt hs)
    rw [kD, armsD_map] at q2
    exact q2
theorem d_olike (D : DK K "_law_like" s_l_like) {r : Nat} (r3 : r ≤ 3) (gD : Def P w K mg bs 2 "_law_own_draw" ["state", "many"] (spDrawO ⟨P, w, K⟩)) (gNum : Def P w K mg bs 3 "_law_num" ["state", "most"] (spONum ⟨P, w, K⟩)) (gS : Def P w K mg bs 5 "_law_own_size" ["kind"] (spOSize 4)) (gDp : Def P w K mg bs 5 "_law_depth" ["kind"] (spDep 4)) (gK : Def P w K mg bs (4 * r + 11) "_law_own_kind" ["state", "room", "most"] (spOKind ⟨P, w, K⟩ (r + 1))) (gL : Def P w K mg bs (4 * r + 8) "_law_like" ["state", "kind", "room", "most"] (spOLike ⟨P, w, K⟩ r)) (gC : Def P w K mg bs (4 * r + 11) "_law_changed" ["state", "kind", "room", "most"] (spOChg ⟨P, w, K⟩ (r + 1))) : Def P w K mg bs (4 * r + 12) "_law_like" ["state", "kind", "room", "most"] (spOLike ⟨P, w, K⟩ (r + 1)) := by
  refine def_ok X G D sc_l_like (fun f fd F => F.binds (ps := ["state", "kind", "room", "most"]) fun _ _ _ _ _ _ us hl => match us, hl with | [_, _, _, _], _ => rfl) (fun as Ψ h => by obtain ⟨_, _, rfl, _⟩ := h; rfl) fun f cdv A fr s H E fx as Ψ vs hsp hl => ?_
  obtain ⟨k0, b, rfl, rt0, few0, rr1, b1, b20, hq⟩ := hsp
  obtain ⟨v0, v1, v2, v3, rfl⟩ := ar4 hl
  have nd := fx.nd
  have r2 := fx.room.mono (show 2 ≤ 4 * r + 11 by omega)
  have rN := fx.room.mono (show 3 ≤ 4 * r + 11 by omega)
  have rS := fx.room.mono (show 5 ≤ 4 * r + 11 by omega)
  have rL := fx.room.mono (show 4 * r + 8 ≤ 4 * r + 11 by omega)
  show WSs _ _ [some (.pin v0 (ST ⟨P, w, K⟩)), some (.da (kD k0)), some (.da (.int ((r + 1 : Nat) : Int))), some (.da (.int (b : Nat))), none, none] _
  refine ws_set 4 nd (we_drawN (n := 8) 0 gD r2 fx.gd xe_int (by decide) (by decide) fun t ht => ?_)
  refine xs_set 5 nd (xv 1) ?_
  show WSs _ _ [some (.pin v0 (ST ⟨P, w, K⟩)), some (.da (kD k0)), some (.da (.int ((r + 1 : Nat) : Int))), some (.da (.int (b : Nat))), some (.da (.int (t : Nat))), some (.da (kD k0))] _
  refine ws_meet (fun k : Kd => [some (.pin v0 (ST ⟨P, w, K⟩)), some (.da (kD k0)), some (.da (.int ((r + 1 : Nat) : Int))), some (.da (.int (b : Nat))), some (.da (.int (t : Nat))), some (.da (kD k))]) (fun k => Rt 4 k ∧ sz k ≤ 4000) (fun key => xt_eqI fx.u (xv 4) xe_int _ ⟨fun _ => ?_, fun _ => ws_nil (key _ ⟨rt0, few0⟩)⟩) ?_
  · exact ws_set 5 nd (we_fnR gK fx.room fx.gd (wr_ref 0 (wr_da (xv 2) (wr_da (xv 3) (wr_nil ⟨_, _, rfl, b, rfl, rr1, b1, b20, fun k lk => ws_nil (key k ⟨lk.rt.mono (by omega), by have := lk.few; omega⟩)⟩)))))
  rintro k ⟨rt1, few1⟩
  refine ws_meet (fun k : Kd => [some (.pin v0 (ST ⟨P, w, K⟩)), some (.da (kD k0)), some (.da (.int ((r + 1 : Nat) : Int))), some (.da (.int (b : Nat))), some (.da (.int (t : Nat))), some (.da (kD k))]) (fun k => Rt 4 k ∧ sz k ≤ 4000) (fun key => xt_and3 (xt_eqI fx.u (xv 4) xe_int) (fun _ => xt_gt (xv 2) xe_int) (fun _ _ => xt_gt (xv 3) xe_int) _ ⟨fun hc => ?_, fun _ => ws_nil (key _ ⟨rt1, few1⟩)⟩) ?_
  · rw [Bool.and_eq_true, Bool.and_eq_true, decide_eq_true_eq, decide_eq_true_eq, decide_eq_true_eq] at hc
    refine ws_set 5 nd (we_tup (wa_cons (xe_str _ (wa_cons (we_fnR gL rL fx.gd (wr_ref 0 (wr_da (xv 1) (wr_da (xe_cast (j := ((r : Nat) : Int)) (xe_sub (xv 2) xe_int) (by omega)) (wr_da (xe_cast (j := ((b - 1 : Nat) : Int)) (xe_sub (xv 3) xe_int) (by omega)) (wr_nil ⟨_, _, rfl, k0, b - 1, rfl, rt0, few0, by omega, by omega, by omega, fun k2 lk => wa_nil ⟨[_, _], rfl, (by show 2 ≤ sizeLine; decide), ?_⟩⟩))))))))))
    have lk2 := opt_lk lk b1
    refine ws_nil (show thn2 _ _ _ (.nx _) from ?_)
    have q2 := key (.opt k2) ⟨lk2.rt.mono (by omega), by have := lk2.few; omega⟩
    rw [kD] at q2
    exact q2
  rintro k ⟨rt1, few1⟩
  obtain ⟨ds0, ew⟩ := kD_word k0
  refine ws_meet (fun k : Kd => [some (.pin v0 (ST ⟨P, w, K⟩)), some (.da (kD k0)), some (.da (.int ((r + 1 : Nat) : Int))), some (.da (.int (b : Nat))), some (.da (.int (t : Nat))), some (.da (kD k))]) (fun k => Rt 4 k ∧ sz k ≤ 4000) (fun key => xt_and2 (xt_eqI fx.u (xv 4) xe_int) (fun _ => xt_eqStr fx.u (ix0 (xe_castD (xv 1) ew)) xe_str) _ ⟨fun hc => ?_, fun _ => ws_nil (key _ ⟨rt1, few1⟩)⟩) ?_
  · rw [Bool.and_eq_true, decide_eq_true_eq, decide_eq_true_eq] at hc
    obtain ⟨k1, rfl, rk1⟩ : ∃ k1, k0 = .opt k1 ∧ Rt 3 k1 := by
      cases rt0 with
      | opt h => exact ⟨_, rfl, h⟩
      | num => exact absurd (show ("num" : Str) = "opt" from hc.2) (by decide +kernel)
      | pick => exact absurd (show ("pick" : Str) = "opt" from hc.2) (by decide +kernel)
      | row => exact absurd (show ("row" : Str) = "opt" from hc.2) (by decide +kernel)
      | one => exact absurd (show ("one" : Str) = "opt" from hc.2) (by decide +kernel)
      | rec_ => exact absurd (show ("rec" : Str) = "opt" from hc.2) (by decide +kernel)
    have f1 := few0
    rw [sz_opt] at f1
    exact xs_set 5 nd (ix1 (xe_castD (xv 1) (by rw [kD]))) (ws_nil (key k1 ⟨rk1.mono (by decide), by omega⟩))
  rintro k ⟨rt1, few1⟩
  refine ws_meet (fun k : Kd => [some (.pin v0 (ST ⟨P, w, K⟩)), some (.da (kD k0)), some (.da (.int ((r + 1 : Nat) : Int))), some (.da (.int (b : Nat))), some (.da (.int (t : Nat))), some (.da (kD k))]) (fun k => Rt 4 k ∧ sz k ≤ 4000) (fun key => xt_and3 (xt_gt (xv 4) xe_int) (fun _ => xt_gt (xv 2) xe_int) (fun _ _ => xt_gt (xv 3) xe_int) _ ⟨fun hc => ?_, fun _ => ws_nil (key _ ⟨rt1, few1⟩)⟩) ?_
  · rw [Bool.and_eq_true, Bool.and_eq_true, decide_eq_true_eq, decide_eq_true_eq, decide_eq_true_eq] at hc
    exact ws_set 5 nd (we_fnR gC fx.room fx.gd (wr_ref 0 (wr_da (xv 1) (wr_da (xv 2) (wr_da (xv 3) (wr_nil ⟨_, _, rfl, k0, b, rfl, rt0, few0, by omega, by omega, b20, fun k2 lk => ws_nil (key k2 ⟨lk.rt.mono (by omega), by have := lk.few; omega⟩)⟩))))))
  rintro k ⟨rt1, few1⟩
  refine xs_if (xt_or2 (xt_gt (fun Ψ' hq' => we_fnR gS rS fx.gd (wr_da (xv 5) (wr_nil ⟨_, _, rfl, k, rfl, rt1, by omega, hq'⟩))) (xv 3)) fun _ => xt_gt (fun Ψ' hq' => we_fnR gDp rS fx.gd (wr_da (xv 5) (wr_nil ⟨_, _, rfl, k, rfl, rt1, hq'⟩))) (xv 2)) (fun _ => ?_) fun hc => ws_nil ?_
  · exact ws_ret (we_fnR gNum rN fx.gd (wr_ref 0 (wr_da (xe_cast (xe_min2 B fx.calm (xv 3) xe_int) (min_cast (a := b) (b := 4))) (wr_nil ⟨_, _, rfl, min b 4, rfl, by omega, by omega, fun k2 lk => ⟨_, .own (.da (.da (.da .nil))), hq k2 (lk.mono (by omega) (by omega))⟩⟩))))
  · rw [Bool.or_eq_false_iff, decide_eq_false_iff_not, decide_eq_false_iff_not] at hc
    exact xs_ret (xv 5) ⟨_, .own (.da (.da (.da .nil))), hq k ⟨dep_rt rt1 (by omega), by omega⟩⟩
theorem d_kinds (DK1 : DK K "_law_own_kind" s_l_own_kind) (DL1 : DK K "_law_like" s_l_like) (DC : DK K "_law_changed" s_l_changed) (DI : DK K "_law_inner" s_l_inner) (DA : DK K "_law_arms" s_l_arms) (DR : DK K "_law_recs" s_l_recs) (DW : DK K "_law_row" s_l_row) (gD : Def P w K mg bs 2 "_law_own_draw" ["state", "many"] (spDrawO ⟨P, w, K⟩)) (gN : Def P w K mg bs 3 "_law_own_names" ["state", "many"] (spONames ⟨P, w, K⟩)) (gNum : Def P w K mg bs 3 "_law_num" ["state", "most"] (spONum ⟨P, w, K⟩)) (gPk : Def P w K mg bs 4 "_law_own_pick" ["state", "most"] (spONum ⟨P, w, K⟩)) (gS : Def P w K mg bs 5 "_law_own_size" ["kind"] (spOSize 4)) (gDp : Def P w K mg bs 5 "_law_depth" ["kind"] (spDep 4)) (gSz : ∀ n : Nat, n ≤ 5 → Def P w K mg bs (n + 1) "_law_own_size" ["kind"] (spOSize n)) :
    ∀ r : Nat, r ≤ 4 → Def P w K mg bs (4 * r + 7) "_law_own_kind" ["state", "room", "most"] (spOKind ⟨P, w, K⟩ r) ∧ Def P w K mg bs (4 * r + 8) "_law_like" ["state", "kind", "room", "most"] (spOLike ⟨P, w, K⟩ r)
  | 0, _ => by
    refine ⟨?_, ?_⟩
    · refine def_ok X G DK1 sc_l_own_kind (fun f fd F => F.binds (ps := ["state", "room", "most"]) fun _ _ _ _ _ _ us hl => match us, hl with | [_, _, _], _ => rfl) (fun as Ψ h => by obtain ⟨_, rfl, _⟩ := h; rfl) fun f cdv A fr s H E fx as Ψ vs hsp hl => ?_
      obtain ⟨b, rfl, rr1, _⟩ := hsp
      exact absurd rr1 (by decide)
    · refine def_ok X G DL1 sc_l_like (fun f fd F => F.binds (ps := ["state", "kind", "room", "most"]) fun _ _ _ _ _ _ us hl => match us, hl with | [_, _, _, _], _ => rfl) (fun as Ψ h => by obtain ⟨_, _, rfl, _⟩ := h; rfl) fun f cdv A fr s H E fx as Ψ vs hsp hl => ?_
      obtain ⟨_, b, rfl, _, _, rr1, _⟩ := hsp
      exact absurd rr1 (by decide)
  | r + 1, hr => by
    obtain ⟨gK, gL⟩ := d_kinds DK1 DL1 DC DI DA DR DW gD gN gNum gPk gS gDp gSz r (by omega)
    have gI := d_oinner X G B DI gK gL
    have gA := d_oarms X G B DA (by omega) gI gS
    have gRc := d_orecs X G B DR (by omega) gI gS
    have gRw := d_orow X G B DW gD (n := r) (by omega) (gSz (r + 1) (by omega))
    have gK1 := d_okind X G B DK1 (by omega) gD gN gNum gPk gK gRw gA gRc
    have gC := d_ochg X G B DC (by omega) gD gN gNum gPk gL gRw gA gRc
    exact ⟨gK1, d_olike X G B DL1 (by omega) gD gNum gS gDp gK1 gL gC⟩
end
end Law
/-! K14t: values: _law_own_value, _law_table, _law_own_near, nearest, _law_wide, _law_sized, _law_seen, _law_alike. -/
namespace Law
open PySem PySem.Spec PyProof.Rows L2 TL
theorem vl_vd : ∀ {n : Nat} {k : Kd}, Rt n k → ∀ v ∈ vl k, Vd n v
  | n + 1, _, .num _ _ _ _, v, hv => by
    rw [vl] at hv
    obtain ⟨i, _, rfl⟩ := range_mem hv
    exact .int _
  | n + 1, _, .pick _ _ h, v, hv => by
    rw [vl] at hv
    obtain ⟨s, hs, rfl⟩ := List.mem_map.mp hv
    exact .str _ (h s hs).ok
  | n + 1, _, .opt a, v, hv => by
    rw [vl] at hv
    rcases List.mem_cons.mp hv with rfl | hv
    · exact .tup (fun x hx => by cases hx) (by decide)
    · obtain ⟨u, hu, rfl⟩ := List.mem_map.mp hv
      exact .tup (fun x hx => by rw [List.mem_singleton.mp hx]; exact vl_vd a u hu) (by show 1 ≤ 1000; decide)
  | n + 1, _, .row a hm, v, hv => by
    rw [vl] at hv
    obtain ⟨t, ht, rfl⟩ := List.mem_map.mp hv
    obtain ⟨h1, h2⟩ := lexi_len ht
    exact .tup (fun x hx => vl_vd a x (h2 x hx)) (by omega)
  | n + 1, _, .one _ _ nm d, v, hv => by
    rw [vl] at hv
    obtain ⟨p, u, hp, hu, rfl⟩ := one_mem hv
    exact .tup (fun x hx => by
      rcases List.mem_cons.mp hx with rfl | hx
      · exact .str _ (nm p hp).ok
      · rw [List.mem_singleton.mp hx]
        exact vl_vd (d p hp) u hu) (by show 2 ≤ 1000; decide)
  | n + 1, _, .rec_ hl b, v, hv => by
    rw [vl] at hv
    obtain ⟨t, ht, rfl⟩ := List.mem_map.mp hv
    exact .tup (fun x hx => by
      obtain ⟨p, hp, hu⟩ := rec_vals ht x hx
      exact vl_vd (b p hp) x hu) (by rw [rec_len ht]; omega)
theorem lexi_in {V : List PyData} : ∀ {m : Nat} {t : List PyData}, t.length ≤ m → (∀ v ∈ t, v ∈ V) → t ∈ lexi V m
  | 0, [], _, _ => by rw [lexi]; exact List.mem_singleton.mpr rfl
  | 0, _ :: _, h, _ => by simp at h
  | m + 1, [], _, _ => by rw [lexi]; exact List.mem_cons_self
  | m + 1, v :: t, h, hv => by
    rw [lexi]
    exact List.mem_cons_of_mem _ (List.mem_flatMap.mpr ⟨v, hv v List.mem_cons_self, List.mem_map.mpr ⟨t, lexi_in (by simpa using h) fun u hu => hv u (List.mem_cons_of_mem _ hu), rfl⟩⟩)
theorem rec_in : ∀ {ps : List (Str × Kd)} {t : List PyData}, t.length = ps.length → (∀ (i : Nat) (p : Str × Kd) (v : PyData), ps[i]? = some p → t[i]? = some v → v ∈ vl p.2) → t ∈ vlRec ps
  | [], [], _, _ => by rw [vlRec]; exact List.mem_singleton.mpr rfl
  | [], _ :: _, h, _ => by simp at h
  | _ :: _, [], h, _ => by simp at h
  | (n, k) :: ps, v :: t, h, hv => by
    rw [vlRec]
    exact List.mem_flatMap.mpr ⟨v, hv 0 (n, k) v rfl rfl, List.mem_map.mpr ⟨t, rec_in (by simpa using h) fun i p u h1 h2 => hv (i + 1) p u (by simpa using h1) (by simpa using h2), rfl⟩⟩
theorem one_in : ∀ {as : List (Str × Kd)} {p : Str × Kd} {v : PyData}, p ∈ as → v ∈ vl p.2 → PyData.tuple [.str p.1, v] ∈ vlOne as
  | (n, k) :: as, p, v, hp, hv => by
    rw [vlOne]
    rcases List.mem_cons.mp hp with rfl | hp
    · exact List.mem_append_left _ (List.mem_map.mpr ⟨v, hv, rfl⟩)
    · exact List.mem_append_right _ (one_in hp hv)
theorem range_in {lo : Int} : ∀ {n i : Nat}, i < n → PyData.int (lo + (i : Nat)) ∈ rangeD lo n := fun {n i} h => by
  have e := rangeD_len (lo := lo) (n := n)
  have hg : i < (rangeD lo n).length := by rw [rangeD_len]; exact h
  have h2 := range_get (List.getElem?_eq_getElem hg)
  rw [← h2]
  exact List.getElem_mem hg
def spOVal (T : TC) (n : Nat) : SpD := fun as Ψ => ∃ k : Kd, as = [ST T, .da (kD k)] ∧ Rt n k ∧ ∀ v ∈ vl k, Ψ (.da v) as
/-- a table of values -/
structure Tb (l r : Kd) (f g : List PyData) : Prop where
  lf : f.length = sz l
  lg : g.length = sz r
  mf : ∀ v ∈ f, v ∈ vl r
  mg : ∀ v ∈ g, v ∈ vl l
def spTable (T : TC) (n : Nat) : SpD := fun as Ψ => ∃ l r : Kd, as = [ST T, .da (kD l), .da (kD r)] ∧ Rt n l ∧ Rt n r ∧ sz l ≤ 4000 ∧ sz r ≤ 4000 ∧ ∀ f g, Tb l r f g → Ψ (.da (.tuple [.str "table", .tuple f, .tuple g])) as
section
variable {P : Program} {w : World} {K : PySem.W.Frag} {mg : Str → Option Value} {bs h : Heap} (X : K.In h) (G : h.Ns mainGlobals mg) (B : Blt mg)
include X G B
theorem d_oval (D : DK K "_law_own_value" s_l_own_value) (gD : Def P w K mg bs 2 "_law_own_draw" ["state", "many"] (spDrawO ⟨P, w, K⟩)) : ∀ n : Nat, Def P w K mg bs (n + 3) "_law_own_value" ["state", "kind"] (spOVal ⟨P, w, K⟩ n)
  | 0 => by
    refine def_ok X G D sc_l_own_value (fun f fd F => F.binds (ps := ["state", "kind"]) fun _ _ _ _ _ _ us hl => match us, hl with | [_, _], _ => rfl) (fun as Ψ h => by obtain ⟨_, rfl, _⟩ := h; rfl) fun f cdv A fr s H E fx as Ψ vs hsp hl => ?_
    obtain ⟨k, rfl, rt, hq⟩ := hsp
    obtain ⟨v0, v1, rfl⟩ := ar2 hl
    have nd := fx.nd
    cases rt
  | n + 1 => by
    have ih := d_oval D gD n
    refine def_ok X G D sc_l_own_value (fun f fd F => F.binds (ps := ["state", "kind"]) fun _ _ _ _ _ _ us hl => match us, hl with | [_, _], _ => rfl) (fun as Ψ h => by obtain ⟨_, rfl, _⟩ := h; rfl) fun f cdv A fr s H E fx as Ψ vs hsp hl => ?_
    obtain ⟨k, rfl, rt, hq⟩ := hsp
    obtain ⟨v0, v1, rfl⟩ := ar2 hl
    have nd := fx.nd
    have r2 := fx.room.mono (show 2 ≤ n + 3 by omega)
    have hrt := rt
    cases rt with
    | @num _ lo hi h1 h2 h3 h4 =>
      rw [vl] at hq
      rw [kD] at hq ⊢
      show WSs _ _ [some (.pin v0 (ST ⟨P, w, K⟩)), some (.da _), none, none, none] _
      refine is_w fx.u (ix0 (xv 1)) ?_
      refine ws_ret (we_add (we_pure (ix1 (xv 1)) ⟨lo, rfl, we_drawN (n := (hi + 1 - lo).toNat) 0 gD r2 fx.gd (xe_cast (xe_add (xe_sub (ix2 (xv 1)) (ix1 (xv 1))) xe_int) (by omega)) (by omega) (by omega) fun j hj => ⟨(j : Nat), rfl, _, .own (.da .nil), hq _ (range_in hj)⟩⟩))
    | @pick _ ns h1 sn nm =>
      rw [vl] at hq
      rw [kD] at hq ⊢
      show WSs _ _ [some (.pin v0 (ST ⟨P, w, K⟩)), some (.da _), none, none, none] _
      refine no_w fx.u (ix0 (xv 1)) ?_
      refine is_w fx.u (ix0 (xv 1)) ?_
      refine ws_ret (we_ix (we_pure (xe_names (ix1 (xv 1))) ⟨_, strsD ns, rfl, .inr rfl, we_drawN (n := ns.length) 0 gD r2 fx.gd (xe_cast (xe_len B (xe_names (ix1 (xv 1))) (.inr rfl)) (by rw [List.length_map])) (by omega) (by omega) fun j hj => ?_⟩))
      have hg : j < (strsD ns).length := by rw [List.length_map]; exact hj
      exact ⟨(j : Nat), (strsD ns)[j], rfl, atI_n (List.getElem?_eq_getElem hg), _, .own (.da .nil), hq _ (List.getElem_mem hg)⟩
    | @opt _ k1 h1 =>
      rw [vl] at hq
      rw [kD] at hq ⊢
      show WSs _ _ [some (.pin v0 (ST ⟨P, w, K⟩)), some (.da _), none, none, none] _
      refine no_w fx.u (ix0 (xv 1)) ?_
      refine no_w fx.u (ix0 (xv 1)) ?_
      refine is_w fx.u (ix0 (xv 1)) ?_
      refine ws_if (wt_eqI fx.u (we_drawN (n := 3) 0 gD r2 fx.gd xe_int (by decide) (by decide) fun t _ => ⟨(t : Nat), rfl, xe_int, fun _ => ?_, fun _ => ws_nil ?_⟩))
      · exact xs_ret xe_tup0 ⟨_, .own (.da .nil), hq _ List.mem_cons_self⟩
      · exact ws_ret (we_tup (wa_cons (we_fnR ih fx.room fx.gd (wr_ref 0 (wr_da (ix1 (xv 1)) (wr_nil ⟨_, _, rfl, k1, rfl, h1, fun v hv => wa_nil ⟨[v], rfl, (by show 1 ≤ sizeLine; decide), _, .own (.da .nil), hq _ (List.mem_cons_of_mem _ (List.mem_map.mpr ⟨v, hv, rfl⟩))⟩⟩))))))
    | @row _ m k1 h1 h2 =>
      rw [vl] at hq
      rw [kD] at hq ⊢
      show WSs _ _ [some (.pin v0 (ST ⟨P, w, K⟩)), some (.da _), none, none, none] _
      refine no_w fx.u (ix0 (xv 1)) ?_
      refine no_w fx.u (ix0 (xv 1)) ?_
      refine no_w fx.u (ix0 (xv 1)) ?_
      refine is_w fx.u (ix0 (xv 1)) ?_
      refine ws_ret (we_tupOf B (we_lcWP [("k", 3)] (fun (i : Nat) Γ => Γ.set 3 (some (.da (.int (i : Nat))))) (fun (i : Nat) => .int (i : Nat)) (fun v : PyData => v) (fun xs : List Nat => xs.length ≤ m) (fun _ v => v ∈ vl k1) fx
        (wi_rangeN B (we_drawN (n := m + 1) 0 gD r2 fx.gd (xe_cast (xe_add (ix2 (xv 1)) xe_int) (by push_cast; rfl)) (by omega) (by omega) fun j hj => ⟨j, rfl, by omega, rfl, List.range j, by rw [List.length_range]; omega, rfl, by rw [List.length_range]; exact few4 (by omega)⟩))
        (fun xs i h1 h2 s H C cl fp => gc_name 3 nd rfl) (fun xs i _ _ s H C cl fp => we_fnR ih fx.blk.room fx.blk.gd (wr_ref 0 (wr_da (ix1 (xv 1)) (wr_nil ⟨_, _, rfl, k1, rfl, h1, fun v hv => ⟨v, .da, hv, rfl⟩⟩))))
        fun xs bs hx hl hp => ⟨bs, by rw [List.map_id'], ?_⟩))
      refine ⟨_, .own (.da .nil), hq _ (List.mem_map.mpr ⟨bs, lexi_in (by omega) fun v hv => ?_, rfl⟩)⟩
      obtain ⟨i, hi, rfl⟩ := List.getElem_of_mem hv
      exact hp i xs[i] _ (List.getElem?_eq_getElem (by omega)) (List.getElem?_eq_getElem hi)
    | @one _ as1 h1 sn nm h2 =>
      rw [vl] at hq
      rw [kD] at hq ⊢
      rw [armsD_map] at hq ⊢
      show WSs _ _ [some (.pin v0 (ST ⟨P, w, K⟩)), some (.da _), none, none, none] _
      refine no_w fx.u (ix0 (xv 1)) ?_
      refine no_w fx.u (ix0 (xv 1)) ?_
      refine no_w fx.u (ix0 (xv 1)) ?_
      refine no_w fx.u (ix0 (xv 1)) ?_
      refine is_w fx.u (ix0 (xv 1)) ?_
      refine ws_set 2 nd (we_ix (we_pure (ix1 (xv 1)) ⟨_, as1.map armD, rfl, .inr rfl, we_drawN (n := as1.length) 0 gD r2 fx.gd (xe_cast (xe_len B (ix1 (xv 1)) (.inr rfl)) (by rw [List.length_map])) (by omega) (by omega) fun j hj => ⟨(j : Nat), armD as1[j], rfl, atI_n (by rw [List.getElem?_map, List.getElem?_eq_getElem hj]; rfl), ?_⟩⟩))
      have hm := List.getElem_mem hj
      show WSs _ _ [some (.pin v0 (ST ⟨P, w, K⟩)), some (.da _), some (.da (armD as1[j])), none, none] _
      exact ws_ret (we_tup (wa_cons (we_pure (ix0 (xv 2)) (wa_cons (we_fnR ih fx.room fx.gd (wr_ref 0 (wr_da (ix1 (xv 2)) (wr_nil ⟨_, _, rfl, as1[j].2, rfl, h2 _ hm, fun v hv => wa_nil ⟨[_, v], rfl, (by show 2 ≤ sizeLine; decide), _, .own (.da .nil), hq _ (one_in hm hv)⟩⟩))))))))
    | @rec_ _ ps h1 h2 =>
      rw [vl] at hq
      rw [kD] at hq ⊢
      rw [armsD_map] at hq ⊢
      show WSs _ _ [some (.pin v0 (ST ⟨P, w, K⟩)), some (.da _), none, none, none] _
      refine no_w fx.u (ix0 (xv 1)) ?_
      refine no_w fx.u (ix0 (xv 1)) ?_
      refine no_w fx.u (ix0 (xv 1)) ?_
      refine no_w fx.u (ix0 (xv 1)) ?_
      refine no_w fx.u (ix0 (xv 1)) ?_
      refine ws_ret (we_tupOf B (we_lcA [("part", 4)] (fun (p : Str × Kd) Γ => Γ.set 4 (some (.da (armD p)))) ps armD (fun v : PyData => v) (fun _ p v => v ∈ vl p.2) fx (xi_tup (ix1 (xv 1))) (few4 (by omega)) (fun p hp s H C cl fp => gc_name 4 nd rfl)
        (fun i p hp s H C cl fp => we_fnR ih fx.blk.room fx.blk.gd (wr_ref 0 (wr_da (ix1 (xv 4)) (wr_nil ⟨_, _, rfl, p.2, rfl, h2 _ (List.mem_of_getElem? hp), fun v hv => ⟨v, .da, hv, rfl⟩⟩)))) fun bs hl hp => ⟨bs, by rw [List.map_id'], ?_⟩))
      exact ⟨_, .own (.da .nil), hq _ (List.mem_map.mpr ⟨bs, rec_in hl fun i p v h1 h2 => hp i p v h1 h2, rfl⟩)⟩
theorem d_table (D : DK K "_law_table" s_l_table) {n : Nat} (gS : Def P w K mg bs (n + 1) "_law_own_size" ["kind"] (spOSize n)) (gV : Def P w K mg bs (n + 3) "_law_own_value" ["state", "kind"] (spOVal ⟨P, w, K⟩ n)) : Def P w K mg bs (n + 4) "_law_table" ["state", "left", "right"] (spTable ⟨P, w, K⟩ n) := by
  refine def_ok X G D sc_l_table (fun f fd F => F.binds (ps := ["state", "left", "right"]) fun _ _ _ _ _ _ us hl => match us, hl with | [_, _, _], _ => rfl) (fun as Ψ h => by obtain ⟨_, _, rfl, _⟩ := h; rfl) fun f cdv A fr s H E fx as Ψ vs hsp hl => ?_
  obtain ⟨l, r, rfl, rl, rr, fl, fr, hq⟩ := hsp
  obtain ⟨v0, v1, v2, rfl⟩ := ar3 hl
  have nd := fx.nd
  have rS := fx.room.mono (show n + 1 ≤ n + 3 by omega)
  have mem : ∀ {k : Kd} {xs : List Nat} {bs : List PyData}, bs.length = xs.length → (∀ (i : Nat) (x : Nat) (b : PyData), xs[i]? = some x → bs[i]? = some b → b ∈ vl k) → ∀ v ∈ bs, v ∈ vl k := fun {k xs bs} hl hp v hv => by
    obtain ⟨i, hi, rfl⟩ := List.getElem_of_mem hv
    exact hp i xs[i] _ (List.getElem?_eq_getElem (by omega)) (List.getElem?_eq_getElem hi)
  show WSs _ _ [some (.pin v0 (ST ⟨P, w, K⟩)), some (.da (kD l)), some (.da (kD r)), none, none] _
  refine ws_set 3 nd (we_tupOf B (we_lcA [("k", 4)] (fun (i : Nat) Γ => Γ.set 4 (some (.da (.int (i : Nat))))) (List.range (sz l)) (fun (i : Nat) => .int (i : Nat)) (fun v : PyData => v) (fun _ _ v => v ∈ vl r) fx (xi_rangeN B (fun Ψ' hq' => we_fnR gS rS fx.gd (wr_da (xv 1) (wr_nil ⟨_, _, rfl, l, rfl, rl, by omega, hq'⟩))) (by omega)) (by rw [List.length_range]; exact few4 (by omega)) (fun i hi s H C cl fp => gc_name 4 nd rfl)
    (fun i x hx s H C cl fp => we_fnR gV fx.blk.room fx.blk.gd (wr_ref 0 (wr_da (xv 2) (wr_nil ⟨_, _, rfl, r, rfl, rr, fun v hv => ⟨v, .da, hv, rfl⟩⟩)))) fun f h1 h2 => ⟨f, by rw [List.map_id'], ?_⟩))
  show WSs _ _ [some (.pin v0 (ST ⟨P, w, K⟩)), some (.da (kD l)), some (.da (kD r)), some (.da (.tuple f)), none] _
  refine ws_ret (we_tup (wa_cons (xe_str _ (wa_cons (we_pure (xv 3) (wa_cons (we_tupOf B (we_lcA [("k", 4)] (fun (i : Nat) Γ => Γ.set 4 (some (.da (.int (i : Nat))))) (List.range (sz r)) (fun (i : Nat) => .int (i : Nat)) (fun v : PyData => v) (fun _ _ v => v ∈ vl l) fx (xi_rangeN B (fun Ψ' hq' => we_fnR gS rS fx.gd (wr_da (xv 2) (wr_nil ⟨_, _, rfl, r, rfl, rr, by omega, hq'⟩))) (by omega)) (by rw [List.length_range]; exact few4 (by omega)) (fun i hi s H C cl fp => gc_name 4 nd rfl) (fun i x hx s H C cl fp => we_fnR gV fx.blk.room fx.blk.gd (wr_ref 0 (wr_da (xv 1) (wr_nil ⟨_, _, rfl, l, rfl, rl, fun v hv => ⟨v, .da, hv, rfl⟩⟩)))) fun g h3 h4 => ⟨g, by rw [List.map_id'], wa_nil ⟨[_, _, _], rfl, (by show 3 ≤ sizeLine; decide), _, .own (.da (.da .nil)), hq f g ⟨?_, ?_, mem h1 h2, mem h3 h4⟩⟩⟩))))))))
  · rw [h1, List.length_range]
  · rw [h3, List.length_range]
end
end Law
/-! K14u: plain ways: related, led and the law's own. -/
namespace Law
open PySem PySem.Spec PyProof.Rows L2 TL
inductive Pw where
  | same
  | rank
  | table (f g : List PyData)
  | clip
  | apart (d e : PyData)
def pwD : Pw → PyData
  | .same => .tuple [.str "same"]
  | .rank => .tuple [.str "rank"]
  | .table f g => .tuple [.str "table", .tuple f, .tuple g]
  | .clip => .tuple [.str "clip"]
  | .apart d e => .tuple [.str "apart", d, e]
/-- the way fits -/
inductive Pok : Pw → Kd → Kd → Prop
  | same (k : Kd) : Pok .same k k
  | rank {l r : Kd} : sz l = sz r → Pok .rank l r
  | table {l r : Kd} {f g : List PyData} : Tb l r f g → Pok (.table f g) l r
  | clip {lo hi lo' hi' : Int} : lo ≤ hi → lo' ≤ hi' → Pok .clip (.num lo hi) (.num lo' hi')
  | apart {l r : Kd} {d e : PyData} : e ∈ vl r → Pok (.apart d e) l r
end Law
/-! K14v: all led; the world; vast kinds; the law. -/
namespace Law
open PySem PySem.Spec PyProof.Rows L2 TL
/-- records of numbers -/
structure Vst (ps : List (Str × Kd)) : Prop where
  few : ps.length ≤ 6
  nums : ∀ p ∈ ps, ∃ lo hi, p.2 = .num lo hi ∧ Rt 1 (.num lo hi)
theorem Vst.rt {ps : List (Str × Kd)} (h : Vst ps) : Rt 2 (.rec_ ps) := .rec_ h.few fun p hp => by
  obtain ⟨lo, hi, e, rt⟩ := h.nums p hp
  rw [e]
  exact rt
end Law
/-! WYa: ways of all words in plain terms. -/
namespace Law
open PySem PySem.Spec PyProof.Rows L2 TL
inductive Wy where
  | plain (p : Pw)
  | some_ (w : Wy) (d : PyData)
  | must (w : Wy) (d : PyData)
  | opt (w : Wy)
  | each (w : Wy)
  | arms (ts : List (Str × Str × Wy))
  | parts (ts : List (Option Nat × Option Nat × Wy))
/-- a place -/
def plD : Option Nat → PyData
  | none => .none
  | some i => .int (i : Nat)
mutual
def wyD : Wy → PyData
  | .plain p => pwD p
  | .some_ w d => .tuple [.str "some", wyD w, d]
  | .must w d => .tuple [.str "must", wyD w, d]
  | .opt w => .tuple [.str "opt", wyD w]
  | .each w => .tuple [.str "each", wyD w]
  | .arms ts => .tuple [.str "arms", .tuple (wyA ts)]
  | .parts ts => .tuple [.str "parts", .tuple (wyQ ts)]
def wyA : List (Str × Str × Wy) → List PyData
  | [] => []
  | (s, t, w) :: ts => .tuple [.str s, .str t, wyD w] :: wyA ts
def wyQ : List (Option Nat × Option Nat × Wy) → List PyData
  | [] => []
  | (p, q, w) :: ts => .tuple [plD p, plD q, wyD w] :: wyQ ts
end
def trA (t : Str × Str × Wy) : PyData := .tuple [.str t.1, .str t.2.1, wyD t.2.2]
def trQ (t : Option Nat × Option Nat × Wy) : PyData := .tuple [plD t.1, plD t.2.1, wyD t.2.2]
theorem wyA_map : ∀ ts, wyA ts = ts.map trA
  | [] => by rw [wyA]; rfl
  | (s, t, w) :: ts => by rw [wyA, wyA_map ts]; rfl
theorem wyQ_map : ∀ ts, wyQ ts = ts.map trQ
  | [] => by rw [wyQ]; rfl
  | (s, t, w) :: ts => by rw [wyQ, wyQ_map ts]; rfl
/-! ### parts of kinds and values -/
def nothK : Kd := .rec_ []
def armL : List (Str × Kd) → Str → Kd
  | [], _ => nothK
  | (n, k) :: as, s => if n = s then k else armL as s
def partK : Kd → Option Nat → Kd
  | .rec_ ps, some i => (ps.map (·.2)).getD i nothK
  | _, _ => nothK
abbrev unitD : PyData := .tuple []
/-- the way fits -/
inductive Wok : Wy → Kd → Kd → Prop
  | plain {p : Pw} {l r : Kd} : Pok p l r → (∀ d e, p = .apart d e → d ∈ vl l) → Wok (.plain p) l r
  | some_ {w : Wy} {l k : Kd} {d : PyData} : Wok w l k → d ∈ vl l → Wok (.some_ w d) l (.opt k)
  | must {w : Wy} {k r : Kd} {d : PyData} : Wok w k r → d ∈ vl r → Wok (.must w d) (.opt k) r
  | opt {w : Wy} {k k' : Kd} : Wok w k k' → Wok (.opt w) (.opt k) (.opt k')
  | each {w : Wy} {k k' : Kd} {m m' : Nat} : Wok w k k' → Wok (.each w) (.row k m) (.row k' m')
  | arms {ts : List (Str × Str × Wy)} {as bs : List (Str × Kd)} : (∀ t ∈ ts, Wok t.2.2 (armL as t.1) (armL bs t.2.1)) → (∀ t ∈ ts, t.1 ∈ as.map (·.1) ∧ t.2.1 ∈ bs.map (·.1)) → (∀ n ∈ as.map (·.1), ∃ t ∈ ts, t.1 = n) → (∀ n ∈ bs.map (·.1), ∃ t ∈ ts, t.2.1 = n) →
      (ts.map fun t => (t.1, t.2.1)).Nodup → Wok (.arms ts) (.one as) (.one bs)
  | parts {ts : List (Option Nat × Option Nat × Wy)} {ps qs : List (Str × Kd)} : (∀ t ∈ ts, Wok t.2.2 (partK (.rec_ ps) t.1) (partK (.rec_ qs) t.2.1)) → (ts.filterMap (·.1)).Perm (List.range ps.length) → (ts.filterMap (·.2.1)).Perm (List.range qs.length) → Wok (.parts ts) (.rec_ ps) (.rec_ qs)
end Law
/-! WYb: values of kinds by their shapes; lists of trios. -/
namespace Law
open PySem PySem.Spec PyProof.Rows L2 TL
theorem in_opt {k : Kd} {v : PyData} : v ∈ vl (.opt k) ↔ v = unitD ∨ ∃ x, v = .tuple [x] ∧ x ∈ vl k := by
  rw [vl, List.mem_cons, List.mem_map]
  exact ⟨fun h => h.imp id fun ⟨x, a, b⟩ => ⟨x, b.symm, a⟩, fun h => h.imp id fun ⟨x, a, b⟩ => ⟨x, b, a.symm⟩⟩
theorem armL_at : ∀ {as : List (Str × Kd)} {p : Str × Kd}, (as.map (·.1)).Nodup → p ∈ as → armL as p.1 = p.2
  | (n, k) :: as, p, nd, h => by
    rw [List.map_cons] at nd
    obtain ⟨n1, n2⟩ := List.nodup_cons.mp nd
    rw [armL]
    rcases List.mem_cons.mp h with rfl | h
    · rw [if_pos rfl]
    · rw [if_neg fun e => n1 (by show n ∈ _; rw [show n = p.1 from e]; exact List.mem_map_of_mem h), armL_at n2 h]
theorem armL_mem {as : List (Str × Kd)} {n : Str} (nd : (as.map (·.1)).Nodup) (h : n ∈ as.map (·.1)) : (n, armL as n) ∈ as := by
  obtain ⟨p, hp, rfl⟩ := List.mem_map.mp h
  rw [armL_at nd hp]
  exact hp
theorem partK_at {ps : List (Str × Kd)} {i : Nat} {p : Str × Kd} (h : ps[i]? = some p) : partK (.rec_ ps) (some i) = p.2 := by
  rw [partK, List.getD_eq_getElem?_getD, List.getElem?_map, h]
  rfl
theorem noth_rt : Rt 1 nothK := .rec_ (Nat.zero_le _) fun p hp => by cases hp
theorem Rt.one_nd {n : Nat} {as : List (Str × Kd)} (h : Rt n (.one as)) : (as.map (·.1)).Nodup := by
  cases h with
  | one a b c d => exact b.nodup
theorem Rt.opt_in {n : Nat} {k : Kd} (h : Rt n (.opt k)) : ∃ m, n = m + 1 ∧ Rt m k := by
  cases h with
  | opt a => exact ⟨_, rfl, a⟩
theorem Rt.row_in {n m : Nat} {k : Kd} (h : Rt n (.row k m)) : ∃ q, n = q + 1 ∧ Rt q k ∧ 0 < m ∧ m ≤ 4 := by
  cases h with
  | row a b => exact ⟨_, rfl, a, b⟩
theorem Rt.arm_in {n : Nat} {as : List (Str × Kd)} (h : Rt n (.one as)) {s : Str} (hs : s ∈ as.map (·.1)) : ∃ m, n = m + 1 ∧ Rt m (armL as s) := by
  have nd := h.one_nd
  cases h with
  | one a b c d => exact ⟨_, rfl, d _ (armL_mem nd hs)⟩
theorem Rt.part_in {n : Nat} {ps : List (Str × Kd)} (h : Rt n (.rec_ ps)) (p : Option Nat) : Rt n (partK (.rec_ ps) p) := by
  cases h with
  | rec_ a b =>
    cases p with
    | none => exact noth_rt.mono (by omega)
    | some i =>
      rcases Nat.lt_or_ge i ps.length with hi | hi
      · rw [partK_at (List.getElem?_eq_getElem hi)]
        exact (b _ (List.getElem_mem hi)).mono (Nat.le_succ _)
      · rw [partK, List.getD_eq_getElem?_getD, List.getElem?_eq_none (by rw [List.length_map]; exact hi)]
        exact noth_rt.mono (by omega)
/-! ### trios of arms -/
/-! ### trios of parts -/
end Law
/-! WYc: what is led is a value of the right kind, is related, and what is related stays; the mirror. -/
namespace Law
open PySem PySem.Spec PyProof.Rows L2 TL
/-- nothing or a value of k -/
def Old (k : Kd) (b : PyData) : Prop := b = .none ∨ b ∈ vl k
theorem Old.none (k : Kd) : Old k .none := .inl rfl
theorem opt_rt {n : Nat} {k : Kd} (h : Rt n (.opt k)) : Rt n k := by
  obtain ⟨m, rfl, h'⟩ := h.opt_in
  exact h'.mono (Nat.le_succ _)
theorem row_rt {n m : Nat} {k : Kd} (h : Rt n (.row k m)) : Rt n k := by
  obtain ⟨q, rfl, h', _⟩ := h.row_in
  exact h'.mono (Nat.le_succ _)
theorem arm_rt {n : Nat} {as : List (Str × Kd)} (h : Rt n (.one as)) {s : Str} (hs : s ∈ as.map (·.1)) : Rt n (armL as s) := by
  obtain ⟨m, rfl, h'⟩ := h.arm_in hs
  exact h'.mono (Nat.le_succ _)
end Law
/-! WYd: what is related stays; the mirror. -/
/-! WYe: related with all words: trio_of, arm_kind, part_kind, part_at, related_some, .., related. -/
namespace Law
open PySem PySem.Spec PyProof.Rows L2 TL
/-- a way at most so deep -/
inductive Wd : Nat → Wy → Prop
  | plain {n : Nat} {p : Pw} : Wd (n + 1) (.plain p)
  | some_ {n : Nat} {w : Wy} {d : PyData} : Wd n w → Wd (n + 1) (.some_ w d)
  | must {n : Nat} {w : Wy} {d : PyData} : Wd n w → Wd (n + 1) (.must w d)
  | opt {n : Nat} {w : Wy} : Wd n w → Wd (n + 1) (.opt w)
  | each {n : Nat} {w : Wy} : Wd n w → Wd (n + 1) (.each w)
  | arms {n : Nat} {ts : List (Str × Str × Wy)} : (∀ t ∈ ts, Wd n t.2.2) → ts.length ≤ 20 → Wd (n + 1) (.arms ts)
  | parts {n : Nat} {ts : List (Option Nat × Option Nat × Wy)} : (∀ t ∈ ts, Wd n t.2.2) → (ts.length ≤ 20 ∧ ∀ t ∈ ts, t.1 ≠ none ∨ t.2.1 ≠ none) → Wd (n + 1) (.parts ts)
structure AskW (n : Nat) (w : Wy) (l r : Kd) (a b : PyData) : Prop where
  ok : Wok w l r
  dp : Wd n w
  rl : Rt 5 l
  rr : Rt 5 r
  ma : a ∈ vl l
  mb : b ∈ vl r
def spPartK : SpD := fun as Ψ => ∃ (ps : List (Str × Kd)) (p : Option Nat), as = [.da (kD (.rec_ ps)), .da (plD p)] ∧ (∀ i, p = some i → i < ps.length) ∧ Ψ (.da (kD (partK (.rec_ ps) p))) as
theorem AskW.opt_in {n : Nat} {w : Wy} {k k' : Kd} {x y : PyData} (h : AskW (n + 1) (.opt w) (.opt k) (.opt k') (.tuple [x]) (.tuple [y])) : AskW n w k k' x y := by
  obtain ⟨ok, dp, rl, rr, ma, mb⟩ := h
  cases ok with
  | opt h =>
    cases dp with
    | opt dp =>
      rcases in_opt.mp ma with e | ⟨u, e, hu⟩
      · cases e
      · cases e
        rcases in_opt.mp mb with e | ⟨v, e, hv⟩
        · cases e
        · cases e
          exact ⟨h, dp, opt_rt rl, opt_rt rr, hu, hv⟩
theorem kD_opt (k : Kd) : kD (.opt k) = .tuple [.str "opt", kD k] := by rw [kD]
theorem kD_row (k : Kd) (m : Nat) : kD (.row k m) = .tuple [.str "row", kD k, .int (m : Nat)] := by rw [kD]
theorem kD_one (xs : List (Str × Kd)) : kD (.one xs) = .tuple [.str "one", .tuple (xs.map armD)] := by rw [kD, armsD_map]
theorem kD_rec (ps : List (Str × Kd)) : kD (.rec_ ps) = .tuple [.str "rec", .tuple (ps.map armD)] := by rw [kD, armsD_map]
theorem kD_noth : kD nothK = .tuple [.str "rec", .tuple []] := by rw [nothK, kD_rec]; rfl
theorem wyD_some (w : Wy) (d : PyData) : wyD (.some_ w d) = .tuple [.str "some", wyD w, d] := by rw [wyD]
theorem wyD_must (w : Wy) (d : PyData) : wyD (.must w d) = .tuple [.str "must", wyD w, d] := by rw [wyD]
theorem wyD_opt (w : Wy) : wyD (.opt w) = .tuple [.str "opt", wyD w] := by rw [wyD]
theorem wyD_each (w : Wy) : wyD (.each w) = .tuple [.str "each", wyD w] := by rw [wyD]
theorem wyD_arms (ts : List (Str × Str × Wy)) : wyD (.arms ts) = .tuple [.str "arms", .tuple (ts.map trA)] := by rw [wyD, wyA_map]
theorem wyD_parts (ts : List (Option Nat × Option Nat × Wy)) : wyD (.parts ts) = .tuple [.str "parts", .tuple (ts.map trQ)] := by rw [wyD, wyQ_map]
section
variable {P : Program} {w : World} {K : PySem.W.Frag} {mg : Str → Option Value} {bs h : Heap} (X : K.In h) (G : h.Ns mainGlobals mg) (B : Blt mg)
include X G B
theorem d_part_kind (D : DK K "part_kind" s_part_kind) (gNo : ∀ Y : Cx, Y.mg = mg → Y.K = K → GlD Y "NOTHING" (kD nothK)) : Def P w K mg bs 1 "part_kind" ["kind", "place"] spPartK := by
  refine def_ok X G D sc_part_kind (fun f fd F => F.binds (ps := ["kind", "place"]) fun _ _ _ _ _ _ us hl => match us, hl with | [_, _], _ => rfl) (fun as Ψ h => by obtain ⟨_, _, rfl, _⟩ := h; rfl) fun f cdv A fr s H E fx as Ψ vs hsp hl => ?_
  obtain ⟨ps, p, rfl, hp, hq⟩ := hsp
  obtain ⟨v0, v1, rfl⟩ := ar2 hl
  have nd := fx.nd
  show WSs _ _ [some (.da (kD (.rec_ ps))), some (.da (plD p))] _
  cases p with
  | none =>
    refine xs_ifT (xt_cast (xt_isN (xv 1)) rfl) ?_
    exact xs_ret (xe_globD (gNo _ rfl rfl)) ⟨_, .da (.da .nil), hq⟩
  | some i =>
    have hi := hp i rfl
    have e := List.getElem?_eq_getElem hi
    rw [partK_at e] at hq
    refine xs_ifF (xt_cast (xt_isN (xv 1)) rfl) (ws_nil ?_)
    exact xs_ret (ix1 (xe_ix (ix1 (xe_castD (xv 0) (kD_rec ps))) (xv 1 (d := .int (i : Nat))) (.inr rfl) (atI_n (by rw [List.getElem?_map, e]; rfl)))) ⟨_, .da (.da .nil), hq⟩
end
end Law
/-! WYf: led with all words: inside, led_opt, led_row, led_arm, led_parts, led_anew, led. -/
namespace Law
open PySem PySem.Spec PyProof.Rows L2 TL
theorem sz_arm {ys : List (Str × Kd)} {s : Str} (nd : (ys.map (·.1)).Nodup) (h : s ∈ ys.map (·.1)) : sz (armL ys s) ≤ sz (.one ys) := by
  rw [sz_one]
  exact sum_ge (p := (s, armL ys s)) (armL_mem nd h)
theorem sz_noth : sz nothK = 1 := by rw [nothK, sz_rec]; rfl
theorem sz_part {n : Nat} {ps : List (Str × Kd)} (rt : Rt n (.rec_ ps)) (p : Option Nat) : sz (partK (.rec_ ps) p) ≤ sz (.rec_ ps) := by
  have pos := rt.pos
  cases p with
  | none =>
    show sz nothK ≤ _
    rw [sz_noth]
    exact pos
  | some i =>
    rcases Nat.lt_or_ge i ps.length with hi | hi
    · rw [partK_at (List.getElem?_eq_getElem hi)]
      rw [sz_rec] at pos ⊢
      exact (prod_ge (List.getElem_mem hi) pos).2
    · rw [partK, List.getD_eq_getElem?_getD, List.getElem?_eq_none (by rw [List.length_map]; exact hi)]
      show sz nothK ≤ _
      rw [sz_noth]
      exact pos
theorem row_sz {n m : Nat} {k : Kd} (rt : Rt n (.row k m)) : sz k ≤ sz (.row k m) := by
  obtain ⟨_, _, _, m0, _⟩ := rt.row_in
  rw [sz_row]
  exact rs_ge1 m0
theorem opt_sz {k : Kd} : sz k ≤ sz (.opt k) := by rw [sz_opt]; omega
end Law
/-! WYg: the law's own related and led with all words. -/
namespace Law
open PySem PySem.Spec PyProof.Rows L2 TL
section
variable {P : Program} {w : World} {K : PySem.W.Frag} {mg : Str → Option Value} {bs h : Heap} (X : K.In h) (G : h.Ns mainGlobals mg) (B : Blt mg)
include X G B
theorem d_part_of (D : DK K "_law_part_of" s_l_part_of) : Def P w K mg bs 1 "_law_part_of" ["kind", "place"] spPartK := by
  refine def_ok X G D sc_l_part_of (fun f fd F => F.binds (ps := ["kind", "place"]) fun _ _ _ _ _ _ us hl => match us, hl with | [_, _], _ => rfl) (fun as Ψ h => by obtain ⟨_, _, rfl, _⟩ := h; rfl) fun f cdv A fr s H E fx as Ψ vs hsp hl => ?_
  obtain ⟨ps, p, rfl, hp, hq⟩ := hsp
  obtain ⟨v0, v1, rfl⟩ := ar2 hl
  have nd := fx.nd
  show WSs _ _ [some (.da (kD (.rec_ ps))), some (.da (plD p))] _
  cases p with
  | none =>
    refine xs_ifT (xt_cast (xt_isN (xv 1)) rfl) ?_
    exact xs_ret (xe_castD (xe_tup2 xe_str xe_tup0) kD_noth.symm) ⟨_, .da (.da .nil), hq⟩
  | some i =>
    have hi := hp i rfl
    have e := List.getElem?_eq_getElem hi
    rw [partK_at e] at hq
    refine xs_ifF (xt_cast (xt_isN (xv 1)) rfl) (ws_nil ?_)
    exact xs_ret (ix1 (xe_ix (ix1 (xe_castD (xv 0) (kD_rec ps))) (xv 1 (d := .int (i : Nat))) (.inr rfl) (atI_n (by rw [List.getElem?_map, e]; rfl)))) ⟨_, .da (.da .nil), hq⟩
end
end Law
/-! WYh: the law's own led with all words. -/
/-! WYi: mirror; the ways as data. -/
namespace Law
open PySem PySem.Spec PyProof.Rows L2 TL
/-- plain values and None, at most n deep -/
inductive Vn : Nat → PyData → Prop
  | none {n : Nat} : Vn n .none
  | vd {n : Nat} {d : PyData} : Vd n d → Vn n d
  | tup {n : Nat} {xs : List PyData} : (∀ x ∈ xs, Vn n x) → xs.length ≤ 1000 → Vn (n + 1) (.tuple xs)
theorem Vn.plain {n : Nat} {d : PyData} (h : Vn n d) : d.plain = true := by
  induction h with
  | none => rfl
  | vd h => exact h.plain
  | tup h _ ih => simpa [PyData.plain] using plainAll_ofM ih
theorem Vn.depth {n : Nat} {d : PyData} (h : Vn n d) : d.depth ≤ n := by
  induction h with
  | none => exact Nat.zero_le _
  | vd h => exact h.depth
  | tup h _ ih =>
    rw [PyData.depth]
    have := depthAll_mem ih
    omega
theorem Vn.noDict {n : Nat} {d : PyData} (h : Vn n d) : noDict d = true := by
  cases h with
  | none => rfl
  | vd h => exact h.noDict
  | tup _ _ => rfl
theorem Vn.mono {n m : Nat} {d : PyData} (h : Vn n d) (l : n ≤ m) : Vn m d := by
  induction h generalizing m with
  | none => exact .none
  | vd h => exact .vd (h.mono l)
  | tup h hl ih =>
    obtain ⟨m, rfl⟩ : ∃ k, m = k + 1 := ⟨m - 1, by omega⟩
    exact .tup (fun x hx => ih x hx (by omega)) hl
end Law
/-! WYj: _law_own_is_value. -/
namespace Law
open PySem PySem.Spec PyProof.Rows L2 TL
section
variable {X : Cx} {a b : Expr} {Γ Γ1 Γ2 : Sl} {s t : Str} {pos : Pos}
theorem xt_eqStrE (hu : X.A.units + 64 < cLine) (ha : XE X a Γ (.da (.str s)) Γ1) (hb : XE X b Γ1 (.da (.str t)) Γ2) : XE X (.Compare a [.Eq] [b] pos) Γ (.da (.bool (decide (s = t)))) Γ2 := by
  have e : PyData.eqv (.str s) (.str t) = decide (s = t) := by rw [PyData.eqv]; exact (Bool.eq_iff_iff.mpr (by simp))
  rw [← e]
  exact xe_eqP hu ha hb rfl rfl (by simp [PyData.depth])
end
end Law
/-! WYk: kinds as plain data; _law_words. -/
namespace Law
open PySem PySem.Spec PyProof.Rows L2 TL
mutual
/-- a kind as plain data -/
def kP : Kd → PyData
  | .num lo hi => .tuple [.str "num", .int lo, .int hi]
  | .pick _ ns => .tuple [.str "pick", .tuple (strsD ns)]
  | .opt k => .tuple [.str "opt", kP k]
  | .row k m => .tuple [.str "row", kP k, .int (m : Nat)]
  | .one as => .tuple [.str "one", .tuple (armsP as)]
  | .rec_ ps => .tuple [.str "rec", .tuple (armsP ps)]
  | .bad w ds => .tuple (.str w :: ds)
def armsP : List (Str × Kd) → List PyData
  | [] => []
  | (n, k) :: as => .tuple [.str n, kP k] :: armsP as
end
theorem rp_ti {T : TC} {I : Hp} {v : V} {ds : List PyData} (h : Rp T I v (.tuple ds)) : ∃ (a : Addr) (vs : List V), v = .ref a ∧ SqT T.K I a vs ∧ RpL T I vs ds := by
  generalize e : PyData.tuple ds = d at h
  cases h with
  | tup h1 h2 =>
    injection e with e
    subst e
    exact ⟨_, _, rfl, h1, h2⟩
  | _ => cases e
theorem rl_cons {T : TC} {I : Hp} {vs : List V} {d : PyData} {ds : List PyData} (h : RpL T I vs (d :: ds)) : ∃ v us, vs = v :: us ∧ Rp T I v d ∧ RpL T I us ds := by
  cases h with
  | cons h1 h2 => exact ⟨_, _, rfl, h1, h2⟩
/-- the tail of a pair or trio turned -/
theorem rp_t2 {T : TC} {I : Hp} {v : V} {a b b' : PyData} {ds : List PyData} (h : Rp T I v (.tuple (a :: b :: ds))) (t : ∀ u, Rp T I u b → Rp T I u b') : Rp T I v (.tuple (a :: b' :: ds)) := by
  obtain ⟨p, vs, rfl, h1, h2⟩ := rp_ti h
  obtain ⟨x, vs, rfl, hx, h2⟩ := rl_cons h2
  obtain ⟨y, vs, rfl, hy, h2⟩ := rl_cons h2
  exact .tup h1 (.cons hx (.cons (t y hy) h2))
mutual
theorem rp_kP {T : TC} {I : Hp} : ∀ (k : Kd) (v : V), Rp T I v (kD k) → Rp T I v (kP k)
  | .num lo hi, v, h => by rw [kD] at h; rw [kP]; exact h
  | .pick t ns, v, h => by
    rw [kD] at h
    rw [kP]
    refine rp_t2 h fun u hu => ?_
    cases t with
    | false => exact hu
    | true =>
      obtain ⟨a, ob, vs, rfl, h1, _, r⟩ := rp_tn hu
      exact .tup (.inl (.inr ⟨ob, h1⟩)) r
  | .opt k, v, h => by rw [kD] at h; rw [kP]; exact rp_t2 h (rp_kP k)
  | .row k m, v, h => by rw [kD] at h; rw [kP]; exact rp_t2 h (rp_kP k)
  | .one as, v, h => by
    rw [kD] at h
    rw [kP]
    refine rp_t2 h fun u hu => ?_
    obtain ⟨a, vs, rfl, h1, h2⟩ := rp_ti hu
    exact .tup h1 (rl_kP as vs h2)
  | .rec_ ps, v, h => by
    rw [kD] at h
    rw [kP]
    refine rp_t2 h fun u hu => ?_
    obtain ⟨a, vs, rfl, h1, h2⟩ := rp_ti hu
    exact .tup h1 (rl_kP ps vs h2)
  | .bad w ds, v, h => by rw [kD] at h; rw [kP]; exact h
theorem rl_kP {T : TC} {I : Hp} : ∀ (as : List (Str × Kd)) (vs : List V), RpL T I vs (armsD as) → RpL T I vs (armsP as)
  | [], vs, h => by rw [armsD] at h; rw [armsP]; exact h
  | (n, k) :: as, vs, h => by
    rw [armsD] at h
    rw [armsP]
    obtain ⟨x, us, rfl, hx, h2⟩ := rl_cons h
    exact .cons (rp_t2 hx (rp_kP k)) (rl_kP as us h2)
end
section
variable {X : Cx} {e : Expr} {Γ Γ1 : Sl} {k : Kd}
theorem xe_kP (h : XE X e Γ (.da (kD k)) Γ1) : XE X e Γ (.da (kP k)) Γ1 := fun Ψ hq => we_conv (fun I H v B o => by
  cases o with
  | da o => exact .da (rp_kP k _ o)) (h _ ⟨rfl, hq⟩)
end
theorem armsP_map : ∀ as, armsP as = as.map fun p => .tuple [.str p.1, kP p.2]
  | [] => by rw [armsP]; rfl
  | (n, k) :: as => by rw [armsP, armsP_map as]; rfl
theorem eqvAll_c (a b : PyData) (xs ys : List PyData) : PyData.eqvAll (a :: xs) (b :: ys) = (PyData.eqv a b && PyData.eqvAll xs ys) := by simp [PyData.eqvAll]
theorem strs_eq : ∀ {xs ys : List Str}, PyData.eqvAll (strsD xs) (strsD ys) = true → xs = ys
  | [], [], _ => rfl
  | [], _ :: _, h => by simp [PyData.eqvAll] at h
  | _ :: _, [], h => by simp [PyData.eqvAll] at h
  | x :: xs, y :: ys, h => by
    have h : PyData.eqvAll (.str x :: strsD xs) (.str y :: strsD ys) = true := h
    rw [eqvAll_c, Bool.and_eq_true, eqv_str, decide_eq_true_eq] at h
    rw [h.1, strs_eq h.2]
theorem arms_eq : ∀ {xs ys : List (Str × Kd)}, (∀ p ∈ xs, ∀ q ∈ ys, PyData.eqv (kP p.2) (kP q.2) = true → p.2 = q.2) → PyData.eqvAll (armsP xs) (armsP ys) = true → xs = ys
  | [], [], _, _ => rfl
  | [], (_, _) :: _, _, h => by simp [armsP, PyData.eqvAll] at h
  | (_, _) :: _, [], _, h => by simp [armsP, PyData.eqvAll] at h
  | (n, k) :: xs, (m, l) :: ys, f, h => by
    rw [armsP, armsP, eqvAll_c, Bool.and_eq_true, eqv_tup, eqvAll_c, eqvAll_c, Bool.and_eq_true, Bool.and_eq_true, eqv_str, decide_eq_true_eq] at h
    have e := f (n, k) List.mem_cons_self (m, l) List.mem_cons_self h.1.2.1
    have e : k = l := e
    rw [h.1.1, e, arms_eq (fun p hp q hq => f p (List.mem_cons_of_mem _ hp) q (List.mem_cons_of_mem _ hq)) h.2]
def wdK : Kd → Str
  | .num _ _ => "num"
  | .pick _ _ => "pick"
  | .opt _ => "opt"
  | .row _ _ => "row"
  | .one _ => "one"
  | .rec_ _ => "rec"
  | .bad w _ => w
theorem kD_wd (k : Kd) : ∃ ds, kD k = .tuple (.str (wdK k) :: ds) := by cases k <;> exact ⟨_, by rw [kD]; rfl⟩
theorem kP_wd (k : Kd) : ∃ ds, kP k = .tuple (.str (wdK k) :: ds) := by cases k <;> exact ⟨_, by rw [kP]; rfl⟩
theorem eqv_wd {k l : Kd} (h : PyData.eqv (kP k) (kP l) = true) : wdK k = wdK l := by
  obtain ⟨a, e1⟩ := kP_wd k
  obtain ⟨b, e2⟩ := kP_wd l
  rw [e1, e2, eqv_tup, eqvAll_c, Bool.and_eq_true, eqv_str, decide_eq_true_eq] at h
  exact h.1
/-- right kinds that are equal data are equal -/
theorem kP_eq : ∀ {n : Nat} {k : Kd}, Rt n k → ∀ {m : Nat} {l : Kd}, Rt m l → PyData.eqv (kP k) (kP l) = true → k = l
  | _, _, .num _ _ _ _, _, l, rl, h => by
    have w := eqv_wd h
    cases rl with
    | num _ _ _ _ =>
      rw [kP, kP, eqv_tup, eqvAll_c, eqvAll_c, eqvAll_c, Bool.and_eq_true, Bool.and_eq_true, Bool.and_eq_true, eqv_int, eqv_int, decide_eq_true_eq, decide_eq_true_eq] at h
      rw [h.2.1, h.2.2.1]
    | _ => exact absurd w (by dsimp only [wdK]; decide +kernel)
  | _, _, .pick _ _ _, _, l, rl, h => by
    have w := eqv_wd h
    cases rl with
    | pick _ _ _ =>
      rw [kP, kP, eqv_tup, eqvAll_c, eqvAll_c, Bool.and_eq_true, Bool.and_eq_true, eqv_tup] at h
      rw [strs_eq h.2.1]
    | _ => exact absurd w (by dsimp only [wdK]; decide +kernel)
  | _, _, .opt rk, _, l, rl, h => by
    have w := eqv_wd h
    cases rl with
    | opt rl =>
      rw [kP, kP, eqv_tup, eqvAll_c, eqvAll_c, Bool.and_eq_true, Bool.and_eq_true] at h
      rw [kP_eq rk rl h.2.1]
    | _ => exact absurd w (by dsimp only [wdK]; decide +kernel)
  | _, _, .row rk _, _, l, rl, h => by
    have w := eqv_wd h
    cases rl with
    | row rl _ =>
      rw [kP, kP, eqv_tup, eqvAll_c, eqvAll_c, eqvAll_c, Bool.and_eq_true, Bool.and_eq_true, Bool.and_eq_true, eqv_int, decide_eq_true_eq] at h
      rw [kP_eq rk rl h.2.1, Int.ofNat.inj h.2.2.1]
    | _ => exact absurd w (by dsimp only [wdK]; decide +kernel)
  | _, _, .one _ _ _ rk, _, l, rl, h => by
    have w := eqv_wd h
    cases rl with
    | one _ _ _ rl =>
      rw [kP, kP, eqv_tup, eqvAll_c, eqvAll_c, Bool.and_eq_true, Bool.and_eq_true, eqv_tup] at h
      rw [arms_eq (fun p hp q hq e => kP_eq (rk p hp) (rl q hq) e) h.2.1]
    | _ => exact absurd w (by dsimp only [wdK]; decide +kernel)
  | _, _, .rec_ _ rk, _, l, rl, h => by
    have w := eqv_wd h
    cases rl with
    | rec_ _ rl =>
      rw [kP, kP, eqv_tup, eqvAll_c, eqvAll_c, Bool.and_eq_true, Bool.and_eq_true, eqv_tup] at h
      rw [arms_eq (fun p hp q hq e => kP_eq (rk p hp) (rl q hq) e) h.2.1]
    | _ => exact absurd w (by dsimp only [wdK]; decide +kernel)
/-- whole numbers, words and tuples of them -/
inductive Vs : Nat → PyData → Prop
  | int {n : Nat} (i : Int) : Vs n (.int i)
  | str {n : Nat} (s : Str) : Vs n (.str s)
  | tup {n : Nat} {xs : List PyData} : (∀ x ∈ xs, Vs n x) → Vs (n + 1) (.tuple xs)
theorem Vs.plain {n : Nat} {d : PyData} (h : Vs n d) : d.plain = true := by
  induction h with
  | int i => rfl
  | str s => rfl
  | tup h ih => simpa [PyData.plain] using plainAll_ofM ih
theorem Vs.depth {n : Nat} {d : PyData} (h : Vs n d) : d.depth ≤ n := by
  induction h with
  | int i => exact Nat.zero_le _
  | str s => exact Nat.zero_le _
  | tup h ih =>
    rw [PyData.depth]
    have := depthAll_mem ih
    omega
theorem Vs.mono {n m : Nat} {d : PyData} (h : Vs n d) (l : n ≤ m) : Vs m d := by
  induction h generalizing m with
  | int i => exact .int i
  | str s => exact .str s
  | tup h ih =>
    obtain ⟨m, rfl⟩ : ∃ k, m = k + 1 := ⟨m - 1, by omega⟩
    exact .tup fun x hx => ih x hx (by omega)
theorem vq2 {n : Nat} {a b : PyData} (ha : Vs n a) (hb : Vs n b) : Vs (n + 1) (.tuple [a, b]) := .tup (fun x hx => by
  rcases List.mem_cons.mp hx with rfl | hx
  · exact ha
  · rw [List.mem_singleton.mp hx]
    exact hb)
theorem vq3 {n : Nat} {a b c : PyData} (ha : Vs n a) (hb : Vs n b) (hc : Vs n c) : Vs (n + 1) (.tuple [a, b, c]) := .tup (fun x hx => by
  rcases List.mem_cons.mp hx with rfl | hx
  · exact ha
  rcases List.mem_cons.mp hx with rfl | hx
  · exact hb
  · rw [List.mem_singleton.mp hx]
    exact hc)
theorem kP_vd : ∀ {n : Nat} {k : Kd}, Rt n k → Vs (3 * n) (kP k)
  | n + 1, _, .num _ _ _ _ => by rw [kP]; exact vq3 (n := 3 * n + 2) (.str _) (.int _) (.int _)
  | n + 1, _, .pick h1 _ h3 => by
    rw [kP]
    refine vq2 (n := 3 * n + 2) (.str _) (.tup (n := 3 * n + 1) fun x hx => ?_)
    obtain ⟨s, hs, rfl⟩ := List.mem_map.mp hx
    exact .str s
  | n + 1, _, .opt h => by rw [kP]; exact vq2 (n := 3 * n + 2) (.str _) ((kP_vd h).mono (by omega))
  | n + 1, _, .row h _ => by rw [kP]; exact vq3 (n := 3 * n + 2) (.str _) ((kP_vd h).mono (by omega)) (.int _)
  | n + 1, _, .one h1 _ nm h => by
    rw [kP, armsP_map]
    refine vq2 (n := 3 * n + 2) (.str _) (.tup (n := 3 * n + 1) fun x hx => ?_)
    obtain ⟨p, hp, rfl⟩ := List.mem_map.mp hx
    exact vq2 (n := 3 * n) (.str _) (kP_vd (h p hp))
  | n + 1, _, .rec_ h1 h => by
    rw [kP, armsP_map]
    refine vq2 (n := 3 * n + 2) (.str _) (.tup (n := 3 * n + 1) fun x hx => ?_)
    obtain ⟨p, hp, rfl⟩ := List.mem_map.mp hx
    exact vq2 (n := 3 * n) (.str _) (kP_vd (h p hp))
/-- a word that may be drawn -/
inductive WdOk (deep : Nat) (l r : Kd) : Str → Prop
  | some_ {k : Kd} : 1 < deep → r = .opt k → WdOk deep l r "some"
  | must {k : Kd} : 1 < deep → l = .opt k → WdOk deep l r "must"
  | opt {k k' : Kd} : 1 < deep → l = .opt k → r = .opt k' → WdOk deep l r "opt"
  | each {k k' : Kd} {m m' : Nat} : 1 < deep → l = .row k m → r = .row k' m' → WdOk deep l r "each"
  | arms {xs ys : List (Str × Kd)} : 1 < deep → l = .one xs → r = .one ys → WdOk deep l r "arms"
  | parts {ps qs : List (Str × Kd)} : 1 < deep → l = .rec_ ps → r = .rec_ qs → WdOk deep l r "parts"
  | same : l = r → WdOk deep l r "same"
  | rank : sz l = sz r → WdOk deep l r "rank"
  | clip {lo hi lo' hi' : Int} : l = .num lo hi → r = .num lo' hi' → WdOk deep l r "clip"
  | table : WdOk deep l r "table"
  | apart : WdOk deep l r "apart"
theorem strs_snoc {ws : List Str} {s : Str} : strsD ws ++ [.str s] = strsD (ws ++ [s]) := by rw [strsD, strsD, List.map_append]; rfl
theorem strs_app {ws us : List Str} : strsD ws ++ strsD us = strsD (ws ++ us) := by rw [strsD, strsD, strsD, List.map_append]
theorem wd_snoc {deep : Nat} {l r : Kd} {ws : List Str} {s : Str} (h : ∀ w ∈ ws, WdOk deep l r w) (hs : WdOk deep l r s) : ∀ w ∈ ws ++ [s], WdOk deep l r w := fun w hw => by
  rcases List.mem_append.mp hw with hw | hw
  · exact h w hw
  · rw [List.mem_singleton.mp hw]
    exact hs
def spWords : SpD := fun as Ψ => ∃ (l r : Kd) (deep : Nat), as = [.da (kD l), .da (kD r), .da (.int (deep : Nat))] ∧ Rt 4 l ∧ Rt 4 r ∧ sz l ≤ 4000 ∧ sz r ≤ 4000 ∧ ∀ ws : List Str, 0 < ws.length → ws.length ≤ 30 → (∀ w ∈ ws, WdOk deep l r w) → Ψ (.da (.list (strsD ws))) as
theorem is_opt {n : Nat} {k : Kd} (rt : Rt n k) (h : wdK k = "opt") : ∃ k', k = .opt k' := by
  cases rt with
  | opt _ => exact ⟨_, rfl⟩
  | _ => exact absurd h (by dsimp only [wdK]; decide +kernel)
theorem is_row {n : Nat} {k : Kd} (rt : Rt n k) (h : wdK k = "row") : ∃ k' m, k = .row k' m := by
  cases rt with
  | row _ _ => exact ⟨_, _, rfl⟩
  | _ => exact absurd h (by dsimp only [wdK]; decide +kernel)
theorem is_one {n : Nat} {k : Kd} (rt : Rt n k) (h : wdK k = "one") : ∃ xs, k = .one xs := by
  cases rt with
  | one _ _ _ _ => exact ⟨_, rfl⟩
  | _ => exact absurd h (by dsimp only [wdK]; decide +kernel)
theorem is_rec {n : Nat} {k : Kd} (rt : Rt n k) (h : wdK k = "rec") : ∃ xs, k = .rec_ xs := by
  cases rt with
  | rec_ _ _ => exact ⟨_, rfl⟩
  | _ => exact absurd h (by dsimp only [wdK]; decide +kernel)
theorem is_num {n : Nat} {k : Kd} (rt : Rt n k) (h : wdK k = "num") : ∃ lo hi, k = .num lo hi := by
  cases rt with
  | num _ _ _ _ => exact ⟨_, _, rfl⟩
  | _ => exact absurd h (by dsimp only [wdK]; decide +kernel)
section
variable {P : Program} {w : World} {K : PySem.W.Frag} {mg : Str → Option Value} {bs h : Heap} (X : K.In h) (G : h.Ns mainGlobals mg) (B : Blt mg)
include X G B
theorem d_words (D : DK K "_law_words" s_l_words) (gS : Def P w K mg bs 5 "_law_own_size" ["kind"] (spOSize 4)) : Def P w K mg bs 6 "_law_words" ["left", "right", "deep"] spWords := by
  refine def_ok X G D sc_l_words (fun f fd F => F.binds (ps := ["left", "right", "deep"]) fun _ _ _ _ _ _ us hl => match us, hl with | [_, _, _], _ => rfl) (fun as Ψ h => by obtain ⟨_, _, _, rfl, _⟩ := h; rfl) fun f cdv A fr s H E fx as Ψ vs hsp hl => ?_
  obtain ⟨l, r, deep, rfl, rl, rr, fl, fr, hq⟩ := hsp
  obtain ⟨v0, v1, v2, rfl⟩ := ar3 hl
  have nd := fx.nd
  obtain ⟨dl, el⟩ := kD_wd l
  obtain ⟨dr, er⟩ := kD_wd r
  show WSs _ _ [some (.da (kD l)), some (.da (kD r)), some (.da (.int (deep : Nat))), none, none] _
  refine xs_set 3 nd xe_lst0 ?_
  refine ws_meet (fun ws : List Str => [some (.da (kD l)), some (.da (kD r)), some (.da (.int (deep : Nat))), some (.ll (strsD ws)), none]) (fun ws => ws.length ≤ 14 ∧ ∀ w ∈ ws, WdOk deep l r w) (fun key0 => wt_pure (xt_gt (xv 2) xe_int) ⟨fun hd => ?_, fun _ => ws_nil (key0 [] ⟨by decide, fun w hw => by cases hw⟩)⟩) ?_
  · have hd : 1 < deep := by have := of_decide_eq_true hd; omega
    refine ws_join (fun ws : List Str => [some (.da (kD l)), some (.da (kD r)), some (.da (.int (deep : Nat))), some (.ll (strsD ws)), none]) (fun ws => ws.length ≤ 0 ∧ ∀ w ∈ ws, WdOk deep l r w) (fun key => key [] ⟨by decide, fun w hw => by cases hw⟩) ?_
    rintro ws ⟨hz, hw⟩
    refine ws_meet (fun ws : List Str => [some (.da (kD l)), some (.da (kD r)), some (.da (.int (deep : Nat))), some (.ll (strsD ws)), none]) (fun ws => ws.length ≤ 1 ∧ ∀ w ∈ ws, WdOk deep l r w) (fun key => wt_pure (xt_eqStr fx.u (ix0 (xe_castD (xv 1) er)) xe_str) ⟨fun hc => by
        obtain ⟨k, ek⟩ := is_opt rr (of_decide_eq_true hc)
        exact ws_expr (we_append 3 (we_pure xe_str ⟨_, _, _, _, rfl, rfl, .ll, few4 (by rw [List.length_map]; omega), by rw [strs_snoc]; exact ws_nil (key (ws ++ [("some" : Str)]) ⟨by rw [List.length_append]; show ws.length + 1 ≤ _; omega, wd_snoc hw (.some_ hd ek)⟩)⟩)), fun _ => ws_nil (key ws ⟨by omega, hw⟩)⟩) ?_
    rintro ws ⟨hz, hw⟩
    refine ws_meet (fun ws : List Str => [some (.da (kD l)), some (.da (kD r)), some (.da (.int (deep : Nat))), some (.ll (strsD ws)), none]) (fun ws => ws.length ≤ 2 ∧ ∀ w ∈ ws, WdOk deep l r w) (fun key => wt_pure (xt_eqStr fx.u (ix0 (xe_castD (xv 0) el)) xe_str) ⟨fun hc => by
        obtain ⟨k, ek⟩ := is_opt rl (of_decide_eq_true hc)
        exact ws_expr (we_append 3 (we_pure xe_str ⟨_, _, _, _, rfl, rfl, .ll, few4 (by rw [List.length_map]; omega), by rw [strs_snoc]; exact ws_nil (key (ws ++ [("must" : Str)]) ⟨by rw [List.length_append]; show ws.length + 1 ≤ _; omega, wd_snoc hw (.must hd ek)⟩)⟩)), fun _ => ws_nil (key ws ⟨by omega, hw⟩)⟩) ?_
    rintro ws ⟨hz, hw⟩
    refine ws_forT fx ([("opt", "opt"), ("row", "each"), ("one", "arms"), ("rec", "parts")] : List (Str × Str)) (fun p : Str × Str => .tuple [.str p.1, .str p.2]) (fun ws : List Str => [some (.da (kD l)), some (.da (kD r)), some (.da (.int (deep : Nat))), some (.ll (strsD ws)), none]) (fun i ws => ws.length ≤ 2 + 3 * i ∧ ∀ w ∈ ws, WdOk deep l r w) ws (xi_lst (xe_frz (fun _ hq' => we_lst (wa_cons ((xe_tup2 xe_str xe_str) _ (wa_cons ((xe_tup2 xe_str xe_str) _ (wa_cons ((xe_tup2 xe_str xe_str) _ (wa_cons ((xe_tup2 xe_str xe_str) _ (wa_nil ⟨([("opt", "opt"), ("row", "each"), ("one", "arms"), ("rec", "parts")] : List (Str × Str)).map fun p => .tuple [.str p.1, .str p.2], rfl, (by show 4 ≤ sizeLine; decide), hq'⟩)))))))))))) ⟨by omega, hw⟩ rfl ?_ ?_
    · rintro i ⟨x, y⟩ ws hx ⟨hz, hw⟩
      refine wg_name 4 nd ?_
      have lt : i < 4 := (List.getElem?_eq_some_iff.mp hx).1
      have key : wdK l = x → wdK r = x → WdOk deep l r y := fun e1 e2 => by
        have hm := List.mem_of_getElem? hx
        rcases List.mem_cons.mp hm with hm | hm
        · obtain ⟨rfl, rfl⟩ := Prod.mk.inj hm
          obtain ⟨k, ek⟩ := is_opt rl e1
          obtain ⟨k', ek'⟩ := is_opt rr e2
          exact .opt hd ek ek'
        rcases List.mem_cons.mp hm with hm | hm
        · obtain ⟨rfl, rfl⟩ := Prod.mk.inj hm
          obtain ⟨k, m, ek⟩ := is_row rl e1
          obtain ⟨k', m', ek'⟩ := is_row rr e2
          exact .each hd ek ek'
        rcases List.mem_cons.mp hm with hm | hm
        · obtain ⟨rfl, rfl⟩ := Prod.mk.inj hm
          obtain ⟨k, ek⟩ := is_one rl e1
          obtain ⟨k', ek'⟩ := is_one rr e2
          exact .arms hd ek ek'
        · obtain ⟨rfl, rfl⟩ := Prod.mk.inj (List.mem_singleton.mp hm)
          obtain ⟨k, ek⟩ := is_rec rl e1
          obtain ⟨k', ek'⟩ := is_rec rr e2
          exact .parts hd ek ek'
      refine xs_if (xt_and2 (xt_eqStr fx.u (ix0 (xe_castD (xv 0) el)) (ix0 (xv 4))) fun _ => xt_eqStr fx.u (ix0 (xe_castD (xv 1) er)) (ix0 (xv 4))) (fun hc => ?_) fun _ => ws_nil (ws_drop 4 (ws_nil ⟨ws, ⟨by omega, hw⟩, rfl⟩))
      rw [Bool.and_eq_true, decide_eq_true_eq, decide_eq_true_eq] at hc
      have hy := key hc.1 hc.2
      refine ws_expr (we_extend 3 (we_lst (wa_cons ((ix1 (xv 4)) _ (wa_cons ((ix1 (xv 4)) _ (wa_cons ((ix1 (xv 4)) _ (wa_nil ⟨strsD [y, y, y], rfl, (by show 3 ≤ sizeLine; decide), _, _, _, _, rfl, rfl, .ll, few4 (by rw [List.length_map]; show ws.length + 3 ≤ _; omega), ?_⟩)))))))))
      rw [strs_app]
      refine ws_nil (ws_drop 4 (ws_nil ⟨ws ++ [y, y, y], ⟨by rw [List.length_append]; show ws.length + 3 ≤ _; omega, fun w hw' => ?_⟩, rfl⟩))
      rcases List.mem_append.mp hw' with h | h
      · exact hw w h
      · have : w = y := by simpa using h
        rw [this]
        exact hy
    · rintro ws ⟨hz, hw⟩
      exact ws_nil (key0 ws ⟨hz, hw⟩)
  rintro ws ⟨hz, hw⟩
  refine ws_meet (fun ws : List Str => [some (.da (kD l)), some (.da (kD r)), some (.da (.int (deep : Nat))), some (.ll (strsD ws)), none]) (fun ws => ws.length ≤ 15 ∧ ∀ w ∈ ws, WdOk deep l r w) (fun key => wt_pure (xt_eqP fx.u (xe_kP (xv 0)) (xe_kP (xv 1)) (kP_vd rl).plain (kP_vd rr).plain (Nat.le_trans (kP_vd rl).depth (by decide))) ⟨fun hc => by
      have e := kP_eq rl rr hc
      exact ws_expr (we_append 3 (we_pure xe_str ⟨_, _, _, _, rfl, rfl, .ll, few4 (by rw [List.length_map]; omega), by rw [strs_snoc]; exact ws_nil (key (ws ++ [("same" : Str)]) ⟨by rw [List.length_append]; show ws.length + 1 ≤ _; omega, wd_snoc hw (.same e)⟩)⟩)), fun _ => ws_nil (key ws ⟨by omega, hw⟩)⟩) ?_
  rintro ws ⟨hz, hw⟩
  refine ws_meet (fun ws : List Str => [some (.da (kD l)), some (.da (kD r)), some (.da (.int (deep : Nat))), some (.ll (strsD ws)), none]) (fun ws => ws.length ≤ 16 ∧ ∀ w ∈ ws, WdOk deep l r w) (fun key => wt_pure (xt_eqI fx.u (fun Ψ' hq' => we_fnP gS fx.room fx.gd (wa_d (xv 0) wa_n) ⟨l, rfl, rl, by omega, hq'⟩) (fun Ψ' hq' => we_fnP gS fx.room fx.gd (wa_d (xv 1) wa_n) ⟨r, rfl, rr, by omega, hq'⟩)) ⟨fun hc => by
      have e : sz l = sz r := by have := of_decide_eq_true hc; omega
      exact ws_expr (we_append 3 (we_pure xe_str ⟨_, _, _, _, rfl, rfl, .ll, few4 (by rw [List.length_map]; omega), by rw [strs_snoc]; exact ws_nil (key (ws ++ [("rank" : Str)]) ⟨by rw [List.length_append]; show ws.length + 1 ≤ _; omega, wd_snoc hw (.rank e)⟩)⟩)), fun _ => ws_nil (key ws ⟨by omega, hw⟩)⟩) ?_
  rintro ws ⟨hz, hw⟩
  refine ws_meet (fun ws : List Str => [some (.da (kD l)), some (.da (kD r)), some (.da (.int (deep : Nat))), some (.ll (strsD ws)), none]) (fun ws => ws.length ≤ 18 ∧ ∀ w ∈ ws, WdOk deep l r w) (fun key => wt_pure (xt_and2 (xt_eqStr fx.u (ix0 (xe_castD (xv 0) el)) xe_str) fun _ => xt_eqStr fx.u (ix0 (xe_castD (xv 1) er)) xe_str) ⟨fun hc => by
      rw [Bool.and_eq_true, decide_eq_true_eq, decide_eq_true_eq] at hc
      obtain ⟨_, _, e1⟩ := is_num rl hc.1
      obtain ⟨_, _, e2⟩ := is_num rr hc.2
      exact ws_expr (we_append 3 (we_pure xe_str ⟨_, _, _, _, rfl, rfl, .ll, few4 (by rw [List.length_map]; omega), by rw [strs_snoc]; exact ws_expr (we_append 3 (we_pure xe_str ⟨_, _, _, _, rfl, rfl, .ll, few4 (by rw [List.length_map, List.length_append]; show ws.length + 1 < _; omega), by rw [strs_snoc]; exact ws_nil (key (ws ++ [("clip" : Str)] ++ [("clip" : Str)]) ⟨by rw [List.length_append, List.length_append]; show ws.length + 1 + 1 ≤ _; omega, wd_snoc (wd_snoc hw (.clip e1 e2)) (.clip e1 e2)⟩)⟩))⟩)), fun _ => ws_nil (key ws ⟨by omega, hw⟩)⟩) ?_
  rintro ws ⟨hz, hw⟩
  refine ws_meet (fun ws : List Str => [some (.da (kD l)), some (.da (kD r)), some (.da (.int (deep : Nat))), some (.ll (strsD ws)), none]) (fun ws => ws.length ≤ 19 ∧ ∀ w ∈ ws, WdOk deep l r w) (fun key => wt_pure (xt_and2 (xt_le (fun Ψ' hq' => we_fnP gS fx.room fx.gd (wa_d (xv 0) wa_n) ⟨l, rfl, rl, by omega, hq'⟩) xe_int) fun _ => xt_le (fun Ψ' hq' => we_fnP gS fx.room fx.gd (wa_d (xv 1) wa_n) ⟨r, rfl, rr, by omega, hq'⟩) xe_int) ⟨fun hc => ws_expr (we_append 3 (we_pure xe_str ⟨_, _, _, _, rfl, rfl, .ll, few4 (by rw [List.length_map]; omega), by rw [strs_snoc]; exact ws_nil (key (ws ++ [("table" : Str)]) ⟨by rw [List.length_append]; show ws.length + 1 ≤ _; omega, wd_snoc hw .table⟩)⟩)), fun _ => ws_nil (key ws ⟨by omega, hw⟩)⟩) ?_
  rintro ws ⟨hz, hw⟩
  refine ws_expr (we_append 3 (we_pure xe_str ⟨_, _, _, _, rfl, rfl, .ll, few4 (by rw [List.length_map]; omega), ?_⟩))
  rw [strs_snoc]
  refine ws_frz 3 .ll ?_
  exact xs_ret (xv 3) ⟨_, .da (.da (.da .nil)), hq (ws ++ [("apart" : Str)]) (by rw [List.length_append]; show 0 < ws.length + 1; omega) (by rw [List.length_append]; show ws.length + 1 ≤ 30; omega) (wd_snoc hw .apart)⟩
end
end Law
/-! WYl: _law_turned, _law_own_way. -/
namespace Law
open PySem PySem.Spec PyProof.Rows L2 TL
def spTurn (T : TC) : SpD := fun as Ψ => ∃ ds : List PyData, as = [ST T, .da (.list ds)] ∧ ds.length ≤ 100 ∧ ∀ k : Nat, Ψ (.da (.tuple (ds.drop k ++ ds.take k))) as
def spWay (T : TC) (n : Nat) : SpD := fun as Ψ => ∃ l r : Kd, as = [ST T, .da (kD l), .da (kD r), .da (.int (n : Nat))] ∧ Rt 4 l ∧ Rt 4 r ∧ sz l ≤ 30 ∧ sz r ≤ 30 ∧ 1 ≤ n ∧ ∀ w, Wok w l r → Wd n w → Ψ (.da (wyD w)) as
def spArmTr (T : TC) (n : Nat) : SpD := fun as Ψ => ∃ xs ys : List (Str × Kd), as = [ST T, .da (.tuple (xs.map armD)), .da (.tuple (ys.map armD)), .da (.int (n : Nat))] ∧ Rt 4 (.one xs) ∧ Rt 4 (.one ys) ∧ sz (.one xs) ≤ 30 ∧ sz (.one ys) ≤ 30 ∧ 1 ≤ n ∧ ∀ ts, Wok (.arms ts) (.one xs) (.one ys) → Wd (n + 1) (.arms ts) → Ψ (.da (.tuple (ts.map trA))) as
def spPartTr (T : TC) (n : Nat) : SpD := fun as Ψ => ∃ ps qs : List (Str × Kd), as = [ST T, .da (.tuple (ps.map armD)), .da (.tuple (qs.map armD)), .da (.int (n : Nat))] ∧ Rt 4 (.rec_ ps) ∧ Rt 4 (.rec_ qs) ∧ sz (.rec_ ps) ≤ 30 ∧ sz (.rec_ qs) ≤ 30 ∧ 1 ≤ n ∧ ∀ ts, Wok (.parts ts) (.rec_ ps) (.rec_ qs) → Wd (n + 1) (.parts ts) → Ψ (.da (.tuple (ts.map trQ))) as
theorem Rt.num_le {n : Nat} {lo hi : Int} (h : Rt n (.num lo hi)) : lo ≤ hi := by cases h with | num a b c d => exact a
section
variable {P : Program} {w : World} {K : PySem.W.Frag} {mg : Str → Option Value} {bs h : Heap} (X : K.In h) (G : h.Ns mainGlobals mg) (B : Blt mg)
include X G B
theorem d_turned (D : DK K "_law_turned" s_l_turned) (gD : Def P w K mg bs 2 "_law_own_draw" ["state", "many"] (spDrawO ⟨P, w, K⟩)) : Def P w K mg bs 3 "_law_turned" ["state", "trios"] (spTurn ⟨P, w, K⟩) := by
  refine def_ok X G D sc_l_turned (fun f fd F => F.binds (ps := ["state", "trios"]) fun _ _ _ _ _ _ us hl => match us, hl with | [_, _], _ => rfl) (fun as Ψ h => by obtain ⟨_, rfl, _⟩ := h; rfl) fun f cdv A fr s H E fx as Ψ vs hsp hl => ?_
  obtain ⟨ds, rfl, len, hq⟩ := hsp
  obtain ⟨v0, v1, rfl⟩ := ar2 hl
  have nd := fx.nd
  show WSs _ _ [some (.pin v0 (ST ⟨P, w, K⟩)), some (.da (.list ds)), none] _
  refine ws_set 2 nd (we_drawN (n := max 1 ds.length) 0 gD fx.room fx.gd (xe_cast (xe_max2 B fx.calm xe_int (xe_len B (xv 1) (.inl rfl))) (max_cast (a := 1))) (by omega) (by omega) fun j hj => ?_)
  show WSs _ _ [some (.pin v0 (ST ⟨P, w, K⟩)), some (.da (.list ds)), some (.da (.int (j : Nat)))] _
  have lt : (ds.drop j).length + (ds.take j).length ≤ sizeLine := few4 (by rw [List.length_drop, List.length_take]; omega)
  exact xs_ret (xe_tupL B (xe_catL lt (xe_castD (d' := .list (ds.drop j)) (xe_frz (xe_sliceL (l := some (j : Int)) (u := none) (xv 1) (.some (xv 2)) .none)) (by rw [cutD_from])) (xe_castD (d' := .list (ds.take j)) (xe_frz (xe_sliceL (l := none) (u := some (j : Int)) (xv 1) .none (.some (xv 2)))) (by rw [cutD_to])))) ⟨_, .own (.da .nil), hq j⟩
theorem d_way (D : DK K "_law_own_way" s_l_own_way) {n : Nat} (gD : Def P w K mg bs 2 "_law_own_draw" ["state", "many"] (spDrawO ⟨P, w, K⟩)) (gWd : Def P w K mg bs 6 "_law_words" ["left", "right", "deep"] spWords) (gT : Def P w K mg bs 8 "_law_table" ["state", "left", "right"] (spTable ⟨P, w, K⟩ 4)) (gV : Def P w K mg bs 7 "_law_own_value" ["state", "kind"] (spOVal ⟨P, w, K⟩ 4)) (gW : Def P w K mg bs (2 * n + 10) "_law_own_way" ["state", "left", "right", "deep"] (spWay ⟨P, w, K⟩ n)) (gA : Def P w K mg bs (2 * n + 11) "_law_arm_trios" ["state", "lefts", "rights", "deep"] (spArmTr ⟨P, w, K⟩ n)) (gP : Def P w K mg bs (2 * n + 11) "_law_part_trios" ["state", "lefts", "rights", "deep"] (spPartTr ⟨P, w, K⟩ n)) : Def P w K mg bs (2 * (n + 1) + 10) "_law_own_way" ["state", "left", "right", "deep"] (spWay ⟨P, w, K⟩ (n + 1)) := by
  refine def_ok (k := 2 * n + 11) X G D sc_l_own_way (fun f fd F => F.binds (ps := ["state", "left", "right", "deep"]) fun _ _ _ _ _ _ us hl => match us, hl with | [_, _, _, _], _ => rfl) (fun as Ψ h => by obtain ⟨_, _, rfl, _⟩ := h; rfl) fun f cdv A fr s H E fx as Ψ vs hsp hl => ?_
  obtain ⟨l, r, rfl, rl, rr, fl, fr, h1, hq⟩ := hsp
  obtain ⟨v0, v1, v2, v3, rfl⟩ := ar4 hl
  have nd := fx.nd
  have r2 := fx.room.mono (show 2 ≤ 2 * n + 11 by omega)
  have r6 := fx.room.mono (show 6 ≤ 2 * n + 11 by omega)
  have r8 := fx.room.mono (show 8 ≤ 2 * n + 11 by omega)
  have r7 := fx.room.mono (show 7 ≤ 2 * n + 11 by omega)
  have rW := fx.room.mono (show 2 * n + 10 ≤ 2 * n + 11 by omega)
  show WSs _ _ [some (.pin v0 (ST ⟨P, w, K⟩)), some (.da (kD l)), some (.da (kD r)), some (.da (.int ((n + 1 : Nat) : Int))), none, none] _
  refine ws_set 4 nd (we_fnP gWd r6 fx.gd (wa_d (xv 1) (wa_d (xv 2) (wa_d (xv 3) wa_n))) ⟨l, r, n + 1, rfl, rl, rr, by omega, by omega, fun ws h0 h30 hw => ?_⟩)
  refine ws_set 5 nd (we_ixD (ds := strsD ws) (xv 4) (we_drawN (n := ws.length) 0 gD r2 fx.gd (xe_cast (j := (ws.length : Nat)) (xe_len B (xv 4) (.inl rfl)) (by rw [List.length_map])) h0 (by omega) fun j hj => ?_))
  refine ⟨j, .str ws[j], rfl, by rw [List.getElem?_map, List.getElem?_eq_getElem hj]; rfl, ?_⟩
  have hwd := hw ws[j] (List.getElem_mem hj)
  generalize ws[j] = x at hwd ⊢
  cases hwd with
  | table =>
    show WSs _ _ [some (.pin v0 (ST ⟨P, w, K⟩)), some (.da (kD l)), some (.da (kD r)), some (.da (.int ((n + 1 : Nat) : Int))), some (.da (.list (strsD ws))), some (.da (.str "table"))] _
    refine is_w fx.u (xv 5) ?_
    exact ws_ret (we_fnR gT r8 fx.gd (wr_ref 0 (wr_da (xv 1) (wr_da (xv 2) (wr_nil ⟨_, _, rfl, l, r, rfl, rl, rr, by omega, by omega, fun f g t => ⟨_, .own (.da (.da (.da .nil))), by have := hq (.plain (.table f g)) (.plain (.table t) (fun d e h => by cases h)) .plain; rw [wyD] at this; exact this⟩⟩)))))
  | apart =>
    show WSs _ _ [some (.pin v0 (ST ⟨P, w, K⟩)), some (.da (kD l)), some (.da (kD r)), some (.da (.int ((n + 1 : Nat) : Int))), some (.da (.list (strsD ws))), some (.da (.str "apart"))] _
    refine no_w fx.u (xv 5) ?_
    refine is_w fx.u (xv 5) ?_
    exact ws_ret (we_tup (wa_cons (xe_str _ (wa_cons (we_fnR gV r7 fx.gd (wr_ref 0 (wr_da (xv 1) (wr_nil ⟨_, _, rfl, l, rfl, rl, fun d hd => wa_cons (we_fnR gV r7 fx.gd (wr_ref 0 (wr_da (xv 2) (wr_nil ⟨_, _, rfl, r, rfl, rr, fun e he => wa_nil ⟨[.str "apart", d, e], rfl, (by show 3 ≤ sizeLine; decide), _, .own (.da (.da (.da .nil))), by have := hq (.plain (.apart d e)) (.plain (.apart he) (fun d' e' h => by injection h with h1 h2; rw [← h1]; exact hd)) .plain; rw [wyD] at this; exact this⟩⟩))))⟩))))))))
  | @some_ k hd er =>
    subst er
    show WSs _ _ [some (.pin v0 (ST ⟨P, w, K⟩)), some (.da (kD l)), some (.da (kD (.opt k))), some (.da (.int ((n + 1 : Nat) : Int))), some (.da (.list (strsD ws))), some (.da (.str "some"))] _
    refine no_w fx.u (xv 5) ?_
    refine no_w fx.u (xv 5) ?_
    refine is_w fx.u (xv 5) ?_
    exact ws_ret (we_tup (wa_cons (xe_str _ (wa_cons (we_fnR gW rW fx.gd (wr_ref 0 (wr_da (xv 1) (wr_da (ix1 (xe_castD (xv 2) (kD_opt k))) (wr_da (xe_cast (j := (n : Nat)) (xe_sub (xv 3) xe_int) (by omega)) (wr_nil ⟨_, _, rfl, l, k, rfl, rl, opt_rt rr, fl, Nat.le_trans opt_sz fr, by omega, fun y hy dy => wa_cons (we_fnR gV r7 fx.gd (wr_ref 0 (wr_da (xv 1) (wr_nil ⟨_, _, rfl, l, rfl, rl, fun d hd => wa_nil ⟨[.str "some", wyD y, d], rfl, (by show 3 ≤ sizeLine; decide), _, .own (.da (.da (.da .nil))), by have := hq (.some_ y d) (.some_ hy hd) (.some_ dy); rw [wyD_some] at this; exact this⟩⟩))))⟩))))))))))
  | @must k hd el =>
    subst el
    show WSs _ _ [some (.pin v0 (ST ⟨P, w, K⟩)), some (.da (kD (.opt k))), some (.da (kD r)), some (.da (.int ((n + 1 : Nat) : Int))), some (.da (.list (strsD ws))), some (.da (.str "must"))] _
    refine no_w fx.u (xv 5) ?_
    refine no_w fx.u (xv 5) ?_
    refine no_w fx.u (xv 5) ?_
    refine is_w fx.u (xv 5) ?_
    exact ws_ret (we_tup (wa_cons (xe_str _ (wa_cons (we_fnR gW rW fx.gd (wr_ref 0 (wr_da (ix1 (xe_castD (xv 1) (kD_opt k))) (wr_da (xv 2) (wr_da (xe_cast (j := (n : Nat)) (xe_sub (xv 3) xe_int) (by omega)) (wr_nil ⟨_, _, rfl, k, r, rfl, opt_rt rl, rr, Nat.le_trans opt_sz fl, fr, by omega, fun y hy dy => wa_cons (we_fnR gV r7 fx.gd (wr_ref 0 (wr_da (xv 2) (wr_nil ⟨_, _, rfl, r, rfl, rr, fun d hd => wa_nil ⟨[.str "must", wyD y, d], rfl, (by show 3 ≤ sizeLine; decide), _, .own (.da (.da (.da .nil))), by have := hq (.must y d) (.must hy hd) (.must dy); rw [wyD_must] at this; exact this⟩⟩))))⟩))))))))))
  | @opt k k' hd el er =>
    subst el er
    show WSs _ _ [some (.pin v0 (ST ⟨P, w, K⟩)), some (.da (kD (.opt k))), some (.da (kD (.opt k'))), some (.da (.int ((n + 1 : Nat) : Int))), some (.da (.list (strsD ws))), some (.da (.str "opt"))] _
    refine no_w fx.u (xv 5) ?_
    refine no_w fx.u (xv 5) ?_
    refine no_w fx.u (xv 5) ?_
    refine no_w fx.u (xv 5) ?_
    refine xs_ifT (xt_cast (xt_or2 (k := true) (k2 := false) (xt_isW fx.u (xv 5) (by decide +kernel)) fun he => by cases he) rfl) ?_
    exact ws_ret (we_tup (wa_cons ((xv 5) _ (wa_cons (we_fnR gW rW fx.gd (wr_ref 0 (wr_da (ix1 (xe_castD (xv 1) (kD_opt k))) (wr_da (ix1 (xe_castD (xv 2) (kD_opt k'))) (wr_da (xe_cast (j := (n : Nat)) (xe_sub (xv 3) xe_int) (by omega)) (wr_nil ⟨_, _, rfl, k, k', rfl, opt_rt rl, opt_rt rr, Nat.le_trans opt_sz fl, Nat.le_trans opt_sz fr, by omega, fun y hy dy => wa_nil ⟨[.str "opt", wyD y], rfl, (by show 2 ≤ sizeLine; decide), _, .own (.da (.da (.da .nil))), by have := hq (.opt y) (.opt hy) (.opt dy); rw [wyD_opt] at this; exact this⟩⟩))))))))))
  | @each k k' m m' hd el er =>
    subst el er
    show WSs _ _ [some (.pin v0 (ST ⟨P, w, K⟩)), some (.da (kD (.row k m))), some (.da (kD (.row k' m'))), some (.da (.int ((n + 1 : Nat) : Int))), some (.da (.list (strsD ws))), some (.da (.str "each"))] _
    refine no_w fx.u (xv 5) ?_
    refine no_w fx.u (xv 5) ?_
    refine no_w fx.u (xv 5) ?_
    refine no_w fx.u (xv 5) ?_
    refine xs_ifT (xt_cast (xt_or2 (k := false) (k2 := true) (xt_isW fx.u (xv 5) (by decide +kernel)) fun he => xt_isW fx.u (xv 5) (by decide +kernel)) rfl) ?_
    exact ws_ret (we_tup (wa_cons ((xv 5) _ (wa_cons (we_fnR gW rW fx.gd (wr_ref 0 (wr_da (ix1 (xe_castD (xv 1) (kD_row k m))) (wr_da (ix1 (xe_castD (xv 2) (kD_row k' m'))) (wr_da (xe_cast (j := (n : Nat)) (xe_sub (xv 3) xe_int) (by omega)) (wr_nil ⟨_, _, rfl, k, k', rfl, row_rt rl, row_rt rr, Nat.le_trans (row_sz rl) fl, Nat.le_trans (row_sz rr) fr, by omega, fun y hy dy => wa_nil ⟨[.str "each", wyD y], rfl, (by show 2 ≤ sizeLine; decide), _, .own (.da (.da (.da .nil))), by have := hq (.each y) (.each hy) (.each dy); rw [wyD_each] at this; exact this⟩⟩))))))))))
  | @arms xs ys hd el er =>
    subst el er
    show WSs _ _ [some (.pin v0 (ST ⟨P, w, K⟩)), some (.da (kD (.one xs))), some (.da (kD (.one ys))), some (.da (.int ((n + 1 : Nat) : Int))), some (.da (.list (strsD ws))), some (.da (.str "arms"))] _
    refine no_w fx.u (xv 5) ?_
    refine no_w fx.u (xv 5) ?_
    refine no_w fx.u (xv 5) ?_
    refine no_w fx.u (xv 5) ?_
    refine xs_ifF (xt_cast (xt_or2 (k := false) (k2 := false) (xt_isW fx.u (xv 5) (by decide +kernel)) fun he => xt_isW fx.u (xv 5) (by decide +kernel)) rfl) (ws_nil ?_)
    refine is_w fx.u (xv 5) ?_
    exact ws_ret (we_tup (wa_cons (xe_str _ (wa_cons (we_fnR gA fx.room fx.gd (wr_ref 0 (wr_da (ix1 (xe_castD (xv 1) (kD_one xs))) (wr_da (ix1 (xe_castD (xv 2) (kD_one ys))) (wr_da (xe_cast (j := (n : Nat)) (xe_sub (xv 3) xe_int) (by omega)) (wr_nil ⟨_, _, rfl, xs, ys, rfl, rl, rr, fl, fr, by omega, fun ts ht dt => wa_nil ⟨[.str "arms", .tuple (ts.map trA)], rfl, (by show 2 ≤ sizeLine; decide), _, .own (.da (.da (.da .nil))), by have := hq (.arms ts) ht dt; rw [wyD_arms] at this; exact this⟩⟩))))))))))
  | @parts xs ys hd el er =>
    subst el er
    show WSs _ _ [some (.pin v0 (ST ⟨P, w, K⟩)), some (.da (kD (.rec_ xs))), some (.da (kD (.rec_ ys))), some (.da (.int ((n + 1 : Nat) : Int))), some (.da (.list (strsD ws))), some (.da (.str "parts"))] _
    refine no_w fx.u (xv 5) ?_
    refine no_w fx.u (xv 5) ?_
    refine no_w fx.u (xv 5) ?_
    refine no_w fx.u (xv 5) ?_
    refine xs_ifF (xt_cast (xt_or2 (k := false) (k2 := false) (xt_isW fx.u (xv 5) (by decide +kernel)) fun he => xt_isW fx.u (xv 5) (by decide +kernel)) rfl) (ws_nil ?_)
    refine no_w fx.u (xv 5) ?_
    refine is_w fx.u (xv 5) ?_
    exact ws_ret (we_tup (wa_cons (xe_str _ (wa_cons (we_fnR gP fx.room fx.gd (wr_ref 0 (wr_da (ix1 (xe_castD (xv 1) (kD_rec xs))) (wr_da (ix1 (xe_castD (xv 2) (kD_rec ys))) (wr_da (xe_cast (j := (n : Nat)) (xe_sub (xv 3) xe_int) (by omega)) (wr_nil ⟨_, _, rfl, xs, ys, rfl, rl, rr, fl, fr, by omega, fun ts ht dt => wa_nil ⟨[.str "parts", .tuple (ts.map trQ)], rfl, (by show 2 ≤ sizeLine; decide), _, .own (.da (.da (.da .nil))), by have := hq (.parts ts) ht dt; rw [wyD_parts] at this; exact this⟩⟩))))))))))
  | same el =>
    subst el
    show WSs _ _ [some (.pin v0 (ST ⟨P, w, K⟩)), some (.da (kD l)), some (.da (kD l)), some (.da (.int ((n + 1 : Nat) : Int))), some (.da (.list (strsD ws))), some (.da (.str "same"))] _
    refine no_w fx.u (xv 5) ?_
    refine no_w fx.u (xv 5) ?_
    refine no_w fx.u (xv 5) ?_
    refine no_w fx.u (xv 5) ?_
    refine xs_ifF (xt_cast (xt_or2 (k := false) (k2 := false) (xt_isW fx.u (xv 5) (by decide +kernel)) fun he => xt_isW fx.u (xv 5) (by decide +kernel)) rfl) (ws_nil ?_)
    refine no_w fx.u (xv 5) ?_
    refine no_w fx.u (xv 5) ?_
    exact ws_ret (we_tup (wa_cons ((xv 5) _ (wa_nil ⟨[.str "same"], rfl, (by show 1 ≤ sizeLine; decide), _, .own (.da (.da (.da .nil))), by have := hq (.plain .same) (.plain (.same l) (fun d e h => by cases h)) .plain; rw [wyD] at this; exact this⟩))))
  | rank e =>
    show WSs _ _ [some (.pin v0 (ST ⟨P, w, K⟩)), some (.da (kD l)), some (.da (kD r)), some (.da (.int ((n + 1 : Nat) : Int))), some (.da (.list (strsD ws))), some (.da (.str "rank"))] _
    refine no_w fx.u (xv 5) ?_
    refine no_w fx.u (xv 5) ?_
    refine no_w fx.u (xv 5) ?_
    refine no_w fx.u (xv 5) ?_
    refine xs_ifF (xt_cast (xt_or2 (k := false) (k2 := false) (xt_isW fx.u (xv 5) (by decide +kernel)) fun he => xt_isW fx.u (xv 5) (by decide +kernel)) rfl) (ws_nil ?_)
    refine no_w fx.u (xv 5) ?_
    refine no_w fx.u (xv 5) ?_
    exact ws_ret (we_tup (wa_cons ((xv 5) _ (wa_nil ⟨[.str "rank"], rfl, (by show 1 ≤ sizeLine; decide), _, .own (.da (.da (.da .nil))), by have := hq (.plain .rank) (.plain (.rank e) (fun d e h => by cases h)) .plain; rw [wyD] at this; exact this⟩))))
  | @clip lo hi lo' hi' el er =>
    subst el er
    have q1 := rl.num_le
    have q2 := rr.num_le
    show WSs _ _ [some (.pin v0 (ST ⟨P, w, K⟩)), some (.da (kD (.num lo hi))), some (.da (kD (.num lo' hi'))), some (.da (.int ((n + 1 : Nat) : Int))), some (.da (.list (strsD ws))), some (.da (.str "clip"))] _
    refine no_w fx.u (xv 5) ?_
    refine no_w fx.u (xv 5) ?_
    refine no_w fx.u (xv 5) ?_
    refine no_w fx.u (xv 5) ?_
    refine xs_ifF (xt_cast (xt_or2 (k := false) (k2 := false) (xt_isW fx.u (xv 5) (by decide +kernel)) fun he => xt_isW fx.u (xv 5) (by decide +kernel)) rfl) (ws_nil ?_)
    refine no_w fx.u (xv 5) ?_
    refine no_w fx.u (xv 5) ?_
    exact ws_ret (we_tup (wa_cons ((xv 5) _ (wa_nil ⟨[.str "clip"], rfl, (by show 1 ≤ sizeLine; decide), _, .own (.da (.da (.da .nil))), by have := hq (.plain .clip) (.plain (.clip q1 q2) (fun d e h => by cases h)) .plain; rw [wyD] at this; exact this⟩))))
end
end Law
/-! WYm: _law_part_trios. -/
namespace Law
open PySem PySem.Spec PyProof.Rows L2 TL
theorem trn_mem {α : Type} {xs : List α} {k : Nat} {x : α} : x ∈ xs.drop k ++ xs.take k ↔ x ∈ xs := by
  have h : (xs.drop k ++ xs.take k).Perm xs := by
    have := List.perm_append_comm (l₁ := xs.drop k) (l₂ := xs.take k)
    rwa [List.take_append_drop] at this
  exact h.mem_iff
theorem turn_perm {α : Type} (xs : List α) (k : Nat) : (xs.drop k ++ xs.take k).Perm xs := by
  have := List.perm_append_comm (l₁ := xs.drop k) (l₂ := xs.take k)
  rwa [List.take_append_drop] at this
theorem erase_perm {α : Type} {F : List α} {j : Nat} {x : α} (h : F[j]? = some x) : F.Perm (x :: F.eraseIdx j) := by
  obtain ⟨hj, e⟩ := List.getElem?_eq_some_iff.mp h
  rw [List.eraseIdx_eq_take_drop_succ]
  have : F = F.take j ++ x :: F.drop (j + 1) := by
    rw [← e, List.getElem_cons_drop, List.take_append_drop]
  conv => lhs; rw [this]
  exact List.perm_middle
theorem map_erase {α β : Type} (f : α → β) (F : List α) (j : Nat) : (F.map f).eraseIdx j = (F.eraseIdx j).map f := by
  rw [List.eraseIdx_eq_take_drop_succ, List.eraseIdx_eq_take_drop_succ, List.map_append, List.map_take, List.map_drop]
abbrev PT := Option Nat × Option Nat × Wy
/-- the trios made so far -/
structure PInv (n : Nat) (ps qs : List (Str × Kd)) (m : Nat) (F : List Nat) (ts : List PT) : Prop where
  one : ts.filterMap (·.1) = List.range m
  two : (F ++ ts.filterMap (·.2.1)).Perm (List.range qs.length)
  ok : ∀ t ∈ ts, Wok t.2.2 (partK (.rec_ ps) t.1) (partK (.rec_ qs) t.2.1) ∧ Wd n t.2.2
  nn : ∀ t ∈ ts, t.1 ≠ none ∨ t.2.1 ≠ none
section
variable {P : Program} {w : World} {K : PySem.W.Frag} {mg : Str → Option Value} {bs h : Heap} (X : K.In h) (G : h.Ns mainGlobals mg) (B : Blt mg)
include X G B
theorem d_partTr (D : DK K "_law_part_trios" s_l_part_trios) {n : Nat} (gD : Def P w K mg bs 2 "_law_own_draw" ["state", "many"] (spDrawO ⟨P, w, K⟩)) (gTn : Def P w K mg bs 3 "_law_turned" ["state", "trios"] (spTurn ⟨P, w, K⟩)) (gW : Def P w K mg bs (2 * n + 10) "_law_own_way" ["state", "left", "right", "deep"] (spWay ⟨P, w, K⟩ n)) : Def P w K mg bs (2 * n + 11) "_law_part_trios" ["state", "lefts", "rights", "deep"] (spPartTr ⟨P, w, K⟩ n) := by
  refine def_ok X G D sc_l_part_trios (fun f fd F => F.binds (ps := ["state", "lefts", "rights", "deep"]) fun _ _ _ _ _ _ us hl => match us, hl with | [_, _, _, _], _ => rfl) (fun as Ψ h => by obtain ⟨_, _, rfl, _⟩ := h; rfl) fun f cdv A fr s H E fx as Ψ vs hsp hl => ?_
  obtain ⟨ps, qs, rfl, rl, rr, fl, fr, h1, hq⟩ := hsp
  obtain ⟨v0, v1, v2, v3, rfl⟩ := ar4 hl
  have nd := fx.nd
  have r2 := fx.room.mono (show 2 ≤ 2 * n + 10 by omega)
  have r3 := fx.room.mono (show 3 ≤ 2 * n + 10 by omega)
  have l6 : ps.length ≤ 6 := by cases rl with | rec_ x y => exact x
  have m6 : qs.length ≤ 6 := by cases rr with | rec_ x y => exact x
  show WSs _ _ [some (.pin v0 (ST ⟨P, w, K⟩)), some (.da (.tuple (ps.map armD))), some (.da (.tuple (qs.map armD))), some (.da (.int (n : Nat))), none, none, none, none, none, none] _
  refine xs_set 4 nd (xe_listRgN B fx.calm (n := qs.length) (xe_cast (xe_len B (xv 2) (.inr rfl)) (by rw [List.length_map])) (by omega)) ?_
  refine xs_set 5 nd xe_lst0 ?_
  show WSs _ _ [some (.pin v0 (ST ⟨P, w, K⟩)), some (.da (.tuple (ps.map armD))), some (.da (.tuple (qs.map armD))), some (.da (.int (n : Nat))), some (.ll ((List.range qs.length).map fun i : Nat => PyData.int (i : Nat))), some (.ll []), none, none, none, none] _
  refine ws_forT fx (enumN ps) (fun p => .tuple [.int (p.1 : Nat), armD p.2]) (fun q : List Nat × List PT => [some (.pin v0 (ST ⟨P, w, K⟩)), some (.da (.tuple (ps.map armD))), some (.da (.tuple (qs.map armD))), some (.da (.int (n : Nat))), some (.ll (q.1.map fun i : Nat => PyData.int (i : Nat))), some (.ll (q.2.map trQ)), none, none, none, none]) (fun i q => q.2.length = i ∧ q.1.length ≤ 6 ∧ PInv n ps qs i q.1 q.2) (List.range qs.length, []) (xi_enumT (E := armD) (xs := ps) B (xv 1)) ⟨rfl, by rw [List.length_range]; exact m6, ⟨rfl, (by rw [List.filterMap_nil, List.append_nil]), (fun t ht => by cases ht), fun t ht => by cases ht⟩⟩ rfl ?_ ?_
  · rintro i ⟨i', part⟩ ⟨F, ts⟩ hp ⟨len, F6, iv⟩
    obtain ⟨e2, hn⟩ := enumN_at hp
    have e2 : i' = i := e2
    subst e2
    have hn : ps[i']? = some part := hn
    have hi := (List.getElem?_eq_some_iff.mp hn).1
    have len : ts.length = i' := len
    have F6 : F.length ≤ 6 := F6
    have iv : PInv n ps qs i' F ts := iv
    refine wg_tup fx.calm (wgs_cons (wg_name 6 nd (wgs_cons (wg_name 7 nd (wgs_nil ?_)))))
    show WSs _ _ [some (.pin v0 (ST ⟨P, w, K⟩)), some (.da (.tuple (ps.map armD))), some (.da (.tuple (qs.map armD))), some (.da (.int (n : Nat))), some (.ll (F.map fun i : Nat => PyData.int (i : Nat))), some (.ll (ts.map trQ)), some (.da (.int (i' : Nat))), some (.da (armD part)), none, none] _
    refine xs_set 8 nd xe_non ?_
    refine xs_set 9 nd (xe_castD (xe_tup2 xe_str xe_tup0) kD_noth.symm) ?_
    refine ws_meet (fun q : List Nat × Option Nat => [some (.pin v0 (ST ⟨P, w, K⟩)), some (.da (.tuple (ps.map armD))), some (.da (.tuple (qs.map armD))), some (.da (.int (n : Nat))), some (.ll (q.1.map fun i : Nat => PyData.int (i : Nat))), some (.ll (ts.map trQ)), some (.da (.int (i' : Nat))), some (.da (armD part)), some (.da (plD q.2)), some (.da (kD (partK (.rec_ qs) q.2)))]) (fun q => q.1.length ≤ 6 ∧ (∀ j, q.2 = some j → j < qs.length) ∧ (q.1 ++ (ts.filterMap (·.2.1) ++ q.2.toList)).Perm (List.range qs.length)) (fun key => wt_and2 (wt_pure (xt_gt (xe_cast (j := (F.length : Nat)) (xe_lenS 4 B) (by rw [List.length_map])) xe_int) ⟨fun h0 => wt_neI fx.u (we_drawN (n := 5) 0 gD r2 fx.gd xe_int (by decide) (by decide) fun z _ => ⟨(z : Nat), rfl, xe_int, fun _ => ?_, fun _ => ?_⟩), fun _ => ⟨fun e => (by cases e), fun _ => ?_⟩⟩)) ?_
    · have h0 : 0 < F.length := by have := of_decide_eq_true h0; omega
      refine ws_set 8 nd (we_popAt 4 (we_drawN (n := F.length) 0 gD r2 fx.gd (xe_cast (j := (F.length : Nat)) (xe_lenS 4 B) (by rw [List.length_map])) h0 (by omega) fun j hj => ⟨j, _, _, _, .int (F[j] : Nat), rfl, rfl, .ll, by rw [List.getElem?_map, List.getElem?_eq_getElem hj]; rfl, by rw [List.length_map]; omega, ?_⟩))
      have pm := erase_perm (List.getElem?_eq_getElem hj)
      have hlt : F[j] < qs.length := List.mem_range.mp (iv.two.mem_iff.mp (List.mem_append_left _ (List.getElem_mem hj)))
      rw [show (F.map fun i : Nat => PyData.int (i : Nat)).eraseIdx j = (F.eraseIdx j).map fun i : Nat => PyData.int (i : Nat) from map_erase _ F j]
      refine xs_set 9 nd (xe_castD (ix1 (xe_ix (xv 2) (xv 8) (.inr rfl) (atI_n (by rw [List.getElem?_map, List.getElem?_eq_getElem hlt]; rfl)))) (by rw [partK_at (List.getElem?_eq_getElem hlt)])) (ws_nil (key (F.eraseIdx j, some F[j]) ⟨?_, fun j' e => ?_, ?_⟩))
      · exact Nat.le_trans (List.length_eraseIdx_le ..) F6
      · rw [← Option.some.inj e]
        exact hlt
      · show (F.eraseIdx j ++ (ts.filterMap (·.2.1) ++ [F[j]])).Perm _
        refine List.Perm.trans ?_ iv.two
        refine List.Perm.trans ?_ (List.Perm.append_right _ pm.symm)
        rw [← List.append_assoc]
        exact List.perm_append_comm
    · exact ws_nil (key (F, none) ⟨F6, fun j e => (by cases e), by rw [Option.toList_none, List.append_nil]; exact iv.two⟩)
    · exact ws_nil (key (F, none) ⟨F6, fun j e => (by cases e), by rw [Option.toList_none, List.append_nil]; exact iv.two⟩)
    rintro ⟨F', pl⟩ ⟨F6', pb, pp⟩
    have F6' : F'.length ≤ 6 := F6'
    show WSs _ _ [some (.pin v0 (ST ⟨P, w, K⟩)), some (.da (.tuple (ps.map armD))), some (.da (.tuple (qs.map armD))), some (.da (.int (n : Nat))), some (.ll (F'.map fun i : Nat => PyData.int (i : Nat))), some (.ll (ts.map trQ)), some (.da (.int (i' : Nat))), some (.da (armD part)), some (.da (plD pl)), some (.da (kD (partK (.rec_ qs) pl)))] _
    have rp := rl.part_in (some i')
    rw [partK_at hn] at rp
    have rq := rr.part_in pl
    have sp := sz_part rl (some i')
    rw [partK_at hn] at sp
    have sq := sz_part rr pl
    refine ws_expr (we_append 5 (we_tup (wa_cons ((xv 6) _ (wa_cons ((xv 8) _ (wa_cons (we_fnR gW fx.room fx.gd (wr_ref 0 (wr_da (ix1 (xv 7)) (wr_da (xv 9) (wr_da (xv 3) (wr_nil ⟨_, _, rfl, part.2, partK (.rec_ qs) pl, rfl, rp, rq, Nat.le_trans sp fl, Nat.le_trans sq fr, h1, fun y hy dy => wa_nil ⟨[.int (i' : Nat), plD pl, wyD y], rfl, (by show 3 ≤ sizeLine; decide), _, _, _, _, rfl, rfl, .ll, few4 (by rw [List.length_map]; omega), ?_⟩⟩)))))))))))))
    refine ws_drop 6 (ws_drop 7 (ws_drop 8 (ws_drop 9 (ws_nil ⟨(F', ts ++ [(some i', pl, y)]), ⟨by show (ts ++ [_]).length = _; rw [List.length_append, len]; rfl, F6', ⟨?_, ?_, ?_, fun t ht => by rcases List.mem_append.mp ht with ht | ht; exact iv.nn t ht; rw [List.mem_singleton.mp ht]; exact .inl (by simp)⟩⟩, by rw [List.map_append]; rfl⟩))))
    · rw [List.filterMap_append, iv.one, List.range_succ]
      rfl
    · have e : (ts ++ [((some i', pl, y) : PT)]).filterMap (·.2.1) = ts.filterMap (·.2.1) ++ pl.toList := by
        rw [List.filterMap_append]
        cases pl <;> rfl
      show (F' ++ (ts ++ [((some i', pl, y) : PT)]).filterMap (·.2.1)).Perm _
      rw [e]
      exact pp
    · intro t ht
      rcases List.mem_append.mp ht with ht | ht
      · exact iv.ok t ht
      · rw [List.mem_singleton.mp ht]
        refine ⟨?_, dy⟩
        show Wok y (partK (.rec_ ps) (some i')) (partK (.rec_ qs) pl)
        rw [partK_at hn]
        exact hy
  rintro ⟨F, ts⟩ ⟨len, F6, iv⟩
  rw [enumN_len] at len iv
  have len : ts.length = ps.length := len
  have F6 : F.length ≤ 6 := F6
  have iv : PInv n ps qs ps.length F ts := iv
  refine ws_frz 4 .ll ?_
  show WSs _ _ [some (.pin v0 (ST ⟨P, w, K⟩)), some (.da (.tuple (ps.map armD))), some (.da (.tuple (qs.map armD))), some (.da (.int (n : Nat))), some (.da (.list (F.map fun i : Nat => PyData.int (i : Nat)))), some (.ll (ts.map trQ)), none, none, none, none] _
  refine ws_forT fx F (fun (i : Nat) => .int (i : Nat)) (fun us : List PT => [some (.pin v0 (ST ⟨P, w, K⟩)), some (.da (.tuple (ps.map armD))), some (.da (.tuple (qs.map armD))), some (.da (.int (n : Nat))), some (.da (.list (F.map fun i : Nat => PyData.int (i : Nat)))), some (.ll (us.map trQ)), none, none, none, none]) (fun i us => us.length = ps.length + i ∧ PInv n ps qs ps.length (F.drop i) us) ts (xi_lst (xv 4)) ⟨len, iv⟩ rfl ?_ ?_
  · rintro i j us hj ⟨ul, iu⟩
    have hi := (List.getElem?_eq_some_iff.mp hj).1
    have ed : F.drop i = j :: F.drop (i + 1) := by
      rw [List.drop_eq_getElem_cons hi]
      rw [List.getElem?_eq_getElem hi] at hj
      rw [Option.some.inj hj]
    have hlt : j < qs.length := List.mem_range.mp (iu.two.mem_iff.mp (List.mem_append_left _ (by rw [ed]; exact List.mem_cons_self)))
    have hqj := List.getElem?_eq_getElem hlt
    have rq := rr.part_in (some j)
    rw [partK_at hqj] at rq
    have sq := sz_part rr (some j)
    rw [partK_at hqj] at sq
    refine wg_name 8 nd ?_
    refine ws_expr (we_append 5 (we_tup (wa_cons (xe_non _ (wa_cons ((xv 8) _ (wa_cons (we_fnR gW fx.room fx.gd (wr_ref 0 (wr_da (xe_castD (xe_tup2 xe_str xe_tup0) kD_noth.symm) (wr_da (ix1 (xe_ix (xv 2) (xv 8) (.inr rfl) (atI_n (by rw [List.getElem?_map, hqj]; rfl)))) (wr_da (xv 3) (wr_nil ⟨_, _, rfl, nothK, qs[j].2, rfl, rl.part_in none, rq, (by rw [sz_noth]; decide), Nat.le_trans sq fr, h1, fun y hy dy => wa_nil ⟨[.none, .int (j : Nat), wyD y], rfl, (by show 3 ≤ sizeLine; decide), _, _, _, _, rfl, rfl, .ll, few4 (by rw [List.length_map]; omega), ?_⟩⟩)))))))))))))
    refine ws_drop 8 (ws_nil ⟨us ++ [(none, some j, y)], ⟨by rw [List.length_append, ul]; rfl, ⟨?_, ?_, ?_, fun t ht => by rcases List.mem_append.mp ht with ht | ht; exact iu.nn t ht; rw [List.mem_singleton.mp ht]; exact .inr (by simp)⟩⟩, by rw [List.map_append]; rfl⟩)
    · rw [List.filterMap_append, iu.one]
      exact List.append_nil _
    · have e : (us ++ [((none, some j, y) : PT)]).filterMap (·.2.1) = us.filterMap (·.2.1) ++ [j] := by
        rw [List.filterMap_append]
        rfl
      rw [e]
      have h2 := iu.two
      rw [ed] at h2
      refine List.Perm.trans ?_ h2
      rw [← List.append_assoc]
      exact List.perm_append_comm
    · intro t ht
      rcases List.mem_append.mp ht with ht | ht
      · exact iu.ok t ht
      · rw [List.mem_singleton.mp ht]
        refine ⟨?_, dy⟩
        show Wok y (partK (.rec_ ps) none) (partK (.rec_ qs) (some j))
        rw [partK_at hqj]
        exact hy
  · rintro us ⟨ul, iu⟩
    rw [List.drop_length] at iu
    refine ws_frz 5 .ll ?_
    refine ws_ret (we_fnR gTn r3 fx.gd (wr_ref 0 (wr_da (xv 5) (wr_nil ⟨_, _, rfl, us.map trQ, rfl, by rw [List.length_map]; omega, fun k => ⟨_, .own (.da (.da (.da .nil))), ?_⟩⟩))))
    rw [← List.map_drop, ← List.map_take, ← List.map_append]
    refine hq (us.drop k ++ us.take k) (.parts (fun t ht => (iu.ok t (trn_mem.mp ht)).1) ?_ ?_) (.parts (fun t ht => (iu.ok t (trn_mem.mp ht)).2) ⟨?_, fun t ht => iu.nn t (trn_mem.mp ht)⟩)
    · exact ((turn_perm us k).filterMap _).trans (by rw [iu.one])
    · exact ((turn_perm us k).filterMap _).trans iu.two
    · rw [(turn_perm us k).length_eq]
      omega
end
end Law
/-! WYn: _law_arm_trios. -/
namespace Law
open PySem PySem.Spec PyProof.Rows L2 TL
theorem nd_ofMap {α β : Type} {f : α → β} : ∀ {l : List α}, (l.map f).Nodup → l.Nodup
  | [], _ => .nil
  | a :: l, h => by
    rw [List.map_cons] at h
    obtain ⟨n1, n2⟩ := List.nodup_cons.mp h
    exact List.nodup_cons.mpr ⟨fun hm => n1 (List.mem_map_of_mem hm), nd_ofMap n2⟩
abbrev pq (q : Nat × Nat) : PyData := .tuple [.int (q.1 : Nat), .int (q.2 : Nat)]
theorem pq_eqv (a b : Nat × Nat) : PyData.eqv (pq a) (pq b) = decide (a = b) := by
  rw [Bool.eq_iff_iff, eqv_tup, eqvAll_c, eqvAll_c, eqv_int, eqv_int, decide_eq_true_eq, Bool.and_eq_true, Bool.and_eq_true, decide_eq_true_eq, decide_eq_true_eq]
  constructor
  · rintro ⟨h1, h2, _⟩
    exact Prod.ext (by omega) (by omega)
  · rintro rfl
    exact ⟨rfl, rfl, rfl⟩
theorem pq_plain : ∀ P : List (Nat × Nat), PyData.plainAll (P.map pq) = true
  | [] => rfl
  | q :: P => by simp [PyData.plainAll, PyData.plain, pq_plain P]
theorem nd_mapOn {α β : Type} {f : α → β} : ∀ {l : List α}, (∀ a ∈ l, ∀ b ∈ l, f a = f b → a = b) → l.Nodup → (l.map f).Nodup
  | [], _, _ => .nil
  | a :: l, h, nd => by
    obtain ⟨n1, n2⟩ := List.nodup_cons.mp nd
    rw [List.map_cons]
    refine List.nodup_cons.mpr ⟨fun hm => ?_, nd_mapOn (fun a ha b hb => h a (List.mem_cons_of_mem _ ha) b (List.mem_cons_of_mem _ hb)) n2⟩
    obtain ⟨b, hb, e⟩ := List.mem_map.mp hm
    have := h b (List.mem_cons_of_mem _ hb) a List.mem_cons_self e
    subst this
    exact n1 hb
theorem nd_snoc {α : Type} {l : List α} {x : α} (nd : l.Nodup) (h : x ∉ l) : (l ++ [x]).Nodup := List.nodup_append.mpr ⟨nd, List.nodup_cons.mpr ⟨List.not_mem_nil, .nil⟩, fun a ha b hb e => h (by
  rw [← List.mem_singleton.mp hb, ← e]
  exact ha)⟩
theorem nats_any {m : List Nat} {j : Nat} : (m.map fun i : Nat => PyData.int (i : Nat)).any (fun z => PyData.eqv z (.int (j : Nat))) = decide (j ∈ m) := by
  rw [Bool.eq_iff_iff, List.any_map, List.any_eq_true, decide_eq_true_eq]
  constructor
  · rintro ⟨i, hi, e⟩
    have e : PyData.eqv (.int (i : Nat)) (.int (j : Nat)) = true := e
    rw [eqv_int, decide_eq_true_eq] at e
    have : i = j := by omega
    rwa [← this]
  · intro h
    exact ⟨j, h, by show PyData.eqv (.int (j : Nat)) (.int (j : Nat)) = true; rw [eqv_int]; exact decide_eq_true rfl⟩
/-- the pairs drawn: every arm is met -/
structure PP (m n : Nat) (P : List (Nat × Nat)) : Prop where
  bd : ∀ q ∈ P, q.1 < m ∧ q.2 < n
  nd : P.Nodup
  lf : ∀ i, i < m → ∃ q ∈ P, q.1 = i
  rt : ∀ j, j < n → ∃ q ∈ P, q.2 = j
/-- the second half of them -/
structure P2 (m i : Nat) (met : List Nat) (bs : List (Nat × Nat)) : Prop where
  bd : ∀ q ∈ bs, q.1 < m ∧ q.2 < i ∧ q.2 ∉ met
  len : bs.length ≤ i
  nd : bs.Nodup
  all : ∀ j, j < i → j ∉ met → ∃ q ∈ bs, q.2 = j
def nmOf (xs ys : List (Str × Kd)) (q : Nat × Nat) : Str × Str := ((xs.getD q.1 ("", nothK)).1, (ys.getD q.2 ("", nothK)).1)
structure AI (n : Nat) (xs ys : List (Str × Kd)) (P : List (Nat × Nat)) (ts : List (Str × Str × Wy)) : Prop where
  nm : ts.map (fun t => (t.1, t.2.1)) = P.map (nmOf xs ys)
  ok : ∀ t ∈ ts, Wok t.2.2 (armL xs t.1) (armL ys t.2.1) ∧ Wd n t.2.2
theorem getD_of {xs : List (Str × Kd)} {i : Nat} (h : i < xs.length) : xs.getD i ("", nothK) = xs[i] := by
  rw [List.getD_eq_getElem?_getD, List.getElem?_eq_getElem h]
  rfl
theorem nd_idx {xs : List (Str × Kd)} (nd : (xs.map (·.1)).Nodup) {i j : Nat} (hi : i < xs.length) (hj : j < xs.length) (e : xs[i].1 = xs[j].1) : i = j := by
  have h1 : (xs.map (·.1))[i]'(by rw [List.length_map]; exact hi) = (xs.map (·.1))[j]'(by rw [List.length_map]; exact hj) := by rw [List.getElem_map, List.getElem_map]; exact e
  exact (List.getElem_inj nd).mp h1
/-- the trios fit -/
theorem ai_wok {n k : Nat} {xs ys : List (Str × Kd)} {P : List (Nat × Nat)} {ts : List (Str × Str × Wy)} (rl : Rt k (.one xs)) (rr : Rt k (.one ys)) (pp : PP xs.length ys.length P) (ai : AI n xs ys P ts) (hz : P.length ≤ 20) (c : Nat) : Wok (.arms (ts.drop c ++ ts.take c)) (.one xs) (.one ys) ∧ Wd (n + 1) (.arms (ts.drop c ++ ts.take c)) := by
  have ndl := rl.one_nd
  have ndr := rr.one_nd
  have hn : ∀ t ∈ ts, ∃ q ∈ P, nmOf xs ys q = (t.1, t.2.1) := fun t ht => by
    have : (t.1, t.2.1) ∈ ts.map (fun t => (t.1, t.2.1)) := List.mem_map.mpr ⟨t, ht, rfl⟩
    rw [ai.nm] at this
    obtain ⟨q, hq, e⟩ := List.mem_map.mp this
    exact ⟨q, hq, e⟩
  have back : ∀ q ∈ P, ∃ t ∈ ts, (t.1, t.2.1) = nmOf xs ys q := fun q hq => by
    have : nmOf xs ys q ∈ P.map (nmOf xs ys) := List.mem_map_of_mem hq
    rw [← ai.nm] at this
    obtain ⟨t, ht, e⟩ := List.mem_map.mp this
    exact ⟨t, ht, e⟩
  have len : ts.length = P.length := by
    have := congrArg List.length ai.nm
    rwa [List.length_map, List.length_map] at this
  refine ⟨.arms (fun t ht => (ai.ok t (trn_mem.mp ht)).1) (fun t ht => ?_) (fun s hs => ?_) (fun s hs => ?_) ?_, .arms (fun t ht => (ai.ok t (trn_mem.mp ht)).2) (by rw [(turn_perm ts c).length_eq, len]; omega)⟩
  · obtain ⟨q, hq, e⟩ := hn t (trn_mem.mp ht)
    obtain ⟨b1, b2⟩ := pp.bd q hq
    rw [nmOf, getD_of b1, getD_of b2] at e
    injection e with e1 e2
    exact ⟨by rw [← e1]; exact List.mem_map_of_mem (List.getElem_mem b1), by rw [← e2]; exact List.mem_map_of_mem (List.getElem_mem b2)⟩
  · obtain ⟨p, hp, rfl⟩ := List.mem_map.mp hs
    obtain ⟨i, hi, rfl⟩ := List.getElem_of_mem hp
    obtain ⟨q, hq, rfl⟩ := pp.lf i hi
    obtain ⟨t, ht, e⟩ := back q hq
    rw [nmOf, getD_of hi] at e
    injection e with e1 e2
    exact ⟨t, trn_mem.mpr ht, e1⟩
  · obtain ⟨p, hp, rfl⟩ := List.mem_map.mp hs
    obtain ⟨i, hi, rfl⟩ := List.getElem_of_mem hp
    obtain ⟨q, hq, rfl⟩ := pp.rt i hi
    obtain ⟨t, ht, e⟩ := back q hq
    rw [nmOf, getD_of hi] at e
    injection e with e1 e2
    exact ⟨t, trn_mem.mpr ht, e2⟩
  · have h1 : (ts.map fun t => (t.1, t.2.1)).Nodup := by
      rw [ai.nm]
      refine nd_mapOn (fun a ha b hb e => ?_) pp.nd
      obtain ⟨a1, a2⟩ := pp.bd a ha
      obtain ⟨b1, b2⟩ := pp.bd b hb
      rw [nmOf, nmOf, getD_of a1, getD_of a2, getD_of b1, getD_of b2] at e
      injection e with e1 e2
      exact Prod.ext (nd_idx ndl a1 b1 e1) (nd_idx ndr a2 b2 e2)
    exact (((turn_perm ts c).map _).nodup_iff).mpr h1
section
variable {P : Program} {w : World} {K : PySem.W.Frag} {mg : Str → Option Value} {bs h : Heap} (X : K.In h) (G : h.Ns mainGlobals mg) (B : Blt mg)
include X G B
theorem d_armTr (D : DK K "_law_arm_trios" s_l_arm_trios) {n : Nat} (gD : Def P w K mg bs 2 "_law_own_draw" ["state", "many"] (spDrawO ⟨P, w, K⟩)) (gTn : Def P w K mg bs 3 "_law_turned" ["state", "trios"] (spTurn ⟨P, w, K⟩)) (gW : Def P w K mg bs (2 * n + 10) "_law_own_way" ["state", "left", "right", "deep"] (spWay ⟨P, w, K⟩ n)) : Def P w K mg bs (2 * n + 11) "_law_arm_trios" ["state", "lefts", "rights", "deep"] (spArmTr ⟨P, w, K⟩ n) := by
  refine def_ok X G D sc_l_arm_trios (fun f fd F => F.binds (ps := ["state", "lefts", "rights", "deep"]) fun _ _ _ _ _ _ us hl => match us, hl with | [_, _, _, _], _ => rfl) (fun as Ψ h => by obtain ⟨_, _, rfl, _⟩ := h; rfl) fun f cdv A fr s H E fx as Ψ vs hsp hl => ?_
  obtain ⟨xs, ys, rfl, rl, rr, fl, fr, h1, hq⟩ := hsp
  obtain ⟨v0, v1, v2, v3, rfl⟩ := ar4 hl
  have nd := fx.nd
  have r2 := fx.room.mono (show 2 ≤ 2 * n + 10 by omega)
  have r3 := fx.room.mono (show 3 ≤ 2 * n + 10 by omega)
  obtain ⟨p1, l6⟩ : 0 < xs.length ∧ xs.length ≤ 6 := by cases rl with | one q _ _ _ => exact q
  obtain ⟨p2, m6⟩ : 0 < ys.length ∧ ys.length ≤ 6 := by cases rr with | one q _ _ _ => exact q
  show WSs _ _ [some (.pin v0 (ST ⟨P, w, K⟩)), some (.da (.tuple (xs.map armD))), some (.da (.tuple (ys.map armD))), some (.da (.int (n : Nat))), none, none, none, none, none, none, none, none] _
  refine ws_setLcA [("k", 11)] (fun (i : Nat) Γ => Γ.set 11 (some (.da (.int (i : Nat))))) (List.range xs.length) (fun (i : Nat) => .int (i : Nat)) pq (fun _ i q => q.1 = i ∧ q.2 < ys.length) 4 fx (xi_rangeN B (xe_cast (j := (xs.length : Nat)) (xe_len B (xv 1) (.inr rfl)) (by rw [List.length_map])) (by omega)) (by rw [List.length_range]; exact few4 (by omega)) (fun i hi s H C cl fp => gc_name 11 nd rfl) (fun i x hx s H C cl fp => we_tup (wa_cons ((xv 11) _ (wa_cons (we_drawN (n := ys.length) 0 gD (fx.blk.room.mono (show 2 ≤ 2 * n + 10 by omega)) fx.blk.gd (xe_cast (j := (ys.length : Nat)) (xe_len B (xv 2) (.inr rfl)) (by rw [List.length_map])) p2 (by omega) fun j hj => wa_nil ⟨[.int (x : Nat), .int (j : Nat)], rfl, (by show 2 ≤ sizeLine; decide), (x, j), .da, ⟨(by
    have := hx
    rfl), hj⟩, rfl⟩))))) fun P0 hl0 hp0 => ?_
  rw [List.length_range] at hl0
  have b0 : ∀ q ∈ P0, q.1 < xs.length ∧ q.2 < ys.length := fun q hq => by
    obtain ⟨i, hi, rfl⟩ := List.getElem_of_mem hq
    obtain ⟨e1, e2⟩ := hp0 i i _ (by rw [List.getElem?_range (by omega)]) (List.getElem?_eq_getElem hi)
    exact ⟨by omega, e2⟩
  have n0 : P0.Nodup := by
    refine nd_ofMap (f := (·.1)) ?_
    have e : P0.map (·.1) = List.range xs.length := by
      refine List.ext_getElem (by rw [List.length_map, List.length_range]; exact hl0) fun i h1 h2 => ?_
      rw [List.length_range] at h2
      rw [List.getElem_map, List.getElem_range]
      exact (hp0 i i _ (by rw [List.getElem?_range (by omega)]) (List.getElem?_eq_getElem (by omega))).1
    rw [e]
    exact List.nodup_range
  show WSs _ _ [some (.pin v0 (ST ⟨P, w, K⟩)), some (.da (.tuple (xs.map armD))), some (.da (.tuple (ys.map armD))), some (.da (.int (n : Nat))), some (.ll (P0.map pq)), none, none, none, none, none, none, none] _
  refine ws_set 5 nd (we_lcL 4 (P0.map pq) [("pair", 7)] (fun i Γ2 acc => Γ2 = [some (.pin v0 (ST ⟨P, w, K⟩)), some (.da (.tuple (xs.map armD))), some (.da (.tuple (ys.map armD))), some (.da (.int (n : Nat))), some (.ll (P0.map pq)), none, none, none, none, none, none, none] ∧ acc = (P0.take i).map fun q => PyData.int (q.2 : Nat)) fx.calm nd (fun i Γ2 acc h => by rw [h.1]; rfl) (by rw [List.length_map]; exact few4 (by omega)) ⟨rfl, rfl⟩ ?_ ?_)
  · rintro i d _ _ hd ⟨rfl, rfl⟩
    rw [List.getElem?_map] at hd
    obtain ⟨q, hq0, rfl⟩ := Option.map_eq_some_iff.mp hd
    refine ⟨[some (.pin v0 (ST ⟨P, w, K⟩)), some (.da (.tuple (xs.map armD))), some (.da (.tuple (ys.map armD))), some (.da (.int (n : Nat))), some (.ll (P0.map pq)), none, none, some (.da (pq q)), none, none, none, none], fun s H C cl fp => gc_name 7 nd rfl, fun k Γ4 => k = true ∧ Γ4 = [some (.pin v0 (ST ⟨P, w, K⟩)), some (.da (.tuple (xs.map armD))), some (.da (.tuple (ys.map armD))), some (.da (.int (n : Nat))), some (.ll (P0.map pq)), none, none, some (.da (pq q)), none, none, none, none], fun s H C cl fp => wts_nil ⟨rfl, rfl⟩, ?_⟩
    rintro k Γ4 ⟨rfl, rfl⟩
    refine ⟨fun _ s H C cl fp => (ix1 (xv 7)) _ ⟨.int (q.2 : Nat), .da, rfl, ?_⟩, fun e => by cases e⟩
    rw [List.take_add_one, hq0, List.map_append]
    rfl
  rintro _ _ ⟨rfl, rfl⟩
  rw [List.length_map, List.take_length]
  have em : (P0.map fun q => PyData.int (q.2 : Nat)) = (P0.map (·.2)).map fun i : Nat => PyData.int (i : Nat) := by rw [List.map_map]; rfl
  rw [em]
  generalize hmet : P0.map (·.2) = met
  refine ws_frz 5 .ll ?_
  show WSs _ _ [some (.pin v0 (ST ⟨P, w, K⟩)), some (.da (.tuple (xs.map armD))), some (.da (.tuple (ys.map armD))), some (.da (.int (n : Nat))), some (.ll (P0.map pq)), some (.da (.list (met.map fun i : Nat => PyData.int (i : Nat)))), none, none, none, none, none, none] _
  refine ws_expr (we_extend 4 (we_lcFI [("k", 11)] (fun (i : Nat) Γ => Γ.set 11 (some (.da (.int (i : Nat))))) (List.range ys.length) (fun (i : Nat) => .int (i : Nat)) pq (fun i => !decide (i ∈ met)) (fun i bs => P2 xs.length i met bs) fx (xi_rangeN B (xe_cast (j := (ys.length : Nat)) (xe_len B (xv 2) (.inr rfl)) (by rw [List.length_map])) (by omega)) (by rw [List.length_range]; exact few4 (by omega)) ⟨fun q hq => (by cases hq), Nat.le_refl _, .nil, fun j hj => absurd hj (Nat.not_lt_zero _)⟩ (fun i hi s H C cl fp => gc_name 11 nd rfl) (fun i hi s H C cl fp => ?_) (fun i x bs hx hp iv => ?_) (fun i x bs hx hp iv s H C cl fp => ?_) fun bs iv => ⟨_, _, _, _, rfl, rfl, .ll, few4 (by
    have := iv.len
    rw [List.length_range] at this
    rw [List.length_map, List.length_map]
    omega), ?_⟩))
  · refine xt_cast (j := !(met.map fun i : Nat => PyData.int (i : Nat)).any fun z => PyData.eqv z (.int (i : Nat))) ?_ (by rw [nats_any])
    exact xt_notInS 5 (d := .int (i : Nat)) (ds := met.map fun i : Nat => PyData.int (i : Nat)) fx.blk.u70 (xv 11) rfl plain_ilist (by simp [PyData.depth])
  · obtain ⟨hx0, rfl⟩ : i < ys.length ∧ x = i := by
      have h := (List.getElem?_eq_some_iff.mp hx).1
      rw [List.length_range] at h
      rw [List.getElem?_range h] at hx
      exact ⟨h, (Option.some.inj hx).symm⟩
    have hm : x ∈ met := by simpa using hp
    exact ⟨fun q hq => ⟨(iv.bd q hq).1, by have := (iv.bd q hq).2.1; omega, (iv.bd q hq).2.2⟩, by have := iv.len; omega, iv.nd, fun j hj hn => iv.all j (by
      rcases Nat.lt_or_ge j x with h | h
      · exact h
      · have : j = x := by omega
        rw [this] at hn
        exact absurd hm hn) hn⟩
  · obtain ⟨hx0, rfl⟩ : i < ys.length ∧ x = i := by
      have h := (List.getElem?_eq_some_iff.mp hx).1
      rw [List.length_range] at h
      rw [List.getElem?_range h] at hx
      exact ⟨h, (Option.some.inj hx).symm⟩
    have hm : x ∉ met := by simpa using hp
    refine we_tup (wa_cons (we_drawN (n := xs.length) 0 gD (fx.blk.room.mono (show 2 ≤ 2 * n + 10 by omega)) fx.blk.gd (xe_cast (j := (xs.length : Nat)) (xe_len B (xv 1) (.inr rfl)) (by rw [List.length_map])) p1 (by omega) fun j hj => wa_cons ((xv 11) _ (wa_nil ⟨[.int (j : Nat), .int (x : Nat)], rfl, (by show 2 ≤ sizeLine; decide), (j, x), .da, ?_, rfl⟩))))
    refine ⟨fun q hq => ?_, by rw [List.length_append]; have := iv.len; show bs.length + 1 ≤ _; omega, ?_, fun k hk hn => ?_⟩
    · rcases List.mem_append.mp hq with hq | hq
      · exact ⟨(iv.bd q hq).1, by have := (iv.bd q hq).2.1; omega, (iv.bd q hq).2.2⟩
      · rw [List.mem_singleton.mp hq]
        exact ⟨hj, Nat.lt_succ_self _, hm⟩
    · refine nd_snoc iv.nd fun hq => ?_
      have := (iv.bd _ hq).2.1
      exact absurd this (Nat.lt_irrefl _)
    · rcases Nat.lt_or_ge k x with h | h
      · obtain ⟨q, hq, e⟩ := iv.all k h hn
        exact ⟨q, List.mem_append_left _ hq, e⟩
      · exact ⟨(j, x), List.mem_append_right _ List.mem_cons_self, by show x = k; omega⟩
  rw [List.length_range] at iv
  rw [← List.map_append]
  have len1 : (P0 ++ bs).length ≤ 12 := by rw [List.length_append]; have := iv.len; omega
  have pp1 : PP xs.length ys.length (P0 ++ bs) := by
    refine ⟨fun q hq => ?_, ?_, fun i hi => ?_, fun j hj => ?_⟩
    · rcases List.mem_append.mp hq with hq | hq
      · exact b0 q hq
      · exact ⟨(iv.bd q hq).1, (iv.bd q hq).2.1⟩
    · refine List.nodup_append.mpr ⟨n0, iv.nd, fun a ha b hb e => ?_⟩
      subst e
      refine (iv.bd a hb).2.2 ?_
      rw [← hmet]
      exact List.mem_map_of_mem ha
    · have hi0 : i < P0.length := by omega
      exact ⟨P0[i], List.mem_append_left _ (List.getElem_mem hi0), (hp0 i i _ (by rw [List.getElem?_range hi]) (List.getElem?_eq_getElem hi0)).1⟩
    · by_cases hm : j ∈ met
      · rw [← hmet] at hm
        obtain ⟨q, hq, e⟩ := List.mem_map.mp hm
        exact ⟨q, List.mem_append_left _ hq, e⟩
      · obtain ⟨q, hq, e⟩ := iv.all j hj hm
        exact ⟨q, List.mem_append_right _ hq, e⟩
  generalize P0 ++ bs = P1 at len1 pp1 ⊢
  show WSs _ _ [some (.pin v0 (ST ⟨P, w, K⟩)), some (.da (.tuple (xs.map armD))), some (.da (.tuple (ys.map armD))), some (.da (.int (n : Nat))), some (.ll (P1.map pq)), some (.da (.list (met.map fun i : Nat => PyData.int (i : Nat)))), none, none, none, none, none, none] _
  refine ws_forW fx (fun (i : Nat) => .int i) (fun zs : List Nat => zs.length ≤ 3) (fun Q : List (Nat × Nat) => [some (.pin v0 (ST ⟨P, w, K⟩)), some (.da (.tuple (xs.map armD))), some (.da (.tuple (ys.map armD))), some (.da (.int (n : Nat))), some (.ll (Q.map pq)), some (.da (.list (met.map fun i : Nat => PyData.int (i : Nat)))), none, none, none, none, none, none]) (fun zs i Q => PP xs.length ys.length Q ∧ Q.length ≤ 12 + i) (wi_rangeN B (we_drawN (n := 3) 0 gD r2 fx.gd xe_int (by decide) (by omega) fun z hz => ⟨z, rfl, by omega, List.range z, P1, by rw [List.length_range]; omega, rfl, ⟨pp1, len1⟩, rfl⟩)) ?_ ?_
  · rintro zs i z Q hz hx ⟨pp, lq⟩
    have hi := (List.getElem?_eq_some_iff.mp hx).1
    refine wg_name 6 nd ?_
    refine ws_set 7 nd (we_tup (wa_cons (we_drawN (n := xs.length) 0 gD r2 fx.gd (xe_cast (j := (xs.length : Nat)) (xe_len B (xv 1) (.inr rfl)) (by rw [List.length_map])) p1 (by omega) fun a ha => wa_cons (we_drawN (n := ys.length) 0 gD r2 fx.gd (xe_cast (j := (ys.length : Nat)) (xe_len B (xv 2) (.inr rfl)) (by rw [List.length_map])) p2 (by omega) fun b hb => wa_nil ⟨[.int (a : Nat), .int (b : Nat)], rfl, (by show 2 ≤ sizeLine; decide), ?_⟩))))
    show WSs _ _ [some (.pin v0 (ST ⟨P, w, K⟩)), some (.da (.tuple (xs.map armD))), some (.da (.tuple (ys.map armD))), some (.da (.int (n : Nat))), some (.ll (Q.map pq)), some (.da (.list (met.map fun i : Nat => PyData.int (i : Nat)))), some (.da (.int (z : Nat))), some (.da (pq (a, b))), none, none, none, none] _
    refine xs_if (xt_notInS 4 fx.u70 (xv 7) rfl (pq_plain Q) (by simp [PyData.depth, PyData.depthAll])) (fun hc => ?_) fun _ => ws_nil (ws_drop 6 (ws_drop 7 (ws_nil ⟨Q, ⟨pp, by omega⟩, rfl⟩)))
    refine ws_expr (we_append 4 (we_pure (xv 7) ⟨_, _, _, _, rfl, rfl, .ll, few4 (by rw [List.length_map]; omega), ?_⟩))
    have hno : (a, b) ∉ Q := fun hq => by
      rw [Bool.not_eq_true', List.any_eq_false] at hc
      exact hc (pq (a, b)) (List.mem_map_of_mem hq) (by rw [pq_eqv]; exact decide_eq_true rfl)
    refine ws_nil (ws_drop 6 (ws_drop 7 (ws_nil ⟨Q ++ [(a, b)], ⟨⟨fun q hq => ?_, nd_snoc pp.nd hno, fun i hi => ?_, fun j hj => ?_⟩, by rw [List.length_append]; show Q.length + 1 ≤ _; omega⟩, by rw [List.map_append]; rfl⟩)))
    · rcases List.mem_append.mp hq with hq | hq
      · exact pp.bd q hq
      · rw [List.mem_singleton.mp hq]
        exact ⟨ha, hb⟩
    · obtain ⟨q, hq, e⟩ := pp.lf i hi
      exact ⟨q, List.mem_append_left _ hq, e⟩
    · obtain ⟨q, hq, e⟩ := pp.rt j hj
      exact ⟨q, List.mem_append_left _ hq, e⟩
  rintro zs P2 hz ⟨pp, lq⟩
  refine xs_set 8 nd xe_lst0 ?_
  refine ws_frz 4 .ll ?_
  show WSs _ _ [some (.pin v0 (ST ⟨P, w, K⟩)), some (.da (.tuple (xs.map armD))), some (.da (.tuple (ys.map armD))), some (.da (.int (n : Nat))), some (.da (.list (P2.map pq))), some (.da (.list (met.map fun i : Nat => PyData.int (i : Nat)))), none, none, some (.ll []), none, none, none] _
  refine ws_forT fx P2 pq (fun ts : List (Str × Str × Wy) => [some (.pin v0 (ST ⟨P, w, K⟩)), some (.da (.tuple (xs.map armD))), some (.da (.tuple (ys.map armD))), some (.da (.int (n : Nat))), some (.da (.list (P2.map pq))), some (.da (.list (met.map fun i : Nat => PyData.int (i : Nat)))), none, none, some (.ll (ts.map trA)), none, none, none]) (fun i ts => ts.length = i ∧ AI n xs ys (P2.take i) ts) [] (xi_lst (xv 4)) ⟨rfl, ⟨rfl, fun t ht => by cases ht⟩⟩ rfl ?_ ?_
  · rintro i ⟨a, b⟩ ts hx ⟨len, ai⟩
    have hi := (List.getElem?_eq_some_iff.mp hx).1
    obtain ⟨ha, hb⟩ := pp.bd _ (List.mem_of_getElem? hx)
    have ha : a < xs.length := ha
    have hb : b < ys.length := hb
    refine wg_name 7 nd ?_
    refine xs_set 9 nd (xe_ix (xv 1) (ix0 (xv 7)) (.inr rfl) (atI_n (by rw [List.getElem?_map, List.getElem?_eq_getElem ha]; rfl))) ?_
    refine xs_set 10 nd (xe_ix (xv 2) (ix1 (xv 7)) (.inr rfl) (atI_n (by rw [List.getElem?_map, List.getElem?_eq_getElem hb]; rfl))) ?_
    show WSs _ _ [some (.pin v0 (ST ⟨P, w, K⟩)), some (.da (.tuple (xs.map armD))), some (.da (.tuple (ys.map armD))), some (.da (.int (n : Nat))), some (.da (.list (P2.map pq))), some (.da (.list (met.map fun i : Nat => PyData.int (i : Nat)))), none, some (.da (pq (a, b))), some (.ll (ts.map trA)), some (.da (armD xs[a])), some (.da (armD ys[b])), none] _
    have ma := List.getElem_mem ha
    have mb := List.getElem_mem hb
    have na : xs[a].1 ∈ xs.map (·.1) := List.mem_map_of_mem ma
    have nb : ys[b].1 ∈ ys.map (·.1) := List.mem_map_of_mem mb
    have ea := armL_at rl.one_nd ma
    have eb := armL_at rr.one_nd mb
    have qa := arm_rt rl na
    have qb := arm_rt rr nb
    have za := sz_arm rl.one_nd na
    have zb := sz_arm rr.one_nd nb
    rw [ea] at qa za
    rw [eb] at qb zb
    refine ws_expr (we_append 8 (we_tup (wa_cons ((ix0 (xv 9)) _ (wa_cons ((ix0 (xv 10)) _ (wa_cons (we_fnR gW fx.room fx.gd (wr_ref 0 (wr_da (ix1 (xv 9)) (wr_da (ix1 (xv 10)) (wr_da (xv 3) (wr_nil ⟨_, _, rfl, xs[a].2, ys[b].2, rfl, qa, qb, Nat.le_trans za fl, Nat.le_trans zb fr, h1, fun y hy dy => wa_nil ⟨[.str xs[a].1, .str ys[b].1, wyD y], rfl, (by show 3 ≤ sizeLine; decide), _, _, _, _, rfl, rfl, .ll, few4 (by rw [List.length_map]; omega), ?_⟩⟩)))))))))))))
    refine ws_drop 7 (ws_drop 9 (ws_drop 10 (ws_nil ⟨ts ++ [(xs[a].1, ys[b].1, y)], ⟨by rw [List.length_append, len]; rfl, ⟨?_, fun t ht => ?_⟩⟩, by rw [List.map_append]; rfl⟩)))
    · rw [List.take_add_one, hx, List.map_append, List.map_append, ai.nm]
      show _ = _ ++ [nmOf xs ys (a, b)]
      rw [nmOf, getD_of ha, getD_of hb]
      rfl
    · rcases List.mem_append.mp ht with ht | ht
      · exact ai.ok t ht
      · rw [List.mem_singleton.mp ht]
        refine ⟨?_, dy⟩
        show Wok y (armL xs xs[a].1) (armL ys ys[b].1)
        rw [ea, eb]
        exact hy
  rintro ts ⟨len, ai⟩
  rw [List.take_length] at ai
  refine ws_frz 8 .ll ?_
  refine ws_ret (we_fnR gTn r3 fx.gd (wr_ref 0 (wr_da (xv 8) (wr_nil ⟨_, _, rfl, ts.map trA, rfl, by rw [List.length_map]; omega, fun c => ⟨_, .own (.da (.da (.da .nil))), ?_⟩⟩))))
  rw [← List.map_drop, ← List.map_take, ← List.map_append]
  obtain ⟨w1, w2⟩ := ai_wok rl rr pp ai (by omega) c
  exact hq _ w1 w2
end
end Law
/-! WYp: promised, pair, whole world. -/
/-! WYq: the law. -/
/-! WYs: the recursions put together. -/
namespace Law
open PySem PySem.Spec PyProof.Rows L2 TL
section
variable {P : Program} {w : World} {K : PySem.W.Frag} {mg : Str → Option Value} {bs h : Heap} (X : K.In h) (G : h.Ns mainGlobals mg) (B : Blt mg)
include X G B
theorem r_way (D : DK K "_law_own_way" s_l_own_way) (D1 : DK K "_law_arm_trios" s_l_arm_trios) (D2 : DK K "_law_part_trios" s_l_part_trios) (gD : Def P w K mg bs 2 "_law_own_draw" ["state", "many"] (spDrawO ⟨P, w, K⟩)) (gWd : Def P w K mg bs 6 "_law_words" ["left", "right", "deep"] spWords) (gT : Def P w K mg bs 8 "_law_table" ["state", "left", "right"] (spTable ⟨P, w, K⟩ 4)) (gOV : Def P w K mg bs 7 "_law_own_value" ["state", "kind"] (spOVal ⟨P, w, K⟩ 4)) (gTn : Def P w K mg bs 3 "_law_turned" ["state", "trios"] (spTurn ⟨P, w, K⟩)) : ∀ n : Nat, Def P w K mg bs (2 * n + 10) "_law_own_way" ["state", "left", "right", "deep"] (spWay ⟨P, w, K⟩ n)
  | 0 => by
    refine def_ok (k := 9) X G D sc_l_own_way (fun f fd F => F.binds (ps := ["state", "left", "right", "deep"]) fun _ _ _ _ _ _ us hl => match us, hl with | [_, _, _, _], _ => rfl) (fun as Ψ h => by obtain ⟨_, _, rfl, _⟩ := h; rfl) fun f cdv A fr s H E fx as Ψ vs hsp hl => ?_
    obtain ⟨l, r, rfl, rl, rr, fl, fr, h1, hq⟩ := hsp
    exact absurd h1 (by decide)
  | n + 1 => by
    have g := r_way D D1 D2 gD gWd gT gOV gTn n
    exact d_way X G B D gD gWd gT gOV g (d_armTr X G B D1 gD gTn g) (d_partTr X G B D2 gD gTn g)
end
end Law
/-! WYt: the constant ('rec', ()). -/
namespace Law
open PySem PySem.Spec PyProof.Rows L2 TL
theorem dkv_noth {K : PySem.W.Frag} {nm : Str} {a a2 : Addr} {od od2 : Option Addr} {its its2 : Array Value} {n n2 : Nat} {sl sl2 : Array (Option Value)} {u : Tok} (e : PySem.W.nsIn K mainGlobals nm = some (some (.ref a))) (l : K.lookup a = some ⟨.type "tuple", od, .seq its n, sl⟩) (hi : its = #[.str "rec" u, .ref a2]) (l2 : K.lookup a2 = some ⟨.type "tuple", od2, .seq its2 n2, sl2⟩) (h2 : its2 = #[]) : DKV K nm (kD nothK) := ⟨.ref a, .ref a, e, rfl, fun T I hT => by
  subst hT
  subst hi
  subst h2
  rw [kD_noth]
  exact .tup (vs := [.str "rec", .ref a2]) (.inr ⟨_, _, n, l, rfl, rfl, (by show 2 ≤ sizeLine; decide), .cons ⟨_, rfl⟩ (.cons (by rfl) .nil)⟩) (.cons (.str _) (.cons (.tup (vs := []) (.inr ⟨_, _, n2, l2, rfl, rfl, (by show 0 ≤ sizeLine; decide), .nil⟩) .nil) .nil))⟩
theorem dkv_gl {K : PySem.W.Frag} {h : Heap} {mg : Str → Option Value} {nm : Str} {d : PyData} (D : DKV K nm d) (X : K.In h) (G : h.Ns mainGlobals mg) : ∀ Y : Cx, Y.mg = mg → Y.K = K → GlD Y nm d := fun Y h1 h2 => by
  obtain ⟨u, v, e, r, q⟩ := D
  exact ⟨u, v, by rw [h1]; exact PySem.W.mg_of X G e, r, fun I => q Y.tc I h2⟩
theorem num_weak {T : TC} : ∀ as Ψ, spONum T as Ψ → spONumN T as Ψ := fun as Ψ ⟨b, e, b1, b2, q⟩ => ⟨b, e, b1, b2, fun lo hi rt h => q _ ⟨rt, h⟩⟩
end Law
/-! WZa: is_number, is_value. -/
namespace Law
open PySem PySem.Spec PyProof.Rows L2 TL
def isNum : PyData → Bool
  | .int _ => true
  | _ => false
theorem isNum_ty (d : PyData) : (isT (tyD d) "int" && !isT (tyD d) "bool") = isNum d := by cases d <;> rfl
theorem any_str (s : Str) (ns : List Str) : ((strsD ns).any fun z => PyData.eqv z (.str s)) = decide (s ∈ ns) := by
  rw [Bool.eq_iff_iff, List.any_eq_true, decide_eq_true_eq]
  constructor
  · rintro ⟨x, hx, e⟩
    obtain ⟨n, hn, rfl⟩ := List.mem_map.mp hx
    rw [eqv_str, decide_eq_true_eq] at e
    exact e ▸ hn
  · intro h
    exact ⟨.str s, List.mem_map_of_mem h, by rw [eqv_str, decide_eq_true rfl]⟩
def spIsNum : SpD := fun as Ψ => ∃ d, as = [.da d] ∧ noDict d = true ∧ Ψ (.da (.bool (isNum d))) as
section
variable {P : Program} {w : World} {K : PySem.W.Frag} {mg : Str → Option Value} {bs h : Heap} (X : K.In h) (G : h.Ns mainGlobals mg) (B : Blt mg)
include X G B
theorem d_is_number (D : DK K "is_number" s_is_number) : Def P w K mg bs 1 "is_number" ["thing"] spIsNum := by
  refine def_ok X G D sc_is_number (fun f fd F => F.binds (ps := ["thing"]) fun _ _ _ _ _ _ us hl => match us, hl with | [_], _ => rfl) (fun as Ψ h => by obtain ⟨_, rfl, _⟩ := h; rfl) fun f cdv A fr s H E fx as Ψ vs hsp hl => ?_
  obtain ⟨d, rfl, hd, hq⟩ := hsp
  obtain ⟨v0, rfl⟩ := ar1 hl
  show WSs _ _ [some (.da d)] _
  refine xs_ret (xe_castD (xe_andB (xe_isInt B (xv 0) hd) fun _ => xe_notB (xe_isBool B (xv 0) hd)) (by rw [isNum_ty])) ⟨_, .da .nil, hq⟩
end
def eqName : PyData → Str → Bool
  | .str s, n => decide (s = n)
  | _, _ => false
mutual
/-- is a thing a value of a kind -/
def isV : Kd → PyData → Bool
  | .num lo hi, d => match d with
    | .int i => decide (lo ≤ i) && decide (i ≤ hi)
    | _ => false
  | .pick _ ns, d => match d with
    | .str s => decide (s ∈ ns)
    | _ => false
  | .opt k, d => match d with
    | .tuple [] => true
    | .tuple [x] => isV k x
    | _ => false
  | .row k m, d => match d with
    | .tuple xs => decide (xs.length ≤ m) && xs.all fun x => isV k x
    | _ => false
  | .one as, d => match d with
    | .tuple [t, x] => isVOne as t x
    | _ => false
  | .rec_ ps, d => match d with
    | .tuple xs => isVRec ps xs
    | _ => false
  | .bad _ _, _ => false
def isVOne : List (Str × Kd) → PyData → PyData → Bool
  | [], _, _ => false
  | (n, k) :: as, t, x => (eqName t n && isV k x) || isVOne as t x
def isVRec : List (Str × Kd) → List PyData → Bool
  | [], [] => true
  | (_, k) :: ps, x :: xs => isV k x && isVRec ps xs
  | _, _ => false
end
theorem isVOne_any : ∀ (as : List (Str × Kd)) (t x : PyData), isVOne as t x = as.any fun p => eqName t p.1 && isV p.2 x
  | [], _, _ => by rw [isVOne]; rfl
  | (n, k) :: as, t, x => by rw [isVOne, isVOne_any as t x]; rfl
theorem isVRec_zip : ∀ (ps : List (Str × Kd)) (xs : List PyData), isVRec ps xs = (decide (xs.length = ps.length) && (ps.zip xs).all fun q => isV q.1.2 q.2)
  | [], [] => by rw [isVRec]; rfl
  | [], x :: xs => by rw [isVRec] <;> simp
  | (n, k) :: ps, [] => by rw [isVRec] <;> simp
  | (n, k) :: ps, x :: xs => by
    rw [isVRec, isVRec_zip ps xs]
    simp only [List.length_cons, List.zip_cons_cons, List.all_cons, Nat.add_right_cancel_iff]
    cases isV k x <;> cases decide (xs.length = ps.length) <;> simp
/-- things that can be asked -/
structure Gd (n : Nat) (d : PyData) : Prop where
  plain : d.plain = true
  depth : d.depth ≤ n
theorem Gd.mono {n m : Nat} {d : PyData} (h : Gd n d) (hm : n ≤ m) : Gd m d := ⟨h.plain, Nat.le_trans h.depth hm⟩
theorem Gd.noDict {n : Nat} {d : PyData} (h : Gd n d) : noDict d = true := by
  cases d with
  | dict => have := h.plain; simp [PyData.plain] at this
  | _ => rfl
theorem depthAll_mem : ∀ {xs : List PyData} {x : PyData}, x ∈ xs → x.depth ≤ PyData.depthAll xs
  | [], _, h => by cases h
  | y :: ys, x, h => by
    rw [PyData.depthAll]
    rcases List.mem_cons.mp h with rfl | h
    · exact Nat.le_max_left _ _
    · exact Nat.le_trans (depthAll_mem h) (Nat.le_max_right _ _)
theorem Gd.item {n : Nat} {xs : List PyData} {x : PyData} (h : Gd n (.tuple xs)) (hx : x ∈ xs) : Gd (n - 1) x := by
  have h1 := h.plain
  have h2 := h.depth
  rw [PyData.plain] at h1
  rw [PyData.depth] at h2
  have := depthAll_mem hx
  exact ⟨plainAll_mem h1 hx, by omega⟩
theorem plainAll_ofM : ∀ {xs : List PyData}, (∀ x ∈ xs, x.plain = true) → PyData.plainAll xs = true
  | [], _ => rfl
  | x :: xs, h => by
    rw [PyData.plainAll, h x List.mem_cons_self, plainAll_ofM fun y hy => h y (List.mem_cons_of_mem _ hy)]
    rfl
theorem depthAll_of {n : Nat} : ∀ {xs : List PyData}, (∀ x ∈ xs, x.depth ≤ n) → PyData.depthAll xs ≤ n
  | [], _ => Nat.zero_le _
  | x :: xs, h => by
    rw [PyData.depthAll]
    exact Nat.max_le.mpr ⟨h x List.mem_cons_self, depthAll_of fun y hy => h y (List.mem_cons_of_mem _ hy)⟩
theorem nodup_at {α : Type} {l : List α} {i j : Nat} {a : α} (nd : l.Nodup) (h1 : l[i]? = some a) (h2 : l[j]? = some a) : i = j := by
  obtain ⟨hi, e1⟩ := List.getElem?_eq_some_iff.mp h1
  obtain ⟨hj, e2⟩ := List.getElem?_eq_some_iff.mp h2
  have pw := List.pairwise_iff_getElem.mp nd
  rcases Nat.lt_trichotomy i j with h | h | h
  · exact absurd (e1.trans e2.symm) (pw i j hi hj h)
  · exact h
  · exact absurd (e2.trans e1.symm) (pw j i hj hi h)
theorem names_at {as : List (Str × Kd)} {i j : Nat} {p q : Str × Kd} (nd : (as.map (·.1)).Nodup) (hp : as[i]? = some p) (hq : as[j]? = some q) (e : p.1 = q.1) : i = j :=
  nodup_at (a := p.1) nd (by rw [List.getElem?_map, hp]; rfl) (by rw [List.getElem?_map, hq, e]; rfl)
/-- of different tags only one is met -/
theorem isVOne_none {as : List (Str × Kd)} {t x : PyData} (h : ∀ p ∈ as, eqName t p.1 = false) : isVOne as t x = false := by
  rw [isVOne_any, List.any_eq_false]
  intro p hp
  rw [h p hp]
  simp
theorem isVOne_at {as : List (Str × Kd)} {t x : PyData} {i : Nat} {p : Str × Kd} (nd : (as.map (·.1)).Nodup) (hp : as[i]? = some p) (ht : eqName t p.1 = true) : isVOne as t x = isV p.2 x := by
  rw [isVOne_any, Bool.eq_iff_iff, List.any_eq_true]
  have hm := List.mem_of_getElem? hp
  constructor
  · rintro ⟨q, hq, h⟩
    rw [Bool.and_eq_true] at h
    cases t with
    | str s =>
      rw [eqName, decide_eq_true_eq] at ht
      have h1 := h.1
      rw [eqName, decide_eq_true_eq] at h1
      obtain ⟨j, hj, ej⟩ := List.getElem_of_mem hq
      have hq' : as[j]? = some q := by rw [List.getElem?_eq_getElem hj, ej]
      have : i = j := names_at nd hp hq' (ht.symm.trans h1)
      subst this
      rw [hp] at hq'
      obtain rfl := Option.some.inj hq'
      exact h.2
    | _ => cases ht
  · intro h
    exact ⟨p, hm, by rw [ht, h]; rfl⟩
theorem isV_num_no {lo hi : Int} {d : PyData} (h : isNum d = false) : isV (.num lo hi) d = false := by cases d <;> first | (simp [isV]; done) | cases h
theorem isV_pick_no {t : Bool} {ns : List Str} {d : PyData} (h : isT (tyD d) "str" = false) : isV (.pick t ns) d = false := by cases d <;> first | (simp [isV]; done) | cases h
theorem isV_opt_no {k : Kd} {d : PyData} (h : isT (tyD d) "tuple" = false) : isV (.opt k) d = false := by cases d <;> first | (simp [isV]; done) | cases h
theorem isV_row_no {k : Kd} {m : Nat} {d : PyData} (h : isT (tyD d) "tuple" = false) : isV (.row k m) d = false := by cases d <;> first | (simp [isV]; done) | cases h
theorem isV_one_no {as : List (Str × Kd)} {d : PyData} (h : isT (tyD d) "tuple" = false) : isV (.one as) d = false := by cases d <;> first | (simp [isV]; done) | cases h
theorem isV_rec_no {as : List (Str × Kd)} {d : PyData} (h : isT (tyD d) "tuple" = false) : isV (.rec_ as) d = false := by cases d <;> first | (simp [isV]; done) | cases h
theorem two_of {xs : List PyData} (h : xs.length = 2) : ∃ t x, xs = [t, x] := by
  match xs, h with
  | [t, x], _ => exact ⟨t, x, rfl⟩
theorem isV_one_ne {as : List (Str × Kd)} {xs : List PyData} (h : ¬ xs.length = 2) : isV (.one as) (.tuple xs) = false := by
  match xs, h with
  | [], _ => simp [isV]
  | [x], _ => simp [isV]
  | [x, y], h => exact absurd rfl h
  | x :: y :: z :: xs, _ => simp [isV]
theorem xi_cast {X : Cx} {it tg : Expr} {Γ Γ1 : Sl} {ds ds' : List PyData} (h : XI X tg it Γ ds Γ1) (e : ds = ds') : XI X tg it Γ ds' Γ1 := e ▸ h
theorem zipA {as : List (Str × Kd)} : ∀ {xs : List PyData}, List.zipWith (fun d e => PyData.tuple [d, e]) (as.map armD) xs = (as.zip xs).map fun q => .tuple [armD q.1, q.2] := by
  intro xs
  have := zipW_map (E := armD) (E' := id) (xs := as) (ys := xs)
  rw [List.map_id] at this
  exact this
def spIsV (n : Nat) : SpD := fun as Ψ => ∃ (k : Kd) (d : PyData), as = [.da (kD k), .da d] ∧ Rt n k ∧ Gd 60 d ∧ Ψ (.da (.bool (isV k d))) as
def spIsArm (n : Nat) : SpD := fun as Ψ => ∃ (xs : List (Str × Kd)) (t d : PyData), as = [.da (.tuple (xs.map armD)), .da t, .da d] ∧ (xs.map (·.1)).Nodup ∧ (∀ p ∈ xs, Rt n p.2) ∧ Gd 60 t ∧ Gd 60 d ∧ Ψ (.da (.bool (isVOne xs t d))) as
theorem str_or (d : PyData) : (∃ s, d = .str s) ∨ (isT (tyD d) "str" = false ∧ ∀ n, eqName d n = false) := by
  cases d with
  | str s => exact .inl ⟨s, rfl⟩
  | _ => exact .inr ⟨rfl, fun n => rfl⟩
theorem tup_or (d : PyData) : (∃ xs, d = .tuple xs) ∨ isT (tyD d) "tuple" = false := by
  cases d with
  | tuple xs => exact .inl ⟨xs, rfl⟩
  | _ => exact .inr rfl
section
variable {P : Program} {w : World} {K : PySem.W.Frag} {mg : Str → Option Value} {bs h : Heap} (X : K.In h) (G : h.Ns mainGlobals mg) (B : Blt mg)
include X G B
theorem d_is_arm (D : DK K "is_arm_value" s_is_arm_value) {n r : Nat} (gV : Def P w K mg bs r "is_value" ["kind", "value"] (spIsV n)) : Def P w K mg bs (r + 1) "is_arm_value" ["arms", "tag", "value"] (spIsArm n) := by
  refine def_ok X G D sc_is_arm_value (fun f fd F => F.binds (ps := ["arms", "tag", "value"]) fun _ _ _ _ _ _ us hl => match us, hl with | [_, _, _], _ => rfl) (fun as Ψ h => by obtain ⟨_, _, _, rfl, _⟩ := h; rfl) fun f cdv A fr s H E fx as Ψ vs hsp hl => ?_
  obtain ⟨xs, t, d, rfl, nod, rt, gt, gd, hq⟩ := hsp
  obtain ⟨v0, v1, v2, rfl⟩ := ar3 hl
  have nd := fx.nd
  show WSs _ _ [some (.da (.tuple (xs.map armD))), some (.da t), some (.da d), none, none] _
  refine ws_forT fx xs armD (fun _ : Unit => [some (.da (.tuple (xs.map armD))), some (.da t), some (.da d), none, none]) (fun i _ => ∀ j p, j < i → xs[j]? = some p → eqName t p.1 = false) () (xi_tup (xv 0)) (fun j p hj => absurd hj (Nat.not_lt_zero _)) rfl ?_ ?_
  · rintro i p _ hp inv
    have step : eqName t p.1 = false → ∀ j q, j < i + 1 → xs[j]? = some q → eqName t q.1 = false := fun h0 j q hj hq => by
      rcases Nat.lt_succ_iff_lt_or_eq.mp hj with hj | rfl
      · exact inv j q hj hq
      · rw [hp] at hq
        obtain rfl := Option.some.inj hq
        exact h0
    refine wg_tup fx.calm (wgs_cons (wg_name 3 nd (wgs_cons (wg_name 4 nd (wgs_nil ?_)))))
    rcases str_or t with ⟨s, rfl⟩ | ⟨t1, t2⟩
    · refine xs_if (xt_and2 (xt_val (k := true) (xe_isStr (d := .str s) B (xv 1))) fun _ => xt_eqS fx.u (xv 1) (xv 3)) (fun hc => ?_) fun hc => ws_nil ?_
      · rw [Bool.true_and] at hc
        have e := isVOne_at (x := d) nod hp (show eqName (.str s) p.1 = true from hc)
        rw [e] at hq
        exact xs_ret (fun Ψ' hq' => we_fnR gV fx.room fx.gd (wr_da (xv 4) (wr_da (xv 2) (wr_nil ⟨_, _, rfl, p.2, d, rfl, rt p (List.mem_of_getElem? hp), gd, hq'⟩)))) ⟨_, .da (.da (.da .nil)), hq⟩
      · rw [Bool.true_and] at hc
        exact ws_drop 3 (ws_drop 4 (ws_nil ⟨(), step hc, rfl⟩))
    · refine xs_if (xt_cast (j' := false) (xt_and2 (k2 := false) (xt_val (xe_isStr (d := t) B (xv 1) gt.noDict)) fun he => by rw [t1] at he; cases he) (by rw [t1]; rfl)) (fun he => by cases he) fun _ => ws_nil ?_
      exact ws_drop 3 (ws_drop 4 (ws_nil ⟨(), step (t2 _), rfl⟩))
  · rintro _ inv
    rw [isVOne_none fun p hp => by
      obtain ⟨j, hj, e⟩ := List.getElem_of_mem hp
      exact inv j p hj (by rw [List.getElem?_eq_getElem hj, e])] at hq
    exact xs_ret xe_bl ⟨_, .da (.da (.da .nil)), hq⟩
theorem d_isv (D : DK K "is_value" s_is_value) (DA : DK K "is_arm_value" s_is_arm_value) (gN : Def P w K mg bs 1 "is_number" ["thing"] spIsNum) : ∀ n : Nat, Def P w K mg bs (2 * n + 1) "is_value" ["kind", "value"] (spIsV n)
  | 0 => by
    refine def_ok X G D sc_is_value (fun f fd F => F.binds (ps := ["kind", "value"]) fun _ _ _ _ _ _ us hl => match us, hl with | [_, _], _ => rfl) (fun as Ψ h => by obtain ⟨_, _, rfl, _⟩ := h; rfl) fun f cdv A fr s H E fx as Ψ vs hsp hl => ?_
    obtain ⟨k, d, rfl, rt, gd, hq⟩ := hsp
    cases rt
  | n + 1 => by
    have gV := d_isv D DA gN n
    have gA := d_is_arm X G B DA gV
    show Def P w K mg bs (2 * n + 1 + 1 + 1) "is_value" ["kind", "value"] (spIsV (n + 1))
    refine def_ok X G D sc_is_value (fun f fd F => F.binds (ps := ["kind", "value"]) fun _ _ _ _ _ _ us hl => match us, hl with | [_, _], _ => rfl) (fun as Ψ h => by obtain ⟨_, _, rfl, _⟩ := h; rfl) fun f cdv A fr s H E fx as Ψ vs hsp hl => ?_
    obtain ⟨k, d, rfl, rt, gd, hq⟩ := hsp
    obtain ⟨v0, v1, rfl⟩ := ar2 hl
    have nd := fx.nd
    have r0 := fx.room.mono (show 1 ≤ 2 * n + 1 + 1 by omega)
    have r1 := fx.room.mono (show 2 * n + 1 ≤ 2 * n + 1 + 1 by omega)
    have hrt := rt
    cases rt with
    | @num _ lo hi h1 h2 h3 h4 =>
      rw [kD] at hq ⊢
      show WSs _ _ [some (.da _), some (.da d), none, none, none] _
      refine xs_set 2 nd (xe_ix (xv 0) xe_int (.inr rfl) (j := 0) (d := .str "num") rfl) ?_
      refine xs_if (xt_cast (j' := true) (xt_eqS fx.u (xv 2) xe_str) (by decide +kernel)) (fun _ => ?_) (fun he => by cases he)
      by_cases hint : ∃ i, d = .int i
      · obtain ⟨i, rfl⟩ := hint
        rw [isV] at hq
        exact xs_ret (xe_castD (xe_andB (k := true) (fun Ψ' hq' => we_fnR gN r0 fx.gd (wr_da (xv 1) (wr_nil ⟨_, _, rfl, .int i, rfl, rfl, hq'⟩))) fun _ => (xe_le_le (xe_ix (xv 0) xe_int (.inr rfl) rfl) (xv 1) (xe_ix (xv 0) xe_int (.inr rfl) rfl))) rfl) ⟨_, .da (.da .nil), hq⟩
      · have e1 : isNum d = false := by cases d <;> first | rfl | exact absurd ⟨_, rfl⟩ hint
        have e2 : isV (.num lo hi) d = false := isV_num_no e1
        rw [e2] at hq
        exact xs_ret (xe_castD (xe_andB (k := false) (k2 := false) (fun Ψ' hq' => we_fnR gN r0 fx.gd (wr_da (xv 1) (wr_nil ⟨_, _, rfl, d, rfl, gd.noDict, by rw [e1]; exact hq'⟩))) fun he => by cases he) rfl) ⟨_, .da (.da .nil), hq⟩
    | @pick _ ns h1 h2 h3 =>
      rw [kD] at hq ⊢
      show WSs _ _ [some (.da _), some (.da d), none, none, none] _
      refine xs_set 2 nd (xe_ix (xv 0) xe_int (.inr rfl) (j := 0) (d := .str "pick") rfl) ?_
      refine xs_if (xt_cast (j' := false) (xt_eqS fx.u (xv 2) xe_str) (by decide +kernel)) (fun he => by cases he) fun _ => ws_nil ?_
      refine xs_if (xt_cast (j' := true) (xt_eqS fx.u (xv 2) xe_str) (by decide +kernel)) (fun _ => ?_) (fun he => by cases he)
      rcases str_or d with ⟨x, rfl⟩ | ⟨t1, t2⟩
      · rw [isV] at hq
        exact xs_ret (xe_castD (xe_andB (k := true) (xe_isStr (d := .str x) B (xv 1)) fun _ => xe_inV fx.u70 (xv 1) (xe_names (xe_ix (xv 0) xe_int (.inr rfl) rfl)) rfl (plain_strs _) (by simp [PyData.depth]) (.inr rfl)) (by rw [any_str]; rfl)) ⟨_, .da (.da .nil), hq⟩
      · have e2 : isV (.pick true ns) d = false := isV_pick_no t1
        rw [e2] at hq
        exact xs_ret (xe_castD (xe_andB (k2 := false) (xe_isStr (d := d) B (xv 1) gd.noDict) fun he => by rw [t1] at he; cases he) (by rw [t1]; rfl)) ⟨_, .da (.da .nil), hq⟩
    | @opt _ k1 h1 =>
      rw [kD] at hq ⊢
      show WSs _ _ [some (.da _), some (.da d), none, none, none] _
      refine xs_set 2 nd (xe_ix (xv 0) xe_int (.inr rfl) (j := 0) (d := .str "opt") rfl) ?_
      refine xs_if (xt_cast (j' := false) (xt_eqS fx.u (xv 2) xe_str) (by decide +kernel)) (fun he => by cases he) fun _ => ws_nil ?_
      refine xs_if (xt_cast (j' := false) (xt_eqS fx.u (xv 2) xe_str) (by decide +kernel)) (fun he => by cases he) fun _ => ws_nil ?_
      rcases tup_or d with ⟨xs, rfl⟩ | t1
      rotate_left
      · have e2 : isV (.opt k1) d = false := isV_opt_no t1
        rw [e2] at hq
        refine xs_if (xt_cast (j' := true) (xt_not (xt_val (xe_isTup (d := d) B (xv 1) gd.noDict))) (by rw [t1]; rfl)) (fun _ => ?_) (fun he => by cases he)
        exact xs_ret xe_bl ⟨_, .da (.da .nil), hq⟩
      have hz : xs.length ≤ xs.length := Nat.le_refl _
      refine xs_if (xt_cast (j' := false) (xt_not (xt_val (k := true) (xe_isTup (d := .tuple xs) B (xv 1)))) rfl) (fun he => by cases he) fun _ => ws_nil ?_
      refine xs_if (xt_cast (j' := true) (xt_eqS fx.u (xv 2) xe_str) (by decide +kernel)) (fun _ => ?_) (fun he => by cases he)
      match xs, gd, hq with
      | [], gd, hq =>
        rw [isV] at hq
        exact xs_ret (xe_castD (xe_orB (k := true) (k2 := true) (xe_castD (xe_eqI fx.u (xe_len B (xv 1) (.inr rfl)) xe_int) rfl) fun he => by cases he) rfl) ⟨_, .da (.da .nil), hq⟩
      | [x], gd, hq =>
        rw [isV] at hq
        exact xs_ret (xe_castD (xe_orB (k := false) (k2 := isV k1 x) (xe_castD (xe_eqI fx.u (xe_len B (xv 1) (.inr rfl)) xe_int) rfl) fun _ => xe_castD (xe_andB (k := true) (k2 := isV k1 x) (xe_castD (xe_eqI fx.u (xe_len B (xv 1) (.inr rfl)) xe_int) rfl) fun _ => fun Ψ' hq' => we_fnR gV r1 fx.gd (wr_da (xe_ix (xv 0) xe_int (.inr rfl) rfl) (wr_da (xe_ix (xv 1) xe_int (.inr rfl) (j := 0) rfl) (wr_nil ⟨_, _, rfl, k1, x, rfl, h1, (gd.item (by simp)).mono (by decide), hq'⟩)))) rfl) rfl) ⟨_, .da (.da .nil), hq⟩
      | x :: y :: xs, gd, hq =>
        have e2 : isV (.opt k1) (.tuple (x :: y :: xs)) = false := by simp [isV]
        rw [e2] at hq
        exact xs_ret (xe_castD (xe_orB (k := false) (k2 := false) (xe_castD (xe_eqI fx.u (xe_len B (xv 1) (.inr rfl)) xe_int) (congrArg PyData.bool (decide_eq_false (by show ¬ ((xs.length + 1 + 1 : Nat) : Int) = 0; omega)))) fun _ => xe_castD (xe_andB (k := false) (k2 := false) (xe_castD (xe_eqI fx.u (xe_len B (xv 1) (.inr rfl)) xe_int) (congrArg PyData.bool (decide_eq_false (by show ¬ ((xs.length + 1 + 1 : Nat) : Int) = 1; omega)))) fun he => by cases he) rfl) rfl) ⟨_, .da (.da .nil), hq⟩
    | @row _ m k1 h1 h2 =>
      rw [kD] at hq ⊢
      show WSs _ _ [some (.da _), some (.da d), none, none, none] _
      refine xs_set 2 nd (xe_ix (xv 0) xe_int (.inr rfl) (j := 0) (d := .str "row") rfl) ?_
      refine xs_if (xt_cast (j' := false) (xt_eqS fx.u (xv 2) xe_str) (by decide +kernel)) (fun he => by cases he) fun _ => ws_nil ?_
      refine xs_if (xt_cast (j' := false) (xt_eqS fx.u (xv 2) xe_str) (by decide +kernel)) (fun he => by cases he) fun _ => ws_nil ?_
      rcases tup_or d with ⟨xs, rfl⟩ | t1
      rotate_left
      · have e2 : isV (.row k1 m) d = false := isV_row_no t1
        rw [e2] at hq
        refine xs_if (xt_cast (j' := true) (xt_not (xt_val (xe_isTup (d := d) B (xv 1) gd.noDict))) (by rw [t1]; rfl)) (fun _ => ?_) (fun he => by cases he)
        exact xs_ret xe_bl ⟨_, .da (.da .nil), hq⟩
      have hz : xs.length ≤ xs.length := Nat.le_refl _
      refine xs_if (xt_cast (j' := false) (xt_not (xt_val (k := true) (xe_isTup (d := .tuple xs) B (xv 1)))) rfl) (fun he => by cases he) fun _ => ws_nil ?_
      refine xs_if (xt_cast (j' := false) (xt_eqS fx.u (xv 2) xe_str) (by decide +kernel)) (fun he => by cases he) fun _ => ws_nil ?_
      refine xs_if (xt_cast (j' := true) (xt_eqS fx.u (xv 2) xe_str) (by decide +kernel)) (fun _ => ?_) (fun he => by cases he)
      rw [isV] at hq
      by_cases hm : xs.length ≤ m
      · rw [decide_eq_true hm, Bool.true_and] at hq
        refine xs_ret (xe_castD (xe_andB (k := true) (k2 := xs.all fun x => isV k1 x) (xe_castD (xe_cmp op_le (nomark _) o2_bl (xe_len B (xv 1) (.inr rfl)) (xe_ix (xv 0) xe_int (.inr rfl) rfl)) (congrArg PyData.bool (decide_eq_true (by omega)))) fun _ => xe_allM (fun x => isV k1 x) xs B rfl (xe_lcM [("one", 3)] (fun (x : PyData) Γ => Γ.set 3 (some (.da x))) xs id (fun x => .bool (isV k1 x)) fx (R := fun x => .da (.bool (isV k1 x))) (xi_cast (xi_tup (xv 1)) (List.map_id _).symm) (Nat.le_trans hm (Nat.le_trans h2.2 (by decide))) (fun x hx s H C cl fp => gc_name 3 nd rfl) fun x hx s H C cl fp => ?_)) rfl) ⟨_, .da (.da .nil), hq⟩
        exact fun Ψ' hq' => we_fnR gV r1 fx.gd (wr_da (xe_ix (xv 0) xe_int (.inr rfl) rfl) (wr_da (xv 3) (wr_nil ⟨_, _, rfl, k1, x, rfl, h1, (gd.item hx).mono (by decide), hq'⟩)))
      · rw [decide_eq_false hm, Bool.false_and] at hq
        exact xs_ret (xe_castD (xe_andB (k := false) (k2 := false) (xe_castD (xe_cmp op_le (nomark _) o2_bl (xe_len B (xv 1) (.inr rfl)) (xe_ix (xv 0) xe_int (.inr rfl) rfl)) (congrArg PyData.bool (decide_eq_false (by omega)))) fun he => by cases he) rfl) ⟨_, .da (.da .nil), hq⟩
    | @one _ as h1 h2 h3 h4 =>
      rw [kD] at hq ⊢
      show WSs _ _ [some (.da _), some (.da d), none, none, none] _
      refine xs_set 2 nd (xe_ix (xv 0) xe_int (.inr rfl) (j := 0) (d := .str "one") rfl) ?_
      rw [armsD_map] at hq ⊢
      refine xs_if (xt_cast (j' := false) (xt_eqS fx.u (xv 2) xe_str) (by decide +kernel)) (fun he => by cases he) fun _ => ws_nil ?_
      refine xs_if (xt_cast (j' := false) (xt_eqS fx.u (xv 2) xe_str) (by decide +kernel)) (fun he => by cases he) fun _ => ws_nil ?_
      rcases tup_or d with ⟨xs, rfl⟩ | t1
      rotate_left
      · have e2 : isV (.one as) d = false := isV_one_no t1
        rw [e2] at hq
        refine xs_if (xt_cast (j' := true) (xt_not (xt_val (xe_isTup (d := d) B (xv 1) gd.noDict))) (by rw [t1]; rfl)) (fun _ => ?_) (fun he => by cases he)
        exact xs_ret xe_bl ⟨_, .da (.da .nil), hq⟩
      have hz : xs.length ≤ xs.length := Nat.le_refl _
      refine xs_if (xt_cast (j' := false) (xt_not (xt_val (k := true) (xe_isTup (d := .tuple xs) B (xv 1)))) rfl) (fun he => by cases he) fun _ => ws_nil ?_
      refine xs_if (xt_cast (j' := false) (xt_eqS fx.u (xv 2) xe_str) (by decide +kernel)) (fun he => by cases he) fun _ => ws_nil ?_
      refine xs_if (xt_cast (j' := false) (xt_eqS fx.u (xv 2) xe_str) (by decide +kernel)) (fun he => by cases he) fun _ => ws_nil ?_
      refine xs_if (xt_cast (j' := true) (xt_eqS fx.u (xv 2) xe_str) (by decide +kernel)) (fun _ => ?_) (fun he => by cases he)
      by_cases h2l : ∃ t x, xs = [t, x]
      · obtain ⟨t, x, rfl⟩ := h2l
        rw [isV] at hq
        exact xs_ret (xe_castD (xe_andB (k := true) (k2 := isVOne as t x) (xe_castD (xe_eqI fx.u (xe_len B (xv 1) (.inr rfl)) xe_int) rfl) fun _ => fun Ψ' hq' => we_fnR gA fx.room fx.gd (wr_da (xe_ix (xv 0) xe_int (.inr rfl) rfl) (wr_da (xe_ix (xv 1) xe_int (.inr rfl) (j := 0) rfl) (wr_da (xe_ix (xv 1) xe_int (.inr rfl) (j := 1) rfl) (wr_nil ⟨_, _, rfl, as, t, x, rfl, h2.nodup, h4, (gd.item (by simp)).mono (by decide), (gd.item (by simp)).mono (by decide), hq'⟩))))) rfl) ⟨_, .da (.da .nil), hq⟩
      · have hn : ¬ xs.length = 2 := fun h => h2l (two_of h)
        rw [isV_one_ne hn] at hq
        exact xs_ret (xe_castD (xe_andB (k := false) (k2 := false) (xe_castD (xe_eqI fx.u (xe_len B (xv 1) (.inr rfl)) xe_int) (congrArg PyData.bool (decide_eq_false (by omega)))) fun he => by cases he) rfl) ⟨_, .da (.da .nil), hq⟩
    | @rec_ _ as h1 h2 =>
      rw [kD] at hq ⊢
      show WSs _ _ [some (.da _), some (.da d), none, none, none] _
      refine xs_set 2 nd (xe_ix (xv 0) xe_int (.inr rfl) (j := 0) (d := .str "rec") rfl) ?_
      rw [armsD_map] at hq ⊢
      refine xs_if (xt_cast (j' := false) (xt_eqS fx.u (xv 2) xe_str) (by decide +kernel)) (fun he => by cases he) fun _ => ws_nil ?_
      refine xs_if (xt_cast (j' := false) (xt_eqS fx.u (xv 2) xe_str) (by decide +kernel)) (fun he => by cases he) fun _ => ws_nil ?_
      rcases tup_or d with ⟨xs, rfl⟩ | t1
      rotate_left
      · have e2 : isV (.rec_ as) d = false := isV_rec_no t1
        rw [e2] at hq
        refine xs_if (xt_cast (j' := true) (xt_not (xt_val (xe_isTup (d := d) B (xv 1) gd.noDict))) (by rw [t1]; rfl)) (fun _ => ?_) (fun he => by cases he)
        exact xs_ret xe_bl ⟨_, .da (.da .nil), hq⟩
      have hz : xs.length ≤ xs.length := Nat.le_refl _
      refine xs_if (xt_cast (j' := false) (xt_not (xt_val (k := true) (xe_isTup (d := .tuple xs) B (xv 1)))) rfl) (fun he => by cases he) fun _ => ws_nil ?_
      refine xs_if (xt_cast (j' := false) (xt_eqS fx.u (xv 2) xe_str) (by decide +kernel)) (fun he => by cases he) fun _ => ws_nil ?_
      refine xs_if (xt_cast (j' := false) (xt_eqS fx.u (xv 2) xe_str) (by decide +kernel)) (fun he => by cases he) fun _ => ws_nil ?_
      refine xs_if (xt_cast (j' := false) (xt_eqS fx.u (xv 2) xe_str) (by decide +kernel)) (fun he => by cases he) fun _ => ws_nil ?_
      rw [isV, isVRec_zip] at hq
      have la : (as.map armD).length = as.length := List.length_map _
      by_cases hm : xs.length = as.length
      · rw [decide_eq_true hm, Bool.true_and] at hq
        exact xs_ret (xe_castD (xe_andB (k := true) (k2 := (as.zip xs).all fun q => isV q.1.2 q.2) (xe_castD (xe_eqI fx.u (xe_len B (xv 1) (.inr rfl)) (xe_len B (xe_ix (xv 0) xe_int (.inr rfl) (j := 1) rfl) (.inr rfl))) (by rw [la, decide_eq_true (by omega)])) fun _ => xe_allM (fun q : (Str × Kd) × PyData => isV q.1.2 q.2) (as.zip xs) B rfl (xe_lcM [("part", 4), ("one", 3)] (fun (q : (Str × Kd) × PyData) Γ => (Γ.set 4 (some (.da (armD q.1)))).set 3 (some (.da q.2))) (as.zip xs) (fun q => .tuple [armD q.1, q.2]) (fun q => .bool (isV q.1.2 q.2)) fx (R := fun q => .da (.bool (isV q.1.2 q.2))) (xi_cast (xi_zip B (xe_ix (xv 0) xe_int (.inr rfl) (j := 1) rfl) (xv 1) (.inr ⟨rfl, rfl⟩)) zipA) (Nat.le_trans (by rw [List.length_zip]; exact Nat.min_le_left _ _) (Nat.le_trans h1 (by decide))) (fun q hq s H C cl fp => gc_tup rfl (gsc_cons (gc_name 4 nd (gsc_cons (gc_name 3 nd (gsc_nil rfl)))))) fun q hq s H C cl fp => fun Ψ' hq' => we_fnR gV r1 fx.gd (wr_da (xe_ix (xv 4) xe_int (.inr rfl) (j := 1) rfl) (wr_da (xv 3) (wr_nil ⟨_, _, rfl, q.1.2, q.2, rfl, h2 _ (List.of_mem_zip hq).1, (gd.item (List.of_mem_zip hq).2).mono (by decide), hq'⟩))))) rfl) ⟨_, .da (.da .nil), hq⟩
      · rw [decide_eq_false hm, Bool.false_and] at hq
        exact xs_ret (xe_castD (xe_andB (k := false) (k2 := false) (xe_castD (xe_eqI fx.u (xe_len B (xv 1) (.inr rfl)) (xe_len B (xe_ix (xv 0) xe_int (.inr rfl) (j := 1) rfl) (.inr rfl))) (by rw [la, decide_eq_false (by omega)])) fun he => by cases he) rfl) ⟨_, .da (.da .nil), hq⟩
end
end Law
/-! WZb: fits of right ways. -/
namespace Law
open PySem PySem.Spec PyProof.Rows L2 TL
def tkK (t : Str × Str) : NestedKey := .tup [.text t.1, .text t.2]
theorem tkK_data (t : Str × Str) : (tkK t).data = .tuple [.str t.1, .str t.2] := by
  unfold tkK
  rw [nkd_tup]
  rfl
theorem tkK_inj : ∀ a b : Str × Str, tkK a = tkK b → a = b := fun a b h => by
  unfold tkK at h
  injection h with h
  injection h with h1 h
  injection h with h2 _
  injection h1 with h1
  injection h2 with h2
  exact Prod.ext h1 h2
theorem tkK_ok (t : Str × Str) : KOk (tkK t) := ⟨⟨_, rfl⟩, by show _ ≤ 8; simp [tkK, NestedKey.depth, NestedKey.depthAll]⟩
abbrev tsD (M : List (Str × Str)) : NL := M.map fun q => (tkK q, .bool true)
theorem tsD_eq {M : List (Str × Str)} : tsD M = (M.map fun q => (q, ())).map fun p => (tkK p.1, (fun _ => PyData.bool true) p.2) := by rw [List.map_map]; rfl
theorem kput_new {κ β : Type} [DecidableEq κ] {m : List (κ × β)} {k : κ} {v : β} (h : kget m k = none) : kput m k v = m ++ [(k, v)] := by
  unfold kput
  rw [if_neg]
  rw [kget_any, h]
  exact Bool.false_ne_true
theorem len0 {α : Type} (x : α) (xs : List α) : decide ((((x :: xs).length : Nat) : Int) = 0) = false := decide_eq_false (by rw [List.length_cons]; omega)
theorem kD_notN (k : Kd) : isN (kD k) = false := by
  obtain ⟨ds, e⟩ := kD_wd k
  rw [e]
  rfl
section
variable {X : Cx} {a b c : Expr} {Γ Γ1 Γ2 : Sl} {s t : Str} {pos : Pos}
theorem xt_neS (hu : X.A.units + 64 < cLine) (ha : XE X a Γ (.da (.str s)) Γ1) (hb : XE X b Γ1 (.da (.str t)) Γ2) : XT X (.Compare a [.NotEq] [b] pos) Γ (!decide (s = t)) Γ2 := by
  have q := xt_neP (pos := pos) hu ha hb
  rw [eqv_str] at q
  exact q
theorem xe_le_lt {i j k : Int} (ha : XE X a Γ (.da (.int i)) Γ) (hb : XE X b Γ (.da (.int j)) Γ) (hc : XE X c Γ (.da (.int k)) Γ) (hm : lastMarks [.LtE, .Lt] [b, c] = false := by with_unfolding_all rfl) :
    XE X (.Compare a [.LtE, .Lt] [b, c] pos) Γ (.da (.bool (decide (i ≤ j) && decide (j < k)))) Γ := xe_chain op_le op_lt o2_bl o2_bl ha hb hc hm
end
theorem of_dec {p : Prop} {i : Decidable p} (h : @decide p i = true) : p := of_decide_eq_true h
theorem kget_ts {M : List (Str × Str)} {a : Str × Str} (h : a ∉ M) : (kget (tsD M) (tkK a)).isSome = false := by
  rw [tsD_eq, kget_map (f := tkK) (g := fun _ => PyData.bool true) tkK_inj, Option.isSome_map, kget_mem, List.map_map]
  refine Bool.eq_false_iff.mpr fun hc => h ?_
  obtain ⟨q, hq, e⟩ := List.mem_map.mp (of_dec hc)
  rw [← e]
  exact hq
theorem kput_ts {M : List (Str × Str)} {a : Str × Str} (h : a ∉ M) : kput (tsD M) (tkK a) (.bool true) = tsD (M ++ [a]) := by
  rw [kput_new]
  · show M.map _ ++ [(tkK a, PyData.bool true)] = (M ++ [a]).map _
    rw [List.map_append]
    rfl
  · have := kget_ts h
    cases e : kget (tsD M) (tkK a) with
    | none => rfl
    | some d => rw [e] at this; cases this
theorem plain_ilist : ∀ xs : List Nat, PyData.plainAll (ilist xs) = true
  | [] => rfl
  | x :: xs => by
    show PyData.plainAll (.int (x : Nat) :: ilist xs) = true
    rw [PyData.plainAll, plain_ilist xs]
    rfl
end Law
/-! WXa: odd ways, and whether they fit. -/
namespace Law
open PySem PySem.Spec PyProof.Rows L2 TL
inductive Ow where
  | bare (s : Str) (ds : List PyData)
  | table (f g : List PyData)
  | apart (d e : PyData)
  | some_ (w : Ow) (d : PyData)
  | must (w : Ow) (d : PyData)
  | opt (w : Ow)
  | each (w : Ow)
  | arms (ts : List (Str × Str × Ow))
  | parts (ts : List (Option Int × Option Int × Ow))
def plI : Option Int → PyData
  | none => .none
  | some i => .int i
mutual
def owD : Ow → PyData
  | .bare s ds => .tuple (.str s :: ds)
  | .table f g => .tuple [.str "table", .tuple f, .tuple g]
  | .apart d e => .tuple [.str "apart", d, e]
  | .some_ w d => .tuple [.str "some", owD w, d]
  | .must w d => .tuple [.str "must", owD w, d]
  | .opt w => .tuple [.str "opt", owD w]
  | .each w => .tuple [.str "each", owD w]
  | .arms ts => .tuple [.str "arms", .tuple (owA ts)]
  | .parts ts => .tuple [.str "parts", .tuple (owQ ts)]
def owA : List (Str × Str × Ow) → List PyData
  | [] => []
  | (s, t, w) :: ts => .tuple [.str s, .str t, owD w] :: owA ts
def owQ : List (Option Int × Option Int × Ow) → List PyData
  | [] => []
  | (s, t, w) :: ts => .tuple [plI s, plI t, owD w] :: owQ ts
end
def orA (t : Str × Str × Ow) : PyData := .tuple [.str t.1, .str t.2.1, owD t.2.2]
def orQ (t : Option Int × Option Int × Ow) : PyData := .tuple [plI t.1, plI t.2.1, owD t.2.2]
theorem owA_map : ∀ ts, owA ts = ts.map orA
  | [] => by rw [owA]; rfl
  | (s, t, w) :: ts => by rw [owA, owA_map ts]; rfl
theorem owQ_map : ∀ ts, owQ ts = ts.map orQ
  | [] => by rw [owQ]; rfl
  | (s, t, w) :: ts => by rw [owQ, owQ_map ts]; rfl
theorem owD_bare (s : Str) (ds : List PyData) : owD (.bare s ds) = .tuple (.str s :: ds) := by rw [owD]
theorem owD_table (f g : List PyData) : owD (.table f g) = .tuple [.str "table", .tuple f, .tuple g] := by rw [owD]
theorem owD_apart (d e : PyData) : owD (.apart d e) = .tuple [.str "apart", d, e] := by rw [owD]
theorem owD_some (w : Ow) (d : PyData) : owD (.some_ w d) = .tuple [.str "some", owD w, d] := by rw [owD]
theorem owD_must (w : Ow) (d : PyData) : owD (.must w d) = .tuple [.str "must", owD w, d] := by rw [owD]
theorem owD_opt (w : Ow) : owD (.opt w) = .tuple [.str "opt", owD w] := by rw [owD]
theorem owD_each (w : Ow) : owD (.each w) = .tuple [.str "each", owD w] := by rw [owD]
theorem owD_arms (ts : List (Str × Str × Ow)) : owD (.arms ts) = .tuple [.str "arms", .tuple (ts.map orA)] := by rw [owD, owA_map]
theorem owD_parts (ts : List (Option Int × Option Int × Ow)) : owD (.parts ts) = .tuple [.str "parts", .tuple (ts.map orQ)] := by rw [owD, owQ_map]
abbrev deepW : List Str := ["table", "apart", "some", "must", "opt", "each", "arms", "parts"]
/-- odd ways that can be asked: v bounds the values' depth, the number the ways' depth -/
inductive OkO (v : Nat) : Nat → Ow → Prop
  | bare {n : Nat} {s : Str} {ds : List PyData} : s ∉ deepW → ds.length ≤ 10 → OkO v (n + 1) (.bare s ds)
  | table {n : Nat} {f g : List PyData} : (∀ x ∈ f, Gd v x) → (∀ x ∈ g, Gd v x) → f.length ≤ 40 + v → g.length ≤ 40 + v → OkO v (n + 1) (.table f g)
  | apart {n : Nat} {d e : PyData} : Gd v d → Gd v e → OkO v (n + 1) (.apart d e)
  | some_ {n : Nat} {w : Ow} {d : PyData} : OkO v n w → Gd v d → OkO v (n + 1) (.some_ w d)
  | must {n : Nat} {w : Ow} {d : PyData} : OkO v n w → Gd v d → OkO v (n + 1) (.must w d)
  | opt {n : Nat} {w : Ow} : OkO v n w → OkO v (n + 1) (.opt w)
  | each {n : Nat} {w : Ow} : OkO v n w → OkO v (n + 1) (.each w)
  | arms {n : Nat} {ts : List (Str × Str × Ow)} : (∀ t ∈ ts, OkO v n t.2.2) → ts.length ≤ 100 + v → OkO v (n + 1) (.arms ts)
  | parts {n : Nat} {ts : List (Option Int × Option Int × Ow)} : (∀ t ∈ ts, OkO v n t.2.2) → ts.length ≤ 100 + v → OkO v (n + 1) (.parts ts)
def bareF (s : Str) (l r : Kd) : Bool := if s = "same" then PyData.eqv (kP l) (kP r) else if s = "rank" then decide (sz l = sz r) else if s = "clip" then decide (wdK l = "num") && decide (wdK r = "num") else false
def tabF (f g : List PyData) (l r : Kd) : Bool := decide (sz l ≤ 20) && decide (sz r ≤ 20) && decide (f.length = sz l) && decide (g.length = sz r) && (f.all fun x => isV r x) && (g.all fun x => isV l x)
abbrev prT (t : Str × Str × Ow) : Str × Str := (t.1, t.2.1)
def okA (F : Ow → Kd → Kd → Bool) (xs ys : List (Str × Kd)) (ts : List (Str × Str × Ow)) (i : Nat) : Bool := match ts[i]? with
  | none => true
  | some t => decide (t.1 ∈ xs.map (·.1)) && decide (t.2.1 ∈ ys.map (·.1)) && !decide (prT t ∈ (ts.take i).map prT) && F t.2.2 (armL xs t.1) (armL ys t.2.1)
def armsF (F : Ow → Kd → Kd → Bool) (ts : List (Str × Str × Ow)) (xs ys : List (Str × Kd)) : Bool :=
  (List.range ts.length).all (okA F xs ys ts) && ((xs.all fun p => decide (p.1 ∈ ts.map (·.1))) && (ys.all fun p => decide (p.1 ∈ ts.map (·.2.1))))
def onceF (n : Nat) (ps : List (Option Int)) : Bool := PyData.eqv (.list (sortD ((ps.filterMap id).map .int))) (.list (ilist (List.range n)))
def partI (k : Kd) (p : Option Int) : Kd := partK k (p.map Int.toNat)
def okQ (F : Ow → Kd → Kd → Bool) (ps qs : List (Str × Kd)) (t : Option Int × Option Int × Ow) : Bool := !(t.1.isNone && t.2.1.isNone) && F t.2.2 (partI (.rec_ ps) t.1) (partI (.rec_ qs) t.2.1)
def partsF (F : Ow → Kd → Kd → Bool) (ts : List (Option Int × Option Int × Ow)) (ps qs : List (Str × Kd)) : Bool :=
  onceF ps.length (ts.map (·.1)) && onceF qs.length (ts.map (·.2.1)) && ts.all (okQ F ps qs)
def fitsO : Nat → Ow → Kd → Kd → Bool
  | 0, _, _, _ => false
  | n + 1, w, l, r => match w with
    | .bare s _ => bareF s l r
    | .table f g => tabF f g l r
    | .apart d e => isV l d && isV r e
    | .some_ w d => match r with
      | .opt k => isV l d && fitsO n w l k
      | _ => false
    | .must w d => match l with
      | .opt k => isV r d && fitsO n w k r
      | _ => false
    | .opt w => match l, r with
      | .opt k, .opt k' => fitsO n w k k'
      | _, _ => false
    | .each w => match l, r with
      | .row k _, .row k' _ => fitsO n w k k'
      | _, _ => false
    | .arms ts => match l, r with
      | .one xs, .one ys => armsF (fitsO n) ts xs ys
      | _, _ => false
    | .parts ts => match l, r with
      | .rec_ ps, .rec_ qs => partsF (fitsO n) ts ps qs
      | _, _ => false
/-- the kinds that are asked -/
structure FK (k : Kd) : Prop where
  rt : Rt 4 k
  few : sz k ≤ 30
theorem FK.opt {k : Kd} (h : FK (.opt k)) : FK k := ⟨opt_rt h.rt, Nat.le_trans opt_sz h.few⟩
theorem FK.row {k : Kd} {m : Nat} (h : FK (.row k m)) : FK k := ⟨row_rt h.rt, Nat.le_trans (row_sz h.rt) h.few⟩
theorem FK.arm {xs : List (Str × Kd)} {s : Str} (h : FK (.one xs)) (hs : s ∈ xs.map (·.1)) : FK (armL xs s) := ⟨arm_rt h.rt hs, Nat.le_trans (sz_arm h.rt.one_nd hs) h.few⟩
theorem FK.part {ps : List (Str × Kd)} (h : FK (.rec_ ps)) (p : Option Nat) : FK (partK (.rec_ ps) p) := ⟨h.rt.part_in p, Nat.le_trans (sz_part h.rt p) h.few⟩
theorem FK.rt5 {k : Kd} (h : FK k) : Rt 5 k := h.rt.mono (by decide)
theorem FK.ok {k : Kd} (h : FK k) : Ok 5 k := h.rt5.ok
theorem wd_opt {k : Kd} (h : wdK k = "opt") : (∃ n, Rt n k) → ∃ k', k = .opt k' := fun ⟨n, rt⟩ => by
  cases rt with
  | opt => exact ⟨_, rfl⟩
  | _ => exact absurd h (by dsimp only [wdK]; decide +kernel)
theorem wd_row {k : Kd} (h : wdK k = "row") : (∃ n, Rt n k) → ∃ k' m, k = .row k' m := fun ⟨n, rt⟩ => by
  cases rt with
  | row => exact ⟨_, _, rfl⟩
  | _ => exact absurd h (by dsimp only [wdK]; decide +kernel)
theorem wd_one {k : Kd} (h : wdK k = "one") : (∃ n, Rt n k) → ∃ xs, k = .one xs := fun ⟨n, rt⟩ => by
  cases rt with
  | one => exact ⟨_, rfl⟩
  | _ => exact absurd h (by dsimp only [wdK]; decide +kernel)
theorem wd_rec {k : Kd} (h : wdK k = "rec") : (∃ n, Rt n k) → ∃ xs, k = .rec_ xs := fun ⟨n, rt⟩ => by
  cases rt with
  | rec_ => exact ⟨_, rfl⟩
  | _ => exact absurd h (by dsimp only [wdK]; decide +kernel)
theorem fits_some_no {n : Nat} {w : Ow} {d : PyData} {l r : Kd} (h : wdK r ≠ "opt") : fitsO (n + 1) (.some_ w d) l r = false := by
  cases r <;> first | rfl | exact absurd rfl h
theorem fits_must_no {n : Nat} {w : Ow} {d : PyData} {l r : Kd} (h : wdK l ≠ "opt") : fitsO (n + 1) (.must w d) l r = false := by
  cases l <;> first | rfl | exact absurd rfl h
theorem fits_opt_no {n : Nat} {w : Ow} {l r : Kd} (h : wdK l ≠ "opt" ∨ wdK r ≠ "opt") : fitsO (n + 1) (.opt w) l r = false := by
  cases l <;> first | rfl | (cases r <;> first | rfl | (rcases h with h | h <;> exact absurd rfl h))
theorem fits_each_no {n : Nat} {w : Ow} {l r : Kd} (h : wdK l ≠ "row" ∨ wdK r ≠ "row") : fitsO (n + 1) (.each w) l r = false := by
  cases l <;> first | rfl | (cases r <;> first | rfl | (rcases h with h | h <;> exact absurd rfl h))
theorem fits_arms_no {n : Nat} {ts : List (Str × Str × Ow)} {l r : Kd} (h : wdK l ≠ "one" ∨ wdK r ≠ "one") : fitsO (n + 1) (.arms ts) l r = false := by
  cases l <;> first | rfl | (cases r <;> first | rfl | (rcases h with h | h <;> exact absurd rfl h))
theorem fits_parts_no {n : Nat} {ts : List (Option Int × Option Int × Ow)} {l r : Kd} (h : wdK l ≠ "rec" ∨ wdK r ≠ "rec") : fitsO (n + 1) (.parts ts) l r = false := by
  cases l <;> first | rfl | (cases r <;> first | rfl | (rcases h with h | h <;> exact absurd rfl h))
theorem all_at {α : Type} {f : Nat → Bool} {n i : Nat} (hi : i < n) (h : f i = false) : (List.range n).all f = false := by
  rw [List.all_eq_false]
  exact ⟨i, List.mem_range.mpr hi, by rw [h]; exact Bool.false_ne_true⟩
theorem all_up {f : Nat → Bool} {n : Nat} (h : ∀ i, i < n → f i = true) : (List.range n).all f = true := by
  rw [List.all_eq_true]
  exact fun i hi => h i (List.mem_range.mp hi)
theorem all_mem {α : Type} {f : α → Bool} {l : List α} {x : α} (hx : x ∈ l) (h : f x = false) : l.all f = false := by
  rw [List.all_eq_false]
  exact ⟨x, hx, by rw [h]; exact Bool.false_ne_true⟩
/-! ### places -/
theorem eqv_ints : ∀ {xs ys : List Int}, PyData.eqvAll (xs.map .int) (ys.map .int) = true → xs = ys
  | [], [], _ => rfl
  | [], _ :: _, h => by simp [PyData.eqvAll] at h
  | _ :: _, [], h => by simp [PyData.eqvAll] at h
  | x :: xs, y :: ys, h => by
    have h : PyData.eqvAll (.int x :: xs.map .int) (.int y :: ys.map .int) = true := h
    rw [eqvAll_c, Bool.and_eq_true, eqv_int, decide_eq_true_eq] at h
    rw [h.1, eqv_ints h.2]
theorem eqv_lst (xs ys : List PyData) : PyData.eqv (.list xs) (.list ys) = PyData.eqvAll xs ys := by rw [PyData.eqv]
theorem once_in {n : Nat} {ps : List (Option Int)} (h : onceF n ps = true) {i : Int} (hi : some i ∈ ps) : 0 ≤ i ∧ i < n := by
  unfold onceF at h
  rw [sortD_map (E := PyData.int), eqv_lst] at h
  have e := eqv_ints (xs := (ps.filterMap id).mergeSort fun a b => PySem.W.dataLe false id (PyData.int a) (PyData.int b)) (ys := (List.range n).map fun (j : Nat) => (j : Int)) (by
    rw [show ((List.range n).map fun (j : Nat) => (j : Int)).map PyData.int = ilist (List.range n) by rw [List.map_map]; rfl]
    exact h)
  have m : i ∈ ps.filterMap id := List.mem_filterMap.mpr ⟨some i, hi, rfl⟩
  have m2 := (List.mergeSort_perm (ps.filterMap id) fun a b => PySem.W.dataLe false id (PyData.int a) (PyData.int b)).mem_iff.mpr m
  rw [e] at m2
  obtain ⟨j, hj, rfl⟩ := List.mem_map.mp m2
  have := List.mem_range.mp hj
  omega
def validP (n : Nat) : Option Int → Bool
  | none => true
  | some i => decide (0 ≤ i) && decide (i < n)
theorem validP_of {n : Nat} {p : Option Int} (h : ∀ i, p = some i → 0 ≤ i ∧ i < n) : validP n p = true := by
  cases p with
  | none => rfl
  | some i =>
    obtain ⟨a, b⟩ := h i rfl
    rw [validP, decide_eq_true a, decide_eq_true b]
    rfl
theorem plI_nat {n : Nat} {p : Option Int} (h : validP n p = true) : plI p = plD (p.map Int.toNat) ∧ ∀ i, p.map Int.toNat = some i → i < n := by
  cases p with
  | none => exact ⟨rfl, fun i e => by cases e⟩
  | some j =>
    rw [validP, Bool.and_eq_true, decide_eq_true_eq, decide_eq_true_eq] at h
    refine ⟨?_, fun i e => ?_⟩
    · show PyData.int j = PyData.int ((j.toNat : Nat) : Int)
      rw [Int.toNat_of_nonneg h.1]
    · have e : j.toNat = i := Option.some.inj e
      omega
theorem plI_none (p : Option Int) : isN (plI p) = p.isNone := by cases p <;> rfl
theorem filt_noneI (ps : List (Option Int)) : ((ps.filter fun p => !isN (plI p)).map fun p => plI p) = (ps.filterMap id).map .int := by
  induction ps with
  | nil => rfl
  | cons p ps ih =>
    cases p with
    | none => exact ih
    | some i =>
      show plI (some i) :: ((ps.filter fun p => !isN (plI p)).map fun p => plI p) = _
      rw [ih]
      rfl
theorem srt_ints {xs : List Int} (hz : xs.length ≤ sizeLine) : SrtOk (xs.map .int) := by
  refine ⟨plain_ints, ?_, .inr ?_, by rw [List.length_map]; exact hz, ?_⟩
  · rintro d hd d' hd'
    obtain ⟨a, _, rfl⟩ := List.mem_map.mp hd
    obtain ⟨b, _, rfl⟩ := List.mem_map.mp hd'
    rfl
  · rintro d hd
    obtain ⟨a, _, rfl⟩ := List.mem_map.mp hd
    exact ⟨by simp, by simp⟩
  · rintro d hd
    obtain ⟨a, _, rfl⟩ := List.mem_map.mp hd
    exact Nat.zero_le _
theorem shaped_strs {ns : List Str} (h : ∀ s ∈ ns, NmOk s) : SeqAt.shaped (.list (strsD ns)) = true := by
  have h1 : ∀ ns : List Str, (∀ s ∈ ns, NmOk s) → PyData.canLayAll0 (strsD ns) = true ∧ PyData.depthAll (strsD ns) = 0 := fun ns => by
    induction ns with
    | nil => exact fun _ => ⟨rfl, rfl⟩
    | cons n ns ih =>
      intro h
      obtain ⟨a, b⟩ := ih fun s hs => h s (List.mem_cons_of_mem _ hs)
      rw [strsD, List.map_cons]
      have c := (h n List.mem_cons_self).ok
      refine ⟨by simp [PyData.canLayAll0, PyData.canLay0, a, c], ?_⟩
      rw [PyData.depthAll, b]
      rfl
  obtain ⟨a, b⟩ := h1 ns h
  unfold SeqAt.shaped
  simp only [PyData.canLay0, a, Bool.true_and, decide_eq_true_eq]
  rw [PyData.depth, b]
  decide
theorem shaped_str {s : Str} (h : NmOk s) : SeqAt.shaped (.str s) = true := by
  unfold SeqAt.shaped
  simp only [PyData.canLay0, h.ok, Bool.true_and, decide_eq_true_eq]
  exact Nat.zero_le _
theorem nm_in {n : Nat} {xs : List (Str × Kd)} (rt : Rt n (.one xs)) : ∀ s ∈ xs.map (·.1), NmOk s := fun s hs => by
  obtain ⟨p, hp, rfl⟩ := List.mem_map.mp hs
  cases rt with
  | one _ _ c _ => exact c p hp
theorem armL_first : ∀ {xs : List (Str × Kd)} {i : Nat} {p : Str × Kd} {s : Str}, xs[i]? = some p → p.1 = s → s ∉ (xs.take i).map (·.1) → armL xs s = p.2
  | [], i, p, s, h, _, _ => by simp at h
  | q :: xs, 0, p, s, h, e, _ => by
    have h : q = p := by simpa using h
    subst h
    obtain ⟨a, b⟩ := q
    rw [armL, if_pos e]
  | q :: xs, i + 1, p, s, h, e, no => by
    obtain ⟨a, b⟩ := q
    rw [List.take_succ_cons, List.map_cons, List.mem_cons, not_or] at no
    rw [armL, if_neg (fun h2 => no.1 h2.symm)]
    exact armL_first (by simpa using h) e no.2
theorem sort_dp (xs : List Int) : (PyData.list (sortD (xs.map .int))).depth ≤ 60 := by
  rw [sortD_map (E := PyData.int), PyData.depth]
  have : PyData.depthAll ((xs.mergeSort fun a b => PySem.W.dataLe false id (PyData.int a) (PyData.int b)).map PyData.int) ≤ 0 := depthAll_of fun x hx => by
    obtain ⟨i, _, rfl⟩ := List.mem_map.mp hx
    exact Nat.le_refl _
  omega
theorem to_dec {p : Prop} {i : Decidable p} (h : p) : @decide p i = true := decide_eq_true h
theorem tsD_ok {M : List (Str × Str)} : KsOk (tsD M) := fun q hq => by
  obtain ⟨p, _, rfl⟩ := List.mem_map.mp hq
  exact tkK_ok _
theorem kget_tsB {M : List (Str × Str)} {a : Str × Str} : (kget (tsD M) (tkK a)).isSome = decide (a ∈ M) := by
  by_cases h : a ∈ M
  · rw [decide_eq_true h, tsD_eq, kget_map (f := tkK) (g := fun _ => PyData.bool true) tkK_inj, Option.isSome_map, kget_mem, List.map_map]
    exact to_dec (List.mem_map.mpr ⟨a, h, rfl⟩)
  · rw [decide_eq_false h]
    exact kget_ts h
theorem once_no {n : Nat} {ps : List (Option Int)} {p : Option Int} (hp : p ∈ ps) (h : validP n p = false) : onceF n ps = false := by
  rw [Bool.eq_false_iff]
  intro h2
  cases p with
  | none => cases h
  | some i =>
    obtain ⟨a, b⟩ := once_in h2 hp
    rw [validP, decide_eq_true a, decide_eq_true b] at h
    cases h
theorem Gd.up {n m : Nat} {d : PyData} (h : Gd n d) (hm : n ≤ m) : Gd m d := h.mono hm
theorem OkO.up : ∀ {v n : Nat} {w : Ow}, OkO v n w → ∀ {v' n' : Nat}, v ≤ v' → n ≤ n' → OkO v' n' w := by
  intro v n w h
  induction h with
  | bare a b => intro v' n' hv hn; obtain ⟨m, rfl⟩ : ∃ m, n' = m + 1 := ⟨n' - 1, by omega⟩; exact .bare a b
  | table a b c d => intro v' n' hv hn; obtain ⟨m, rfl⟩ : ∃ m, n' = m + 1 := ⟨n' - 1, by omega⟩; exact .table (fun x hx => (a x hx).mono hv) (fun x hx => (b x hx).mono hv) (by omega) (by omega)
  | apart a b => intro v' n' hv hn; obtain ⟨m, rfl⟩ : ∃ m, n' = m + 1 := ⟨n' - 1, by omega⟩; exact .apart (a.mono hv) (b.mono hv)
  | some_ a b ih => intro v' n' hv hn; obtain ⟨m, rfl⟩ : ∃ m, n' = m + 1 := ⟨n' - 1, by omega⟩; exact .some_ (ih hv (by omega)) (b.mono hv)
  | must a b ih => intro v' n' hv hn; obtain ⟨m, rfl⟩ : ∃ m, n' = m + 1 := ⟨n' - 1, by omega⟩; exact .must (ih hv (by omega)) (b.mono hv)
  | opt a ih => intro v' n' hv hn; obtain ⟨m, rfl⟩ : ∃ m, n' = m + 1 := ⟨n' - 1, by omega⟩; exact .opt (ih hv (by omega))
  | each a ih => intro v' n' hv hn; obtain ⟨m, rfl⟩ : ∃ m, n' = m + 1 := ⟨n' - 1, by omega⟩; exact .each (ih hv (by omega))
  | arms a b ih => intro v' n' hv hn; obtain ⟨m, rfl⟩ : ∃ m, n' = m + 1 := ⟨n' - 1, by omega⟩; exact .arms (fun t ht => ih t ht hv (by omega)) (by omega)
  | parts a b ih => intro v' n' hv hn; obtain ⟨m, rfl⟩ : ∃ m, n' = m + 1 := ⟨n' - 1, by omega⟩; exact .parts (fun t ht => ih t ht hv (by omega)) (by omega)
end Law
/-! WXb: the law's own judges of values and ways. -/
namespace Law
open PySem PySem.Spec PyProof.Rows L2 TL
def spOIsG (n : Nat) : SpD := fun as Ψ => ∃ (k : Kd) (d : PyData), as = [.da (kD k), .da d] ∧ Rt n k ∧ Gd 60 d ∧ Ψ (.da (.bool (isV k d))) as
theorem getD_some {xs : List PyData} {i : Nat} (h : i < xs.length) : xs[i]? = some (xs.getD i .none) := by
  rw [List.getD_eq_getElem?_getD, List.getElem?_eq_getElem h]
  rfl
theorem isV_opt_tup (k : Kd) (xs : List PyData) : isV (.opt k) (.tuple xs) = (decide (xs.length < 2) && xs.all fun x => isV k x) := by
  match xs with
  | [] => rw [isV]; rfl
  | [x] => rw [isV]; simp
  | x :: y :: zs => rw [decide_eq_false (by simp)]; simp [isV]
theorem enum_all : ∀ {ps : List (Str × Kd)} {t : List PyData}, t.length = ps.length → (enumN ps).all (fun q => isV q.2.2 (t.getD q.1 .none)) = (ps.zip t).all fun q => isV q.1.2 q.2 := by
  intro ps t h
  rw [Bool.eq_iff_iff, List.all_eq_true, List.all_eq_true]
  constructor
  · rintro hh ⟨p, x⟩ hm
    obtain ⟨j, hj, e⟩ := List.getElem_of_mem hm
    rw [List.length_zip] at hj
    have hp : ps[j]? = some p := by
      rw [List.getElem_zip] at e
      rw [List.getElem?_eq_getElem (by omega), (Prod.mk.inj e).1]
    have hx : t[j]? = some x := by
      rw [List.getElem_zip] at e
      rw [List.getElem?_eq_getElem (by omega), (Prod.mk.inj e).2]
    have := hh (j, p) (mem_enumN hp)
    rw [List.getD_eq_getElem?_getD, hx] at this
    exact this
  · rintro hh ⟨j, p⟩ hm
    have hp := enumN_mem hm
    have hp : ps[j]? = some p := hp
    have hj := (List.getElem?_eq_some_iff.mp hp).1
    have hx : t[j]? = some t[j] := List.getElem?_eq_getElem (by omega)
    rw [List.getD_eq_getElem?_getD, hx]
    refine hh (p, t[j]) ?_
    have : (ps.zip t)[j]? = some (p, t[j]) := by
      rw [List.getElem?_zip_eq_some]
      exact ⟨hp, hx⟩
    exact List.mem_of_getElem? this
theorem arm_any (as : List (Str × Kd)) (s : Str) (x : PyData) : isVOne as (.str s) x = as.any fun p => decide (p.1 = s) && isV p.2 x := by
  rw [isVOne_any]
  congr 1
  funext p
  rw [eqName]
  congr 1
  exact decide_eq_decide.mpr ⟨fun h => h.symm, fun h => h.symm⟩
section
variable {P : Program} {w : World} {K : PySem.W.Frag} {mg : Str → Option Value} {bs h : Heap} (X : K.In h) (G : h.Ns mainGlobals mg) (B : Blt mg)
include X G B
theorem d_oisG (D : DK K "_law_own_is_value" s_l_own_is_value) : ∀ n : Nat, Def P w K mg bs (n + 1) "_law_own_is_value" ["kind", "value"] (spOIsG n)
  | 0 => by
    refine def_ok X G D sc_l_own_is_value (fun f fd F => F.binds (ps := ["kind", "value"]) fun _ _ _ _ _ _ us hl => match us, hl with | [_, _], _ => rfl) (fun as Ψ h => by obtain ⟨_, _, rfl, _⟩ := h; rfl) fun f cdv A fr s H E fx as Ψ vs hsp hl => ?_
    obtain ⟨k, d, rfl, rt, gd, hq⟩ := hsp
    cases rt
  | n + 1 => by
    have gV := d_oisG D n
    refine def_ok X G D sc_l_own_is_value (fun f fd F => F.binds (ps := ["kind", "value"]) fun _ _ _ _ _ _ us hl => match us, hl with | [_, _], _ => rfl) (fun as Ψ h => by obtain ⟨_, _, rfl, _⟩ := h; rfl) fun f cdv A fr s H E fx as Ψ vs hsp hl => ?_
    obtain ⟨k, d, rfl, rt, gd, hq⟩ := hsp
    obtain ⟨v0, v1, rfl⟩ := ar2 hl
    have nd := fx.nd
    have hrt := rt
    cases rt with
    | @num _ lo hi h1 h2 h3 h4 =>
      have e : kD (.num lo hi) = .tuple [.str "num", .int lo, .int hi] := by rw [kD]
      show WSs _ _ [some (.da (kD (.num lo hi))), some (.da d), none, none, none, none] _
      refine xs_ifT (xt_isW fx.u (ix0 (xe_castD (xv 0) e)) (by decide +kernel)) ?_
      by_cases hint : ∃ i, d = .int i
      · obtain ⟨i, rfl⟩ := hint
        rw [isV] at hq
        exact xs_ret (xe_castD (xe_and3B (k := true) (k2 := true) (xe_isInt (d := .int i) B (xv 1)) (fun _ => xe_notB (xe_isBool (d := .int i) B (xv 1))) fun _ _ => xe_le_le (ix1 (xe_castD (xv 0) e)) (xv 1) (ix2 (xe_castD (xv 0) e))) rfl) ⟨_, .da (.da .nil), hq⟩
      · have e1 : isNum d = false := by cases d <;> first | rfl | exact absurd ⟨_, rfl⟩ hint
        have e2 : isV (.num lo hi) d = false := isV_num_no e1
        rw [e2] at hq
        have e3 := isNum_ty d
        rw [e1] at e3
        refine xs_ret (xe_castD (xe_and3B (k3 := false) (xe_isInt (d := d) B (xv 1) gd.noDict) (fun _ => xe_notB (xe_isBool (d := d) B (xv 1) gd.noDict)) fun h5 h6 => by rw [h5, h6] at e3; cases e3) ?_) ⟨_, .da (.da .nil), hq⟩
        rw [← Bool.and_assoc, e3]; rfl
    | @pick _ ns h1 h2 h3 =>
      have e : kD (.pick true ns) = .tuple [.str "pick", namesD true ns] := by rw [kD]
      show WSs _ _ [some (.da (kD (.pick true ns))), some (.da d), none, none, none, none] _
      refine xs_ifF (xt_isW fx.u (ix0 (xe_castD (xv 0) e)) (by decide +kernel)) (ws_nil ?_)
      refine xs_ifT (xt_isW fx.u (ix0 (xe_castD (xv 0) e)) (by decide +kernel)) ?_
      rcases str_or d with ⟨x, rfl⟩ | ⟨t1, t2⟩
      · rw [isV] at hq
        exact xs_ret (xe_castD (xe_andB (k := true) (xe_isStr (d := .str x) B (xv 1)) fun _ => xe_inV fx.u70 (xv 1) (xe_names (ix1 (xe_castD (xv 0) e))) rfl (plain_strs _) (by simp [PyData.depth]) (.inr rfl)) (by rw [any_str]; rfl)) ⟨_, .da (.da .nil), hq⟩
      · have e2 : isV (.pick true ns) d = false := isV_pick_no t1
        rw [e2] at hq
        exact xs_ret (xe_castD (xe_andB (k2 := false) (xe_isStr (d := d) B (xv 1) gd.noDict) fun he => by rw [t1] at he; cases he) (by rw [t1]; rfl)) ⟨_, .da (.da .nil), hq⟩
    | @opt _ k1 h1 =>
      have e := kD_opt k1
      show WSs _ _ [some (.da (kD (.opt k1))), some (.da d), none, none, none, none] _
      refine xs_ifF (xt_isW fx.u (ix0 (xe_castD (xv 0) e)) (by decide +kernel)) (ws_nil ?_)
      refine xs_ifF (xt_isW fx.u (ix0 (xe_castD (xv 0) e)) (by decide +kernel)) (ws_nil ?_)
      rcases tup_or d with ⟨t, rfl⟩ | t1
      rotate_left
      · have e2 := isV_opt_no (k := k1) t1
        rw [e2] at hq
        refine xs_ifT (xt_cast (xt_not (xt_val (xe_isTup (d := d) B (xv 1) gd.noDict))) (by rw [t1]; rfl)) ?_
        exact xs_ret xe_bl ⟨_, .da (.da .nil), hq⟩
      refine xs_ifF (xt_cast (xt_not (xt_val (k := true) (xe_isTup (d := .tuple t) B (xv 1)))) rfl) (ws_nil ?_)
      refine xs_ifT (xt_isW fx.u (ix0 (xe_castD (xv 0) e)) (by decide +kernel)) ?_
      rw [isV_opt_tup] at hq
      by_cases hl2 : t.length < 2
      · rw [decide_eq_true hl2, Bool.true_and] at hq
        exact xs_ret (xe_castD (xe_andB (k := true) (k2 := t.all fun x => isV k1 x) (xe_castD (xe_ltB (xe_len B (xv 1) (.inr rfl)) xe_int) (congrArg PyData.bool (decide_eq_true (by omega)))) fun _ => (xe_allM (fun x : PyData => isV k1 x) t B rfl (xe_lcM [("inner", 2)] (fun (x : PyData) Γ => Γ.set 2 (some (.da x))) t id (fun x => .bool (isV k1 x)) fx (R := fun x => .da (.bool (isV k1 x))) (by rw [List.map_id]; exact xi_tup (xv 1)) (few4 (by omega)) (fun x hx s H C cl fp => gc_name 2 nd rfl) fun x hx s H C cl fp => (fun Ψ' hq' => we_fnP gV fx.blk.room fx.blk.gd (wa_d (ix1 (xe_castD (xv 0) e)) (wa_d (xv 2) wa_n)) ⟨k1, x, rfl, h1, (gd.item hx).mono (by decide), hq'⟩)))) (by rw [Bool.true_and])) ⟨_, .da (.da .nil), hq⟩
      · rw [decide_eq_false hl2, Bool.false_and] at hq
        exact xs_ret (xe_castD (xe_andB (k := false) (k2 := false) (xe_castD (xe_ltB (xe_len B (xv 1) (.inr rfl)) xe_int) (congrArg PyData.bool (decide_eq_false (by omega)))) fun he => by cases he) rfl) ⟨_, .da (.da .nil), hq⟩
    | @row _ m k1 h1 h2 =>
      have e := kD_row k1 m
      show WSs _ _ [some (.da (kD (.row k1 m))), some (.da d), none, none, none, none] _
      refine xs_ifF (xt_isW fx.u (ix0 (xe_castD (xv 0) e)) (by decide +kernel)) (ws_nil ?_)
      refine xs_ifF (xt_isW fx.u (ix0 (xe_castD (xv 0) e)) (by decide +kernel)) (ws_nil ?_)
      rcases tup_or d with ⟨t, rfl⟩ | t1
      rotate_left
      · have e2 := isV_row_no (k := k1) (m := m) t1
        rw [e2] at hq
        refine xs_ifT (xt_cast (xt_not (xt_val (xe_isTup (d := d) B (xv 1) gd.noDict))) (by rw [t1]; rfl)) ?_
        exact xs_ret xe_bl ⟨_, .da (.da .nil), hq⟩
      refine xs_ifF (xt_cast (xt_not (xt_val (k := true) (xe_isTup (d := .tuple t) B (xv 1)))) rfl) (ws_nil ?_)
      refine xs_ifF (xt_isW fx.u (ix0 (xe_castD (xv 0) e)) (by decide +kernel)) (ws_nil ?_)
      refine xs_ifT (xt_isW fx.u (ix0 (xe_castD (xv 0) e)) (by decide +kernel)) ?_
      rw [isV] at hq
      by_cases hl2 : t.length ≤ m
      · rw [decide_eq_true hl2, Bool.true_and] at hq
        exact xs_ret (xe_castD (xe_andB (k := true) (k2 := t.all fun x => isV k1 x) (xe_castD (xe_cmp op_le (nomark _) o2_bl (xe_len B (xv 1) (.inr rfl)) (ix2 (xe_castD (xv 0) e))) (congrArg PyData.bool (decide_eq_true (by omega)))) fun _ => (xe_allM (fun x : PyData => isV k1 x) t B rfl (xe_lcM [("inner", 2)] (fun (x : PyData) Γ => Γ.set 2 (some (.da x))) t id (fun x => .bool (isV k1 x)) fx (R := fun x => .da (.bool (isV k1 x))) (by rw [List.map_id]; exact xi_tup (xv 1)) (few4 (by omega)) (fun x hx s H C cl fp => gc_name 2 nd rfl) fun x hx s H C cl fp => (fun Ψ' hq' => we_fnP gV fx.blk.room fx.blk.gd (wa_d (ix1 (xe_castD (xv 0) e)) (wa_d (xv 2) wa_n)) ⟨k1, x, rfl, h1, (gd.item hx).mono (by decide), hq'⟩)))) (by rw [Bool.true_and])) ⟨_, .da (.da .nil), hq⟩
      · rw [decide_eq_false hl2, Bool.false_and] at hq
        exact xs_ret (xe_castD (xe_andB (k := false) (k2 := false) (xe_castD (xe_cmp op_le (nomark _) o2_bl (xe_len B (xv 1) (.inr rfl)) (ix2 (xe_castD (xv 0) e))) (congrArg PyData.bool (decide_eq_false (by omega)))) fun he => by cases he) rfl) ⟨_, .da (.da .nil), hq⟩
    | @one _ as h1 h2 h3 h4 =>
      have e := kD_one as
      show WSs _ _ [some (.da (kD (.one as))), some (.da d), none, none, none, none] _
      refine xs_ifF (xt_isW fx.u (ix0 (xe_castD (xv 0) e)) (by decide +kernel)) (ws_nil ?_)
      refine xs_ifF (xt_isW fx.u (ix0 (xe_castD (xv 0) e)) (by decide +kernel)) (ws_nil ?_)
      rcases tup_or d with ⟨t, rfl⟩ | t1
      rotate_left
      · have e2 := isV_one_no (as := as) t1
        rw [e2] at hq
        refine xs_ifT (xt_cast (xt_not (xt_val (xe_isTup (d := d) B (xv 1) gd.noDict))) (by rw [t1]; rfl)) ?_
        exact xs_ret xe_bl ⟨_, .da (.da .nil), hq⟩
      refine xs_ifF (xt_cast (xt_not (xt_val (k := true) (xe_isTup (d := .tuple t) B (xv 1)))) rfl) (ws_nil ?_)
      refine xs_ifF (xt_isW fx.u (ix0 (xe_castD (xv 0) e)) (by decide +kernel)) (ws_nil ?_)
      refine xs_ifF (xt_isW fx.u (ix0 (xe_castD (xv 0) e)) (by decide +kernel)) (ws_nil ?_)
      refine xs_ifT (xt_isW fx.u (ix0 (xe_castD (xv 0) e)) (by decide +kernel)) ?_
      by_cases hl2 : t.length = 2
      rotate_left
      · have e2 := isV_one_ne (as := as) hl2
        rw [e2] at hq
        refine xs_ifT (xt_cast (xt_or2 (k := true) (k2 := true) (xt_cast (xt_neI fx.u (xe_len B (xv 1) (.inr rfl)) xe_int) (by rw [decide_eq_false (by omega)]; rfl)) fun he => by cases he) rfl) ?_
        exact xs_ret xe_bl ⟨_, .da (.da .nil), hq⟩
      obtain ⟨u, x, rfl⟩ := two_of hl2
      rw [isV] at hq
      have gu : Gd 60 u := (gd.item (by simp)).mono (by decide)
      have gx : Gd 60 x := (gd.item (by simp)).mono (by decide)
      rcases str_or u with ⟨s, rfl⟩ | ⟨t1, t2⟩
      rotate_left
      · rw [isVOne_none fun p _ => t2 p.1] at hq
        refine xs_ifT (xt_cast (xt_or2 (k := false) (k2 := true) (xt_cast (xt_neI fx.u (xe_len B (xv 1) (.inr rfl)) xe_int) rfl) fun _ => xt_cast (xt_not (xt_val (xe_isStr (d := u) B (ix0 (xv 1)) gu.noDict))) (by rw [t1]; rfl)) rfl) ?_
        exact xs_ret xe_bl ⟨_, .da (.da .nil), hq⟩
      rw [arm_any] at hq
      refine xs_ifF (xt_cast (xt_or2 (k := false) (k2 := false) (xt_cast (xt_neI fx.u (xe_len B (xv 1) (.inr rfl)) xe_int) rfl) fun _ => xt_cast (xt_not (xt_val (k := true) (xe_isStr (d := .str s) B (ix0 (xv 1))))) rfl) rfl) (ws_nil ?_)
      exact xs_ret (xe_anyM (fun p : Str × Kd => decide (p.1 = s) && isV p.2 x) as B rfl (xe_lcM [("arm", 3)] (fun (p : Str × Kd) Γ => Γ.set 3 (some (.da (armD p)))) as armD (fun p => .bool (decide (p.1 = s) && isV p.2 x)) fx (R := fun p => .da (.bool (decide (p.1 = s) && isV p.2 x))) (xi_tup (ix1 (xe_castD (xv 0) e))) (few4 (by omega)) (fun p hp s H C cl fp => gc_name 3 nd rfl) fun p hp s' H C cl fp => xe_andB (xt_eqStrE fx.blk.u (ix0 (xv 3)) (ix0 (xv 1))) fun hc => (fun Ψ' hq' => we_fnP gV fx.blk.room fx.blk.gd (wa_d (ix1 (xv 3)) (wa_d (ix1 (xv 1)) wa_n)) ⟨p.2, x, rfl, h4 p hp, gx, hq'⟩))) ⟨_, .da (.da .nil), hq⟩
    | @rec_ _ ps h1 h2 =>
      have e := kD_rec ps
      show WSs _ _ [some (.da (kD (.rec_ ps))), some (.da d), none, none, none, none] _
      refine xs_ifF (xt_isW fx.u (ix0 (xe_castD (xv 0) e)) (by decide +kernel)) (ws_nil ?_)
      refine xs_ifF (xt_isW fx.u (ix0 (xe_castD (xv 0) e)) (by decide +kernel)) (ws_nil ?_)
      rcases tup_or d with ⟨t, rfl⟩ | t1
      rotate_left
      · have e2 := isV_rec_no (as := ps) t1
        rw [e2] at hq
        refine xs_ifT (xt_cast (xt_not (xt_val (xe_isTup (d := d) B (xv 1) gd.noDict))) (by rw [t1]; rfl)) ?_
        exact xs_ret xe_bl ⟨_, .da (.da .nil), hq⟩
      refine xs_ifF (xt_cast (xt_not (xt_val (k := true) (xe_isTup (d := .tuple t) B (xv 1)))) rfl) (ws_nil ?_)
      refine xs_ifF (xt_isW fx.u (ix0 (xe_castD (xv 0) e)) (by decide +kernel)) (ws_nil ?_)
      refine xs_ifF (xt_isW fx.u (ix0 (xe_castD (xv 0) e)) (by decide +kernel)) (ws_nil ?_)
      refine xs_ifF (xt_isW fx.u (ix0 (xe_castD (xv 0) e)) (by decide +kernel)) (ws_nil ?_)
      rw [isV, isVRec_zip] at hq
      by_cases hl2 : t.length = ps.length
      rotate_left
      · rw [decide_eq_false hl2, Bool.false_and] at hq
        refine xs_ifT (xt_cast (xt_neI fx.u (xe_len B (xv 1) (.inr rfl)) (xe_len B (ix1 (xe_castD (xv 0) e)) (.inr rfl))) (by rw [List.length_map, decide_eq_false (by omega)]; rfl)) ?_
        exact xs_ret xe_bl ⟨_, .da (.da .nil), hq⟩
      rw [decide_eq_true hl2, Bool.true_and, ← enum_all hl2] at hq
      refine xs_ifF (xt_cast (xt_neI fx.u (xe_len B (xv 1) (.inr rfl)) (xe_len B (ix1 (xe_castD (xv 0) e)) (.inr rfl))) (by rw [List.length_map, hl2]; simp)) (ws_nil ?_)
      refine xs_ret (xe_allM (fun q : Nat × (Str × Kd) => isV q.2.2 (t.getD q.1 .none)) (enumN ps) B rfl (xe_lcM [("k", 4), ("part", 5)] (fun (q : Nat × (Str × Kd)) Γ => (Γ.set 4 (some (.da (.int (q.1 : Nat))))).set 5 (some (.da (armD q.2)))) (enumN ps) (fun q => .tuple [.int (q.1 : Nat), armD q.2]) (fun q => .bool (isV q.2.2 (t.getD q.1 .none))) fx (R := fun q => .da (.bool (isV q.2.2 (t.getD q.1 .none)))) (xi_enumT (E := armD) (xs := ps) B (ix1 (xe_castD (xv 0) e))) (by rw [enumN_len]; exact few4 (by omega)) (fun q hq s H C cl fp => gc_tup fx.calm (gsc_cons (gc_name 4 nd (gsc_cons (gc_name 5 nd (gsc_nil rfl)))))) fun q hq s H C cl fp Ψ' hq' => ?_)) ⟨_, .da (.da .nil), hq⟩
      have em := enumN_mem hq
      have hi := (List.getElem?_eq_some_iff.mp em).1
      have hx : t[q.1]? = some (t.getD q.1 .none) := getD_some (by omega)
      exact we_fnP gV fx.blk.room fx.blk.gd (wa_d (ix1 (xv 5)) (wa_d (xe_ix (xv 1) (xv 4) (.inr rfl) (atI_n hx)) wa_n)) ⟨q.2.2, t.getD q.1 .none, rfl, h2 _ (List.mem_of_getElem? em), (gd.item (List.mem_of_getElem? hx)).mono (by decide), hq'⟩
end
end Law
/-! WXc: fits of odd ways. -/
namespace Law
open PySem PySem.Spec PyProof.Rows L2 TL
/-- what is asked: a way, two kinds -/
structure FA (w : Ow) (l r : Kd) : Prop where
  ok : ∃ m, OkO 60 m w
  fl : FK l
  fr : FK r
def spFwO (n : Nat) : SpD := fun as Ψ => ∃ (w : Ow) (l r : Kd), as = [.da (owD w), .da (kD l), .da (kD r), .da (.int (n : Nat))] ∧ FA w l r ∧ Ψ (.da (.bool (fitsO n w l r))) as
def spFitsO : SpD := fun as Ψ => ∃ (w : Ow) (l r : Kd), as = [.da (owD w), .da (kD l), .da (kD r)] ∧ FA w l r ∧ Ψ (.da (.bool (fitsO 6 w l r))) as
def spBareO : SpD := fun as Ψ => ∃ (s : Str) (l r : Kd), as = [.da (.str s), .da (kD l), .da (kD r)] ∧ (s = "same" ∨ s = "rank" ∨ s = "clip") ∧ FK l ∧ FK r ∧ Ψ (.da (.bool (bareF s l r))) as
def spFTabO : SpD := fun as Ψ => ∃ (f g : List PyData) (l r : Kd), as = [.da (.tuple f), .da (.tuple g), .da (kD l), .da (kD r)] ∧ FA (.table f g) l r ∧ Ψ (.da (.bool (tabF f g l r))) as
def spFSomeO (n : Nat) : SpD := fun as Ψ => ∃ (w : Ow) (d : PyData) (l r : Kd), as = [.da (owD (.some_ w d)), .da (kD l), .da (kD r), .da (.int (n : Nat))] ∧ FA (.some_ w d) l r ∧ Ψ (.da (.bool (fitsO (n + 1) (.some_ w d) l r))) as
def spFMustO (n : Nat) : SpD := fun as Ψ => ∃ (w : Ow) (d : PyData) (l r : Kd), as = [.da (owD (.must w d)), .da (kD l), .da (kD r), .da (.int (n : Nat))] ∧ FA (.must w d) l r ∧ Ψ (.da (.bool (fitsO (n + 1) (.must w d) l r))) as
def spFInO (n : Nat) : SpD := fun as Ψ => ∃ (w0 w : Ow) (l r : Kd), as = [.da (owD w0), .da (kD l), .da (kD r), .da (.int (n : Nat))] ∧ (w0 = .opt w ∨ w0 = .each w) ∧ FA w0 l r ∧ Ψ (.da (.bool (fitsO (n + 1) w0 l r))) as
def spFArmsO (n : Nat) : SpD := fun as Ψ => ∃ (ts : List (Str × Str × Ow)) (l r : Kd), as = [.da (.tuple (ts.map orA)), .da (kD l), .da (kD r), .da (.int (n : Nat))] ∧ FA (.arms ts) l r ∧ Ψ (.da (.bool (fitsO (n + 1) (.arms ts) l r))) as
def spFPartsO (n : Nat) : SpD := fun as Ψ => ∃ (ts : List (Option Int × Option Int × Ow)) (l r : Kd), as = [.da (.tuple (ts.map orQ)), .da (kD l), .da (kD r), .da (.int (n : Nat))] ∧ FA (.parts ts) l r ∧ Ψ (.da (.bool (fitsO (n + 1) (.parts ts) l r))) as
def spTagsO : SpD := fun as Ψ => ∃ (xs : List (Str × Kd)) (ns : List Str), as = [.da (kD (.one xs)), .da (.list (ns.map .str))] ∧ xs.length ≤ 6 ∧ Ψ (.da (.bool (xs.all fun p => decide (p.1 ∈ ns)))) as
def spIsPlO : SpD := fun as Ψ => ∃ (qs : List (Str × Kd)) (p : Option Int), as = [.da (kD (.rec_ qs)), .da (plI p)] ∧ Ψ (.da (.bool (validP qs.length p))) as
def spOnceO : SpD := fun as Ψ => ∃ (qs : List (Str × Kd)) (ps : List (Option Int)), as = [.da (kD (.rec_ qs)), .da (.list (ps.map plI))] ∧ ps.length ≤ 200 ∧ qs.length ≤ 6 ∧ Ψ (.da (.bool (onceF qs.length ps))) as
def spArmKO : SpD := fun as Ψ => ∃ (xs : List (Str × Kd)) (s : Str), as = [.da (kD (.one xs)), .da (.str s)] ∧ Ψ (.da (if s ∈ xs.map (·.1) then kD (armL xs s) else .none)) as
theorem in3 (s a b c : Str) : ([PyData.str a, .str b, .str c].any fun z => PyData.eqv z (.str s)) = decide (s ∈ [a, b, c]) := any_str s [a, b, c]
theorem in2 (s a b : Str) : ([PyData.str a, .str b].any fun z => PyData.eqv z (.str s)) = decide (s ∈ [a, b]) := any_str s [a, b]
section
variable {P : Program} {w : World} {K : PySem.W.Frag} {mg : Str → Option Value} {bs h : Heap} (X : K.In h) (G : h.Ns mainGlobals mg) (B : Blt mg)
include X G B
theorem d_armKO (D : DK K "arm_kind" s_arm_kind)  : Def P w K mg bs 1 "arm_kind" ["kind", "tag"] spArmKO := by
  refine def_ok X G D sc_arm_kind (fun f fd F => F.binds (ps := ["kind", "tag"]) fun _ _ _ _ _ _ us hl => match us, hl with | [_, _], _ => rfl) (fun as Ψ h => by obtain ⟨_, _, rfl, _⟩ := h; rfl) fun f cdv A fr s H E fx as Ψ vs hsp hl => ?_
  obtain ⟨xs, s, rfl, hq⟩ := hsp
  obtain ⟨v0, v1, rfl⟩ := ar2 hl
  have nd := fx.nd
  have e := kD_one xs
  show WSs _ _ [some (.da (kD (.one xs))), some (.da (.str s)), none, none] _
  refine ws_forT fx xs armD (fun _ : Unit => [some (.da (kD (.one xs))), some (.da (.str s)), none, none]) (fun i _ => s ∉ (xs.take i).map (·.1)) () (xi_tup (ix1 (xe_castD (xv 0) e))) (by simp) rfl ?_ ?_
  · rintro i p _ hp inv
    refine wg_tup fx.calm (wgs_cons (wg_name 2 nd (wgs_cons (wg_name 3 nd (wgs_nil ?_)))))
    show WSs _ _ [some (.da (kD (.one xs))), some (.da (.str s)), some (.da (.str p.1)), some (.da (kD p.2))] _
    refine xs_if (xt_eqS fx.u (xv 2) (xv 1)) (fun hc => ?_) fun hc => ws_nil (ws_drop 2 (ws_drop 3 (ws_nil ⟨(), ?_, rfl⟩)))
    · have hc := of_decide_eq_true hc
      have hm : s ∈ xs.map (·.1) := List.mem_map.mpr ⟨p, List.mem_of_getElem? hp, hc⟩
      have e2 : armL xs s = p.2 := armL_first hp hc inv
      rw [if_pos hm, e2] at hq
      exact xs_ret (xv 3) ⟨_, .da (.da (.nil)), hq⟩
    · have hc := of_decide_eq_false hc
      rw [List.take_add_one, hp, List.map_append, List.mem_append]
      rintro (h | h)
      · exact inv h
      · exact hc (List.mem_singleton.mp h).symm
  · rintro _ inv
    rw [List.take_length] at inv
    rw [if_neg inv] at hq
    exact xs_ret xe_non ⟨_, .da (.da (.nil)), hq⟩
theorem d_tagsO (D : DK K "has_all_tags" s_has_all_tags)  : Def P w K mg bs 1 "has_all_tags" ["kind", "tags"] spTagsO := by
  refine def_ok X G D sc_has_all_tags (fun f fd F => F.binds (ps := ["kind", "tags"]) fun _ _ _ _ _ _ us hl => match us, hl with | [_, _], _ => rfl) (fun as Ψ h => by obtain ⟨_, _, rfl, _⟩ := h; rfl) fun f cdv A fr s H E fx as Ψ vs hsp hl => ?_
  obtain ⟨xs, ns, rfl, lx, hq⟩ := hsp
  obtain ⟨v0, v1, rfl⟩ := ar2 hl
  have nd := fx.nd
  have e := kD_one xs
  show WSs _ _ [some (.da (kD (.one xs))), some (.da (.list (ns.map .str))), none, none] _
  exact xs_ret (xe_allM (fun p : Str × Kd => decide (p.1 ∈ ns)) xs B rfl (xe_lcM [("name", 2), ("inner", 3)] (fun (p : Str × Kd) Γ => (Γ.set 2 (some (.da (.str p.1)))).set 3 (some (.da (kD p.2)))) xs armD (fun p => .bool (decide (p.1 ∈ ns))) fx (R := fun p => .da (.bool (decide (p.1 ∈ ns)))) (xi_tup (ix1 (xe_castD (xv 0) e))) (few4 (by omega)) (fun p hp s H C cl fp => gc_tup rfl (gsc_cons (gc_name 2 nd (gsc_cons (gc_name 3 nd (gsc_nil rfl)))))) fun p hp s H C cl fp => xe_castD (xe_inV fx.blk.u70 (xv 2) (xv 1) rfl (plain_strs _) (by simp [PyData.depth]) (.inl rfl)) (congrArg PyData.bool (any_str p.1 ns)))) ⟨_, .da (.da (.nil)), hq⟩
theorem d_is_placeO (D : DK K "is_place" s_is_place) (gN : Def P w K mg bs 1 "is_number" ["thing"] spIsNum) : Def P w K mg bs 2 "is_place" ["kind", "place"] spIsPlO := by
  refine def_ok X G D sc_is_place (fun f fd F => F.binds (ps := ["kind", "place"]) fun _ _ _ _ _ _ us hl => match us, hl with | [_, _], _ => rfl) (fun as Ψ h => by obtain ⟨_, _, rfl, _⟩ := h; rfl) fun f cdv A fr s H E fx as Ψ vs hsp hl => ?_
  obtain ⟨qs, p, rfl, hq⟩ := hsp
  obtain ⟨v0, v1, rfl⟩ := ar2 hl
  have nd := fx.nd
  cases p with
  | none =>
    show WSs _ _ [some (.da (kD (.rec_ qs))), some (.da .none)] _
    exact xs_ifT (xt_cast (xt_isN (xv 1)) rfl) (xs_ret xe_bl ⟨_, .da (.da (.nil)), hq⟩)
  | some i =>
    have e := kD_rec qs
    show WSs _ _ [some (.da (kD (.rec_ qs))), some (.da (.int i))] _
    refine xs_ifF (xt_cast (xt_isN (xv 1)) rfl) (ws_nil ?_)
    exact xs_ret (xe_castD (xe_andB (k := true) (k2 := validP qs.length (some i)) (fun Ψ' hq' => we_fnP gN fx.room fx.gd (wa_d (xv 1) wa_n) ⟨.int i, rfl, rfl, hq'⟩) fun _ => xe_castD (xe_le_lt xe_int (xv 1) (xe_cast (j := (qs.length : Nat)) (xe_len B (ix1 (xe_castD (xv 0) e)) (.inr rfl)) (by rw [List.length_map]))) rfl) (by rw [Bool.true_and])) ⟨_, .da (.da (.nil)), hq⟩
theorem d_onceO (D : DK K "each_place_once" s_each_place_once)  : Def P w K mg bs 1 "each_place_once" ["kind", "places"] spOnceO := by
  refine def_ok X G D sc_each_place_once (fun f fd F => F.binds (ps := ["kind", "places"]) fun _ _ _ _ _ _ us hl => match us, hl with | [_, _], _ => rfl) (fun as Ψ h => by obtain ⟨_, _, rfl, _⟩ := h; rfl) fun f cdv A fr s H E fx as Ψ vs hsp hl => ?_
  obtain ⟨qs, ps, rfl, lp, lq, hq⟩ := hsp
  obtain ⟨v0, v1, rfl⟩ := ar2 hl
  have nd := fx.nd
  have e := kD_rec qs
  have l2 : (ps.filterMap id).length ≤ 200 := Nat.le_trans (List.length_filterMap_le ..) lp
  show WSs _ _ [some (.da (kD (.rec_ qs))), some (.da (.list (ps.map plI))), none] _
  exact xs_ret (xe_eqP fx.u (d := .list (sortD ((ps.filterMap id).map .int))) (d' := .list (ilist (List.range qs.length))) (xe_frz (xe_sorted B fx.u70 (srt_ints (xs := ps.filterMap id) (few4 (by omega))) (xe_castD (xe_frz (xe_lcF [("place", 2)] (fun (p : Option Int) Γ => Γ.set 2 (some (.da (plI p)))) ps plI plI (fun p => !isN (plI p)) fx (R := fun p => .da (plI p)) (xi_lst (xv 1)) (few4 (by omega)) (fun p hp s H C cl fp => gc_name 2 nd rfl) (fun p hp s H C cl fp => xt_isNotN (xv 2)) fun p hp _ s H C cl fp => xv 2)) (congrArg PyData.list (filt_noneI ps))))) (xe_frz (xe_listRgN B fx.calm (n := qs.length) (xe_cast (xe_len B (ix1 (xe_castD (xv 0) e)) (.inr rfl)) (by rw [List.length_map])) (by omega))) (by rw [sortD_map (E := PyData.int), PyData.plain]; exact plain_ints) (by rw [PyData.plain]; exact plain_ilist _) (sort_dp _)) ⟨_, .da (.da (.nil)), hq⟩
theorem d_bareO (D : DK K "fits_bare" s_fits_bare) (gS : Def P w K mg bs 11 "size_of" ["kind"] (spSize 5)) : Def P w K mg bs 12 "fits_bare" ["word", "left", "right"] spBareO := by
  refine def_ok X G D sc_fits_bare (fun f fd F => F.binds (ps := ["word", "left", "right"]) fun _ _ _ _ _ _ us hl => match us, hl with | [_, _, _], _ => rfl) (fun as Ψ h => by obtain ⟨_, _, _, rfl, _⟩ := h; rfl) fun f cdv A fr s H E fx as Ψ vs hsp hl => ?_
  obtain ⟨s, l, r, rfl, hs, fl, fr, hq⟩ := hsp
  obtain ⟨v0, v1, v2, rfl⟩ := ar3 hl
  have nd := fx.nd
  show WSs _ _ [some (.da (.str s)), some (.da (kD l)), some (.da (kD r))] _
  rcases hs with rfl | rfl | rfl
  · rw [bareF, if_pos rfl] at hq
    refine is_w fx.u (xv 0) ?_
    exact xs_ret (xe_eqP fx.u (xe_kP (xv 1)) (xe_kP (xv 2)) (kP_vd fl.rt).plain (kP_vd fr.rt).plain (Nat.le_trans (kP_vd fl.rt).depth (by decide))) ⟨_, .da (.da (.da (.nil))), hq⟩
  · rw [bareF, if_neg (by decide +kernel), if_pos rfl] at hq
    refine no_w fx.u (xv 0) ?_
    refine is_w fx.u (xv 0) ?_
    exact xs_ret (xe_castD (xe_eqI fx.u (fun Ψ' hq' => we_fnP gS fx.room fx.gd (wa_d (xv 1) wa_n) ⟨l, rfl, fl.ok, hq'⟩) (fun Ψ' hq' => we_fnP gS fx.room fx.gd (wa_d (xv 2) wa_n) ⟨r, rfl, fr.ok, hq'⟩)) (congrArg PyData.bool (decide_eq_decide.mpr Int.ofNat_inj))) ⟨_, .da (.da (.da (.nil))), hq⟩
  · rw [bareF, if_neg (by decide +kernel), if_neg (by decide +kernel), if_pos rfl] at hq
    refine no_w fx.u (xv 0) ?_
    refine no_w fx.u (xv 0) ?_
    obtain ⟨a, e1⟩ := kD_wd l
    obtain ⟨b, e2⟩ := kD_wd r
    exact xs_ret (xe_andB (xt_eqStrE fx.u (ix0 (xe_castD (xv 1) e1)) xe_str) fun _ => xt_eqStrE fx.u (ix0 (xe_castD (xv 2) e2)) xe_str) ⟨_, .da (.da (.da (.nil))), hq⟩
theorem d_ftabO (D : DK K "fits_table" s_fits_table) (hT : ∀ Y : Cx, Y.mg = mg → Y.K = K → ∃ t, Y.mg "TABLE_SIZE" = some (.int 20 t)) (gV : Def P w K mg bs 11 "is_value" ["kind", "value"] (spIsV 5)) (gS : Def P w K mg bs 11 "size_of" ["kind"] (spSize 5)) : Def P w K mg bs 12 "fits_table" ["forth", "back", "left", "right"] spFTabO := by
  refine def_ok X G D sc_fits_table (fun f fd F => F.binds (ps := ["forth", "back", "left", "right"]) fun _ _ _ _ _ _ us hl => match us, hl with | [_, _, _, _], _ => rfl) (fun as Ψ h => by obtain ⟨_, _, _, _, rfl, _⟩ := h; rfl) fun f cdv A fr s H E fx as Ψ vs hsp hl => ?_
  obtain ⟨f, g, l, r, rfl, q, hq⟩ := hsp
  obtain ⟨v0, v1, v2, v3, rfl⟩ := ar4 hl
  have nd := fx.nd
  obtain ⟨⟨m, okw⟩, fl, fr⟩ := q
  cases okw with
  | table mf mg lf lg =>
  show WSs _ _ [some (.da (.tuple f)), some (.da (.tuple g)), some (.da (kD l)), some (.da (kD r)), none] _
  have no : tabF f g l r = false → Ψ (.da (.bool false)) [.da (.tuple f), .da (.tuple g), .da (kD l), .da (kD r)] := fun e => by rw [← e]; exact hq
  refine xs_if (xt_or2 (xt_gt (fun Ψ' hq' => we_fnP gS fx.room fx.gd (wa_d (xv 2) wa_n) ⟨l, rfl, fl.ok, hq'⟩) (xe_globI (hT _ rfl rfl))) fun _ => xt_gt (fun Ψ' hq' => we_fnP gS fx.room fx.gd (wa_d (xv 3) wa_n) ⟨r, rfl, fr.ok, hq'⟩) (xe_globI (hT _ rfl rfl))) (fun hc => ?_) fun hc => ws_nil ?_
  · refine xs_ret xe_bl ⟨_, .da (.da (.da (.da .nil))), no ?_⟩
    rw [Bool.or_eq_true, decide_eq_true_eq, decide_eq_true_eq] at hc
    unfold tabF
    rcases hc with hc | hc
    · rw [decide_eq_false (show ¬ sz l ≤ 20 by omega)]; simp
    · rw [decide_eq_false (show ¬ sz r ≤ 20 by omega)]; simp
  rw [Bool.or_eq_false_iff, decide_eq_false_iff_not, decide_eq_false_iff_not] at hc
  refine xs_if (xt_or2 (xt_neI fx.u (xe_len B (xv 0) (.inr rfl)) (fun Ψ' hq' => we_fnP gS fx.room fx.gd (wa_d (xv 2) wa_n) ⟨l, rfl, fl.ok, hq'⟩)) fun _ => xt_neI fx.u (xe_len B (xv 1) (.inr rfl)) (fun Ψ' hq' => we_fnP gS fx.room fx.gd (wa_d (xv 3) wa_n) ⟨r, rfl, fr.ok, hq'⟩)) (fun hd => ?_) fun hd => ws_nil ?_
  · refine xs_ret xe_bl ⟨_, .da (.da (.da (.da .nil))), no ?_⟩
    rw [Bool.or_eq_true, Bool.not_eq_true', Bool.not_eq_true', decide_eq_false_iff_not, decide_eq_false_iff_not] at hd
    unfold tabF
    rcases hd with hd | hd
    · rw [decide_eq_false (show ¬ f.length = sz l by omega)]; simp
    · rw [decide_eq_false (show ¬ g.length = sz r by omega)]; simp
  rw [Bool.or_eq_false_iff, Bool.not_eq_false', Bool.not_eq_false', decide_eq_true_eq, decide_eq_true_eq] at hd
  have et : tabF f g l r = ((f.all fun x => isV r x) && (g.all fun x => isV l x)) := by
    unfold tabF
    rw [decide_eq_true (show sz l ≤ 20 by omega), decide_eq_true (show sz r ≤ 20 by omega), decide_eq_true (show f.length = sz l by omega), decide_eq_true (show g.length = sz r by omega)]
    rfl
  refine xs_if (xt_not (xt_val (xe_allM (fun x : PyData => isV r x) f B rfl (xe_lcM [("entry", 4)] (fun (x : PyData) Γ => Γ.set 4 (some (.da x))) f id (fun x => .bool (isV r x)) fx (R := fun x => .da (.bool (isV r x))) (by rw [List.map_id]; exact xi_tup (xv 0)) (few4 (by omega)) (fun x hx s H C cl fp => gc_name 4 nd rfl) fun x hx s H C cl fp Ψ' hq' => we_fnP gV fx.blk.room fx.blk.gd (wa_d (xv 3) (wa_d (xv 4) wa_n)) ⟨r, x, rfl, fr.rt5, mf x hx, hq'⟩)))) (fun he => ?_) fun he => ws_nil ?_
  · refine xs_ret xe_bl ⟨_, .da (.da (.da (.da .nil))), no ?_⟩
    rw [Bool.not_eq_true'] at he
    rw [et, he]
    rfl
  rw [Bool.not_eq_false'] at he
  rw [et, he, Bool.true_and] at hq
  exact xs_ret (xe_allM (fun x : PyData => isV l x) g B rfl (xe_lcM [("entry", 4)] (fun (x : PyData) Γ => Γ.set 4 (some (.da x))) g id (fun x => .bool (isV l x)) fx (R := fun x => .da (.bool (isV l x))) (by rw [List.map_id]; exact xi_tup (xv 1)) (few4 (by omega)) (fun x hx s H C cl fp => gc_name 4 nd rfl) fun x hx s H C cl fp Ψ' hq' => we_fnP gV fx.blk.room fx.blk.gd (wa_d (xv 2) (wa_d (xv 4) wa_n)) ⟨l, x, rfl, fl.rt5, mg x hx, hq'⟩)) ⟨_, .da (.da (.da (.da (.nil)))), hq⟩
theorem d_fsomeO (D : DK K "fits_some" s_fits_some) {n : Nat} (gV : Def P w K mg bs 11 "is_value" ["kind", "value"] (spIsV 5)) (gF : Def P w K mg bs (2 * n + 14) "fits_within" ["way", "left", "right", "depth"] (spFwO n)) : Def P w K mg bs (2 * n + 15) "fits_some" ["way", "left", "right", "depth"] (spFSomeO n) := by
  refine def_ok X G D sc_fits_some (fun f fd F => F.binds (ps := ["way", "left", "right", "depth"]) fun _ _ _ _ _ _ us hl => match us, hl with | [_, _, _, _], _ => rfl) (fun as Ψ h => by obtain ⟨_, _, _, _, rfl, _⟩ := h; rfl) fun f cdv A fr s H E fx as Ψ vs hsp hl => ?_
  obtain ⟨w, d, l, r, rfl, q, hq⟩ := hsp
  obtain ⟨v0, v1, v2, v3, rfl⟩ := ar4 hl
  have nd := fx.nd
  have r11 := fx.room.mono (show 11 ≤ 2 * n + 14 by omega)
  have r1 := fx.room.mono (show 1 ≤ 2 * n + 14 by omega)
  have r2 := fx.room.mono (show 2 ≤ 2 * n + 14 by omega)
  have e := owD_some w d
  obtain ⟨⟨m, okw⟩, fl, fr⟩ := q
  cases okw with
  | some_ hw hd =>
  have no : fitsO (n + 1) (.some_ w d) l r = false → Ψ (.da (.bool false)) [.da (owD (.some_ w d)), .da (kD l), .da (kD r), .da (.int (n : Nat))] := fun e => by rw [← e]; exact hq
  obtain ⟨a, e2⟩ := kD_wd r
  show WSs _ _ [some (.da (owD (.some_ w d))), some (.da (kD l)), some (.da (kD r)), some (.da (.int (n : Nat)))] _
  by_cases hs : wdK r = "opt"
  · obtain ⟨k, rfl⟩ := wd_opt hs ⟨_, fr.rt⟩
    have e3 := kD_opt k
    have ef : fitsO (n + 1) (.some_ w d) l (.opt k) = (isV l d && fitsO n w l k) := rfl
    refine xs_if (xt_or2 (k := false) (xt_cast (xt_neS fx.u (ix0 (xe_castD (xv 2) e3)) xe_str) (by decide +kernel)) fun _ => xt_not (xt_val (fun Ψ' hq' => we_fnP gV r11 fx.gd (wa_d (xv 1) (wa_d (ix2 (xe_castD (xv 0) e)) wa_n)) ⟨l, d, rfl, fl.rt5, hd, hq'⟩))) (fun hc => ?_) fun hc => ws_nil ?_
    · refine xs_ret xe_bl ⟨_, .da (.da (.da (.da .nil))), no ?_⟩
      rw [Bool.false_or, Bool.not_eq_true'] at hc
      rw [ef, hc]
      rfl
    · rw [Bool.false_or, Bool.not_eq_false'] at hc
      rw [ef, hc, Bool.true_and] at hq
      exact xs_ret (fun Ψ' hq' => we_fnP gF fx.room fx.gd (wa_d (ix1 (xe_castD (xv 0) e)) (wa_d (xv 1) (wa_d (ix1 (xe_castD (xv 2) e3)) (wa_d (xv 3) wa_n)))) ⟨w, l, k, rfl, ⟨⟨_, hw⟩, fl, fr.opt⟩, hq'⟩) ⟨_, .da (.da (.da (.da (.nil)))), hq⟩
  · refine xs_ifT (xt_cast (xt_or2 (k := true) (k2 := true) (xt_cast (xt_neS fx.u (ix0 (xe_castD (xv 2) e2)) xe_str) (by rw [decide_eq_false hs]; rfl)) fun he => by cases he) rfl) ?_
    exact xs_ret xe_bl ⟨_, .da (.da (.da (.da .nil))), no (fits_some_no hs)⟩
theorem d_fmustO (D : DK K "fits_must" s_fits_must) {n : Nat} (gV : Def P w K mg bs 11 "is_value" ["kind", "value"] (spIsV 5)) (gF : Def P w K mg bs (2 * n + 14) "fits_within" ["way", "left", "right", "depth"] (spFwO n)) : Def P w K mg bs (2 * n + 15) "fits_must" ["way", "left", "right", "depth"] (spFMustO n) := by
  refine def_ok X G D sc_fits_must (fun f fd F => F.binds (ps := ["way", "left", "right", "depth"]) fun _ _ _ _ _ _ us hl => match us, hl with | [_, _, _, _], _ => rfl) (fun as Ψ h => by obtain ⟨_, _, _, _, rfl, _⟩ := h; rfl) fun f cdv A fr s H E fx as Ψ vs hsp hl => ?_
  obtain ⟨w, d, l, r, rfl, q, hq⟩ := hsp
  obtain ⟨v0, v1, v2, v3, rfl⟩ := ar4 hl
  have nd := fx.nd
  have r11 := fx.room.mono (show 11 ≤ 2 * n + 14 by omega)
  have r1 := fx.room.mono (show 1 ≤ 2 * n + 14 by omega)
  have r2 := fx.room.mono (show 2 ≤ 2 * n + 14 by omega)
  have e := owD_must w d
  obtain ⟨⟨m, okw⟩, fl, fr⟩ := q
  cases okw with
  | must hw hd =>
  have no : fitsO (n + 1) (.must w d) l r = false → Ψ (.da (.bool false)) [.da (owD (.must w d)), .da (kD l), .da (kD r), .da (.int (n : Nat))] := fun e => by rw [← e]; exact hq
  obtain ⟨a, e2⟩ := kD_wd l
  show WSs _ _ [some (.da (owD (.must w d))), some (.da (kD l)), some (.da (kD r)), some (.da (.int (n : Nat)))] _
  by_cases hs : wdK l = "opt"
  · obtain ⟨k, rfl⟩ := wd_opt hs ⟨_, fl.rt⟩
    have e3 := kD_opt k
    have ef : fitsO (n + 1) (.must w d) (.opt k) r = (isV r d && fitsO n w k r) := rfl
    refine xs_if (xt_or2 (k := false) (xt_cast (xt_neS fx.u (ix0 (xe_castD (xv 1) e3)) xe_str) (by decide +kernel)) fun _ => xt_not (xt_val (fun Ψ' hq' => we_fnP gV r11 fx.gd (wa_d (xv 2) (wa_d (ix2 (xe_castD (xv 0) e)) wa_n)) ⟨r, d, rfl, fr.rt5, hd, hq'⟩))) (fun hc => ?_) fun hc => ws_nil ?_
    · refine xs_ret xe_bl ⟨_, .da (.da (.da (.da .nil))), no ?_⟩
      rw [Bool.false_or, Bool.not_eq_true'] at hc
      rw [ef, hc]
      rfl
    · rw [Bool.false_or, Bool.not_eq_false'] at hc
      rw [ef, hc, Bool.true_and] at hq
      exact xs_ret (fun Ψ' hq' => we_fnP gF fx.room fx.gd (wa_d (ix1 (xe_castD (xv 0) e)) (wa_d (ix1 (xe_castD (xv 1) e3)) (wa_d (xv 2) (wa_d (xv 3) wa_n)))) ⟨w, k, r, rfl, ⟨⟨_, hw⟩, fl.opt, fr⟩, hq'⟩) ⟨_, .da (.da (.da (.da (.nil)))), hq⟩
  · refine xs_ifT (xt_cast (xt_or2 (k := true) (k2 := true) (xt_cast (xt_neS fx.u (ix0 (xe_castD (xv 1) e2)) xe_str) (by rw [decide_eq_false hs]; rfl)) fun he => by cases he) rfl) ?_
    exact xs_ret xe_bl ⟨_, .da (.da (.da (.da .nil))), no (fits_must_no hs)⟩
theorem d_finO (D : DK K "fits_inside" s_fits_inside) {n : Nat} (gF : Def P w K mg bs (2 * n + 14) "fits_within" ["way", "left", "right", "depth"] (spFwO n)) : Def P w K mg bs (2 * n + 15) "fits_inside" ["way", "left", "right", "depth"] (spFInO n) := by
  refine def_ok X G D sc_fits_inside (fun f fd F => F.binds (ps := ["way", "left", "right", "depth"]) fun _ _ _ _ _ _ us hl => match us, hl with | [_, _, _, _], _ => rfl) (fun as Ψ h => by obtain ⟨_, _, _, _, rfl, _⟩ := h; rfl) fun f cdv A fr s H E fx as Ψ vs hsp hl => ?_
  obtain ⟨w0, w, l, r, rfl, hw0, q, hq⟩ := hsp
  obtain ⟨v0, v1, v2, v3, rfl⟩ := ar4 hl
  have nd := fx.nd
  rcases hw0 with rfl | rfl
  · skip
    have e := owD_opt w
    obtain ⟨⟨m, okw⟩, fl, fr⟩ := q
    cases okw with
    | opt hw =>
    have no : fitsO (n + 1) (.opt w) l r = false → Ψ (.da (.bool false)) [.da (owD (.opt w)), .da (kD l), .da (kD r), .da (.int (n : Nat))] := fun e => by rw [← e]; exact hq
    obtain ⟨a, e1⟩ := kD_wd l
    obtain ⟨b, e2⟩ := kD_wd r
    show WSs _ _ [some (.da (owD (.opt w))), some (.da (kD l)), some (.da (kD r)), some (.da (.int (n : Nat))), none] _
    refine xs_set 4 nd (xe_castD (d' := .str "opt") (xe_ifExp (d1 := .str "opt") (d2 := .str "row") (xt_isW (k := true) fx.u (ix0 (xe_castD (xv 0) e)) (by decide +kernel)) (fun _ => xe_str) fun _ => xe_str) rfl) ?_
    by_cases hs : wdK l = "opt" ∧ wdK r = "opt"
    · obtain ⟨k, rfl⟩ := wd_opt hs.1 ⟨_, fl.rt⟩
      obtain ⟨k', rfl⟩ := wd_opt hs.2 ⟨_, fr.rt⟩
      have e3 := kD_opt k
      have e4 := kD_opt k'
      refine xs_ifF (xt_cast (xt_or2 (k := false) (k2 := false) (xt_cast (xt_neS fx.u (ix0 (xe_castD (xv 1) e3)) (xv 4)) (by decide +kernel)) fun _ => xt_cast (xt_neS fx.u (ix0 (xe_castD (xv 2) e4)) (xv 4)) (by decide +kernel)) rfl) (ws_nil ?_)
      exact xs_ret (fun Ψ' hq' => we_fnP gF fx.room fx.gd (wa_d (ix1 (xe_castD (xv 0) e)) (wa_d (ix1 (xe_castD (xv 1) e3)) (wa_d (ix1 (xe_castD (xv 2) e4)) (wa_d (xv 3) wa_n)))) ⟨w, k, k', rfl, ⟨⟨_, hw⟩, fl.opt, fr.opt⟩, hq'⟩) ⟨_, .da (.da (.da (.da (.nil)))), hq⟩
    · have hn : wdK l ≠ "opt" ∨ wdK r ≠ "opt" := Classical.not_and_iff_not_or_not.mp hs
      refine xs_ifT (xt_cast (xt_or2 (xt_neS fx.u (ix0 (xe_castD (xv 1) e1)) (xv 4)) fun _ => xt_neS fx.u (ix0 (xe_castD (xv 2) e2)) (xv 4)) (by rcases hn with h | h; (rw [decide_eq_false h]; rfl); (rw [decide_eq_false h]; simp))) ?_
      exact xs_ret xe_bl ⟨_, .da (.da (.da (.da .nil))), no (fits_opt_no hn)⟩
  · skip
    have e := owD_each w
    obtain ⟨⟨m, okw⟩, fl, fr⟩ := q
    cases okw with
    | each hw =>
    have no : fitsO (n + 1) (.each w) l r = false → Ψ (.da (.bool false)) [.da (owD (.each w)), .da (kD l), .da (kD r), .da (.int (n : Nat))] := fun e => by rw [← e]; exact hq
    obtain ⟨a, e1⟩ := kD_wd l
    obtain ⟨b, e2⟩ := kD_wd r
    show WSs _ _ [some (.da (owD (.each w))), some (.da (kD l)), some (.da (kD r)), some (.da (.int (n : Nat))), none] _
    refine xs_set 4 nd (xe_castD (d' := .str "row") (xe_ifExp (d1 := .str "opt") (d2 := .str "row") (xt_isW (k := false) fx.u (ix0 (xe_castD (xv 0) e)) (by decide +kernel)) (fun _ => xe_str) fun _ => xe_str) rfl) ?_
    by_cases hs : wdK l = "row" ∧ wdK r = "row"
    · obtain ⟨k, m2, rfl⟩ := wd_row hs.1 ⟨_, fl.rt⟩
      obtain ⟨k', m3, rfl⟩ := wd_row hs.2 ⟨_, fr.rt⟩
      have e3 := kD_row k m2
      have e4 := kD_row k' m3
      refine xs_ifF (xt_cast (xt_or2 (k := false) (k2 := false) (xt_cast (xt_neS fx.u (ix0 (xe_castD (xv 1) e3)) (xv 4)) (by decide +kernel)) fun _ => xt_cast (xt_neS fx.u (ix0 (xe_castD (xv 2) e4)) (xv 4)) (by decide +kernel)) rfl) (ws_nil ?_)
      exact xs_ret (fun Ψ' hq' => we_fnP gF fx.room fx.gd (wa_d (ix1 (xe_castD (xv 0) e)) (wa_d (ix1 (xe_castD (xv 1) e3)) (wa_d (ix1 (xe_castD (xv 2) e4)) (wa_d (xv 3) wa_n)))) ⟨w, k, k', rfl, ⟨⟨_, hw⟩, fl.row, fr.row⟩, hq'⟩) ⟨_, .da (.da (.da (.da (.nil)))), hq⟩
    · have hn : wdK l ≠ "row" ∨ wdK r ≠ "row" := Classical.not_and_iff_not_or_not.mp hs
      refine xs_ifT (xt_cast (xt_or2 (xt_neS fx.u (ix0 (xe_castD (xv 1) e1)) (xv 4)) fun _ => xt_neS fx.u (ix0 (xe_castD (xv 2) e2)) (xv 4)) (by rcases hn with h | h; (rw [decide_eq_false h]; rfl); (rw [decide_eq_false h]; simp))) ?_
      exact xs_ret xe_bl ⟨_, .da (.da (.da (.da .nil))), no (fits_each_no hn)⟩
theorem d_farmsO (D : DK K "fits_arms" s_fits_arms) {n : Nat} (gF : Def P w K mg bs (2 * n + 14) "fits_within" ["way", "left", "right", "depth"] (spFwO n)) (gAk : Def P w K mg bs 1 "arm_kind" ["kind", "tag"] spArmKO) (gTg : Def P w K mg bs 1 "has_all_tags" ["kind", "tags"] spTagsO) : Def P w K mg bs (2 * n + 15) "fits_arms" ["trios", "left", "right", "depth"] (spFArmsO n) := by
  refine def_ok X G D sc_fits_arms (fun f fd F => F.binds (ps := ["trios", "left", "right", "depth"]) fun _ _ _ _ _ _ us hl => match us, hl with | [_, _, _, _], _ => rfl) (fun as Ψ h => by obtain ⟨_, _, _, rfl, _⟩ := h; rfl) fun f cdv A fr s H E fx as Ψ vs hsp hl => ?_
  obtain ⟨ts, l, r, rfl, q, hq⟩ := hsp
  obtain ⟨v0, v1, v2, v3, rfl⟩ := ar4 hl
  have nd := fx.nd
  have r11 := fx.room.mono (show 11 ≤ 2 * n + 14 by omega)
  have r1 := fx.room.mono (show 1 ≤ 2 * n + 14 by omega)
  have r2 := fx.room.mono (show 2 ≤ 2 * n + 14 by omega)
  obtain ⟨⟨m, okw⟩, fl, fr⟩ := q
  cases okw with
  | arms dw lt =>
  have no : fitsO (n + 1) (.arms ts) l r = false → Ψ (.da (.bool false)) [.da (.tuple (ts.map orA)), .da (kD l), .da (kD r), .da (.int (n : Nat))] := fun e => by rw [← e]; exact hq
  obtain ⟨a1, d1⟩ := kD_wd l
  obtain ⟨b1, d2⟩ := kD_wd r
  by_cases hs : wdK l = "one" ∧ wdK r = "one"
  rotate_left
  · have hn : wdK l ≠ "one" ∨ wdK r ≠ "one" := Classical.not_and_iff_not_or_not.mp hs
    show WSs _ _ [some (.da (.tuple (ts.map orA))), some (.da (kD l)), some (.da (kD r)), some (.da (.int (n : Nat))), none, none, none, none, none, none, none] _
    refine xs_ifT (xt_cast (xt_or2 (xt_neS fx.u (ix0 (xe_castD (xv 1) d1)) xe_str) fun _ => xt_neS fx.u (ix0 (xe_castD (xv 2) d2)) xe_str) (by rcases hn with h | h; (rw [decide_eq_false h]; rfl); (rw [decide_eq_false h]; simp))) ?_
    exact xs_ret xe_bl ⟨_, .da (.da (.da (.da .nil))), no (fits_arms_no hn)⟩
  obtain ⟨xs, rfl⟩ := wd_one hs.1 ⟨_, fl.rt⟩
  obtain ⟨ys, rfl⟩ := wd_one hs.2 ⟨_, fr.rt⟩
  have lx : xs.length ≤ 6 := by cases fl.rt with | one a _ _ _ => exact a.2
  have ly : ys.length ≤ 6 := by cases fr.rt with | one a _ _ _ => exact a.2
  have e1 := kD_one xs
  have e2 := kD_one ys
  have ef : fitsO (n + 1) (.arms ts) (.one xs) (.one ys) = armsF (fitsO n) ts xs ys := rfl
  rw [ef] at hq no
  show WSs _ _ [some (.da (.tuple (ts.map orA))), some (.da (kD (.one xs))), some (.da (kD (.one ys))), some (.da (.int (n : Nat))), none, none, none, none, none, none, none] _
  refine xs_ifF (xt_cast (xt_or2 (k := false) (k2 := false) (xt_cast (xt_neS fx.u (ix0 (xe_castD (xv 1) e1)) xe_str) (by decide +kernel)) fun _ => xt_cast (xt_neS fx.u (ix0 (xe_castD (xv 2) e2)) xe_str) (by decide +kernel)) rfl) (ws_nil ?_)
  refine xs_set 4 nd xe_dictM0 ?_
  refine ws_forT fx ts orA (fun M : List (Str × Str) => [some (.da (.tuple (ts.map orA))), some (.da (kD (.one xs))), some (.da (kD (.one ys))), some (.da (.int (n : Nat))), some (.dm (tsD M)), none, none, none, none, none, none]) (fun i M => M = (ts.take i).map prT ∧ ∀ j, j < i → okA (fitsO n) xs ys ts j = true) [] (xi_tup (xv 0)) ⟨rfl, fun j hj => absurd hj (Nat.not_lt_zero _)⟩ rfl ?_ ?_
  · rintro i t M ht ⟨eM, up⟩
    have htm := List.mem_of_getElem? ht
    have hi := (List.getElem?_eq_some_iff.mp ht).1
    have eo : okA (fitsO n) xs ys ts i = (decide (t.1 ∈ xs.map (·.1)) && decide (t.2.1 ∈ ys.map (·.1)) && !decide (prT t ∈ M) && fitsO n t.2.2 (armL xs t.1) (armL ys t.2.1)) := by
      unfold okA
      rw [ht, ← eM]
    have stop : okA (fitsO n) xs ys ts i = false → armsF (fitsO n) ts xs ys = false := fun h => by
      unfold armsF
      rw [all_at (α := Unit) hi h, Bool.false_and]
    have hlen : M.length ≤ 200 := by rw [eM, List.length_map, List.length_take]; omega
    refine wg_tup fx.calm (wgs_cons (wg_name 5 nd (wgs_cons (wg_name 6 nd (wgs_cons (wg_name 7 nd (wgs_nil ?_)))))))
    show WSs _ _ [some (.da (.tuple (ts.map orA))), some (.da (kD (.one xs))), some (.da (kD (.one ys))), some (.da (.int (n : Nat))), some (.dm (tsD M)), some (.da (.str t.1)), some (.da (.str t.2.1)), some (.da (owD t.2.2)), none, none, none] _
    refine ws_par 8 9 fx.calm nd (wa_d (fun Ψ' hq' => we_fnP gAk r1 fx.gd (wa_d (xv 1) (wa_d (xv 5) wa_n)) ⟨xs, t.1, rfl, hq'⟩) (wa_d (fun Ψ' hq' => we_fnP gAk r1 fx.gd (wa_d (xv 2) (wa_d (xv 6) wa_n)) ⟨ys, t.2.1, rfl, hq'⟩) wa_n)) ?_
    show WSs _ _ [some (.da (.tuple (ts.map orA))), some (.da (kD (.one xs))), some (.da (kD (.one ys))), some (.da (.int (n : Nat))), some (.dm (tsD M)), some (.da (.str t.1)), some (.da (.str t.2.1)), some (.da (owD t.2.2)), some (.da (if t.1 ∈ xs.map (·.1) then kD (armL xs t.1) else .none)), some (.da (if t.2.1 ∈ ys.map (·.1) then kD (armL ys t.2.1) else .none)), none] _
    have hk : ∀ (zs : List (Str × Kd)) (s : Str), isN (if s ∈ zs.map (·.1) then kD (armL zs s) else .none) = !decide (s ∈ zs.map (·.1)) := fun zs s => by
      by_cases h : s ∈ zs.map (·.1)
      · rw [if_pos h, kD_notN, decide_eq_true h]; rfl
      · rw [if_neg h, decide_eq_false h]; rfl
    refine xs_if (xt_or3 (xt_cast (xt_isN (xv 8)) (hk xs t.1)) (fun _ => xt_cast (xt_isN (xv 9)) (hk ys t.2.1)) fun _ _ => xt_cast (j' := decide (prT t ∈ M)) (xt_ninS 4 fx.u16 tsD_ok (tkK_ok (prT t)) (xe_castD (xe_tup2 (xv 5) (xv 6)) (tkK_data (prT t)).symm)) (by rw [kget_tsB])) (fun hc => ?_) fun hc => ws_nil ?_
    · refine xs_ret xe_bl ⟨_, .da (.da (.da (.da .nil))), no (stop ?_)⟩
      rw [eo]
      rw [Bool.or_eq_true, Bool.or_eq_true, Bool.not_eq_true', Bool.not_eq_true'] at hc
      rcases hc with hc | hc | hc
      · rw [hc]; rfl
      · rw [hc, Bool.and_false]; rfl
      · rw [hc, Bool.not_true, Bool.and_false]; rfl
    rw [Bool.or_eq_false_iff, Bool.or_eq_false_iff, Bool.not_eq_false', Bool.not_eq_false', decide_eq_true_eq, decide_eq_true_eq] at hc
    obtain ⟨hs1, hu1, hnew⟩ := hc
    have hnew := of_decide_eq_false hnew
    rw [if_pos hs1, if_pos hu1]
    show WSs _ _ [some (.da (.tuple (ts.map orA))), some (.da (kD (.one xs))), some (.da (kD (.one ys))), some (.da (.int (n : Nat))), some (.dm (tsD M)), some (.da (.str t.1)), some (.da (.str t.2.1)), some (.da (owD t.2.2)), some (.da (kD (armL xs t.1))), some (.da (kD (armL ys t.2.1))), none] _
    have eo2 : okA (fitsO n) xs ys ts i = fitsO n t.2.2 (armL xs t.1) (armL ys t.2.1) := by
      rw [eo, decide_eq_true hs1, decide_eq_true hu1, decide_eq_false hnew]
      rfl
    refine xs_if (xt_not (xt_val (k := fitsO n t.2.2 (armL xs t.1) (armL ys t.2.1)) (fun Ψ' hq' => we_fnP gF fx.room fx.gd (wa_d (xv 7) (wa_d (xv 8) (wa_d (xv 9) (wa_d (xv 3) wa_n)))) ⟨t.2.2, armL xs t.1, armL ys t.2.1, rfl, ⟨⟨_, dw t htm⟩, fl.arm hs1, fr.arm hu1⟩, hq'⟩))) (fun hd => ?_) fun hd => ws_nil ?_
    · rw [Bool.not_eq_true'] at hd
      exact xs_ret xe_bl ⟨_, .da (.da (.da (.da .nil))), no (stop (by rw [eo2]; exact hd))⟩
    rw [Bool.not_eq_false'] at hd
    refine ws_nput 4 fx.u16 (we_pure xe_bl ⟨_, tkK (prT t), _, tsD M, _, rfl, rfl, .dm, tsD_ok, tkK_ok _, by rw [List.length_map]; exact Nat.lt_of_le_of_lt hlen (by decide), xe_castD (xe_tup2 (xv 5) (xv 6)) (tkK_data (prT t)).symm, ws_drop 5 (ws_drop 6 (ws_drop 7 (ws_drop 8 (ws_drop 9 (ws_nil ⟨M ++ [prT t], ⟨?_, fun j hj => ?_⟩, by rw [kput_ts hnew]; rfl⟩)))))⟩)
    · rw [List.take_add_one, ht, List.map_append, eM]
      rfl
    · rcases Nat.lt_succ_iff_lt_or_eq.mp hj with hj | rfl
      · exact up j hj
      · rw [eo2]; exact hd
  · rintro M ⟨_, up⟩
    show WSs _ _ [some (.da (.tuple (ts.map orA))), some (.da (kD (.one xs))), some (.da (kD (.one ys))), some (.da (.int (n : Nat))), some (.dm (tsD M)), none, none, none, none, none, none] _
    unfold armsF at hq
    rw [all_up up, Bool.true_and] at hq
    exact xs_ret (xe_andB (fun Ψ' hq' => we_fnP gTg r1 fx.gd (wa_d (xv 1) (wa_d (xe_castD (xe_frz (xe_lcM [("trio", 10)] (fun (t : Str × Str × Ow) Γ => Γ.set 10 (some (.da (orA t)))) ts orA (fun t => .str t.1) fx (R := fun t => .da (.str t.1)) (xi_tup (xv 0)) (few4 (by omega)) (fun t ht s H C cl fp => gc_name 10 nd rfl) fun t ht s H C cl fp => ix0 (xv 10))) (show _ = PyData.list ((ts.map fun t => t.1).map .str) by rw [List.map_map]; rfl)) wa_n)) ⟨xs, ts.map (fun t => t.1), rfl, lx, hq'⟩) fun _ => (fun Ψ' hq' => we_fnP gTg r1 fx.gd (wa_d (xv 2) (wa_d (xe_castD (xe_frz (xe_lcM [("trio", 10)] (fun (t : Str × Str × Ow) Γ => Γ.set 10 (some (.da (orA t)))) ts orA (fun t => .str t.2.1) fx (R := fun t => .da (.str t.2.1)) (xi_tup (xv 0)) (few4 (by omega)) (fun t ht s H C cl fp => gc_name 10 nd rfl) fun t ht s H C cl fp => ix1 (xv 10))) (show _ = PyData.list ((ts.map fun t => t.2.1).map .str) by rw [List.map_map]; rfl)) wa_n)) ⟨ys, ts.map (fun t => t.2.1), rfl, ly, hq'⟩)) ⟨_, .da (.da (.da (.da (.nil)))), hq⟩
theorem d_fpartsO (D : DK K "fits_parts" s_fits_parts) {n : Nat} (gF : Def P w K mg bs (2 * n + 14) "fits_within" ["way", "left", "right", "depth"] (spFwO n)) (gPk : Def P w K mg bs 1 "part_kind" ["kind", "place"] spPartK) (gIp : Def P w K mg bs 2 "is_place" ["kind", "place"] spIsPlO) (gOn : Def P w K mg bs 1 "each_place_once" ["kind", "places"] spOnceO) : Def P w K mg bs (2 * n + 15) "fits_parts" ["trios", "left", "right", "depth"] (spFPartsO n) := by
  refine def_ok X G D sc_fits_parts (fun f fd F => F.binds (ps := ["trios", "left", "right", "depth"]) fun _ _ _ _ _ _ us hl => match us, hl with | [_, _, _, _], _ => rfl) (fun as Ψ h => by obtain ⟨_, _, _, rfl, _⟩ := h; rfl) fun f cdv A fr s H E fx as Ψ vs hsp hl => ?_
  obtain ⟨ts, l, r, rfl, q, hq⟩ := hsp
  obtain ⟨v0, v1, v2, v3, rfl⟩ := ar4 hl
  have nd := fx.nd
  have r11 := fx.room.mono (show 11 ≤ 2 * n + 14 by omega)
  have r1 := fx.room.mono (show 1 ≤ 2 * n + 14 by omega)
  have r2 := fx.room.mono (show 2 ≤ 2 * n + 14 by omega)
  obtain ⟨⟨m, okw⟩, fl, fr⟩ := q
  cases okw with
  | parts dw lt =>
  have no : fitsO (n + 1) (.parts ts) l r = false → Ψ (.da (.bool false)) [.da (.tuple (ts.map orQ)), .da (kD l), .da (kD r), .da (.int (n : Nat))] := fun e => by rw [← e]; exact hq
  obtain ⟨a1, d1⟩ := kD_wd l
  obtain ⟨b1, d2⟩ := kD_wd r
  by_cases hs : wdK l = "rec" ∧ wdK r = "rec"
  rotate_left
  · have hn : wdK l ≠ "rec" ∨ wdK r ≠ "rec" := Classical.not_and_iff_not_or_not.mp hs
    show WSs _ _ [some (.da (.tuple (ts.map orQ))), some (.da (kD l)), some (.da (kD r)), some (.da (.int (n : Nat))), none, none, none, none] _
    refine xs_ifT (xt_cast (xt_or2 (xt_neS fx.u (ix0 (xe_castD (xv 1) d1)) xe_str) fun _ => xt_neS fx.u (ix0 (xe_castD (xv 2) d2)) xe_str) (by rcases hn with h | h; (rw [decide_eq_false h]; rfl); (rw [decide_eq_false h]; simp))) ?_
    exact xs_ret xe_bl ⟨_, .da (.da (.da (.da .nil))), no (fits_parts_no hn)⟩
  obtain ⟨ps, rfl⟩ := wd_rec hs.1 ⟨_, fl.rt⟩
  obtain ⟨qs, rfl⟩ := wd_rec hs.2 ⟨_, fr.rt⟩
  have lx : ps.length ≤ 6 := by cases fl.rt with | rec_ a _ => exact a
  have ly : qs.length ≤ 6 := by cases fr.rt with | rec_ a _ => exact a
  have e1 := kD_rec ps
  have e2 := kD_rec qs
  have ef : fitsO (n + 1) (.parts ts) (.rec_ ps) (.rec_ qs) = partsF (fitsO n) ts ps qs := rfl
  rw [ef] at hq no
  show WSs _ _ [some (.da (.tuple (ts.map orQ))), some (.da (kD (.rec_ ps))), some (.da (kD (.rec_ qs))), some (.da (.int (n : Nat))), none, none, none, none] _
  refine xs_ifF (xt_cast (xt_or2 (k := false) (k2 := false) (xt_cast (xt_neS fx.u (ix0 (xe_castD (xv 1) e1)) xe_str) (by decide +kernel)) fun _ => xt_cast (xt_neS fx.u (ix0 (xe_castD (xv 2) e2)) xe_str) (by decide +kernel)) rfl) (ws_nil ?_)
  refine ws_forT fx ts orQ (fun _ : Unit => [some (.da (.tuple (ts.map orQ))), some (.da (kD (.rec_ ps))), some (.da (kD (.rec_ qs))), some (.da (.int (n : Nat))), none, none, none, none]) (fun i _ => ∀ j t, j < i → ts[j]? = some t → okQ (fitsO n) ps qs t = true) () (xi_tup (xv 0)) (fun j t hj => absurd hj (Nat.not_lt_zero _)) rfl ?_ ?_
  · rintro i t _ ht up
    have htm := List.mem_of_getElem? ht
    have stop : okQ (fitsO n) ps qs t = false → partsF (fitsO n) ts ps qs = false := fun h => by
      unfold partsF
      rw [all_mem htm h, Bool.and_false]
    refine wg_tup fx.calm (wgs_cons (wg_name 4 nd (wgs_cons (wg_name 5 nd (wgs_cons (wg_name 6 nd (wgs_nil ?_)))))))
    show WSs _ _ [some (.da (.tuple (ts.map orQ))), some (.da (kD (.rec_ ps))), some (.da (kD (.rec_ qs))), some (.da (.int (n : Nat))), some (.da (plI t.1)), some (.da (plI t.2.1)), some (.da (owD t.2.2)), none] _
    refine xs_if (xt_and2 (xt_cast (xt_isN (xv 4)) (plI_none t.1)) fun _ => xt_cast (xt_isN (xv 5)) (plI_none t.2.1)) (fun hc => ?_) fun hc => ws_nil ?_
    · refine xs_ret xe_bl ⟨_, .da (.da (.da (.da .nil))), no (stop ?_)⟩
      unfold okQ
      rw [hc]
      rfl
    refine xs_if (xt_or2 (xt_not (xt_val (fun Ψ' hq' => we_fnP gIp r2 fx.gd (wa_d (xv 1) (wa_d (xv 4) wa_n)) ⟨ps, t.1, rfl, hq'⟩))) fun _ => (xt_not (xt_val (fun Ψ' hq' => we_fnP gIp r2 fx.gd (wa_d (xv 2) (wa_d (xv 5) wa_n)) ⟨qs, t.2.1, rfl, hq'⟩)))) (fun hd => ?_) fun hd => ws_nil ?_
    · refine xs_ret xe_bl ⟨_, .da (.da (.da (.da .nil))), no ?_⟩
      rw [Bool.or_eq_true, Bool.not_eq_true', Bool.not_eq_true'] at hd
      unfold partsF
      rcases hd with hd | hd
      · rw [once_no (List.mem_map_of_mem htm) hd]; simp
      · rw [once_no (ps := ts.map (·.2.1)) (List.mem_map_of_mem htm) hd]; simp
    rw [Bool.or_eq_false_iff, Bool.not_eq_false', Bool.not_eq_false'] at hd
    obtain ⟨p1, p1'⟩ := plI_nat hd.1
    obtain ⟨p2, p2'⟩ := plI_nat hd.2
    have eo : okQ (fitsO n) ps qs t = fitsO n t.2.2 (partI (.rec_ ps) t.1) (partI (.rec_ qs) t.2.1) := by
      unfold okQ
      rw [hc]
      rfl
    refine xs_if (xt_not (xt_val (k := fitsO n t.2.2 (partI (.rec_ ps) t.1) (partI (.rec_ qs) t.2.1)) (fun Ψ' hq' => we_fnP gF fx.room fx.gd (wa_d (xv 6) (wa_d (fun Ψ' hq' => we_fnP gPk r1 fx.gd (wa_d (xv 1) (wa_d (xe_castD (xv 4) p1) wa_n)) ⟨ps, t.1.map Int.toNat, rfl, p1', hq'⟩) (wa_d (fun Ψ' hq' => we_fnP gPk r1 fx.gd (wa_d (xv 2) (wa_d (xe_castD (xv 5) p2) wa_n)) ⟨qs, t.2.1.map Int.toNat, rfl, p2', hq'⟩) (wa_d (xv 3) wa_n)))) ⟨t.2.2, _, _, rfl, ⟨⟨_, dw t htm⟩, fl.part _, fr.part _⟩, hq'⟩))) (fun hg => ?_) fun hg => ws_nil ?_
    · rw [Bool.not_eq_true'] at hg
      exact xs_ret xe_bl ⟨_, .da (.da (.da (.da .nil))), no (stop (by rw [eo]; exact hg))⟩
    rw [Bool.not_eq_false'] at hg
    refine ws_drop 4 (ws_drop 5 (ws_drop 6 (ws_nil ⟨(), fun j u hj hu => ?_, rfl⟩)))
    rcases Nat.lt_succ_iff_lt_or_eq.mp hj with hj | rfl
    · exact up j u hj hu
    · rw [ht] at hu
      rw [← Option.some.inj hu, eo]
      exact hg
  · rintro _ up
    have ea : ts.all (okQ (fitsO n) ps qs) = true := by
      rw [List.all_eq_true]
      intro t ht
      obtain ⟨j, hj, e⟩ := List.getElem_of_mem ht
      exact up j t hj (by rw [List.getElem?_eq_getElem hj, e])
    unfold partsF at hq
    rw [ea, Bool.and_true] at hq
    exact xs_ret (xe_andB (fun Ψ' hq' => we_fnP gOn r1 fx.gd (wa_d (xv 1) (wa_d (xe_castD (xe_frz (xe_lcM [("trio", 7)] (fun (t : Option Int × Option Int × Ow) Γ => Γ.set 7 (some (.da (orQ t)))) ts orQ (fun t => plI t.1) fx (R := fun t => .da (plI t.1)) (xi_tup (xv 0)) (few4 (by omega)) (fun t ht s H C cl fp => gc_name 7 nd rfl) fun t ht s H C cl fp => ix0 (xv 7))) (show _ = PyData.list ((ts.map fun t => t.1).map plI) by rw [List.map_map]; rfl)) wa_n)) ⟨ps, ts.map (fun t => t.1), rfl, (by rw [List.length_map]; omega), lx, hq'⟩) fun _ => (fun Ψ' hq' => we_fnP gOn r1 fx.gd (wa_d (xv 2) (wa_d (xe_castD (xe_frz (xe_lcM [("trio", 7)] (fun (t : Option Int × Option Int × Ow) Γ => Γ.set 7 (some (.da (orQ t)))) ts orQ (fun t => plI t.2.1) fx (R := fun t => .da (plI t.2.1)) (xi_tup (xv 0)) (few4 (by omega)) (fun t ht s H C cl fp => gc_name 7 nd rfl) fun t ht s H C cl fp => ix1 (xv 7))) (show _ = PyData.list ((ts.map fun t => t.2.1).map plI) by rw [List.map_map]; rfl)) wa_n)) ⟨qs, ts.map (fun t => t.2.1), rfl, (by rw [List.length_map]; omega), ly, hq'⟩)) ⟨_, .da (.da (.da (.da (.nil)))), hq⟩
theorem d_fwO (D : DK K "fits_within" s_fits_within) {n : Nat} (gB : Def P w K mg bs 12 "fits_bare" ["word", "left", "right"] spBareO) (gT : Def P w K mg bs 12 "fits_table" ["forth", "back", "left", "right"] spFTabO) (gV : Def P w K mg bs 11 "is_value" ["kind", "value"] (spIsV 5)) (gSo : Def P w K mg bs (2 * n + 15) "fits_some" ["way", "left", "right", "depth"] (spFSomeO n)) (gMu : Def P w K mg bs (2 * n + 15) "fits_must" ["way", "left", "right", "depth"] (spFMustO n)) (gIn : Def P w K mg bs (2 * n + 15) "fits_inside" ["way", "left", "right", "depth"] (spFInO n)) (gAr : Def P w K mg bs (2 * n + 15) "fits_arms" ["trios", "left", "right", "depth"] (spFArmsO n)) (gPa : Def P w K mg bs (2 * n + 15) "fits_parts" ["trios", "left", "right", "depth"] (spFPartsO n)) : Def P w K mg bs (2 * (n + 1) + 14) "fits_within" ["way", "left", "right", "depth"] (spFwO (n + 1)) := by
  show Def P w K mg bs (2 * n + 15 + 1) _ _ _
  refine def_ok X G D sc_fits_within (fun f fd F => F.binds (ps := ["way", "left", "right", "depth"]) fun _ _ _ _ _ _ us hl => match us, hl with | [_, _, _, _], _ => rfl) (fun as Ψ h => by obtain ⟨_, _, _, rfl, _⟩ := h; rfl) fun f cdv A fr s H E fx as Ψ vs hsp hl => ?_
  obtain ⟨w, l, r, rfl, q, hq⟩ := hsp
  obtain ⟨v0, v1, v2, v3, rfl⟩ := ar4 hl
  have nd := fx.nd
  have r12 := fx.room.mono (show 12 ≤ 2 * n + 15 by omega)
  have r11 := fx.room.mono (show 11 ≤ 2 * n + 15 by omega)
  have dn : (((n + 1 : Nat) : Int) - 1) = (n : Nat) := by omega
  have d0 : decide (((n + 1 : Nat) : Int) = 0) = false := decide_eq_false (by omega)
  have q0 := q
  obtain ⟨⟨m, okw⟩, fl, fr⟩ := q
  cases okw with
  | @bare _ s ds hno hlen =>
    have e := owD_bare s ds
    show WSs _ _ [some (.da (owD _)), some (.da (kD l)), some (.da (kD r)), some (.da (.int ((n + 1 : Nat) : Int))), none] _
    refine xs_ifF (xt_cast (xt_or2 (k := false) (k2 := false) (xt_cast (xt_eqI fx.u (xv 3) xe_int) d0) fun _ => xt_cast (xt_eqI fx.u (xe_len B (xe_castD (xv 0) e) (.inr rfl)) xe_int) (len0 _ _)) rfl) (ws_nil ?_)
    refine xs_set 4 nd (ix0 (xe_castD (xv 0) e)) ?_
    by_cases hs : s = "same" ∨ s = "rank" ∨ s = "clip"
    · refine xs_ifT (xt_cast (xt_inV fx.u70 (xv 4) (xe_tup3 xe_str xe_str xe_str) rfl rfl (by simp [PyData.depth])) (show ([PyData.str "same", .str "rank", .str "clip"].any fun z => PyData.eqv z (.str s)) = true by rw [in3, decide_eq_true (by rcases hs with rfl | rfl | rfl <;> decide +kernel)])) ?_
      exact xs_ret (fun Ψ' hq' => we_fnP gB r12 fx.gd (wa_d (xv 4) (wa_d (xv 1) (wa_d (xv 2) wa_n))) ⟨s, l, r, rfl, hs, fl, fr, hq'⟩) ⟨_, .da (.da (.da (.da (.nil)))), hq⟩
    · have hb : bareF s l r = false := by
        unfold bareF
        rw [if_neg (fun h => hs (.inl h)), if_neg (fun h => hs (.inr (.inl h))), if_neg (fun h => hs (.inr (.inr h)))]
      have hq : Ψ (.da (.bool (bareF s l r))) _ := hq
      rw [hb] at hq
      refine xs_ifF (xt_cast (xt_inV fx.u70 (xv 4) (xe_tup3 xe_str xe_str xe_str) rfl rfl (by simp [PyData.depth])) (show ([PyData.str "same", .str "rank", .str "clip"].any fun z => PyData.eqv z (.str s)) = false by rw [in3, decide_eq_false (fun h => hs (by simpa using h))])) (ws_nil ?_)
      refine xs_ifF (xt_isW fx.u (xv 4) (decide_eq_false fun h => hno (by rw [h]; decide +kernel))) (ws_nil ?_)
      refine xs_ifF (xt_isW fx.u (xv 4) (decide_eq_false fun h => hno (by rw [h]; decide +kernel))) (ws_nil ?_)
      refine xs_ifF (xt_isW fx.u (xv 4) (decide_eq_false fun h => hno (by rw [h]; decide +kernel))) (ws_nil ?_)
      refine xs_ifF (xt_isW fx.u (xv 4) (decide_eq_false fun h => hno (by rw [h]; decide +kernel))) (ws_nil ?_)
      refine xs_ifF (xt_cast (xt_inV fx.u70 (xv 4) (xe_tup2 xe_str xe_str) rfl rfl (by simp [PyData.depth])) (show ([PyData.str "opt", .str "each"].any fun z => PyData.eqv z (.str s)) = false by rw [in2, decide_eq_false (fun h => hno (by simp at h ⊢; rcases h with h | h <;> simp [h]))])) (ws_nil ?_)
      refine xs_ifF (xt_isW fx.u (xv 4) (decide_eq_false fun h => hno (by rw [h]; decide +kernel))) (ws_nil ?_)
      refine xs_ifF (xt_isW fx.u (xv 4) (decide_eq_false fun h => hno (by rw [h]; decide +kernel))) (ws_nil ?_)
      exact xs_ret xe_bl ⟨_, .da (.da (.da (.da (.nil)))), hq⟩
  | @table _ f g mf mg lf lg =>
    have e := owD_table f g
    show WSs _ _ [some (.da (owD _)), some (.da (kD l)), some (.da (kD r)), some (.da (.int ((n + 1 : Nat) : Int))), none] _
    refine xs_ifF (xt_cast (xt_or2 (k := false) (k2 := false) (xt_cast (xt_eqI fx.u (xv 3) xe_int) d0) fun _ => xt_cast (xt_eqI fx.u (xe_len B (xe_castD (xv 0) e) (.inr rfl)) xe_int) (len0 _ _)) rfl) (ws_nil ?_)
    refine xs_set 4 nd (ix0 (xe_castD (xv 0) e)) ?_
    refine xs_ifF (xt_cast (xt_inV fx.u70 (xv 4) (xe_tup3 xe_str xe_str xe_str) rfl rfl (by decide +kernel)) (show _ = false by decide +kernel)) (ws_nil ?_)
    refine is_w fx.u (xv 4) ?_
    exact xs_ret (fun Ψ' hq' => we_fnP gT r12 fx.gd (wa_d (ix1 (xe_castD (xv 0) e)) (wa_d (ix2 (xe_castD (xv 0) e)) (wa_d (xv 1) (wa_d (xv 2) wa_n)))) ⟨f, g, l, r, rfl, q0, hq'⟩) ⟨_, .da (.da (.da (.da (.nil)))), hq⟩
  | @apart _ d d2 h1 h2 =>
    have e := owD_apart d d2
    show WSs _ _ [some (.da (owD _)), some (.da (kD l)), some (.da (kD r)), some (.da (.int ((n + 1 : Nat) : Int))), none] _
    refine xs_ifF (xt_cast (xt_or2 (k := false) (k2 := false) (xt_cast (xt_eqI fx.u (xv 3) xe_int) d0) fun _ => xt_cast (xt_eqI fx.u (xe_len B (xe_castD (xv 0) e) (.inr rfl)) xe_int) (len0 _ _)) rfl) (ws_nil ?_)
    refine xs_set 4 nd (ix0 (xe_castD (xv 0) e)) ?_
    refine xs_ifF (xt_cast (xt_inV fx.u70 (xv 4) (xe_tup3 xe_str xe_str xe_str) rfl rfl (by decide +kernel)) (show _ = false by decide +kernel)) (ws_nil ?_)
    refine no_w fx.u (xv 4) ?_
    refine is_w fx.u (xv 4) ?_
    exact xs_ret (xe_andB (fun Ψ' hq' => we_fnP gV r11 fx.gd (wa_d (xv 1) (wa_d (ix1 (xe_castD (xv 0) e)) wa_n)) ⟨l, d, rfl, fl.rt5, h1, hq'⟩) fun _ => (fun Ψ' hq' => we_fnP gV r11 fx.gd (wa_d (xv 2) (wa_d (ix2 (xe_castD (xv 0) e)) wa_n)) ⟨r, d2, rfl, fr.rt5, h2, hq'⟩)) ⟨_, .da (.da (.da (.da (.nil)))), hq⟩
  | @some_ _ w d hw hd =>
    have e := owD_some w d
    show WSs _ _ [some (.da (owD _)), some (.da (kD l)), some (.da (kD r)), some (.da (.int ((n + 1 : Nat) : Int))), none] _
    refine xs_ifF (xt_cast (xt_or2 (k := false) (k2 := false) (xt_cast (xt_eqI fx.u (xv 3) xe_int) d0) fun _ => xt_cast (xt_eqI fx.u (xe_len B (xe_castD (xv 0) e) (.inr rfl)) xe_int) (len0 _ _)) rfl) (ws_nil ?_)
    refine xs_set 4 nd (ix0 (xe_castD (xv 0) e)) ?_
    refine xs_ifF (xt_cast (xt_inV fx.u70 (xv 4) (xe_tup3 xe_str xe_str xe_str) rfl rfl (by decide +kernel)) (show _ = false by decide +kernel)) (ws_nil ?_)
    refine no_w fx.u (xv 4) ?_
    refine no_w fx.u (xv 4) ?_
    refine is_w fx.u (xv 4) ?_
    exact xs_ret (fun Ψ' hq' => we_fnP gSo fx.room fx.gd (wa_d (xv 0) (wa_d (xv 1) (wa_d (xv 2) (wa_d (xe_cast (j := (n : Nat)) (xe_sub (xv 3) xe_int) dn) wa_n)))) ⟨w, d, l, r, rfl, q0, hq'⟩) ⟨_, .da (.da (.da (.da (.nil)))), hq⟩
  | @must _ w d hw hd =>
    have e := owD_must w d
    show WSs _ _ [some (.da (owD _)), some (.da (kD l)), some (.da (kD r)), some (.da (.int ((n + 1 : Nat) : Int))), none] _
    refine xs_ifF (xt_cast (xt_or2 (k := false) (k2 := false) (xt_cast (xt_eqI fx.u (xv 3) xe_int) d0) fun _ => xt_cast (xt_eqI fx.u (xe_len B (xe_castD (xv 0) e) (.inr rfl)) xe_int) (len0 _ _)) rfl) (ws_nil ?_)
    refine xs_set 4 nd (ix0 (xe_castD (xv 0) e)) ?_
    refine xs_ifF (xt_cast (xt_inV fx.u70 (xv 4) (xe_tup3 xe_str xe_str xe_str) rfl rfl (by decide +kernel)) (show _ = false by decide +kernel)) (ws_nil ?_)
    refine no_w fx.u (xv 4) ?_
    refine no_w fx.u (xv 4) ?_
    refine no_w fx.u (xv 4) ?_
    refine is_w fx.u (xv 4) ?_
    exact xs_ret (fun Ψ' hq' => we_fnP gMu fx.room fx.gd (wa_d (xv 0) (wa_d (xv 1) (wa_d (xv 2) (wa_d (xe_cast (j := (n : Nat)) (xe_sub (xv 3) xe_int) dn) wa_n)))) ⟨w, d, l, r, rfl, q0, hq'⟩) ⟨_, .da (.da (.da (.da (.nil)))), hq⟩
  | @opt _ w hw =>
    have e := owD_opt w
    show WSs _ _ [some (.da (owD _)), some (.da (kD l)), some (.da (kD r)), some (.da (.int ((n + 1 : Nat) : Int))), none] _
    refine xs_ifF (xt_cast (xt_or2 (k := false) (k2 := false) (xt_cast (xt_eqI fx.u (xv 3) xe_int) d0) fun _ => xt_cast (xt_eqI fx.u (xe_len B (xe_castD (xv 0) e) (.inr rfl)) xe_int) (len0 _ _)) rfl) (ws_nil ?_)
    refine xs_set 4 nd (ix0 (xe_castD (xv 0) e)) ?_
    refine xs_ifF (xt_cast (xt_inV fx.u70 (xv 4) (xe_tup3 xe_str xe_str xe_str) rfl rfl (by decide +kernel)) (show _ = false by decide +kernel)) (ws_nil ?_)
    refine no_w fx.u (xv 4) ?_
    refine no_w fx.u (xv 4) ?_
    refine no_w fx.u (xv 4) ?_
    refine no_w fx.u (xv 4) ?_
    refine xs_ifT (xt_cast (xt_inV fx.u70 (xv 4) (xe_tup2 xe_str xe_str) rfl rfl (by decide +kernel)) (show _ = true by decide +kernel)) ?_
    exact xs_ret (fun Ψ' hq' => we_fnP gIn fx.room fx.gd (wa_d (xv 0) (wa_d (xv 1) (wa_d (xv 2) (wa_d (xe_cast (j := (n : Nat)) (xe_sub (xv 3) xe_int) dn) wa_n)))) ⟨_, w, l, r, rfl, .inl rfl, q0, hq'⟩) ⟨_, .da (.da (.da (.da (.nil)))), hq⟩
  | @each _ w hw =>
    have e := owD_each w
    show WSs _ _ [some (.da (owD _)), some (.da (kD l)), some (.da (kD r)), some (.da (.int ((n + 1 : Nat) : Int))), none] _
    refine xs_ifF (xt_cast (xt_or2 (k := false) (k2 := false) (xt_cast (xt_eqI fx.u (xv 3) xe_int) d0) fun _ => xt_cast (xt_eqI fx.u (xe_len B (xe_castD (xv 0) e) (.inr rfl)) xe_int) (len0 _ _)) rfl) (ws_nil ?_)
    refine xs_set 4 nd (ix0 (xe_castD (xv 0) e)) ?_
    refine xs_ifF (xt_cast (xt_inV fx.u70 (xv 4) (xe_tup3 xe_str xe_str xe_str) rfl rfl (by decide +kernel)) (show _ = false by decide +kernel)) (ws_nil ?_)
    refine no_w fx.u (xv 4) ?_
    refine no_w fx.u (xv 4) ?_
    refine no_w fx.u (xv 4) ?_
    refine no_w fx.u (xv 4) ?_
    refine xs_ifT (xt_cast (xt_inV fx.u70 (xv 4) (xe_tup2 xe_str xe_str) rfl rfl (by decide +kernel)) (show _ = true by decide +kernel)) ?_
    exact xs_ret (fun Ψ' hq' => we_fnP gIn fx.room fx.gd (wa_d (xv 0) (wa_d (xv 1) (wa_d (xv 2) (wa_d (xe_cast (j := (n : Nat)) (xe_sub (xv 3) xe_int) dn) wa_n)))) ⟨_, w, l, r, rfl, .inr rfl, q0, hq'⟩) ⟨_, .da (.da (.da (.da (.nil)))), hq⟩
  | @arms _ ts hw lt =>
    have e := owD_arms ts
    show WSs _ _ [some (.da (owD _)), some (.da (kD l)), some (.da (kD r)), some (.da (.int ((n + 1 : Nat) : Int))), none] _
    refine xs_ifF (xt_cast (xt_or2 (k := false) (k2 := false) (xt_cast (xt_eqI fx.u (xv 3) xe_int) d0) fun _ => xt_cast (xt_eqI fx.u (xe_len B (xe_castD (xv 0) e) (.inr rfl)) xe_int) (len0 _ _)) rfl) (ws_nil ?_)
    refine xs_set 4 nd (ix0 (xe_castD (xv 0) e)) ?_
    refine xs_ifF (xt_cast (xt_inV fx.u70 (xv 4) (xe_tup3 xe_str xe_str xe_str) rfl rfl (by decide +kernel)) (show _ = false by decide +kernel)) (ws_nil ?_)
    refine no_w fx.u (xv 4) ?_
    refine no_w fx.u (xv 4) ?_
    refine no_w fx.u (xv 4) ?_
    refine no_w fx.u (xv 4) ?_
    refine xs_ifF (xt_cast (xt_inV fx.u70 (xv 4) (xe_tup2 xe_str xe_str) rfl rfl (by decide +kernel)) (show _ = false by decide +kernel)) (ws_nil ?_)
    refine is_w fx.u (xv 4) ?_
    exact xs_ret (fun Ψ' hq' => we_fnP gAr fx.room fx.gd (wa_d (ix1 (xe_castD (xv 0) e)) (wa_d (xv 1) (wa_d (xv 2) (wa_d (xe_cast (j := (n : Nat)) (xe_sub (xv 3) xe_int) dn) wa_n)))) ⟨ts, l, r, rfl, q0, hq'⟩) ⟨_, .da (.da (.da (.da (.nil)))), hq⟩
  | @parts _ ts hw lt =>
    have e := owD_parts ts
    show WSs _ _ [some (.da (owD _)), some (.da (kD l)), some (.da (kD r)), some (.da (.int ((n + 1 : Nat) : Int))), none] _
    refine xs_ifF (xt_cast (xt_or2 (k := false) (k2 := false) (xt_cast (xt_eqI fx.u (xv 3) xe_int) d0) fun _ => xt_cast (xt_eqI fx.u (xe_len B (xe_castD (xv 0) e) (.inr rfl)) xe_int) (len0 _ _)) rfl) (ws_nil ?_)
    refine xs_set 4 nd (ix0 (xe_castD (xv 0) e)) ?_
    refine xs_ifF (xt_cast (xt_inV fx.u70 (xv 4) (xe_tup3 xe_str xe_str xe_str) rfl rfl (by decide +kernel)) (show _ = false by decide +kernel)) (ws_nil ?_)
    refine no_w fx.u (xv 4) ?_
    refine no_w fx.u (xv 4) ?_
    refine no_w fx.u (xv 4) ?_
    refine no_w fx.u (xv 4) ?_
    refine xs_ifF (xt_cast (xt_inV fx.u70 (xv 4) (xe_tup2 xe_str xe_str) rfl rfl (by decide +kernel)) (show _ = false by decide +kernel)) (ws_nil ?_)
    refine no_w fx.u (xv 4) ?_
    refine is_w fx.u (xv 4) ?_
    exact xs_ret (fun Ψ' hq' => we_fnP gPa fx.room fx.gd (wa_d (ix1 (xe_castD (xv 0) e)) (wa_d (xv 1) (wa_d (xv 2) (wa_d (xe_cast (j := (n : Nat)) (xe_sub (xv 3) xe_int) dn) wa_n)))) ⟨ts, l, r, rfl, q0, hq'⟩) ⟨_, .da (.da (.da (.da (.nil)))), hq⟩
theorem r_fwO (D : DK K "fits_within" s_fits_within) (D1 : DK K "fits_some" s_fits_some) (D2 : DK K "fits_must" s_fits_must) (D3 : DK K "fits_inside" s_fits_inside) (D4 : DK K "fits_arms" s_fits_arms) (D5 : DK K "fits_parts" s_fits_parts) (gB : Def P w K mg bs 12 "fits_bare" ["word", "left", "right"] spBareO) (gT : Def P w K mg bs 12 "fits_table" ["forth", "back", "left", "right"] spFTabO) (gV : Def P w K mg bs 11 "is_value" ["kind", "value"] (spIsV 5)) (gAk : Def P w K mg bs 1 "arm_kind" ["kind", "tag"] spArmKO) (gTg : Def P w K mg bs 1 "has_all_tags" ["kind", "tags"] spTagsO) (gPk : Def P w K mg bs 1 "part_kind" ["kind", "place"] spPartK) (gIp : Def P w K mg bs 2 "is_place" ["kind", "place"] spIsPlO) (gOn : Def P w K mg bs 1 "each_place_once" ["kind", "places"] spOnceO) : ∀ n : Nat, Def P w K mg bs (2 * n + 14) "fits_within" ["way", "left", "right", "depth"] (spFwO n)
  | 0 => by
    show Def P w K mg bs (13 + 1) _ _ _
    refine def_ok X G D sc_fits_within (fun f fd F => F.binds (ps := ["way", "left", "right", "depth"]) fun _ _ _ _ _ _ us hl => match us, hl with | [_, _, _, _], _ => rfl) (fun as Ψ h => by obtain ⟨_, _, _, rfl, _⟩ := h; rfl) fun f cdv A fr s H E fx as Ψ vs hsp hl => ?_
    obtain ⟨w, l, r, rfl, q, hq⟩ := hsp
    obtain ⟨v0, v1, v2, v3, rfl⟩ := ar4 hl
    have nd := fx.nd
    show WSs _ _ [some (.da (owD w)), some (.da (kD l)), some (.da (kD r)), some (.da (.int ((0 : Nat) : Int))), none] _
    refine xs_ifT (xt_cast (xt_or2 (k := true) (k2 := true) (xt_cast (xt_eqI fx.u (xv 3) xe_int) (by decide +kernel)) fun he => by cases he) rfl) ?_
    exact xs_ret xe_bl ⟨_, .da (.da (.da (.da (.nil)))), hq⟩
  | n + 1 => by
    have g := r_fwO D D1 D2 D3 D4 D5 gB gT gV gAk gTg gPk gIp gOn n
    exact d_fwO X G B D gB gT gV (d_fsomeO X G B D1 gV g) (d_fmustO X G B D2 gV g) (d_finO X G B D3 g) (d_farmsO X G B D4 g gAk gTg) (d_fpartsO X G B D5 g gPk gIp gOn)
theorem d_fitsO (D : DK K "fits" s_fits) (hD : ∀ Y : Cx, Y.mg = mg → Y.K = K → ∃ t, Y.mg "DEEPEST" = some (.int 6 t)) (gF : Def P w K mg bs 26 "fits_within" ["way", "left", "right", "depth"] (spFwO 6)) : Def P w K mg bs 27 "fits" ["way", "left", "right"] spFitsO := by
  refine def_ok X G D sc_fits (fun f fd F => F.binds (ps := ["way", "left", "right"]) fun _ _ _ _ _ _ us hl => match us, hl with | [_, _, _], _ => rfl) (fun as Ψ h => by obtain ⟨_, _, _, rfl, _⟩ := h; rfl) fun f cdv A fr s H E fx as Ψ vs hsp hl => ?_
  obtain ⟨w, l, r, rfl, q, hq⟩ := hsp
  obtain ⟨v0, v1, v2, rfl⟩ := ar3 hl
  have nd := fx.nd
  show WSs _ _ [some (.da (owD w)), some (.da (kD l)), some (.da (kD r))] _
  exact xs_ret (fun Ψ' hq' => we_fnP gF fx.room fx.gd (wa_d (xv 0) (wa_d (xv 1) (wa_d (xv 2) (wa_d (xe_cast (j := ((6 : Nat) : Int)) (xe_globI (hD _ rfl rfl)) rfl) wa_n)))) ⟨w, l, r, rfl, q, hq'⟩) ⟨_, .da (.da (.da (.nil))), hq⟩
end
end Law
/-! WXd: the law's own fits. -/
namespace Law
open PySem PySem.Spec PyProof.Rows L2 TL
def spLFw (n : Nat) : SpD := fun as Ψ => ∃ (w : Ow) (l r : Kd), as = [.da (owD w), .da (kD l), .da (kD r), .da (.int (n : Nat))] ∧ FA w l r ∧ Ψ (.da (.bool (fitsO n w l r))) as
def spLFTab : SpD := fun as Ψ => ∃ (f g : List PyData) (l r : Kd), as = [.da (.tuple f), .da (.tuple g), .da (kD l), .da (kD r)] ∧ FA (.table f g) l r ∧ Ψ (.da (.bool (tabF f g l r))) as
def spLFArms (n : Nat) : SpD := fun as Ψ => ∃ (ts : List (Str × Str × Ow)) (xs ys : List (Str × Kd)), as = [.da (.tuple (ts.map orA)), .da (.tuple (xs.map armD)), .da (.tuple (ys.map armD)), .da (.int (n : Nat))] ∧ FA (.arms ts) (.one xs) (.one ys) ∧ Ψ (.da (.bool (armsF (fitsO n) ts xs ys))) as
def spLFParts (n : Nat) : SpD := fun as Ψ => ∃ (ts : List (Option Int × Option Int × Ow)) (ps qs : List (Str × Kd)), as = [.da (.tuple (ts.map orQ)), .da (kD (.rec_ ps)), .da (kD (.rec_ qs)), .da (.int (n : Nat))] ∧ FA (.parts ts) (.rec_ ps) (.rec_ qs) ∧ Ψ (.da (.bool (partsF (fitsO n) ts ps qs))) as
abbrev prD2 (q : Str × Str) : PyData := .tuple [.str q.1, .str q.2]
theorem pr_eqv (a b : Str × Str) : PyData.eqv (prD2 a) (prD2 b) = decide (a = b) := by
  obtain ⟨a1, a2⟩ := a
  obtain ⟨b1, b2⟩ := b
  rw [eqv_tup, eqvAll_c, eqvAll_c, eqv_str, eqv_str]
  rw [Bool.eq_iff_iff]
  simp [PyData.eqvAll]
theorem pr_any (a : Str × Str) (l : List (Str × Str)) : ((l.map prD2).any fun z => PyData.eqv z (prD2 a)) = decide (a ∈ l) := by
  rw [Bool.eq_iff_iff, List.any_eq_true, decide_eq_true_eq]
  constructor
  · rintro ⟨z, hz, e⟩
    obtain ⟨b, hb, rfl⟩ := List.mem_map.mp hz
    rw [pr_eqv, decide_eq_true_eq] at e
    exact e ▸ hb
  · intro h
    exact ⟨prD2 a, List.mem_map_of_mem h, by rw [pr_eqv]; exact decide_eq_true rfl⟩
theorem pr_plain (l : List (Str × Str)) : PyData.plainAll (l.map prD2) = true := plainAll_ofM fun x hx => by
  obtain ⟨q, _, rfl⟩ := List.mem_map.mp hx
  rfl
theorem arm_idx : ∀ {xs : List (Str × Kd)} {s : Str}, s ∈ xs.map (·.1) → ∃ j p, xs[j]? = some p ∧ p.1 = s ∧ p.2 = armL xs s ∧ ∀ (m : Nat) (z' : PyData), m < j → (xs.map fun q : Str × Kd => PyData.str q.1)[m]? = some z' → PyData.eqv z' (.str s) = false
  | [], s, h => by cases h
  | (a, b) :: xs, s, h => by
    by_cases e : a = s
    · exact ⟨0, (a, b), rfl, e, by rw [armL, if_pos e], fun m z' hm => absurd hm (Nat.not_lt_zero _)⟩
    · obtain ⟨j, p, h1, h2, h3, h4⟩ := arm_idx (xs := xs) (s := s) (by
        rcases List.mem_cons.mp h with h | h
        · exact absurd h.symm e
        · exact h)
      refine ⟨j + 1, p, h1, h2, by rw [armL, if_neg e]; exact h3, fun m z' hm hz => ?_⟩
      cases m with
      | zero =>
        have hz : PyData.str a = z' := Option.some.inj hz
        rw [← hz, eqv_str]
        exact decide_eq_false e
      | succ m => exact h4 m z' (by omega) hz
theorem tags_map (xs : List (Str × Kd)) : (xs.map fun q => PyData.str q.1) = strsD (xs.map (·.1)) := by rw [strsD, List.map_map]; rfl
theorem filt_t {α : Type} (f : α → Option Int) (ts : List α) : ((ts.filter fun t => !isN (plI (f t))).map fun t => plI (f t)) = ((ts.map f).filterMap id).map .int := by
  induction ts with
  | nil => rfl
  | cons t ts ih =>
    cases e : f t with
    | none =>
      rw [List.filter_cons, List.map_cons, e]
      exact ih
    | some i =>
      rw [List.filter_cons, List.map_cons, e]
      show plI (f t) :: ((ts.filter fun t => !isN (plI (f t))).map fun t => plI (f t)) = _
      rw [ih, e]
      rfl
theorem once_valid {n : Nat} {ps : List (Option Int)} (h : onceF n ps = true) {p : Option Int} (hp : p ∈ ps) : validP n p = true := validP_of fun i e => once_in h (e ▸ hp)
section
variable {P : Program} {w : World} {K : PySem.W.Frag} {mg : Str → Option Value} {bs h : Heap} (X : K.In h) (G : h.Ns mainGlobals mg) (B : Blt mg)
include X G B
theorem d_lftab (D : DK K "_law_fits_table" s_l_fits_table) (gV : Def P w K mg bs 6 "_law_own_is_value" ["kind", "value"] (spOIsG 5)) (gS : Def P w K mg bs 5 "_law_own_size" ["kind"] (spOSize 4)) : Def P w K mg bs 7 "_law_fits_table" ["forth", "back", "left", "right"] spLFTab := by
  refine def_ok X G D sc_l_fits_table (fun f fd F => F.binds (ps := ["forth", "back", "left", "right"]) fun _ _ _ _ _ _ us hl => match us, hl with | [_, _, _, _], _ => rfl) (fun as Ψ h => by obtain ⟨_, _, _, _, rfl, _⟩ := h; rfl) fun f cdv A fr s H E fx as Ψ vs hsp hl => ?_
  obtain ⟨f, g, l, r, rfl, q, hq⟩ := hsp
  obtain ⟨v0, v1, v2, v3, rfl⟩ := ar4 hl
  have nd := fx.nd
  have r5 := fx.room.mono (show 5 ≤ 6 by decide)
  obtain ⟨⟨m, okw⟩, fl, fr⟩ := q
  cases okw with
  | table mf mg lf lg =>
  show WSs _ _ [some (.da (.tuple f)), some (.da (.tuple g)), some (.da (kD l)), some (.da (kD r)), none, none] _
  have no : tabF f g l r = false → Ψ (.da (.bool false)) [.da (.tuple f), .da (.tuple g), .da (kD l), .da (kD r)] := fun e => by rw [← e]; exact hq
  refine xs_if (xt_or2 (xt_gt (fun Ψ' hq' => we_fnP gS r5 fx.gd (wa_d (xv 2) wa_n) ⟨l, rfl, fl.rt, Nat.lt_of_le_of_lt fl.few (by decide), hq'⟩) xe_int) fun _ => xt_gt (fun Ψ' hq' => we_fnP gS r5 fx.gd (wa_d (xv 3) wa_n) ⟨r, rfl, fr.rt, Nat.lt_of_le_of_lt fr.few (by decide), hq'⟩) xe_int) (fun hc => ?_) fun hc => ws_nil ?_
  · refine xs_ret xe_bl ⟨_, .da (.da (.da (.da .nil))), no ?_⟩
    rw [Bool.or_eq_true, decide_eq_true_eq, decide_eq_true_eq] at hc
    unfold tabF
    rcases hc with hc | hc
    · rw [decide_eq_false (show ¬ sz l ≤ 20 by omega)]; simp
    · rw [decide_eq_false (show ¬ sz r ≤ 20 by omega)]; simp
  rw [Bool.or_eq_false_iff, decide_eq_false_iff_not, decide_eq_false_iff_not] at hc
  refine xs_if (xt_or2 (xt_neI fx.u (xe_len B (xv 0) (.inr rfl)) (fun Ψ' hq' => we_fnP gS r5 fx.gd (wa_d (xv 2) wa_n) ⟨l, rfl, fl.rt, Nat.lt_of_le_of_lt fl.few (by decide), hq'⟩)) fun _ => xt_neI fx.u (xe_len B (xv 1) (.inr rfl)) (fun Ψ' hq' => we_fnP gS r5 fx.gd (wa_d (xv 3) wa_n) ⟨r, rfl, fr.rt, Nat.lt_of_le_of_lt fr.few (by decide), hq'⟩)) (fun hd => ?_) fun hd => ws_nil ?_
  · refine xs_ret xe_bl ⟨_, .da (.da (.da (.da .nil))), no ?_⟩
    rw [Bool.or_eq_true, Bool.not_eq_true', Bool.not_eq_true', decide_eq_false_iff_not, decide_eq_false_iff_not] at hd
    unfold tabF
    rcases hd with hd | hd
    · rw [decide_eq_false (show ¬ f.length = sz l by omega)]; simp
    · rw [decide_eq_false (show ¬ g.length = sz r by omega)]; simp
  rw [Bool.or_eq_false_iff, Bool.not_eq_false', Bool.not_eq_false', decide_eq_true_eq, decide_eq_true_eq] at hd
  have et : tabF f g l r = ((f.all fun x => isV r x) && (g.all fun x => isV l x)) := by
    unfold tabF
    rw [decide_eq_true (show sz l ≤ 20 by omega), decide_eq_true (show sz r ≤ 20 by omega), decide_eq_true (show f.length = sz l by omega), decide_eq_true (show g.length = sz r by omega)]
    rfl
  refine xs_set 4 nd (xe_catL (ds := f.map fun x => .bool (isV r x)) (es' := g.map fun x => .bool (isV l x)) (few4 (by rw [List.length_map, List.length_map]; omega)) (xe_frz (xe_lcM [("value", 5)] (fun (x : PyData) Γ => Γ.set 5 (some (.da x))) f id (fun x => .bool (isV r x)) fx (R := fun x => .da (.bool (isV r x))) (by rw [List.map_id]; exact xi_tup (xv 0)) (few4 (by omega)) (fun x hx s H C cl fp => gc_name 5 nd rfl) fun x hx s H C cl fp Ψ' hq' => we_fnP gV fx.blk.room fx.blk.gd (wa_d (xv 3) (wa_d (xv 5) wa_n)) ⟨r, x, rfl, fr.rt5, mf x hx, hq'⟩)) (xe_frz (xe_lcM [("value", 5)] (fun (x : PyData) Γ => Γ.set 5 (some (.da x))) g id (fun x => .bool (isV l x)) fx (R := fun x => .da (.bool (isV l x))) (by rw [List.map_id]; exact xi_tup (xv 1)) (few4 (by omega)) (fun x hx s H C cl fp => gc_name 5 nd rfl) fun x hx s H C cl fp Ψ' hq' => we_fnP gV fx.blk.room fx.blk.gd (wa_d (xv 2) (wa_d (xv 5) wa_n)) ⟨l, x, rfl, fl.rt5, mg x hx, hq'⟩))) ?_
  refine ws_frz 4 .ll ?_
  rw [show ((f.map fun x => PyData.bool (isV r x)) ++ g.map fun x => .bool (isV l x)) = ((f.map fun x => isV r x) ++ g.map fun x => isV l x).map .bool by rw [List.map_append, List.map_map, List.map_map]; rfl]
  show WSs _ _ [some (.da (.tuple f)), some (.da (.tuple g)), some (.da (kD l)), some (.da (kD r)), some (.da (.list (((f.map fun x => isV r x) ++ g.map fun x => isV l x).map .bool))), none] _
  exact xs_ret (xe_castD (xe_all B fx.calm (xv 4)) (by rw [et, List.all_append, List.all_map, List.all_map]; rfl)) ⟨_, .da (.da (.da (.da (.nil)))), hq⟩
theorem d_lfarms (D : DK K "_law_fits_arms" s_l_fits_arms) {n : Nat} (gF : Def P w K mg bs (2 * n + 8) "_law_own_fits" ["way", "left", "right", "deep"] (spLFw n)) : Def P w K mg bs (2 * n + 9) "_law_fits_arms" ["trios", "lefts", "rights", "deep"] (spLFArms n) := by
  refine def_ok X G D sc_l_fits_arms (fun f fd F => F.binds (ps := ["trios", "lefts", "rights", "deep"]) fun _ _ _ _ _ _ us hl => match us, hl with | [_, _, _, _], _ => rfl) (fun as Ψ h => by obtain ⟨_, _, _, rfl, _⟩ := h; rfl) fun f cdv A fr s H E fx as Ψ vs hsp hl => ?_
  obtain ⟨ts, xs, ys, rfl, q, hq⟩ := hsp
  obtain ⟨v0, v1, v2, v3, rfl⟩ := ar4 hl
  have nd := fx.nd
  have r1 := fx.room.mono (show 1 ≤ 2 * n + 8 by omega)
  obtain ⟨⟨m, okw⟩, fl, fr⟩ := q
  cases okw with
  | arms dw lt =>
  have lx : xs.length ≤ 6 := by cases fl.rt with | one a _ _ _ => exact a.2
  have ly : ys.length ≤ 6 := by cases fr.rt with | one a _ _ _ => exact a.2
  have no : armsF (fitsO n) ts xs ys = false → Ψ (.da (.bool false)) [.da (.tuple (ts.map orA)), .da (.tuple (xs.map armD)), .da (.tuple (ys.map armD)), .da (.int (n : Nat))] := fun e => by rw [← e]; exact hq
  show WSs _ _ [some (.da (.tuple (ts.map orA))), some (.da (.tuple (xs.map armD))), some (.da (.tuple (ys.map armD))), some (.da (.int (n : Nat))), none, none, none, none, none, none, none, none, none, none, none, none] _
  refine xs_setLcM [("arm", 13)] (fun (p : Str × Kd) Γ => Γ.set 13 (some (.da (armD p)))) xs armD (fun p => .str p.1) 4 fx (R := fun p => .da (.str p.1)) (xi_tup (xv 1)) (few4 (by omega)) (fun p hp s H C cl fp => gc_name 13 nd rfl) (fun p hp s H C cl fp => ix0 (xv 13)) ?_
  refine ws_frz 4 .ll ?_
  refine xs_setLcM [("arm", 13)] (fun (p : Str × Kd) Γ => Γ.set 13 (some (.da (armD p)))) ys armD (fun p => .str p.1) 5 fx (R := fun p => .da (.str p.1)) (xi_tup (xv 2)) (few4 (by omega)) (fun p hp s H C cl fp => gc_name 13 nd rfl) (fun p hp s H C cl fp => ix0 (xv 13)) ?_
  refine ws_frz 5 .ll ?_
  refine xs_setLcM [("trio", 8)] (fun (t : Str × Str × Ow) Γ => Γ.set 8 (some (.da (orA t)))) ts orA (fun t => prD2 (prT t)) 6 fx (R := fun t => .da (prD2 (prT t))) (xi_tup (xv 0)) (few4 (by omega)) (fun t ht s H C cl fp => gc_name 8 nd rfl) (fun t ht s H C cl fp => xe_tup2 (ix0 (xv 8)) (ix1 (xv 8))) ?_
  refine ws_frz 6 .ll ?_
  rw [show (ts.map fun t => prD2 (prT t)) = (ts.map prT).map prD2 by rw [List.map_map]; rfl]
  show WSs _ _ [some (.da (.tuple (ts.map orA))), some (.da (.tuple (xs.map armD))), some (.da (.tuple (ys.map armD))), some (.da (.int (n : Nat))), some (.da (.list (xs.map fun q => PyData.str q.1))), some (.da (.list (ys.map fun q => PyData.str q.1))), some (.da (.list ((ts.map prT).map prD2))), none, none, none, none, none, none, none, none, none] _
  refine ws_forT fx (enumN ts) (fun p => .tuple [.int (p.1 : Nat), orA p.2]) (fun _ : Unit => [some (.da (.tuple (ts.map orA))), some (.da (.tuple (xs.map armD))), some (.da (.tuple (ys.map armD))), some (.da (.int (n : Nat))), some (.da (.list (xs.map fun q => PyData.str q.1))), some (.da (.list (ys.map fun q => PyData.str q.1))), some (.da (.list ((ts.map prT).map prD2))), none, none, none, none, none, none, none, none, none]) (fun i _ => ∀ j, j < i → okA (fitsO n) xs ys ts j = true) () (xi_enumT (E := orA) (xs := ts) B (xv 0)) (fun j hj => absurd hj (Nat.not_lt_zero _)) rfl ?_ ?_
  · rintro i ⟨i', t⟩ _ hp up
    obtain ⟨e2, ht⟩ := enumN_at hp
    have e2 : i' = i := e2
    subst e2
    have ht : ts[i']? = some t := ht
    have htm := List.mem_of_getElem? ht
    have hi := (List.getElem?_eq_some_iff.mp ht).1
    have eo : okA (fitsO n) xs ys ts i' = (decide (t.1 ∈ xs.map (·.1)) && decide (t.2.1 ∈ ys.map (·.1)) && !decide (prT t ∈ (ts.take i').map prT) && fitsO n t.2.2 (armL xs t.1) (armL ys t.2.1)) := by
      unfold okA
      rw [ht]
    have stop : okA (fitsO n) xs ys ts i' = false → armsF (fitsO n) ts xs ys = false := fun h => by
      unfold armsF
      rw [all_at (α := Unit) hi h, Bool.false_and]
    have hpr : ((ts.map prT).map prD2)[i']? = some (prD2 (prT t)) := by rw [List.getElem?_map, List.getElem?_map, ht]; rfl
    refine wg_tup fx.calm (wgs_cons (wg_name 7 nd (wgs_cons (wg_name 8 nd (wgs_nil ?_)))))
    show WSs _ _ [some (.da (.tuple (ts.map orA))), some (.da (.tuple (xs.map armD))), some (.da (.tuple (ys.map armD))), some (.da (.int (n : Nat))), some (.da (.list (xs.map fun q => PyData.str q.1))), some (.da (.list (ys.map fun q => PyData.str q.1))), some (.da (.list ((ts.map prT).map prD2))), some (.da (.int (i' : Nat))), some (.da (orA t)), none, none, none, none, none, none, none] _
    refine xs_if (xt_or3 (xt_cast (j' := !decide (t.1 ∈ xs.map (·.1))) (xt_notInV fx.u70 (ix0 (xv 8)) (xv 4) rfl (by rw [tags_map]; exact plain_strs _) (by simp [PyData.depth]) (.inl rfl)) (by rw [tags_map, any_str])) (fun _ => xt_cast (j' := !decide (t.2.1 ∈ ys.map (·.1))) (xt_notInV fx.u70 (ix1 (xv 8)) (xv 5) rfl (by rw [tags_map]; exact plain_strs _) (by simp [PyData.depth]) (.inl rfl)) (by rw [tags_map, any_str])) fun _ _ => xt_cast (j' := decide (prT t ∈ (ts.take i').map prT)) (xt_inV fx.u70 (xe_ix (xv 6) (xv 7) (.inl rfl) (atI_n hpr)) (xe_frz (xe_sliceL (l := none) (u := some (i' : Nat)) (xv 6) .none (.some (xv 7)))) rfl (by rw [cutD_to, ← List.map_take]; exact pr_plain _) (by simp [prD2, PyData.depth, PyData.depthAll]) (.inl rfl)) (by rw [cutD_to, ← List.map_take, ← List.map_take, pr_any])) (fun hc => ?_) fun hc => ws_nil ?_
    · refine xs_ret xe_bl ⟨_, .da (.da (.da (.da .nil))), no (stop ?_)⟩
      rw [eo]
      rw [Bool.or_eq_true, Bool.or_eq_true, Bool.not_eq_true', Bool.not_eq_true'] at hc
      rcases hc with hc | hc | hc
      · rw [hc]; rfl
      · rw [hc, Bool.and_false]; rfl
      · rw [hc, Bool.not_true, Bool.and_false]; rfl
    rw [Bool.or_eq_false_iff, Bool.or_eq_false_iff, Bool.not_eq_false', Bool.not_eq_false', decide_eq_true_eq, decide_eq_true_eq] at hc
    obtain ⟨hs1, hu1, hnew⟩ := hc
    obtain ⟨j1, p1, a1, a2, a3, a4⟩ := arm_idx hs1
    obtain ⟨j2, p2, b1, b2, b3, b4⟩ := arm_idx hu1
    refine xs_set 9 nd (xe_castD (ix1 (xe_ix (xv 1) (xe_indexS 4 fx.u65 (j := j1) (ix0 (xv 8)) (by rw [tags_map]; exact shaped_strs (nm_in fl.rt)) (shaped_str (nm_in fl.rt _ hs1)) (by rw [tags_map]; exact plain_strs _) rfl (by rw [List.getElem?_map, a1]; rfl) (by rw [eqv_str, a2]; exact decide_eq_true rfl) (fun m z' hm hz => a4 m z' hm hz)) (.inr rfl) (atI_n (by rw [List.getElem?_map, a1]; rfl)))) (by rw [a3])) ?_
    refine xs_set 10 nd (xe_castD (ix1 (xe_ix (xv 2) (xe_indexS 5 fx.u65 (j := j2) (ix1 (xv 8)) (by rw [tags_map]; exact shaped_strs (nm_in fr.rt)) (shaped_str (nm_in fr.rt _ hu1)) (by rw [tags_map]; exact plain_strs _) rfl (by rw [List.getElem?_map, b1]; rfl) (by rw [eqv_str, b2]; exact decide_eq_true rfl) (fun m z' hm hz => b4 m z' hm hz)) (.inr rfl) (atI_n (by rw [List.getElem?_map, b1]; rfl)))) (by rw [b3])) ?_
    show WSs _ _ [some (.da (.tuple (ts.map orA))), some (.da (.tuple (xs.map armD))), some (.da (.tuple (ys.map armD))), some (.da (.int (n : Nat))), some (.da (.list (xs.map fun q => PyData.str q.1))), some (.da (.list (ys.map fun q => PyData.str q.1))), some (.da (.list ((ts.map prT).map prD2))), some (.da (.int (i' : Nat))), some (.da (orA t)), some (.da (kD (armL xs t.1))), some (.da (kD (armL ys t.2.1))), none, none, none, none, none] _
    have eo2 : okA (fitsO n) xs ys ts i' = fitsO n t.2.2 (armL xs t.1) (armL ys t.2.1) := by
      rw [eo, decide_eq_true hs1, decide_eq_true hu1, hnew]
      rfl
    refine xs_if (xt_not (xt_val (k := fitsO n t.2.2 (armL xs t.1) (armL ys t.2.1)) (fun Ψ' hq' => we_fnP gF fx.room fx.gd (wa_d (ix2 (xv 8)) (wa_d (xv 9) (wa_d (xv 10) (wa_d (xv 3) wa_n)))) ⟨t.2.2, armL xs t.1, armL ys t.2.1, rfl, ⟨⟨_, dw t htm⟩, fl.arm hs1, fr.arm hu1⟩, hq'⟩))) (fun hd => ?_) fun hd => ws_nil ?_
    · rw [Bool.not_eq_true'] at hd
      exact xs_ret xe_bl ⟨_, .da (.da (.da (.da .nil))), no (stop (by rw [eo2]; exact hd))⟩
    rw [Bool.not_eq_false'] at hd
    refine ws_drop 7 (ws_drop 8 (ws_drop 9 (ws_drop 10 (ws_nil ⟨(), fun j hj => ?_, rfl⟩))))
    rcases Nat.lt_succ_iff_lt_or_eq.mp hj with hj | rfl
    · exact up j hj
    · rw [eo2]; exact hd
  · rintro _ up
    rw [enumN_len] at up
    unfold armsF at hq
    rw [all_up up, Bool.true_and] at hq
    refine xs_set 11 nd (xe_lcM [("pair", 14)] (fun (t : Str × Str × Ow) Γ => Γ.set 14 (some (.da (prD2 (prT t))))) ts (fun t => prD2 (prT t)) (fun t => .str t.1) fx (R := fun t => .da (.str t.1)) (xi_cast (xi_lst (xv 6)) (show (ts.map prT).map prD2 = ts.map fun t => prD2 (prT t) by rw [List.map_map]; rfl)) (few4 (by omega)) (fun t ht s H C cl fp => gc_name 14 nd rfl) fun t ht s H C cl fp => ix0 (xv 14)) ?_
    refine ws_frz 11 .ll ?_
    rw [show (ts.map fun t => PyData.str t.1) = strsD (ts.map (·.1)) by rw [strsD, List.map_map]; rfl]
    refine xs_set 12 nd (xe_lcM [("pair", 14)] (fun (t : Str × Str × Ow) Γ => Γ.set 14 (some (.da (prD2 (prT t))))) ts (fun t => prD2 (prT t)) (fun t => .str t.2.1) fx (R := fun t => .da (.str t.2.1)) (xi_cast (xi_lst (xv 6)) (show (ts.map prT).map prD2 = ts.map fun t => prD2 (prT t) by rw [List.map_map]; rfl)) (few4 (by omega)) (fun t ht s H C cl fp => gc_name 14 nd rfl) fun t ht s H C cl fp => ix1 (xv 14)) ?_
    refine ws_frz 12 .ll ?_
    rw [show (ts.map fun t => PyData.str t.2.1) = strsD (ts.map (·.2.1)) by rw [strsD, List.map_map]; rfl]
    show WSs _ _ [some (.da (.tuple (ts.map orA))), some (.da (.tuple (xs.map armD))), some (.da (.tuple (ys.map armD))), some (.da (.int (n : Nat))), some (.da (.list (xs.map fun q => PyData.str q.1))), some (.da (.list (ys.map fun q => PyData.str q.1))), some (.da (.list ((ts.map prT).map prD2))), none, none, none, none, some (.da (.list (strsD (ts.map (·.1))))), some (.da (.list (strsD (ts.map (·.2.1))))), none, none, none] _
    exact xs_ret (xe_andB (xe_allM (fun p : Str × Kd => decide (p.1 ∈ ts.map (·.1))) xs B rfl (xe_lcM [("tag", 15)] (fun (p : Str × Kd) Γ => Γ.set 15 (some (.da (.str p.1)))) xs (fun p => .str p.1) (fun p => .bool (decide (p.1 ∈ ts.map (·.1)))) fx (R := fun p => .da (.bool (decide (p.1 ∈ ts.map (·.1))))) (xi_lst (xv 4)) (few4 (by omega)) (fun p hp s H C cl fp => gc_name 15 nd rfl) fun p hp s H C cl fp => xe_castD (xe_inV fx.blk.u70 (xv 15) (xv 11) rfl (plain_strs _) (by simp [PyData.depth]) (.inl rfl)) (congrArg PyData.bool (any_str p.1 _)))) fun _ => (xe_allM (fun p : Str × Kd => decide (p.1 ∈ ts.map (·.2.1))) ys B rfl (xe_lcM [("tag", 15)] (fun (p : Str × Kd) Γ => Γ.set 15 (some (.da (.str p.1)))) ys (fun p => .str p.1) (fun p => .bool (decide (p.1 ∈ ts.map (·.2.1)))) fx (R := fun p => .da (.bool (decide (p.1 ∈ ts.map (·.2.1))))) (xi_lst (xv 5)) (few4 (by omega)) (fun p hp s H C cl fp => gc_name 15 nd rfl) fun p hp s H C cl fp => xe_castD (xe_inV fx.blk.u70 (xv 15) (xv 12) rfl (plain_strs _) (by simp [PyData.depth]) (.inl rfl)) (congrArg PyData.bool (any_str p.1 _))))) ⟨_, .da (.da (.da (.da (.nil)))), hq⟩
theorem d_lfparts (D : DK K "_law_fits_parts" s_l_fits_parts) {n : Nat} (gF : Def P w K mg bs (2 * n + 8) "_law_own_fits" ["way", "left", "right", "deep"] (spLFw n)) (gPo : Def P w K mg bs 1 "_law_part_of" ["kind", "place"] spPartK) : Def P w K mg bs (2 * n + 9) "_law_fits_parts" ["trios", "left", "right", "deep"] (spLFParts n) := by
  refine def_ok X G D sc_l_fits_parts (fun f fd F => F.binds (ps := ["trios", "left", "right", "deep"]) fun _ _ _ _ _ _ us hl => match us, hl with | [_, _, _, _], _ => rfl) (fun as Ψ h => by obtain ⟨_, _, _, rfl, _⟩ := h; rfl) fun f cdv A fr s H E fx as Ψ vs hsp hl => ?_
  obtain ⟨ts, ps, qs, rfl, q, hq⟩ := hsp
  obtain ⟨v0, v1, v2, v3, rfl⟩ := ar4 hl
  have nd := fx.nd
  have r1 := fx.room.mono (show 1 ≤ 2 * n + 8 by omega)
  obtain ⟨⟨m, okw⟩, fl, fr⟩ := q
  cases okw with
  | parts dw lt =>
  have lx : ps.length ≤ 6 := by cases fl.rt with | rec_ a _ => exact a
  have ly : qs.length ≤ 6 := by cases fr.rt with | rec_ a _ => exact a
  have e1 := kD_rec ps
  have e2 := kD_rec qs
  have no : partsF (fitsO n) ts ps qs = false → Ψ (.da (.bool false)) [.da (.tuple (ts.map orQ)), .da (kD (.rec_ ps)), .da (kD (.rec_ qs)), .da (.int (n : Nat))] := fun e => by rw [← e]; exact hq
  have l1 : ((ts.map (·.1)).filterMap id).length ≤ 200 := Nat.le_trans (List.length_filterMap_le ..) (by rw [List.length_map]; omega)
  have l2 : ((ts.map (·.2.1)).filterMap id).length ≤ 200 := Nat.le_trans (List.length_filterMap_le ..) (by rw [List.length_map]; omega)
  show WSs _ _ [some (.da (.tuple (ts.map orQ))), some (.da (kD (.rec_ ps))), some (.da (kD (.rec_ qs))), some (.da (.int (n : Nat))), none, none, none] _
  refine xs_setLcF [("trio", 6)] (fun (t : Option Int × Option Int × Ow) Γ => Γ.set 6 (some (.da (orQ t)))) ts orQ (fun t => plI t.1) 4 (fun t => !isN (plI t.1)) fx (R := fun t => .da (plI t.1)) (xi_tup (xv 0)) (few4 (by omega)) (fun t ht s H C cl fp => gc_name 6 nd rfl) (fun t ht s H C cl fp => xt_isNotN (ix0 (xv 6))) (fun t ht _ s H C cl fp => ix0 (xv 6)) ?_
  refine ws_frz 4 .ll ?_
  rw [filt_t (fun t : Option Int × Option Int × Ow => t.1) ts]
  refine xs_setLcF [("trio", 6)] (fun (t : Option Int × Option Int × Ow) Γ => Γ.set 6 (some (.da (orQ t)))) ts orQ (fun t => plI t.2.1) 5 (fun t => !isN (plI t.2.1)) fx (R := fun t => .da (plI t.2.1)) (xi_tup (xv 0)) (few4 (by omega)) (fun t ht s H C cl fp => gc_name 6 nd rfl) (fun t ht s H C cl fp => xt_isNotN (ix1 (xv 6))) (fun t ht _ s H C cl fp => ix1 (xv 6)) ?_
  refine ws_frz 5 .ll ?_
  rw [filt_t (fun t : Option Int × Option Int × Ow => t.2.1) ts]
  show WSs _ _ [some (.da (.tuple (ts.map orQ))), some (.da (kD (.rec_ ps))), some (.da (kD (.rec_ qs))), some (.da (.int (n : Nat))), some (.da (.list (((ts.map (·.1)).filterMap id).map .int))), some (.da (.list (((ts.map (·.2.1)).filterMap id).map .int))), none] _
  refine xs_if (xt_or2 (xt_neP fx.u (d := .list (sortD (((ts.map (·.1)).filterMap id).map .int))) (d' := .list (ilist (List.range ps.length))) (xe_frz (xe_sorted B fx.u70 (srt_ints (few4 (by omega))) (xv 4))) (xe_frz (xe_listRgN B fx.calm (n := ps.length) (xe_cast (xe_len B (ix1 (xe_castD (xv 1) e1)) (.inr rfl)) (by rw [List.length_map])) (by omega))) (by rw [sortD_map (E := PyData.int), PyData.plain]; exact plain_ints) (by rw [PyData.plain]; exact plain_ilist _) (sort_dp _)) fun _ => (xt_neP fx.u (d := .list (sortD (((ts.map (·.2.1)).filterMap id).map .int))) (d' := .list (ilist (List.range qs.length))) (xe_frz (xe_sorted B fx.u70 (srt_ints (few4 (by omega))) (xv 5))) (xe_frz (xe_listRgN B fx.calm (n := qs.length) (xe_cast (xe_len B (ix1 (xe_castD (xv 2) e2)) (.inr rfl)) (by rw [List.length_map])) (by omega))) (by rw [sortD_map (E := PyData.int), PyData.plain]; exact plain_ints) (by rw [PyData.plain]; exact plain_ilist _) (sort_dp _))) (fun hc => ?_) fun hc => ws_nil ?_
  · refine xs_ret xe_bl ⟨_, .da (.da (.da (.da .nil))), no ?_⟩
    have hc : (!onceF ps.length (ts.map (·.1)) || !onceF qs.length (ts.map (·.2.1))) = true := hc
    rw [Bool.or_eq_true, Bool.not_eq_true', Bool.not_eq_true'] at hc
    unfold partsF
    rcases hc with hc | hc
    · rw [hc]; simp
    · rw [hc]; simp
  have hc : (!onceF ps.length (ts.map (·.1)) || !onceF qs.length (ts.map (·.2.1))) = false := hc
  rw [Bool.or_eq_false_iff, Bool.not_eq_false', Bool.not_eq_false'] at hc
  obtain ⟨o1, o2⟩ := hc
  have ep : partsF (fitsO n) ts ps qs = ts.all (okQ (fitsO n) ps qs) := by
    unfold partsF
    rw [o1, o2]
    rfl
  rw [ep] at hq no
  refine ws_forT fx ts orQ (fun _ : Unit => [some (.da (.tuple (ts.map orQ))), some (.da (kD (.rec_ ps))), some (.da (kD (.rec_ qs))), some (.da (.int (n : Nat))), some (.da (.list (((ts.map (·.1)).filterMap id).map .int))), some (.da (.list (((ts.map (·.2.1)).filterMap id).map .int))), none]) (fun i _ => ∀ j t, j < i → ts[j]? = some t → okQ (fitsO n) ps qs t = true) () (xi_tup (xv 0)) (fun j t hj => absurd hj (Nat.not_lt_zero _)) rfl ?_ ?_
  · rintro i t _ ht up
    have htm := List.mem_of_getElem? ht
    have stop : okQ (fitsO n) ps qs t = false → ts.all (okQ (fitsO n) ps qs) = false := fun h => all_mem htm h
    obtain ⟨p1, p1'⟩ := plI_nat (once_valid o1 (List.mem_map_of_mem (f := (·.1)) htm))
    obtain ⟨p2, p2'⟩ := plI_nat (once_valid o2 (List.mem_map_of_mem (f := (·.2.1)) htm))
    refine wg_name 6 nd ?_
    show WSs _ _ [some (.da (.tuple (ts.map orQ))), some (.da (kD (.rec_ ps))), some (.da (kD (.rec_ qs))), some (.da (.int (n : Nat))), some (.da (.list (((ts.map (·.1)).filterMap id).map .int))), some (.da (.list (((ts.map (·.2.1)).filterMap id).map .int))), some (.da (orQ t))] _
    refine xs_if (xt_and2 (xt_cast (xt_isN (ix0 (xv 6))) (plI_none t.1)) fun _ => xt_cast (xt_isN (ix1 (xv 6))) (plI_none t.2.1)) (fun hd => ?_) fun hd => ws_nil ?_
    · refine xs_ret xe_bl ⟨_, .da (.da (.da (.da .nil))), no (stop ?_)⟩
      unfold okQ
      rw [hd]
      rfl
    have eo : okQ (fitsO n) ps qs t = fitsO n t.2.2 (partI (.rec_ ps) t.1) (partI (.rec_ qs) t.2.1) := by
      unfold okQ
      rw [hd]
      rfl
    refine xs_if (xt_not (xt_val (k := fitsO n t.2.2 (partI (.rec_ ps) t.1) (partI (.rec_ qs) t.2.1)) (fun Ψ' hq' => we_fnP gF fx.room fx.gd (wa_d (ix2 (xv 6)) (wa_d (fun Ψ' hq' => we_fnP gPo r1 fx.gd (wa_d (xv 1) (wa_d (xe_castD (ix0 (xv 6)) p1) wa_n)) ⟨ps, (t.1).map Int.toNat, rfl, p1', hq'⟩) (wa_d (fun Ψ' hq' => we_fnP gPo r1 fx.gd (wa_d (xv 2) (wa_d (xe_castD (ix1 (xv 6)) p2) wa_n)) ⟨qs, (t.2.1).map Int.toNat, rfl, p2', hq'⟩) (wa_d (xv 3) wa_n)))) ⟨t.2.2, _, _, rfl, ⟨⟨_, dw t htm⟩, fl.part _, fr.part _⟩, hq'⟩))) (fun hg => ?_) fun hg => ws_nil ?_
    · rw [Bool.not_eq_true'] at hg
      exact xs_ret xe_bl ⟨_, .da (.da (.da (.da .nil))), no (stop (by rw [eo]; exact hg))⟩
    rw [Bool.not_eq_false'] at hg
    refine ws_drop 6 (ws_nil ⟨(), fun j u hj hu => ?_, rfl⟩)
    rcases Nat.lt_succ_iff_lt_or_eq.mp hj with hj | rfl
    · exact up j u hj hu
    · rw [ht] at hu
      rw [← Option.some.inj hu, eo]
      exact hg
  · rintro _ up
    rw [show ts.all (okQ (fitsO n) ps qs) = true by
      rw [List.all_eq_true]
      intro t ht
      obtain ⟨j, hj, e⟩ := List.getElem_of_mem ht
      exact up j t hj (by rw [List.getElem?_eq_getElem hj, e])] at hq
    exact xs_ret xe_bl ⟨_, .da (.da (.da (.da (.nil)))), hq⟩
theorem d_lfw (D : DK K "_law_own_fits" s_l_own_fits) {n : Nat} (gV : Def P w K mg bs 6 "_law_own_is_value" ["kind", "value"] (spOIsG 5)) (gS : Def P w K mg bs 5 "_law_own_size" ["kind"] (spOSize 4)) (gT : Def P w K mg bs 7 "_law_fits_table" ["forth", "back", "left", "right"] spLFTab) (gF : Def P w K mg bs (2 * n + 8) "_law_own_fits" ["way", "left", "right", "deep"] (spLFw n)) (gA : Def P w K mg bs (2 * n + 9) "_law_fits_arms" ["trios", "lefts", "rights", "deep"] (spLFArms n)) (gP : Def P w K mg bs (2 * n + 9) "_law_fits_parts" ["trios", "left", "right", "deep"] (spLFParts n)) : Def P w K mg bs (2 * (n + 1) + 8) "_law_own_fits" ["way", "left", "right", "deep"] (spLFw (n + 1)) := by
  show Def P w K mg bs (2 * n + 9 + 1) _ _ _
  refine def_ok X G D sc_l_own_fits (fun f fd F => F.binds (ps := ["way", "left", "right", "deep"]) fun _ _ _ _ _ _ us hl => match us, hl with | [_, _, _, _], _ => rfl) (fun as Ψ h => by obtain ⟨_, _, _, rfl, _⟩ := h; rfl) fun f cdv A fr s H E fx as Ψ vs hsp hl => ?_
  obtain ⟨w, l, r, rfl, q, hq⟩ := hsp
  obtain ⟨v0, v1, v2, v3, rfl⟩ := ar4 hl
  have nd := fx.nd
  have r8 := fx.room.mono (show 2 * n + 8 ≤ 2 * n + 9 by omega)
  have r7 := fx.room.mono (show 7 ≤ 2 * n + 9 by omega)
  have r6 := fx.room.mono (show 6 ≤ 2 * n + 9 by omega)
  have r5 := fx.room.mono (show 5 ≤ 2 * n + 9 by omega)
  have dn : (((n + 1 : Nat) : Int) - 1) = (n : Nat) := by omega
  have q0 := q
  obtain ⟨⟨m, okw⟩, fl, fr⟩ := q
  obtain ⟨a1, d1⟩ := kD_wd l
  obtain ⟨b1, d2⟩ := kD_wd r
  cases okw with
  | @bare _ s ds hno hlen =>
    have e := owD_bare s ds
    show WSs _ _ [some (.da (owD _)), some (.da (kD l)), some (.da (kD r)), some (.da (.int ((n + 1 : Nat) : Int))), none] _
    refine xs_set 4 nd (ix0 (xe_castD (xv 0) e)) ?_
    refine xs_ifF (xt_cast (xt_eqI fx.u (xv 3) xe_int) (decide_eq_false (by omega))) (ws_nil ?_)
    by_cases h1 : s = "same"
    · subst h1
      refine is_w fx.u (xv 4) ?_
      exact xs_ret (xe_eqP fx.u (xe_kP (xv 1)) (xe_kP (xv 2)) (kP_vd fl.rt).plain (kP_vd fr.rt).plain (Nat.le_trans (kP_vd fl.rt).depth (by decide))) ⟨_, .da (.da (.da (.da (.nil)))), hq⟩
    refine xs_ifF (xt_isW fx.u (xv 4) (decide_eq_false h1)) (ws_nil ?_)
    by_cases h2 : s = "rank"
    · subst h2
      refine is_w fx.u (xv 4) ?_
      exact xs_ret (xe_castD (xe_eqI fx.u (fun Ψ' hq' => we_fnP gS r5 fx.gd (wa_d (xv 1) wa_n) ⟨l, rfl, fl.rt, Nat.lt_of_le_of_lt fl.few (by decide), hq'⟩) (fun Ψ' hq' => we_fnP gS r5 fx.gd (wa_d (xv 2) wa_n) ⟨r, rfl, fr.rt, Nat.lt_of_le_of_lt fr.few (by decide), hq'⟩)) (congrArg PyData.bool (decide_eq_decide.mpr Int.ofNat_inj))) ⟨_, .da (.da (.da (.da (.nil)))), hq⟩
    refine xs_ifF (xt_isW fx.u (xv 4) (decide_eq_false h2)) (ws_nil ?_)
    by_cases h3 : s = "clip"
    · subst h3
      refine is_w fx.u (xv 4) ?_
      exact xs_ret (xe_andB (xt_eqStrE fx.u (ix0 (xe_castD (xv 1) d1)) xe_str) fun _ => (xt_eqStrE fx.u (ix0 (xe_castD (xv 2) d2)) xe_str)) ⟨_, .da (.da (.da (.da (.nil)))), hq⟩
    refine xs_ifF (xt_isW fx.u (xv 4) (decide_eq_false h3)) (ws_nil ?_)
    have hb : fitsO (n + 1) (.bare s ds) l r = false := by
      show bareF s l r = false
      unfold bareF
      rw [if_neg h1, if_neg h2, if_neg h3]
    rw [hb] at hq
    refine xs_ifF (xt_isW fx.u (xv 4) (decide_eq_false fun h => hno (by rw [h]; decide +kernel))) (ws_nil ?_)
    refine xs_ifF (xt_isW fx.u (xv 4) (decide_eq_false fun h => hno (by rw [h]; decide +kernel))) (ws_nil ?_)
    refine xs_ifF (xt_isW fx.u (xv 4) (decide_eq_false fun h => hno (by rw [h]; decide +kernel))) (ws_nil ?_)
    refine xs_ifF (xt_isW fx.u (xv 4) (decide_eq_false fun h => hno (by rw [h]; decide +kernel))) (ws_nil ?_)
    refine xs_ifF (xt_isW fx.u (xv 4) (decide_eq_false fun h => hno (by rw [h]; decide +kernel))) (ws_nil ?_)
    refine xs_ifF (xt_isW fx.u (xv 4) (decide_eq_false fun h => hno (by rw [h]; decide +kernel))) (ws_nil ?_)
    refine xs_ifF (xt_isW fx.u (xv 4) (decide_eq_false fun h => hno (by rw [h]; decide +kernel))) (ws_nil ?_)
    refine xs_ifF (xt_isW fx.u (xv 4) (decide_eq_false fun h => hno (by rw [h]; decide +kernel))) (ws_nil ?_)
    exact xs_ret xe_bl ⟨_, .da (.da (.da (.da (.nil)))), hq⟩
  | @table _ f g mf mg lf lg =>
    have e := owD_table f g
    show WSs _ _ [some (.da (owD _)), some (.da (kD l)), some (.da (kD r)), some (.da (.int ((n + 1 : Nat) : Int))), none] _
    refine xs_set 4 nd (ix0 (xe_castD (xv 0) e)) ?_
    refine xs_ifF (xt_cast (xt_eqI fx.u (xv 3) xe_int) (decide_eq_false (by omega))) (ws_nil ?_)
    refine no_w fx.u (xv 4) ?_
    refine no_w fx.u (xv 4) ?_
    refine no_w fx.u (xv 4) ?_
    refine is_w fx.u (xv 4) ?_
    exact xs_ret (fun Ψ' hq' => we_fnP gT r7 fx.gd (wa_d (ix1 (xe_castD (xv 0) e)) (wa_d (ix2 (xe_castD (xv 0) e)) (wa_d (xv 1) (wa_d (xv 2) wa_n)))) ⟨f, g, l, r, rfl, q0, hq'⟩) ⟨_, .da (.da (.da (.da (.nil)))), hq⟩
  | @apart _ d d3 h1 h2 =>
    have e := owD_apart d d3
    show WSs _ _ [some (.da (owD _)), some (.da (kD l)), some (.da (kD r)), some (.da (.int ((n + 1 : Nat) : Int))), none] _
    refine xs_set 4 nd (ix0 (xe_castD (xv 0) e)) ?_
    refine xs_ifF (xt_cast (xt_eqI fx.u (xv 3) xe_int) (decide_eq_false (by omega))) (ws_nil ?_)
    refine no_w fx.u (xv 4) ?_
    refine no_w fx.u (xv 4) ?_
    refine no_w fx.u (xv 4) ?_
    refine no_w fx.u (xv 4) ?_
    refine is_w fx.u (xv 4) ?_
    exact xs_ret (xe_andB (fun Ψ' hq' => we_fnP gV r6 fx.gd (wa_d (xv 1) (wa_d (ix1 (xe_castD (xv 0) e)) wa_n)) ⟨l, d, rfl, fl.rt5, h1, hq'⟩) fun _ => (fun Ψ' hq' => we_fnP gV r6 fx.gd (wa_d (xv 2) (wa_d (ix2 (xe_castD (xv 0) e)) wa_n)) ⟨r, d3, rfl, fr.rt5, h2, hq'⟩)) ⟨_, .da (.da (.da (.da (.nil)))), hq⟩
  | @some_ _ w d hw hd =>
    have e := owD_some w d
    show WSs _ _ [some (.da (owD _)), some (.da (kD l)), some (.da (kD r)), some (.da (.int ((n + 1 : Nat) : Int))), none] _
    refine xs_set 4 nd (ix0 (xe_castD (xv 0) e)) ?_
    refine xs_ifF (xt_cast (xt_eqI fx.u (xv 3) xe_int) (decide_eq_false (by omega))) (ws_nil ?_)
    refine no_w fx.u (xv 4) ?_
    refine no_w fx.u (xv 4) ?_
    refine no_w fx.u (xv 4) ?_
    refine no_w fx.u (xv 4) ?_
    refine no_w fx.u (xv 4) ?_
    refine is_w fx.u (xv 4) ?_
    by_cases hs : wdK r = "opt"
    · obtain ⟨k, rfl⟩ := wd_opt hs ⟨_, fr.rt⟩
      have e3 := kD_opt k
      exact xs_ret (xe_castD (xe_and3B (k := true) (xe_castD (xt_eqStrE fx.u (ix0 (xe_castD (xv 2) e3)) xe_str) (congrArg PyData.bool (decide_eq_true rfl))) (fun _ => (fun Ψ' hq' => we_fnP gV r6 fx.gd (wa_d (xv 1) (wa_d (ix2 (xe_castD (xv 0) e)) wa_n)) ⟨l, d, rfl, fl.rt5, hd, hq'⟩)) fun _ _ => (fun Ψ' hq' => we_fnP gF r8 fx.gd (wa_d (ix1 (xe_castD (xv 0) e)) (wa_d (xv 1) (wa_d (ix1 (xe_castD (xv 2) e3)) (wa_d (xe_cast (j := (n : Nat)) (xe_sub (xv 3) xe_int) dn) wa_n)))) ⟨w, l, k, rfl, ⟨⟨_, hw⟩, fl, fr.opt⟩, hq'⟩)) (by rw [Bool.true_and]; rfl)) ⟨_, .da (.da (.da (.da (.nil)))), hq⟩
    · rw [fits_some_no hs] at hq
      exact xs_ret (xe_castD (xe_and3B (k := false) (k2 := false) (k3 := false) (xe_castD (xt_eqStrE fx.u (ix0 (xe_castD (xv 2) d2)) xe_str) (congrArg PyData.bool (decide_eq_false hs))) (fun he => by cases he) fun he => by cases he) rfl) ⟨_, .da (.da (.da (.da (.nil)))), hq⟩
  | @must _ w d hw hd =>
    have e := owD_must w d
    show WSs _ _ [some (.da (owD _)), some (.da (kD l)), some (.da (kD r)), some (.da (.int ((n + 1 : Nat) : Int))), none] _
    refine xs_set 4 nd (ix0 (xe_castD (xv 0) e)) ?_
    refine xs_ifF (xt_cast (xt_eqI fx.u (xv 3) xe_int) (decide_eq_false (by omega))) (ws_nil ?_)
    refine no_w fx.u (xv 4) ?_
    refine no_w fx.u (xv 4) ?_
    refine no_w fx.u (xv 4) ?_
    refine no_w fx.u (xv 4) ?_
    refine no_w fx.u (xv 4) ?_
    refine no_w fx.u (xv 4) ?_
    refine is_w fx.u (xv 4) ?_
    by_cases hs : wdK l = "opt"
    · obtain ⟨k, rfl⟩ := wd_opt hs ⟨_, fl.rt⟩
      have e3 := kD_opt k
      exact xs_ret (xe_castD (xe_and3B (k := true) (xe_castD (xt_eqStrE fx.u (ix0 (xe_castD (xv 1) e3)) xe_str) (congrArg PyData.bool (decide_eq_true rfl))) (fun _ => (fun Ψ' hq' => we_fnP gV r6 fx.gd (wa_d (xv 2) (wa_d (ix2 (xe_castD (xv 0) e)) wa_n)) ⟨r, d, rfl, fr.rt5, hd, hq'⟩)) fun _ _ => (fun Ψ' hq' => we_fnP gF r8 fx.gd (wa_d (ix1 (xe_castD (xv 0) e)) (wa_d (ix1 (xe_castD (xv 1) e3)) (wa_d (xv 2) (wa_d (xe_cast (j := (n : Nat)) (xe_sub (xv 3) xe_int) dn) wa_n)))) ⟨w, k, r, rfl, ⟨⟨_, hw⟩, fl.opt, fr⟩, hq'⟩)) (by rw [Bool.true_and]; rfl)) ⟨_, .da (.da (.da (.da (.nil)))), hq⟩
    · rw [fits_must_no hs] at hq
      exact xs_ret (xe_castD (xe_and3B (k := false) (k2 := false) (k3 := false) (xe_castD (xt_eqStrE fx.u (ix0 (xe_castD (xv 1) d1)) xe_str) (congrArg PyData.bool (decide_eq_false hs))) (fun he => by cases he) fun he => by cases he) rfl) ⟨_, .da (.da (.da (.da (.nil)))), hq⟩
  | @opt _ w hw =>
    have e := owD_opt w
    show WSs _ _ [some (.da (owD _)), some (.da (kD l)), some (.da (kD r)), some (.da (.int ((n + 1 : Nat) : Int))), none] _
    refine xs_set 4 nd (ix0 (xe_castD (xv 0) e)) ?_
    refine xs_ifF (xt_cast (xt_eqI fx.u (xv 3) xe_int) (decide_eq_false (by omega))) (ws_nil ?_)
    refine no_w fx.u (xv 4) ?_
    refine no_w fx.u (xv 4) ?_
    refine no_w fx.u (xv 4) ?_
    refine no_w fx.u (xv 4) ?_
    refine no_w fx.u (xv 4) ?_
    refine no_w fx.u (xv 4) ?_
    refine no_w fx.u (xv 4) ?_
    refine is_w fx.u (xv 4) ?_
    by_cases hs : wdK l = "opt"
    rotate_left
    · rw [fits_opt_no (.inl hs)] at hq
      exact xs_ret (xe_castD (xe_and3B (k := false) (k2 := false) (k3 := false) (xe_castD (xt_eqStrE fx.u (ix0 (xe_castD (xv 1) d1)) xe_str) (congrArg PyData.bool (decide_eq_false hs))) (fun he => by cases he) fun he => by cases he) rfl) ⟨_, .da (.da (.da (.da (.nil)))), hq⟩
    by_cases hs2 : wdK r = "opt"
    rotate_left
    · rw [fits_opt_no (.inr hs2)] at hq
      exact xs_ret (xe_castD (xe_and3B (k := true) (k2 := false) (k3 := false) (xe_castD (xt_eqStrE fx.u (ix0 (xe_castD (xv 1) d1)) xe_str) (congrArg PyData.bool (decide_eq_true hs))) (fun _ => xe_castD (xt_eqStrE fx.u (ix0 (xe_castD (xv 2) d2)) xe_str) (congrArg PyData.bool (decide_eq_false hs2))) fun _ he => by cases he) rfl) ⟨_, .da (.da (.da (.da (.nil)))), hq⟩
    obtain ⟨k, rfl⟩ := wd_opt hs ⟨_, fl.rt⟩
    obtain ⟨k', rfl⟩ := wd_opt hs2 ⟨_, fr.rt⟩
    have e3 := kD_opt k
    have e4 := kD_opt k'
    exact xs_ret (xe_castD (xe_and3B (k := true) (k2 := true) (xe_castD (xt_eqStrE fx.u (ix0 (xe_castD (xv 1) e3)) xe_str) (congrArg PyData.bool (decide_eq_true rfl))) (fun _ => xe_castD (xt_eqStrE fx.u (ix0 (xe_castD (xv 2) e4)) xe_str) (congrArg PyData.bool (decide_eq_true rfl))) fun _ _ => (fun Ψ' hq' => we_fnP gF r8 fx.gd (wa_d (ix1 (xe_castD (xv 0) e)) (wa_d (ix1 (xe_castD (xv 1) e3)) (wa_d (ix1 (xe_castD (xv 2) e4)) (wa_d (xe_cast (j := (n : Nat)) (xe_sub (xv 3) xe_int) dn) wa_n)))) ⟨w, k, k', rfl, ⟨⟨_, hw⟩, fl.opt, fr.opt⟩, hq'⟩)) (by rw [Bool.true_and, Bool.true_and]; rfl)) ⟨_, .da (.da (.da (.da (.nil)))), hq⟩
  | @each _ w hw =>
    have e := owD_each w
    show WSs _ _ [some (.da (owD _)), some (.da (kD l)), some (.da (kD r)), some (.da (.int ((n + 1 : Nat) : Int))), none] _
    refine xs_set 4 nd (ix0 (xe_castD (xv 0) e)) ?_
    refine xs_ifF (xt_cast (xt_eqI fx.u (xv 3) xe_int) (decide_eq_false (by omega))) (ws_nil ?_)
    refine no_w fx.u (xv 4) ?_
    refine no_w fx.u (xv 4) ?_
    refine no_w fx.u (xv 4) ?_
    refine no_w fx.u (xv 4) ?_
    refine no_w fx.u (xv 4) ?_
    refine no_w fx.u (xv 4) ?_
    refine no_w fx.u (xv 4) ?_
    refine no_w fx.u (xv 4) ?_
    refine is_w fx.u (xv 4) ?_
    by_cases hs : wdK l = "row"
    rotate_left
    · rw [fits_each_no (.inl hs)] at hq
      exact xs_ret (xe_castD (xe_and3B (k := false) (k2 := false) (k3 := false) (xe_castD (xt_eqStrE fx.u (ix0 (xe_castD (xv 1) d1)) xe_str) (congrArg PyData.bool (decide_eq_false hs))) (fun he => by cases he) fun he => by cases he) rfl) ⟨_, .da (.da (.da (.da (.nil)))), hq⟩
    by_cases hs2 : wdK r = "row"
    rotate_left
    · rw [fits_each_no (.inr hs2)] at hq
      exact xs_ret (xe_castD (xe_and3B (k := true) (k2 := false) (k3 := false) (xe_castD (xt_eqStrE fx.u (ix0 (xe_castD (xv 1) d1)) xe_str) (congrArg PyData.bool (decide_eq_true hs))) (fun _ => xe_castD (xt_eqStrE fx.u (ix0 (xe_castD (xv 2) d2)) xe_str) (congrArg PyData.bool (decide_eq_false hs2))) fun _ he => by cases he) rfl) ⟨_, .da (.da (.da (.da (.nil)))), hq⟩
    obtain ⟨k, m2, rfl⟩ := wd_row hs ⟨_, fl.rt⟩
    obtain ⟨k', m3, rfl⟩ := wd_row hs2 ⟨_, fr.rt⟩
    have e3 := kD_row k m2
    have e4 := kD_row k' m3
    exact xs_ret (xe_castD (xe_and3B (k := true) (k2 := true) (xe_castD (xt_eqStrE fx.u (ix0 (xe_castD (xv 1) e3)) xe_str) (congrArg PyData.bool (decide_eq_true rfl))) (fun _ => xe_castD (xt_eqStrE fx.u (ix0 (xe_castD (xv 2) e4)) xe_str) (congrArg PyData.bool (decide_eq_true rfl))) fun _ _ => (fun Ψ' hq' => we_fnP gF r8 fx.gd (wa_d (ix1 (xe_castD (xv 0) e)) (wa_d (ix1 (xe_castD (xv 1) e3)) (wa_d (ix1 (xe_castD (xv 2) e4)) (wa_d (xe_cast (j := (n : Nat)) (xe_sub (xv 3) xe_int) dn) wa_n)))) ⟨w, k, k', rfl, ⟨⟨_, hw⟩, fl.row, fr.row⟩, hq'⟩)) (by rw [Bool.true_and, Bool.true_and]; rfl)) ⟨_, .da (.da (.da (.da (.nil)))), hq⟩
  | @arms _ ts hw lt =>
    have e := owD_arms ts
    show WSs _ _ [some (.da (owD _)), some (.da (kD l)), some (.da (kD r)), some (.da (.int ((n + 1 : Nat) : Int))), none] _
    refine xs_set 4 nd (ix0 (xe_castD (xv 0) e)) ?_
    refine xs_ifF (xt_cast (xt_eqI fx.u (xv 3) xe_int) (decide_eq_false (by omega))) (ws_nil ?_)
    refine no_w fx.u (xv 4) ?_
    refine no_w fx.u (xv 4) ?_
    refine no_w fx.u (xv 4) ?_
    refine no_w fx.u (xv 4) ?_
    refine no_w fx.u (xv 4) ?_
    refine no_w fx.u (xv 4) ?_
    refine no_w fx.u (xv 4) ?_
    refine no_w fx.u (xv 4) ?_
    refine no_w fx.u (xv 4) ?_
    refine is_w fx.u (xv 4) ?_
    by_cases hs : wdK l = "one"
    rotate_left
    · rw [fits_arms_no (.inl hs)] at hq
      exact xs_ret (xe_castD (xe_and3B (k := false) (k2 := false) (k3 := false) (xe_castD (xt_eqStrE fx.u (ix0 (xe_castD (xv 1) d1)) xe_str) (congrArg PyData.bool (decide_eq_false hs))) (fun he => by cases he) fun he => by cases he) rfl) ⟨_, .da (.da (.da (.da (.nil)))), hq⟩
    by_cases hs2 : wdK r = "one"
    rotate_left
    · rw [fits_arms_no (.inr hs2)] at hq
      exact xs_ret (xe_castD (xe_and3B (k := true) (k2 := false) (k3 := false) (xe_castD (xt_eqStrE fx.u (ix0 (xe_castD (xv 1) d1)) xe_str) (congrArg PyData.bool (decide_eq_true hs))) (fun _ => xe_castD (xt_eqStrE fx.u (ix0 (xe_castD (xv 2) d2)) xe_str) (congrArg PyData.bool (decide_eq_false hs2))) fun _ he => by cases he) rfl) ⟨_, .da (.da (.da (.da (.nil)))), hq⟩
    obtain ⟨xs, rfl⟩ := wd_one hs ⟨_, fl.rt⟩
    obtain ⟨ys, rfl⟩ := wd_one hs2 ⟨_, fr.rt⟩
    have e3 := kD_one xs
    have e4 := kD_one ys
    exact xs_ret (xe_castD (xe_and3B (k := true) (k2 := true) (xe_castD (xt_eqStrE fx.u (ix0 (xe_castD (xv 1) e3)) xe_str) (congrArg PyData.bool (decide_eq_true rfl))) (fun _ => xe_castD (xt_eqStrE fx.u (ix0 (xe_castD (xv 2) e4)) xe_str) (congrArg PyData.bool (decide_eq_true rfl))) fun _ _ => (fun Ψ' hq' => we_fnP gA fx.room fx.gd (wa_d (ix1 (xe_castD (xv 0) e)) (wa_d (ix1 (xe_castD (xv 1) e3)) (wa_d (ix1 (xe_castD (xv 2) e4)) (wa_d (xe_cast (j := (n : Nat)) (xe_sub (xv 3) xe_int) dn) wa_n)))) ⟨ts, xs, ys, rfl, q0, hq'⟩)) (by rw [Bool.true_and, Bool.true_and]; rfl)) ⟨_, .da (.da (.da (.da (.nil)))), hq⟩
  | @parts _ ts hw lt =>
    have e := owD_parts ts
    show WSs _ _ [some (.da (owD _)), some (.da (kD l)), some (.da (kD r)), some (.da (.int ((n + 1 : Nat) : Int))), none] _
    refine xs_set 4 nd (ix0 (xe_castD (xv 0) e)) ?_
    refine xs_ifF (xt_cast (xt_eqI fx.u (xv 3) xe_int) (decide_eq_false (by omega))) (ws_nil ?_)
    refine no_w fx.u (xv 4) ?_
    refine no_w fx.u (xv 4) ?_
    refine no_w fx.u (xv 4) ?_
    refine no_w fx.u (xv 4) ?_
    refine no_w fx.u (xv 4) ?_
    refine no_w fx.u (xv 4) ?_
    refine no_w fx.u (xv 4) ?_
    refine no_w fx.u (xv 4) ?_
    refine no_w fx.u (xv 4) ?_
    refine no_w fx.u (xv 4) ?_
    refine is_w fx.u (xv 4) ?_
    by_cases hs : wdK l = "rec"
    rotate_left
    · rw [fits_parts_no (.inl hs)] at hq
      exact xs_ret (xe_castD (xe_and3B (k := false) (k2 := false) (k3 := false) (xe_castD (xt_eqStrE fx.u (ix0 (xe_castD (xv 1) d1)) xe_str) (congrArg PyData.bool (decide_eq_false hs))) (fun he => by cases he) fun he => by cases he) rfl) ⟨_, .da (.da (.da (.da (.nil)))), hq⟩
    by_cases hs2 : wdK r = "rec"
    rotate_left
    · rw [fits_parts_no (.inr hs2)] at hq
      exact xs_ret (xe_castD (xe_and3B (k := true) (k2 := false) (k3 := false) (xe_castD (xt_eqStrE fx.u (ix0 (xe_castD (xv 1) d1)) xe_str) (congrArg PyData.bool (decide_eq_true hs))) (fun _ => xe_castD (xt_eqStrE fx.u (ix0 (xe_castD (xv 2) d2)) xe_str) (congrArg PyData.bool (decide_eq_false hs2))) fun _ he => by cases he) rfl) ⟨_, .da (.da (.da (.da (.nil)))), hq⟩
    obtain ⟨ps, rfl⟩ := wd_rec hs ⟨_, fl.rt⟩
    obtain ⟨qs, rfl⟩ := wd_rec hs2 ⟨_, fr.rt⟩
    have e3 := kD_rec ps
    have e4 := kD_rec qs
    exact xs_ret (xe_castD (xe_and3B (k := true) (k2 := true) (xe_castD (xt_eqStrE fx.u (ix0 (xe_castD (xv 1) e3)) xe_str) (congrArg PyData.bool (decide_eq_true rfl))) (fun _ => xe_castD (xt_eqStrE fx.u (ix0 (xe_castD (xv 2) e4)) xe_str) (congrArg PyData.bool (decide_eq_true rfl))) fun _ _ => (fun Ψ' hq' => we_fnP gP fx.room fx.gd (wa_d (ix1 (xe_castD (xv 0) e)) (wa_d (xv 1) (wa_d (xv 2) (wa_d (xe_cast (j := (n : Nat)) (xe_sub (xv 3) xe_int) dn) wa_n)))) ⟨ts, ps, qs, rfl, q0, hq'⟩)) (by rw [Bool.true_and, Bool.true_and]; rfl)) ⟨_, .da (.da (.da (.da (.nil)))), hq⟩
theorem r_lfw (D : DK K "_law_own_fits" s_l_own_fits) (D1 : DK K "_law_fits_arms" s_l_fits_arms) (D2 : DK K "_law_fits_parts" s_l_fits_parts) (gV : Def P w K mg bs 6 "_law_own_is_value" ["kind", "value"] (spOIsG 5)) (gS : Def P w K mg bs 5 "_law_own_size" ["kind"] (spOSize 4)) (gT : Def P w K mg bs 7 "_law_fits_table" ["forth", "back", "left", "right"] spLFTab) (gPo : Def P w K mg bs 1 "_law_part_of" ["kind", "place"] spPartK) : ∀ n : Nat, Def P w K mg bs (2 * n + 8) "_law_own_fits" ["way", "left", "right", "deep"] (spLFw n)
  | 0 => by
    show Def P w K mg bs (7 + 1) _ _ _
    refine def_ok X G D sc_l_own_fits (fun f fd F => F.binds (ps := ["way", "left", "right", "deep"]) fun _ _ _ _ _ _ us hl => match us, hl with | [_, _, _, _], _ => rfl) (fun as Ψ h => by obtain ⟨_, _, _, rfl, _⟩ := h; rfl) fun f cdv A fr s H E fx as Ψ vs hsp hl => ?_
    obtain ⟨w, l, r, rfl, q, hq⟩ := hsp
    obtain ⟨v0, v1, v2, v3, rfl⟩ := ar4 hl
    have nd := fx.nd
    obtain ⟨s, ds, e⟩ : ∃ s ds, owD w = .tuple (.str s :: ds) := by cases w <;> exact ⟨_, _, by rw [owD]⟩
    show WSs _ _ [some (.da (owD w)), some (.da (kD l)), some (.da (kD r)), some (.da (.int ((0 : Nat) : Int))), none] _
    refine xs_set 4 nd (ix0 (xe_castD (xv 0) e)) ?_
    refine xs_ifT (xt_cast (xt_eqI fx.u (xv 3) xe_int) (by decide +kernel)) ?_
    exact xs_ret xe_bl ⟨_, .da (.da (.da (.da (.nil)))), hq⟩
  | n + 1 => by
    have g := r_lfw D D1 D2 gV gS gT gPo n
    exact d_lfw X G B D gV gS gT g (d_lfarms X G B D1 g) (d_lfparts X G B D2 g gPo)
end
end Law
/-! WXe: the nodes of a way, and a way put in the place of one. -/
namespace Law
open PySem PySem.Spec PyProof.Rows L2 TL
mutual
def nodesO : Ow → List Ow
  | .bare s ds => [.bare s ds]
  | .table f g => [.table f g]
  | .apart d e => [.apart d e]
  | .some_ w d => .some_ w d :: nodesO w
  | .must w d => .must w d :: nodesO w
  | .opt w => .opt w :: nodesO w
  | .each w => .each w :: nodesO w
  | .arms ts => .arms ts :: nodesA ts
  | .parts ts => .parts ts :: nodesQ ts
def nodesA : List (Str × Str × Ow) → List Ow
  | [] => []
  | (_, _, w) :: ts => nodesO w ++ nodesA ts
def nodesQ : List (Option Int × Option Int × Ow) → List Ow
  | [] => []
  | (_, _, w) :: ts => nodesO w ++ nodesQ ts
end
def kidsO : Ow → List Ow
  | .some_ w _ => [w]
  | .must w _ => [w]
  | .opt w => [w]
  | .each w => [w]
  | .arms ts => ts.map (·.2.2)
  | .parts ts => ts.map (·.2.2)
  | _ => []
def cnt (w : Ow) : Nat := (nodesO w).length
theorem nodesA_map : ∀ ts, nodesA ts = (ts.map (·.2.2)).flatMap nodesO
  | [] => by rw [nodesA]; rfl
  | (a, b, w) :: ts => by rw [nodesA, nodesA_map ts]; rfl
theorem nodesQ_map : ∀ ts, nodesQ ts = (ts.map (·.2.2)).flatMap nodesO
  | [] => by rw [nodesQ]; rfl
  | (a, b, w) :: ts => by rw [nodesQ, nodesQ_map ts]; rfl
theorem nodes_kids (w : Ow) : nodesO w = w :: (kidsO w).flatMap nodesO := by
  cases w with
  | arms ts => rw [nodesO, nodesA_map]; rfl
  | parts ts => rw [nodesO, nodesQ_map]; rfl
  | _ => rw [nodesO]; simp [kidsO]
theorem cnt_pos (w : Ow) : 0 < cnt w := by rw [cnt, nodes_kids]; simp
theorem cnt_kid {w k : Ow} (h : k ∈ kidsO w) : cnt k ≤ cnt w := by
  obtain ⟨a, b, e⟩ := List.append_of_mem h
  rw [cnt, cnt, nodes_kids w, e, List.length_cons, List.flatMap_append, List.flatMap_cons, List.length_append, List.length_append]
  omega
theorem kids_ok {v n : Nat} {w : Ow} (h : OkO v (n + 1) w) : ∀ k ∈ kidsO w, OkO v n k := by
  cases h with
  | bare => intro k hk; cases hk
  | table => intro k hk; cases hk
  | apart => intro k hk; cases hk
  | some_ a _ => intro k hk; rw [List.mem_singleton.mp hk]; exact a
  | must a _ => intro k hk; rw [List.mem_singleton.mp hk]; exact a
  | opt a => intro k hk; rw [List.mem_singleton.mp hk]; exact a
  | each a => intro k hk; rw [List.mem_singleton.mp hk]; exact a
  | arms a _ => intro k hk; obtain ⟨t, ht, rfl⟩ := List.mem_map.mp hk; exact a t ht
  | parts a _ => intro k hk; obtain ⟨t, ht, rfl⟩ := List.mem_map.mp hk; exact a t ht
theorem kids_len {v n : Nat} {w : Ow} (h : OkO v n w) (hv : v ≤ 60) : (kidsO w).length ≤ 200 := by
  cases h with
  | arms _ b => show (List.map _ _).length ≤ 200; rw [List.length_map]; omega
  | parts _ b => show (List.map _ _).length ≤ 200; rw [List.length_map]; omega
  | _ => first | exact Nat.zero_le _ | (show 1 ≤ 200; decide)
theorem flat_at {ws : List Ow} : ∀ {i q : Nat} {k x : Ow}, ws[i]? = some k → (nodesO k)[q]? = some x → (ws.flatMap nodesO)[((ws.take i).flatMap nodesO).length + q]? = some x := by
  induction ws with
  | nil => intro i q k x h; simp at h
  | cons u us ih =>
    intro i q k x h hq
    cases i with
    | zero =>
      have h : u = k := by simpa using h
      subst h
      rw [List.take_zero, List.flatMap_nil, List.flatMap_cons]
      rw [show ([] : List Ow).length + q = q from Nat.zero_add q, List.getElem?_append_left (List.getElem?_eq_some_iff.mp hq).1]
      exact hq
    | succ i =>
      rw [List.take_succ_cons, List.flatMap_cons, List.flatMap_cons, List.length_append, Nat.add_assoc, List.getElem?_append_right (Nat.le_add_right _ _), Nat.add_sub_cancel_left]
      exact ih (by simpa using h) hq
theorem sum_step {ws : List Ow} {i : Nat} {k : Ow} (h : ws[i]? = some k) : ((ws.take (i + 1)).flatMap nodesO).length = ((ws.take i).flatMap nodesO).length + cnt k := by
  rw [List.take_add_one, h, List.flatMap_append, List.length_append]
  simp [cnt]
theorem sum_snoc {ws : List Ow} {k : Ow} : ((ws ++ [k]).flatMap nodesO).length = (ws.flatMap nodesO).length + cnt k := by
  rw [List.flatMap_append, List.length_append]
  simp [cnt]
theorem in4 (s a b c d : Str) : ([PyData.str a, .str b, .str c, .str d].any fun z => PyData.eqv z (.str s)) = decide (s ∈ [a, b, c, d]) := any_str s [a, b, c, d]
def spKids : SpD := fun as Ψ => ∃ (v n : Nat) (w : Ow), as = [.da (owD w)] ∧ OkO v n w ∧ v ≤ 60 ∧ Ψ (.ll ((kidsO w).map owD)) as
def spNodes (n : Nat) : SpD := fun as Ψ => ∃ (v : Nat) (w : Ow), as = [.da (owD w)] ∧ OkO v n w ∧ v ≤ 60 ∧ cnt w ≤ 2 ^ 23 ∧ Ψ (.ll ((nodesO w).map owD)) as
/-- a thing that may stand where the node stood -/
def Fits (v v' : Nat) (w : Ow) (p : Nat) (fr : Ow) : Prop := ∀ (m : Nat) (x : Ow), (nodesO w)[p]? = some x → OkO v m x → OkO v' (m + 1) fr
def spPut (n : Nat) : SpD := fun as Ψ => ∃ (v v' p : Nat) (w fr : Ow), as = [.da (owD w), .da (.int (p : Nat)), .da (owD fr)] ∧ OkO v n w ∧ v ≤ v' ∧ v' ≤ 60 ∧ p < cnt w ∧ cnt w ≤ 2 ^ 23 ∧ Fits v v' w p fr ∧ ∀ w', OkO v' (n + 1) w' → cnt w' ≤ cnt w + cnt fr → Ψ (.da (owD w')) as
section
variable {P : Program} {w : World} {K : PySem.W.Frag} {mg : Str → Option Value} {bs h : Heap} (X : K.In h) (G : h.Ns mainGlobals mg) (B : Blt mg)
include X G B
theorem d_kids (D : DK K "_law_kids" s_l_kids) : Def P w K mg bs 1 "_law_kids" ["way"] spKids := by
  refine def_ok X G D sc_l_kids (fun f fd F => F.binds (ps := ["way"]) fun _ _ _ _ _ _ us hl => match us, hl with | [_], _ => rfl) (fun as Ψ h => by obtain ⟨_, _, _, rfl, _⟩ := h; rfl) fun f cdv A fr s H E fx as Ψ vs hsp hl => ?_
  obtain ⟨v, n, w, rfl, okw, hv, hq⟩ := hsp
  obtain ⟨v0, rfl⟩ := ar1 hl
  have nd := fx.nd
  cases okw with
  | @bare _ s ds h1 h2 =>
    have e := owD_bare s ds
    show WSs _ _ [some (.da (owD _)), none] _
    refine xs_ifF (xt_cast (xt_inV fx.u70 (ix0 (xe_castD (xv 0) e)) (xe_tup4 xe_str xe_str xe_str xe_str) rfl rfl (by simp [PyData.depth])) (show ([PyData.str "some", .str "must", .str "opt", .str "each"].any fun z => PyData.eqv z (.str s)) = false by rw [in4, decide_eq_false (fun h => h1 (by simp at h ⊢; rcases h with h | h | h | h <;> simp [h]))])) (ws_nil ?_)
    refine xs_ifF (xt_cast (xt_inV fx.u70 (ix0 (xe_castD (xv 0) e)) (xe_tup2 xe_str xe_str) rfl rfl (by simp [PyData.depth])) (show ([PyData.str "arms", .str "parts"].any fun z => PyData.eqv z (.str s)) = false by rw [in2, decide_eq_false (fun h => h1 (by simp at h ⊢; rcases h with h | h <;> simp [h]))])) (ws_nil ?_)
    exact xs_ret xe_lst0 ⟨_, .da (.nil), hq⟩
  | @table _ f g h1 h2 h3 h4 =>
    have e := owD_table f g
    show WSs _ _ [some (.da (owD _)), none] _
    refine xs_ifF (xt_cast (xt_inV fx.u70 (ix0 (xe_castD (xv 0) e)) (xe_tup4 xe_str xe_str xe_str xe_str) rfl rfl (by decide +kernel)) (show _ = false by decide +kernel)) (ws_nil ?_)
    refine xs_ifF (xt_cast (xt_inV fx.u70 (ix0 (xe_castD (xv 0) e)) (xe_tup2 xe_str xe_str) rfl rfl (by decide +kernel)) (show _ = false by decide +kernel)) (ws_nil ?_)
    exact xs_ret xe_lst0 ⟨_, .da (.nil), hq⟩
  | @apart _ d e2 h1 h2 =>
    have e := owD_apart d e2
    show WSs _ _ [some (.da (owD _)), none] _
    refine xs_ifF (xt_cast (xt_inV fx.u70 (ix0 (xe_castD (xv 0) e)) (xe_tup4 xe_str xe_str xe_str xe_str) rfl rfl (by decide +kernel)) (show _ = false by decide +kernel)) (ws_nil ?_)
    refine xs_ifF (xt_cast (xt_inV fx.u70 (ix0 (xe_castD (xv 0) e)) (xe_tup2 xe_str xe_str) rfl rfl (by decide +kernel)) (show _ = false by decide +kernel)) (ws_nil ?_)
    exact xs_ret xe_lst0 ⟨_, .da (.nil), hq⟩
  | @some_ _ w d h1 h2 =>
    have e := owD_some w d
    show WSs _ _ [some (.da (owD _)), none] _
    refine xs_ifT (xt_cast (xt_inV fx.u70 (ix0 (xe_castD (xv 0) e)) (xe_tup4 xe_str xe_str xe_str xe_str) rfl rfl (by decide +kernel)) (show _ = true by decide +kernel)) ?_
    exact xs_ret (fun _ hq' => we_lst (wa_cons ((ix1 (xe_castD (xv 0) e)) _ (wa_nil ⟨[owD w], rfl, (by show 1 ≤ sizeLine; decide), hq'⟩)))) ⟨_, .da (.nil), hq⟩
  | @must _ w d h1 h2 =>
    have e := owD_must w d
    show WSs _ _ [some (.da (owD _)), none] _
    refine xs_ifT (xt_cast (xt_inV fx.u70 (ix0 (xe_castD (xv 0) e)) (xe_tup4 xe_str xe_str xe_str xe_str) rfl rfl (by decide +kernel)) (show _ = true by decide +kernel)) ?_
    exact xs_ret (fun _ hq' => we_lst (wa_cons ((ix1 (xe_castD (xv 0) e)) _ (wa_nil ⟨[owD w], rfl, (by show 1 ≤ sizeLine; decide), hq'⟩)))) ⟨_, .da (.nil), hq⟩
  | @opt _ w h1 =>
    have e := owD_opt w
    show WSs _ _ [some (.da (owD _)), none] _
    refine xs_ifT (xt_cast (xt_inV fx.u70 (ix0 (xe_castD (xv 0) e)) (xe_tup4 xe_str xe_str xe_str xe_str) rfl rfl (by decide +kernel)) (show _ = true by decide +kernel)) ?_
    exact xs_ret (fun _ hq' => we_lst (wa_cons ((ix1 (xe_castD (xv 0) e)) _ (wa_nil ⟨[owD w], rfl, (by show 1 ≤ sizeLine; decide), hq'⟩)))) ⟨_, .da (.nil), hq⟩
  | @each _ w h1 =>
    have e := owD_each w
    show WSs _ _ [some (.da (owD _)), none] _
    refine xs_ifT (xt_cast (xt_inV fx.u70 (ix0 (xe_castD (xv 0) e)) (xe_tup4 xe_str xe_str xe_str xe_str) rfl rfl (by decide +kernel)) (show _ = true by decide +kernel)) ?_
    exact xs_ret (fun _ hq' => we_lst (wa_cons ((ix1 (xe_castD (xv 0) e)) _ (wa_nil ⟨[owD w], rfl, (by show 1 ≤ sizeLine; decide), hq'⟩)))) ⟨_, .da (.nil), hq⟩
  | @arms _ ts h1 h2 =>
    have e := owD_arms ts
    show WSs _ _ [some (.da (owD _)), none] _
    refine xs_ifF (xt_cast (xt_inV fx.u70 (ix0 (xe_castD (xv 0) e)) (xe_tup4 xe_str xe_str xe_str xe_str) rfl rfl (by decide +kernel)) (show _ = false by decide +kernel)) (ws_nil ?_)
    refine xs_ifT (xt_cast (xt_inV fx.u70 (ix0 (xe_castD (xv 0) e)) (xe_tup2 xe_str xe_str) rfl rfl (by decide +kernel)) (show _ = true by decide +kernel)) ?_
    have hq : Ψ (.ll ((ts.map (·.2.2)).map owD)) _ := hq
    rw [List.map_map] at hq
    exact xs_ret (xe_lcM [("trio", 1)] (fun (t : Str × Str × Ow) Γ => Γ.set 1 (some (.da (orA t)))) ts orA (fun t => owD t.2.2) fx (R := fun t => .da (owD t.2.2)) (xi_tup (ix1 (xe_castD (xv 0) e))) (few4 (by omega)) (fun t ht s H C cl fp => gc_name 1 nd rfl) fun t ht s H C cl fp => ix2 (xv 1)) ⟨_, .da (.nil), hq⟩
  | @parts _ ts h1 h2 =>
    have e := owD_parts ts
    show WSs _ _ [some (.da (owD _)), none] _
    refine xs_ifF (xt_cast (xt_inV fx.u70 (ix0 (xe_castD (xv 0) e)) (xe_tup4 xe_str xe_str xe_str xe_str) rfl rfl (by decide +kernel)) (show _ = false by decide +kernel)) (ws_nil ?_)
    refine xs_ifT (xt_cast (xt_inV fx.u70 (ix0 (xe_castD (xv 0) e)) (xe_tup2 xe_str xe_str) rfl rfl (by decide +kernel)) (show _ = true by decide +kernel)) ?_
    have hq : Ψ (.ll ((ts.map (·.2.2)).map owD)) _ := hq
    rw [List.map_map] at hq
    exact xs_ret (xe_lcM [("trio", 1)] (fun (t : Option Int × Option Int × Ow) Γ => Γ.set 1 (some (.da (orQ t)))) ts orQ (fun t => owD t.2.2) fx (R := fun t => .da (owD t.2.2)) (xi_tup (ix1 (xe_castD (xv 0) e))) (few4 (by omega)) (fun t ht s H C cl fp => gc_name 1 nd rfl) fun t ht s H C cl fp => ix2 (xv 1)) ⟨_, .da (.nil), hq⟩
theorem d_nodes (D : DK K "_law_own_nodes" s_l_own_nodes) (gKi : Def P w K mg bs 1 "_law_kids" ["way"] spKids) : ∀ n : Nat, Def P w K mg bs (n + 2) "_law_own_nodes" ["way"] (spNodes n)
  | 0 => by
    refine def_ok X G D sc_l_own_nodes (fun f fd F => F.binds (ps := ["way"]) fun _ _ _ _ _ _ us hl => match us, hl with | [_], _ => rfl) (fun as Ψ h => by obtain ⟨_, _, rfl, _⟩ := h; rfl) fun f cdv A fr s H E fx as Ψ vs hsp hl => ?_
    obtain ⟨v, w, rfl, okw, hv, hc, hq⟩ := hsp
    cases okw
  | n + 1 => by
    have gN := d_nodes D gKi n
    refine def_ok X G D sc_l_own_nodes (fun f fd F => F.binds (ps := ["way"]) fun _ _ _ _ _ _ us hl => match us, hl with | [_], _ => rfl) (fun as Ψ h => by obtain ⟨_, _, rfl, _⟩ := h; rfl) fun f cdv A fr s H E fx as Ψ vs hsp hl => ?_
    obtain ⟨v, w, rfl, okw, hv, hc, hq⟩ := hsp
    obtain ⟨v0, rfl⟩ := ar1 hl
    have nd := fx.nd
    have r1 := fx.room.mono (show 1 ≤ n + 2 by omega)
    have hk := kids_ok okw
    have hl := kids_len okw hv
    show WSs _ _ [some (.da (owD w)), none, none] _
    refine xs_set 1 nd (fun _ hq' => we_lst (wa_cons ((xv 0) _ (wa_nil ⟨[owD w], rfl, (by show 1 ≤ sizeLine; decide), hq'⟩)))) ?_
    refine ws_forT fx (kidsO w) owD (fun acc : List Ow => [some (.da (owD w)), some (.ll (acc.map owD)), none]) (fun i acc => acc = w :: ((kidsO w).take i).flatMap nodesO) [w] (xi_lst (xe_frz (fun Ψ' hq' => we_fnP gKi r1 fx.gd (wa_d (xv 0) wa_n) ⟨v, _, w, rfl, okw, hv, hq'⟩))) rfl rfl ?_ ?_
    · rintro i k acc hx ea
      have hkm := List.mem_of_getElem? hx
      have ck := cnt_kid hkm
      refine wg_name 2 nd ?_
      show WSs _ _ [some (.da (owD w)), some (.ll (acc.map owD)), some (.da (owD k))] _
      have la : acc.length + cnt k ≤ cnt w := by
        have s1 := sum_step hx
        have s2 : (((kidsO w).take (i + 1)).flatMap nodesO).length ≤ ((kidsO w).flatMap nodesO).length := by
          have : (kidsO w).flatMap nodesO = ((kidsO w).take (i + 1)).flatMap nodesO ++ ((kidsO w).drop (i + 1)).flatMap nodesO := by rw [← List.flatMap_append, List.take_append_drop]
          rw [this, List.length_append]
          omega
        have s3 : cnt w = ((kidsO w).flatMap nodesO).length + 1 := by rw [cnt, nodes_kids]; rfl
        rw [ea, List.length_cons]
        omega
      refine ws_expr (we_extend 1 (we_fnP gN fx.room fx.gd (wa_d (xv 2) wa_n) ⟨v, k, rfl, hk k hkm, hv, Nat.le_trans ck hc, _, _, _, _, rfl, rfl, .ll, by rw [List.length_map, List.length_map]; exact Nat.le_trans (show acc.length + (nodesO k).length ≤ 2 ^ 23 from Nat.le_trans la hc) (by decide), ?_⟩))
      refine ws_drop 2 (ws_nil ⟨acc ++ nodesO k, ?_, by rw [List.map_append]; rfl⟩)
      rw [ea, List.take_add_one, hx, List.flatMap_append]
      simp
    · rintro acc ea
      rw [List.take_length, ← nodes_kids] at ea
      rw [← ea] at hq
      exact xs_ret (xe_move 1) ⟨_, .da .nil, hq⟩
theorem d_put1 (D : DK K "_law_put" s_l_put) {n : Nat} (gN : Def P w K mg bs (n + 2) "_law_own_nodes" ["way"] (spNodes n)) (gP : Def P w K mg bs (n + 3) "_law_put" ["way", "place", "fresh"] (spPut n)) : Def P w K mg bs (n + 1 + 3) "_law_put" ["way", "place", "fresh"] (spPut (n + 1)) := by
  refine def_ok X G D sc_l_put (fun f fd F => F.binds (ps := ["way", "place", "fresh"]) fun _ _ _ _ _ _ us hl => match us, hl with | [_, _, _], _ => rfl) (fun as Ψ h => by obtain ⟨_, _, _, _, _, rfl, _⟩ := h; rfl) fun f cdv A fr s H E fx as Ψ vs hsp hl => ?_
  obtain ⟨v, v', p, w, fr, rfl, okw, hvv, hv, hp, hc, hf, hq⟩ := hsp
  obtain ⟨v0, v1, v2, rfl⟩ := ar3 hl
  have nd := fx.nd
  have r2 := fx.room.mono (show n + 2 ≤ n + 3 by omega)
  show WSs _ _ [some (.da (owD w)), some (.da (.int (p : Nat))), some (.da (owD fr)), none, none, none] _
  cases p with
  | zero =>
    refine xs_ifT (xt_cast (xt_eqI fx.u (xv 1) xe_int) (by decide +kernel)) ?_
    exact xs_ret (xv 2) ⟨_, .da (.da (.da .nil)), hq fr (hf _ w (by rw [nodes_kids]; rfl) okw) (by omega)⟩
  | succ p =>
  refine xs_ifF (xt_cast (xt_eqI fx.u (xv 1) xe_int) (decide_eq_false (by omega))) (ws_nil ?_)
  refine xs_set 1 nd (xe_cast (j := (p : Nat)) (xe_sub (xv 1) xe_int) (by omega)) ?_
  have hp2 : p < ((kidsO w).flatMap nodesO).length := by rw [cnt, nodes_kids, List.length_cons] at hp; omega
  have hc2 : cnt w = ((kidsO w).flatMap nodesO).length + 1 := by rw [cnt, nodes_kids]; rfl
  have hf2 : ∀ (m : Nat) (x : Ow), ((kidsO w).flatMap nodesO)[p]? = some x → OkO v m x → OkO v' (m + 1) fr := fun m x h => hf m x (by rw [nodes_kids]; exact h)
  have hk := kids_ok okw
  clear hf hp
  cases okw with
  | @bare _ s ds h1 h2 => exact absurd hp2 (by simp [kidsO])
  | @table _ f g h1 h2 h3 h4 => exact absurd hp2 (by simp [kidsO])
  | @apart _ d e2 h1 h2 => exact absurd hp2 (by simp [kidsO])
  | @some_ _ w d h1 h2 =>
    have e := owD_some w d
    have hp2 : p < cnt w := by simpa [kidsO, cnt] using hp2
    have hc2 : cnt (.some_ w d) = cnt w + 1 := by rw [hc2]; simp [kidsO, cnt]
    show WSs _ _ [some (.da (owD _)), some (.da (.int (p : Nat))), some (.da (owD fr)), none, none, none] _
    refine xs_ifT (xt_cast (xt_inV fx.u70 (ix0 (xe_castD (xv 0) e)) (xe_tup2 xe_str xe_str) rfl rfl (by decide +kernel)) (show _ = true by decide +kernel)) ?_
    refine ws_ret (we_tup (wa_cons ((ix0 (xe_castD (xv 0) e)) _ (wa_cons (we_fnP gP fx.room fx.gd (wa_d (ix1 (xe_castD (xv 0) e)) (wa_d (xv 1) (wa_d (xv 2) wa_n))) ⟨v, v', p, w, fr, rfl, h1, hvv, hv, hp2, by omega, (fun m x h => hf2 m x (by simpa [kidsO] using h)), fun w' o' c' => wa_cons ((ix2 (xe_castD (xv 0) e)) _ (wa_nil ⟨[.str "some", owD w', d], rfl, (by show 3 ≤ sizeLine; decide), ⟨_, .da (.da (.da .nil)), ?_⟩⟩))⟩)))))
    rw [← owD_some w' d]
    exact hq (.some_ w' d) (.some_ o' (h2.mono hvv)) (by rw [show cnt (.some_ w' d) = cnt w' + 1 by rw [cnt, nodesO]; rfl]; omega)
  | @must _ w d h1 h2 =>
    have e := owD_must w d
    have hp2 : p < cnt w := by simpa [kidsO, cnt] using hp2
    have hc2 : cnt (.must w d) = cnt w + 1 := by rw [hc2]; simp [kidsO, cnt]
    show WSs _ _ [some (.da (owD _)), some (.da (.int (p : Nat))), some (.da (owD fr)), none, none, none] _
    refine xs_ifT (xt_cast (xt_inV fx.u70 (ix0 (xe_castD (xv 0) e)) (xe_tup2 xe_str xe_str) rfl rfl (by decide +kernel)) (show _ = true by decide +kernel)) ?_
    refine ws_ret (we_tup (wa_cons ((ix0 (xe_castD (xv 0) e)) _ (wa_cons (we_fnP gP fx.room fx.gd (wa_d (ix1 (xe_castD (xv 0) e)) (wa_d (xv 1) (wa_d (xv 2) wa_n))) ⟨v, v', p, w, fr, rfl, h1, hvv, hv, hp2, by omega, (fun m x h => hf2 m x (by simpa [kidsO] using h)), fun w' o' c' => wa_cons ((ix2 (xe_castD (xv 0) e)) _ (wa_nil ⟨[.str "must", owD w', d], rfl, (by show 3 ≤ sizeLine; decide), ⟨_, .da (.da (.da .nil)), ?_⟩⟩))⟩)))))
    rw [← owD_must w' d]
    exact hq (.must w' d) (.must o' (h2.mono hvv)) (by rw [show cnt (.must w' d) = cnt w' + 1 by rw [cnt, nodesO]; rfl]; omega)
  | @opt _ w h1 =>
    have e := owD_opt w
    have hp2 : p < cnt w := by simpa [kidsO, cnt] using hp2
    have hc2 : cnt (.opt w) = cnt w + 1 := by rw [hc2]; simp [kidsO, cnt]
    show WSs _ _ [some (.da (owD _)), some (.da (.int (p : Nat))), some (.da (owD fr)), none, none, none] _
    refine xs_ifF (xt_cast (xt_inV fx.u70 (ix0 (xe_castD (xv 0) e)) (xe_tup2 xe_str xe_str) rfl rfl (by decide +kernel)) (show _ = false by decide +kernel)) (ws_nil ?_)
    refine xs_ifT (xt_cast (xt_inV fx.u70 (ix0 (xe_castD (xv 0) e)) (xe_tup2 xe_str xe_str) rfl rfl (by decide +kernel)) (show _ = true by decide +kernel)) ?_
    refine ws_ret (we_tup (wa_cons ((ix0 (xe_castD (xv 0) e)) _ (wa_cons (we_fnP gP fx.room fx.gd (wa_d (ix1 (xe_castD (xv 0) e)) (wa_d (xv 1) (wa_d (xv 2) wa_n))) ⟨v, v', p, w, fr, rfl, h1, hvv, hv, hp2, by omega, (fun m x h => hf2 m x (by simpa [kidsO] using h)), fun w' o' c' => wa_nil ⟨[.str "opt", owD w'], rfl, (by show 2 ≤ sizeLine; decide), ⟨_, .da (.da (.da .nil)), ?_⟩⟩⟩)))))
    rw [← owD_opt w']
    exact hq (.opt w') (.opt o') (by rw [show cnt (.opt w') = cnt w' + 1 by rw [cnt, nodesO]; rfl]; omega)
  | @each _ w h1 =>
    have e := owD_each w
    have hp2 : p < cnt w := by simpa [kidsO, cnt] using hp2
    have hc2 : cnt (.each w) = cnt w + 1 := by rw [hc2]; simp [kidsO, cnt]
    show WSs _ _ [some (.da (owD _)), some (.da (.int (p : Nat))), some (.da (owD fr)), none, none, none] _
    refine xs_ifF (xt_cast (xt_inV fx.u70 (ix0 (xe_castD (xv 0) e)) (xe_tup2 xe_str xe_str) rfl rfl (by decide +kernel)) (show _ = false by decide +kernel)) (ws_nil ?_)
    refine xs_ifT (xt_cast (xt_inV fx.u70 (ix0 (xe_castD (xv 0) e)) (xe_tup2 xe_str xe_str) rfl rfl (by decide +kernel)) (show _ = true by decide +kernel)) ?_
    refine ws_ret (we_tup (wa_cons ((ix0 (xe_castD (xv 0) e)) _ (wa_cons (we_fnP gP fx.room fx.gd (wa_d (ix1 (xe_castD (xv 0) e)) (wa_d (xv 1) (wa_d (xv 2) wa_n))) ⟨v, v', p, w, fr, rfl, h1, hvv, hv, hp2, by omega, (fun m x h => hf2 m x (by simpa [kidsO] using h)), fun w' o' c' => wa_nil ⟨[.str "each", owD w'], rfl, (by show 2 ≤ sizeLine; decide), ⟨_, .da (.da (.da .nil)), ?_⟩⟩⟩)))))
    rw [← owD_each w']
    exact hq (.each w') (.each o') (by rw [show cnt (.each w') = cnt w' + 1 by rw [cnt, nodesO]; rfl]; omega)
  | @arms _ ts h1 h2 =>
    have e := owD_arms ts
    have ek : kidsO (.arms ts) = ts.map (·.2.2) := rfl
    rw [ek] at hp2 hc2 hf2
    show WSs _ _ [some (.da (owD (.arms ts))), some (.da (.int (p : Nat))), some (.da (owD fr)), none, none, none] _
    refine xs_ifF (xt_cast (xt_inV fx.u70 (ix0 (xe_castD (xv 0) e)) (xe_tup2 xe_str xe_str) rfl rfl (by decide +kernel)) (show _ = false by decide +kernel)) (ws_nil ?_)
    refine xs_ifF (xt_cast (xt_inV fx.u70 (ix0 (xe_castD (xv 0) e)) (xe_tup2 xe_str xe_str) rfl rfl (by decide +kernel)) (show _ = false by decide +kernel)) (ws_nil ?_)
    refine xs_set 3 nd xe_lst0 ?_
    refine ws_forT fx ts orA (fun q : List (Str × Str × Ow) × Int => [some (.da (owD (.arms ts))), some (.da (.int q.2)), some (.da (owD fr)), some (.ll (q.1.map orA)), none, none]) (fun i q => q.1.length = i ∧ (∀ t ∈ q.1, OkO v' (n + 1) t.2.2) ∧ (0 ≤ q.2 → q.2 = (p : Int) - (((ts.map (·.2.2)).take i).flatMap nodesO).length ∧ ((q.1.map (·.2.2)).flatMap nodesO).length = (((ts.map (·.2.2)).take i).flatMap nodesO).length) ∧ (q.2 < 0 → ((q.1.map (·.2.2)).flatMap nodesO).length ≤ (((ts.map (·.2.2)).take i).flatMap nodesO).length + cnt fr)) ([], (p : Int)) (xi_tup (ix1 (xe_castD (xv 0) e))) ⟨rfl, (fun t ht => by cases ht), fun _ => ⟨by simp, by simp⟩, fun h => absurd h (by show ¬ ((p : Int) < 0); omega)⟩ rfl ?_ ?_
    · rintro i t ⟨acc, q⟩ hx ⟨len, oka, up, dn⟩
      have htm := List.mem_of_getElem? hx
      have hi := (List.getElem?_eq_some_iff.mp hx).1
      have len : acc.length = i := len
      have oka : ∀ t ∈ acc, OkO v' (n + 1) t.2.2 := oka
      have up : 0 ≤ q → q = (p : Int) - (((ts.map (·.2.2)).take i).flatMap nodesO).length ∧ ((acc.map (·.2.2)).flatMap nodesO).length = (((ts.map (·.2.2)).take i).flatMap nodesO).length := up
      have dn : q < 0 → ((acc.map (·.2.2)).flatMap nodesO).length ≤ (((ts.map (·.2.2)).take i).flatMap nodesO).length + cnt fr := dn
      have hxk : (ts.map (·.2.2))[i]? = some t.2.2 := by rw [List.getElem?_map, hx]; rfl
      have ss := sum_step hxk
      have ct : cnt t.2.2 ≤ 2 ^ 23 := Nat.le_trans (cnt_kid (w := .arms ts) (List.mem_map_of_mem htm)) hc
      generalize eS : (((ts.map (·.2.2)).take i).flatMap nodesO).length = S at *
      refine wg_name 4 nd ?_
      show WSs _ _ [some (.da (owD (.arms ts))), some (.da (.int q)), some (.da (owD fr)), some (.ll (acc.map orA)), some (.da (orA t)), none] _
      refine xs_set 5 nd (xe_cast (j := (cnt t.2.2 : Nat)) (xe_len B (xe_frz (fun Ψ' hq' => we_fnP gN r2 fx.gd (wa_d (ix2 (xv 4)) wa_n) ⟨v, t.2.2, rfl, h1 t htm, Nat.le_trans hvv hv, ct, hq'⟩)) (.inl rfl)) (by rw [List.length_map]; rfl)) ?_
      show WSs _ _ [some (.da (owD (.arms ts))), some (.da (.int q)), some (.da (owD fr)), some (.ll (acc.map orA)), some (.da (orA t)), some (.da (.int (cnt t.2.2 : Nat)))] _
      have step : ∀ (w' : Ow) (u : Str × Str × Ow), u.2.2 = w' → OkO v' (n + 1) w' → ∀ x ∈ acc ++ [u], OkO v' (n + 1) x.2.2 := fun w' u e o' x hx => by
        rcases List.mem_append.mp hx with hx | hx
        · exact oka x hx
        · rw [List.mem_singleton.mp hx, e]
          exact o'
      have la : acc.length < sizeLine := Nat.lt_of_lt_of_le (show acc.length < 200 by omega) (by decide)
      refine ws_meet (fun b : List (Str × Str × Ow) => [some (.da (owD (.arms ts))), some (.da (.int q)), some (.da (owD fr)), some (.ll (b.map orA)), some (.da (orA t)), some (.da (.int (cnt t.2.2 : Nat)))]) (fun b => b.length = i + 1 ∧ (∀ t ∈ b, OkO v' (n + 1) t.2.2) ∧ (0 ≤ q - (cnt t.2.2 : Nat) → q = (p : Int) - S ∧ ((b.map (·.2.2)).flatMap nodesO).length = S + cnt t.2.2) ∧ (q - (cnt t.2.2 : Nat) < 0 → ((b.map (·.2.2)).flatMap nodesO).length ≤ S + cnt t.2.2 + cnt fr)) (fun key => wt_pure (xt_le_lt xe_int (xv 1) (xv 5)) ⟨fun h => ?_, fun h => ?_⟩) ?_
      · rw [Bool.and_eq_true, decide_eq_true_eq, decide_eq_true_eq] at h
        obtain ⟨eq1, eq2⟩ := up h.1
        obtain ⟨j, rfl⟩ : ∃ j : Nat, q = (j : Int) := ⟨q.toNat, by omega⟩
        have hj : j < cnt t.2.2 := by omega
        obtain ⟨x, hxj⟩ : ∃ x, (nodesO t.2.2)[j]? = some x := ⟨_, List.getElem?_eq_getElem hj⟩
        have hat := flat_at hxk hxj
        rw [eS, show S + j = p by omega] at hat
        refine ws_expr (we_append 3 (we_tup (wa_cons ((ix0 (xv 4)) _ (wa_cons ((ix1 (xv 4)) _ (wa_cons (we_fnP gP fx.room fx.gd (wa_d (ix2 (xv 4)) (wa_d (xv 1) (wa_d (xv 2) wa_n))) ⟨v, v', j, t.2.2, fr, rfl, h1 t htm, hvv, hv, hj, ct, (fun m y h2 => by rw [hxj] at h2; rw [← Option.some.inj h2]; exact hf2 m x hat), fun w' o' c' => wa_nil ⟨[.str t.1, .str t.2.1, owD w'], rfl, (by show 3 ≤ sizeLine; decide), _, _, _, _, rfl, rfl, .ll, (by rw [List.length_map]; exact la), ?_⟩⟩))))))))
        have sn := sum_snoc (ws := acc.map (·.2.2)) (k := w')
        refine ws_nil (cast (congrArg _ (congrArg Out.nx ?_)) (key (acc ++ [(t.1, t.2.1, w')]) ⟨by rw [List.length_append, len]; rfl, step w' _ rfl o', fun h => absurd h (by omega), fun _ => by rw [List.map_append]; show (((acc.map (·.2.2)) ++ [w']).flatMap nodesO).length ≤ _; omega⟩))
        rw [List.map_append]
        rfl
      · refine ws_expr (we_append 3 (we_pure (xv 4) ⟨_, _, _, _, rfl, rfl, .ll, (by rw [List.length_map]; exact la), ?_⟩))
        have sn := sum_snoc (ws := acc.map (·.2.2)) (k := t.2.2)
        rw [Bool.and_eq_false_iff, decide_eq_false_iff_not, decide_eq_false_iff_not] at h
        refine ws_nil (cast (congrArg _ (congrArg Out.nx ?_)) (key (acc ++ [t]) ⟨by rw [List.length_append, len]; rfl, step t.2.2 t rfl ((h1 t htm).up hvv (by omega)), fun h2 => ?_, fun h2 => ?_⟩))
        · rw [List.map_append]
          rfl
        · obtain ⟨a, b⟩ := up (by omega)
          exact ⟨a, by rw [List.map_append]; show (((acc.map (·.2.2)) ++ [t.2.2]).flatMap nodesO).length = _; omega⟩
        · have d := dn (by rcases h with h | h <;> omega)
          rw [List.map_append]
          show (((acc.map (·.2.2)) ++ [t.2.2]).flatMap nodesO).length ≤ _
          omega
      rintro b ⟨lb, okb, ub, db⟩
      show WSs _ _ [some (.da (owD (.arms ts))), some (.da (.int q)), some (.da (owD fr)), some (.ll (b.map orA)), some (.da (orA t)), some (.da (.int (cnt t.2.2 : Nat)))] _
      refine xs_set 1 nd (xe_sub (xv 1) (xv 5)) ?_
      refine ws_drop 4 (ws_drop 5 (ws_nil ⟨(b, q - (cnt t.2.2 : Nat)), ⟨lb, okb, fun h => ?_, fun h => ?_⟩, rfl⟩))
      · obtain ⟨a, c⟩ := ub h
        rw [ss]
        exact ⟨by show q - (cnt t.2.2 : Nat) = (p : Int) - ((S + cnt t.2.2 : Nat) : Int); omega, c⟩
      · rw [ss]
        exact db h
    · rintro ⟨acc, q⟩ ⟨len, oka, up, dn⟩
      rw [show (ts.map (·.2.2)).take ts.length = ts.map (·.2.2) from by rw [← List.length_map (f := (·.2.2)), List.take_length]] at up dn
      have len : acc.length = ts.length := len
      have up : 0 ≤ q → q = (p : Int) - ((ts.map (·.2.2)).flatMap nodesO).length ∧ _ := up
      have dn : q < 0 → ((acc.map (·.2.2)).flatMap nodesO).length ≤ ((ts.map (·.2.2)).flatMap nodesO).length + cnt fr := dn
      have qn : q < 0 := by
        rcases Int.lt_or_le q 0 with h | h
        · exact h
        · have := (up h).1
          omega
      have d := dn qn
      refine ws_frz 3 .ll ?_
      refine xs_ret (xe_tup2 (ix0 (xe_castD (xv 0) e)) (xe_tupOf B (xv 3))) ⟨_, .da (.da (.da .nil)), ?_⟩
      rw [← owD_arms acc]
      exact hq (.arms acc) (.arms oka (by omega)) (by rw [cnt, nodes_kids]; show ((acc.map (·.2.2)).flatMap nodesO).length + 1 ≤ _; omega)
  | @parts _ ts h1 h2 =>
    have e := owD_parts ts
    have ek : kidsO (.parts ts) = ts.map (·.2.2) := rfl
    rw [ek] at hp2 hc2 hf2
    show WSs _ _ [some (.da (owD (.parts ts))), some (.da (.int (p : Nat))), some (.da (owD fr)), none, none, none] _
    refine xs_ifF (xt_cast (xt_inV fx.u70 (ix0 (xe_castD (xv 0) e)) (xe_tup2 xe_str xe_str) rfl rfl (by decide +kernel)) (show _ = false by decide +kernel)) (ws_nil ?_)
    refine xs_ifF (xt_cast (xt_inV fx.u70 (ix0 (xe_castD (xv 0) e)) (xe_tup2 xe_str xe_str) rfl rfl (by decide +kernel)) (show _ = false by decide +kernel)) (ws_nil ?_)
    refine xs_set 3 nd xe_lst0 ?_
    refine ws_forT fx ts orQ (fun q : List (Option Int × Option Int × Ow) × Int => [some (.da (owD (.parts ts))), some (.da (.int q.2)), some (.da (owD fr)), some (.ll (q.1.map orQ)), none, none]) (fun i q => q.1.length = i ∧ (∀ t ∈ q.1, OkO v' (n + 1) t.2.2) ∧ (0 ≤ q.2 → q.2 = (p : Int) - (((ts.map (·.2.2)).take i).flatMap nodesO).length ∧ ((q.1.map (·.2.2)).flatMap nodesO).length = (((ts.map (·.2.2)).take i).flatMap nodesO).length) ∧ (q.2 < 0 → ((q.1.map (·.2.2)).flatMap nodesO).length ≤ (((ts.map (·.2.2)).take i).flatMap nodesO).length + cnt fr)) ([], (p : Int)) (xi_tup (ix1 (xe_castD (xv 0) e))) ⟨rfl, (fun t ht => by cases ht), fun _ => ⟨by simp, by simp⟩, fun h => absurd h (by show ¬ ((p : Int) < 0); omega)⟩ rfl ?_ ?_
    · rintro i t ⟨acc, q⟩ hx ⟨len, oka, up, dn⟩
      have htm := List.mem_of_getElem? hx
      have hi := (List.getElem?_eq_some_iff.mp hx).1
      have len : acc.length = i := len
      have oka : ∀ t ∈ acc, OkO v' (n + 1) t.2.2 := oka
      have up : 0 ≤ q → q = (p : Int) - (((ts.map (·.2.2)).take i).flatMap nodesO).length ∧ ((acc.map (·.2.2)).flatMap nodesO).length = (((ts.map (·.2.2)).take i).flatMap nodesO).length := up
      have dn : q < 0 → ((acc.map (·.2.2)).flatMap nodesO).length ≤ (((ts.map (·.2.2)).take i).flatMap nodesO).length + cnt fr := dn
      have hxk : (ts.map (·.2.2))[i]? = some t.2.2 := by rw [List.getElem?_map, hx]; rfl
      have ss := sum_step hxk
      have ct : cnt t.2.2 ≤ 2 ^ 23 := Nat.le_trans (cnt_kid (w := .parts ts) (List.mem_map_of_mem htm)) hc
      generalize eS : (((ts.map (·.2.2)).take i).flatMap nodesO).length = S at *
      refine wg_name 4 nd ?_
      show WSs _ _ [some (.da (owD (.parts ts))), some (.da (.int q)), some (.da (owD fr)), some (.ll (acc.map orQ)), some (.da (orQ t)), none] _
      refine xs_set 5 nd (xe_cast (j := (cnt t.2.2 : Nat)) (xe_len B (xe_frz (fun Ψ' hq' => we_fnP gN r2 fx.gd (wa_d (ix2 (xv 4)) wa_n) ⟨v, t.2.2, rfl, h1 t htm, Nat.le_trans hvv hv, ct, hq'⟩)) (.inl rfl)) (by rw [List.length_map]; rfl)) ?_
      show WSs _ _ [some (.da (owD (.parts ts))), some (.da (.int q)), some (.da (owD fr)), some (.ll (acc.map orQ)), some (.da (orQ t)), some (.da (.int (cnt t.2.2 : Nat)))] _
      have step : ∀ (w' : Ow) (u : Option Int × Option Int × Ow), u.2.2 = w' → OkO v' (n + 1) w' → ∀ x ∈ acc ++ [u], OkO v' (n + 1) x.2.2 := fun w' u e o' x hx => by
        rcases List.mem_append.mp hx with hx | hx
        · exact oka x hx
        · rw [List.mem_singleton.mp hx, e]
          exact o'
      have la : acc.length < sizeLine := Nat.lt_of_lt_of_le (show acc.length < 200 by omega) (by decide)
      refine ws_meet (fun b : List (Option Int × Option Int × Ow) => [some (.da (owD (.parts ts))), some (.da (.int q)), some (.da (owD fr)), some (.ll (b.map orQ)), some (.da (orQ t)), some (.da (.int (cnt t.2.2 : Nat)))]) (fun b => b.length = i + 1 ∧ (∀ t ∈ b, OkO v' (n + 1) t.2.2) ∧ (0 ≤ q - (cnt t.2.2 : Nat) → q = (p : Int) - S ∧ ((b.map (·.2.2)).flatMap nodesO).length = S + cnt t.2.2) ∧ (q - (cnt t.2.2 : Nat) < 0 → ((b.map (·.2.2)).flatMap nodesO).length ≤ S + cnt t.2.2 + cnt fr)) (fun key => wt_pure (xt_le_lt xe_int (xv 1) (xv 5)) ⟨fun h => ?_, fun h => ?_⟩) ?_
      · rw [Bool.and_eq_true, decide_eq_true_eq, decide_eq_true_eq] at h
        obtain ⟨eq1, eq2⟩ := up h.1
        obtain ⟨j, rfl⟩ : ∃ j : Nat, q = (j : Int) := ⟨q.toNat, by omega⟩
        have hj : j < cnt t.2.2 := by omega
        obtain ⟨x, hxj⟩ : ∃ x, (nodesO t.2.2)[j]? = some x := ⟨_, List.getElem?_eq_getElem hj⟩
        have hat := flat_at hxk hxj
        rw [eS, show S + j = p by omega] at hat
        refine ws_expr (we_append 3 (we_tup (wa_cons ((ix0 (xv 4)) _ (wa_cons ((ix1 (xv 4)) _ (wa_cons (we_fnP gP fx.room fx.gd (wa_d (ix2 (xv 4)) (wa_d (xv 1) (wa_d (xv 2) wa_n))) ⟨v, v', j, t.2.2, fr, rfl, h1 t htm, hvv, hv, hj, ct, (fun m y h2 => by rw [hxj] at h2; rw [← Option.some.inj h2]; exact hf2 m x hat), fun w' o' c' => wa_nil ⟨[plI t.1, plI t.2.1, owD w'], rfl, (by show 3 ≤ sizeLine; decide), _, _, _, _, rfl, rfl, .ll, (by rw [List.length_map]; exact la), ?_⟩⟩))))))))
        have sn := sum_snoc (ws := acc.map (·.2.2)) (k := w')
        refine ws_nil (cast (congrArg _ (congrArg Out.nx ?_)) (key (acc ++ [(t.1, t.2.1, w')]) ⟨by rw [List.length_append, len]; rfl, step w' _ rfl o', fun h => absurd h (by omega), fun _ => by rw [List.map_append]; show (((acc.map (·.2.2)) ++ [w']).flatMap nodesO).length ≤ _; omega⟩))
        rw [List.map_append]
        rfl
      · refine ws_expr (we_append 3 (we_pure (xv 4) ⟨_, _, _, _, rfl, rfl, .ll, (by rw [List.length_map]; exact la), ?_⟩))
        have sn := sum_snoc (ws := acc.map (·.2.2)) (k := t.2.2)
        rw [Bool.and_eq_false_iff, decide_eq_false_iff_not, decide_eq_false_iff_not] at h
        refine ws_nil (cast (congrArg _ (congrArg Out.nx ?_)) (key (acc ++ [t]) ⟨by rw [List.length_append, len]; rfl, step t.2.2 t rfl ((h1 t htm).up hvv (by omega)), fun h2 => ?_, fun h2 => ?_⟩))
        · rw [List.map_append]
          rfl
        · obtain ⟨a, b⟩ := up (by omega)
          exact ⟨a, by rw [List.map_append]; show (((acc.map (·.2.2)) ++ [t.2.2]).flatMap nodesO).length = _; omega⟩
        · have d := dn (by rcases h with h | h <;> omega)
          rw [List.map_append]
          show (((acc.map (·.2.2)) ++ [t.2.2]).flatMap nodesO).length ≤ _
          omega
      rintro b ⟨lb, okb, ub, db⟩
      show WSs _ _ [some (.da (owD (.parts ts))), some (.da (.int q)), some (.da (owD fr)), some (.ll (b.map orQ)), some (.da (orQ t)), some (.da (.int (cnt t.2.2 : Nat)))] _
      refine xs_set 1 nd (xe_sub (xv 1) (xv 5)) ?_
      refine ws_drop 4 (ws_drop 5 (ws_nil ⟨(b, q - (cnt t.2.2 : Nat)), ⟨lb, okb, fun h => ?_, fun h => ?_⟩, rfl⟩))
      · obtain ⟨a, c⟩ := ub h
        rw [ss]
        exact ⟨by show q - (cnt t.2.2 : Nat) = (p : Int) - ((S + cnt t.2.2 : Nat) : Int); omega, c⟩
      · rw [ss]
        exact db h
    · rintro ⟨acc, q⟩ ⟨len, oka, up, dn⟩
      rw [show (ts.map (·.2.2)).take ts.length = ts.map (·.2.2) from by rw [← List.length_map (f := (·.2.2)), List.take_length]] at up dn
      have len : acc.length = ts.length := len
      have up : 0 ≤ q → q = (p : Int) - ((ts.map (·.2.2)).flatMap nodesO).length ∧ _ := up
      have dn : q < 0 → ((acc.map (·.2.2)).flatMap nodesO).length ≤ ((ts.map (·.2.2)).flatMap nodesO).length + cnt fr := dn
      have qn : q < 0 := by
        rcases Int.lt_or_le q 0 with h | h
        · exact h
        · have := (up h).1
          omega
      have d := dn qn
      refine ws_frz 3 .ll ?_
      refine xs_ret (xe_tup2 (ix0 (xe_castD (xv 0) e)) (xe_tupOf B (xv 3))) ⟨_, .da (.da (.da .nil)), ?_⟩
      rw [← owD_parts acc]
      exact hq (.parts acc) (.parts oka (by omega)) (by rw [cnt, nodes_kids]; show ((acc.map (·.2.2)).flatMap nodesO).length + 1 ≤ _; omega)
theorem d_put (D : DK K "_law_put" s_l_put) (gN : ∀ n : Nat, Def P w K mg bs (n + 2) "_law_own_nodes" ["way"] (spNodes n)) : ∀ n : Nat, Def P w K mg bs (n + 3) "_law_put" ["way", "place", "fresh"] (spPut n)
  | 0 => by
    show Def P w K mg bs (2 + 1) _ _ _
    refine def_ok X G D sc_l_put (fun f fd F => F.binds (ps := ["way", "place", "fresh"]) fun _ _ _ _ _ _ us hl => match us, hl with | [_, _, _], _ => rfl) (fun as Ψ h => by obtain ⟨_, _, _, _, _, rfl, _⟩ := h; rfl) fun f cdv A fr s H E fx as Ψ vs hsp hl => ?_
    obtain ⟨v, v', p, w, fr, rfl, okw, hvv, hv, hp, hc, hf, hq⟩ := hsp
    cases okw
  | n + 1 => d_put1 X G B D (gN n) (d_put D gN n)
end
end Law
/-! WXf: things bent. -/
namespace Law
open PySem PySem.Spec PyProof.Rows L2 TL
theorem Gd.tup {n : Nat} {xs : List PyData} (h : ∀ x ∈ xs, Gd n x) : Gd (n + 1) (.tuple xs) := by
  refine ⟨?_, ?_⟩
  · rw [PyData.plain]
    exact plainAll_ofM fun x hx => (h x hx).plain
  · rw [PyData.depth]
    exact Nat.succ_le_succ (depthAll_of fun x hx => (h x hx).depth)
theorem gd_int (v : Nat) (i : Int) : Gd v (.int i) := ⟨rfl, Nat.zero_le _⟩
theorem gd_str (v : Nat) (s : Str) : Gd v (.str s) := ⟨rfl, Nat.zero_le _⟩
theorem gd_bool (v : Nat) (b : Bool) : Gd v (.bool b) := ⟨rfl, Nat.zero_le _⟩
theorem gd_none (v : Nat) : Gd v .none := ⟨rfl, Nat.zero_le _⟩
theorem gd_unit (v : Nat) : Gd (v + 1) (.tuple []) := .tup fun x hx => by cases hx
theorem ixN_nat {n j : Nat} (h : j < n) : ixN n ((j : Nat) : Int) = some j := by
  unfold ixN
  rw [if_pos (by omega), if_pos (by omega)]
  simp
/-- what a node may be bent to -/
structure OkB (v : Nat) (w fr : Ow) : Prop where
  ok : ∀ m, OkO v m w → OkO (v + 2) (m + 1) fr
  few : cnt fr ≤ 2 * cnt w + 1
abbrev odds (d : PyData) : List PyData := [.bool true, .bool false, .none, .str "", .str "q7", .int 4001, .int (-78), .tuple [], .tuple [d], .tuple [.str "q7", d], .tuple [.tuple []], d, .int 0, .int 1, .int (10 ^ 20)]
theorem odds_gd {v : Nat} {d : PyData} (hv : 2 ≤ v) (h : Gd v d) : ∀ x ∈ odds d, Gd (v + 2) x := by
  have one : ∀ {x}, Gd v x → Gd (v + 2) x := fun h => h.mono (by omega)
  have tu : ∀ {xs}, (∀ x ∈ xs, Gd v x) → Gd (v + 2) (.tuple xs) := fun h => (Gd.tup h).mono (by omega)
  intro x hx
  simp only [odds, List.mem_cons, List.not_mem_nil, or_false] at hx
  rcases hx with rfl | rfl | rfl | rfl | rfl | rfl | rfl | rfl | rfl | rfl | rfl | rfl | rfl | rfl | rfl
  · exact one (gd_bool _ _)
  · exact one (gd_bool _ _)
  · exact one (gd_none _)
  · exact one (gd_str _ _)
  · exact one (gd_str _ _)
  · exact one (gd_int _ _)
  · exact one (gd_int _ _)
  · exact tu fun x hx => by cases hx
  · exact tu fun x hx => by rw [List.mem_singleton.mp hx]; exact h
  · exact tu fun x hx => by
      rcases List.mem_cons.mp hx with rfl | hx
      · exact gd_str _ _
      · rw [List.mem_singleton.mp hx]; exact h
  · exact tu fun x hx => by rw [List.mem_singleton.mp hx]; exact (gd_unit 0).mono (by omega)
  · exact one h
  · exact one (gd_int _ _)
  · exact one (gd_int _ _)
  · exact one (gd_int _ _)
def spOdd (T : TC) : SpD := fun as Ψ => ∃ (v : Nat) (d : PyData), as = [ST T, .da d] ∧ 2 ≤ v ∧ Gd v d ∧ ∀ x, Gd (v + 2) x → Ψ (.da x) as
def spBent (T : TC) : SpD := fun as Ψ => ∃ (v n : Nat) (w : Ow), as = [ST T, .da (owD w)] ∧ OkO v n w ∧ 2 ≤ v ∧ v ≤ 58 ∧ ∀ fr, OkB v w fr → Ψ (.da (owD fr)) as
def spBTab (T : TC) : SpD := fun as Ψ => ∃ (v n : Nat) (f g : List PyData), as = [ST T, .da (owD (.table f g))] ∧ OkO v n (.table f g) ∧ 2 ≤ v ∧ v ≤ 58 ∧ ∀ fr, OkB v (.table f g) fr → Ψ (.da (owD fr)) as
def spBTri (T : TC) : SpD := fun as Ψ => ∃ (v n : Nat) (w : Ow) (ds : List PyData), as = [ST T, .da (owD w), .da (.list ds)] ∧ OkO v n w ∧ 2 ≤ v ∧ v ≤ 58 ∧ ((∃ (ts : List (Str × Str × Ow)) (ss : List Str), w = .arms ts ∧ ds = ss.map PyData.str ∧ 2 ≤ ss.length ∧ ss.length ≤ 10) ∨ ∃ (ts : List (Option Int × Option Int × Ow)) (ss : List (Option Int)), w = .parts ts ∧ ds = ss.map plI ∧ 2 ≤ ss.length ∧ ss.length ≤ 10) ∧ ∀ fr, OkB v w fr → Ψ (.da (owD fr)) as
theorem okb_bare {v : Nat} {w : Ow} {s : Str} {ds : List PyData} (h : s ∉ deepW) (hl : ds.length ≤ 10) : OkB v w (.bare s ds) := ⟨fun m _ => .bare h hl, by rw [show cnt (.bare s ds) = 1 by rw [cnt, nodesO]; rfl]; omega⟩
theorem cnt_leaf {w : Ow} (h : kidsO w = []) : cnt w = 1 := by rw [cnt, nodes_kids, h]; rfl
theorem cnt_one {w k : Ow} (h : kidsO w = [k]) : cnt w = cnt k + 1 := by rw [cnt, nodes_kids, h]; simp [cnt]
theorem cnt_some {w : Ow} {d : PyData} : cnt (.some_ w d) = cnt w + 1 := cnt_one rfl
theorem cnt_must {w : Ow} {d : PyData} : cnt (.must w d) = cnt w + 1 := cnt_one rfl
theorem cnt_opt {w : Ow} : cnt (.opt w) = cnt w + 1 := cnt_one rfl
theorem cnt_each {w : Ow} : cnt (.each w) = cnt w + 1 := cnt_one rfl
theorem cnt_arms {ts : List (Str × Str × Ow)} : cnt (.arms ts) = ((ts.map (·.2.2)).flatMap nodesO).length + 1 := by rw [cnt, nodes_kids]; rfl
theorem cnt_parts {ts : List (Option Int × Option Int × Ow)} : cnt (.parts ts) = ((ts.map (·.2.2)).flatMap nodesO).length + 1 := by rw [cnt, nodes_kids]; rfl
theorem sum_perm {xs ys : List Ow} (h : xs.Perm ys) : (xs.flatMap nodesO).length = (ys.flatMap nodesO).length := by
  induction h with
  | nil => rfl
  | cons x _ ih => rw [List.flatMap_cons, List.flatMap_cons, List.length_append, List.length_append, ih]
  | swap x y l =>
    rw [List.flatMap_cons, List.flatMap_cons, List.flatMap_cons, List.flatMap_cons]
    simp only [List.length_append]
    omega
  | trans _ _ a b => exact a.trans b
theorem sum_mem {ws : List Ow} {k : Ow} (h : k ∈ ws) : cnt k ≤ (ws.flatMap nodesO).length := by
  obtain ⟨a, b, e⟩ := List.append_of_mem h
  rw [e, List.flatMap_append, List.flatMap_cons, List.length_append, List.length_append, cnt]
  omega
theorem sum_erase {ws : List Ow} {j : Nat} : ((ws.eraseIdx j).flatMap nodesO).length ≤ (ws.flatMap nodesO).length := by
  rcases Nat.lt_or_ge j ws.length with h | h
  · have p := erase_perm (List.getElem?_eq_getElem h)
    rw [sum_perm p, List.flatMap_cons, List.length_append]
    omega
  · rw [List.eraseIdx_of_length_le h]
    exact Nat.le_refl _
theorem sum_set {ws : List Ow} {j : Nat} {k : Ow} : ((ws.set j k).flatMap nodesO).length ≤ (ws.flatMap nodesO).length + cnt k := by
  rcases Nat.lt_or_ge j ws.length with h | h
  · have e1 : ws = ws.take j ++ ws[j] :: ws.drop (j + 1) := by rw [List.getElem_cons_drop, List.take_append_drop]
    have e2 : ws.set j k = ws.take j ++ k :: ws.drop (j + 1) := List.set_eq_take_append_cons_drop.trans (by rw [if_pos h])
    rw [e2]
    conv => rhs; rw [e1]
    simp only [List.flatMap_append, List.flatMap_cons, List.length_append, cnt]
    omega
  · rw [List.set_eq_of_length_le h]
    omega
section
variable {P : Program} {w0 : World} {K : PySem.W.Frag} {mg : Str → Option Value} {bs h : Heap} (X : K.In h) (G : h.Ns mainGlobals mg) (B : Blt mg)
include X G B
theorem d_odd (D : DK K "_law_odd" s_l_odd) (gD : Def P w0 K mg bs 2 "_law_own_draw" ["state", "many"] (spDrawO ⟨P, w0, K⟩)) : Def P w0 K mg bs 3 "_law_odd" ["state", "value"] (spOdd ⟨P, w0, K⟩) := by
  refine def_ok X G D sc_l_odd (fun f fd F => F.binds (ps := ["state", "value"]) fun _ _ _ _ _ _ us hl => match us, hl with | [_, _], _ => rfl) (fun as Ψ h => by obtain ⟨_, _, rfl, _⟩ := h; rfl) fun f cdv A fr s H E fx as Ψ vs hsp hl => ?_
  obtain ⟨v, d, rfl, hv, gd, hq⟩ := hsp
  obtain ⟨v0, v1, rfl⟩ := ar2 hl
  have nd := fx.nd
  show WSs _ _ [some (.pin v0 (ST ⟨P, w0, K⟩)), some (.da d), none] _
  refine xs_set 2 nd (xe_frz (fun _ hq' => we_lst (wa_cons (xe_bl _ (wa_cons (xe_bl _ (wa_cons (xe_non _ (wa_cons (xe_str _ (wa_cons (xe_str _ (wa_cons (xe_int _ (wa_cons ((xe_neg xe_int) _ (wa_cons (xe_tup0 _ (wa_cons ((xe_tup1 (xv 1)) _ (wa_cons ((xe_tup2 xe_str (xv 1)) _ (wa_cons ((xe_tup1 xe_tup0) _ (wa_cons ((xv 1) _ (wa_cons (xe_int _ (wa_cons (xe_int _ (wa_cons ((xe_pow ⟨by decide, by decide, by decide⟩ xe_int xe_int) _ (wa_nil ⟨odds d, rfl, (by show 15 ≤ sizeLine; decide), hq'⟩))))))))))))))))))))))))))))))))) ?_
  show WSs _ _ [some (.pin v0 (ST ⟨P, w0, K⟩)), some (.da d), some (.da (.list (odds d)))] _
  refine ws_ret (we_ixD (xv 2) (we_drawN (n := 15) 0 gD fx.room fx.gd (xe_cast (j := ((15 : Nat) : Int)) (xe_len B (xv 2) (.inl rfl)) rfl) (by decide) (by decide) fun j hj => ?_))
  have hj2 : j < (odds d).length := hj
  exact ⟨j, (odds d)[j], rfl, List.getElem?_eq_getElem hj2, _, .own (.da .nil), hq _ (odds_gd hv gd _ (List.getElem_mem hj2))⟩
theorem d_btab (D : DK K "_law_bent_table" s_l_bent_table) (gD : Def P w0 K mg bs 2 "_law_own_draw" ["state", "many"] (spDrawO ⟨P, w0, K⟩)) (gO : Def P w0 K mg bs 3 "_law_odd" ["state", "value"] (spOdd ⟨P, w0, K⟩)) : Def P w0 K mg bs 4 "_law_bent_table" ["state", "node"] (spBTab ⟨P, w0, K⟩) := by
  refine def_ok X G D sc_l_bent_table (fun f fd F => F.binds (ps := ["state", "node"]) fun _ _ _ _ _ _ us hl => match us, hl with | [_, _], _ => rfl) (fun as Ψ h => by obtain ⟨_, _, _, _, rfl, _⟩ := h; rfl) fun f cdv A fr s H E fx as Ψ vs hsp hl => ?_
  obtain ⟨v, n, f, g, rfl, okw, v2, v58, hq⟩ := hsp
  obtain ⟨v0, v1, rfl⟩ := ar2 hl
  have nd := fx.nd
  have r2 := fx.room.mono (show 2 ≤ 3 by decide)
  have e := owD_table f g
  have c0 : ∀ f g, cnt (.table f g) = 1 := fun f g => cnt_leaf rfl
  show WSs _ _ [some (.pin v0 (ST ⟨P, w0, K⟩)), some (.da (owD (.table f g))), none, none, none, none] _
  have fin : ∀ f' g' : List PyData, (∀ m, OkO v m (.table f g) → OkO (v + 2) (m + 1) (.table f' g')) → Ψ (.da (.tuple [.str "table", .tuple f', .tuple g'])) [ST ⟨P, w0, K⟩, .da (owD (.table f g))] := fun f' g' h => by
    rw [← owD_table]
    exact hq (.table f' g') ⟨h, by rw [c0, c0]; decide⟩
  refine ws_set 2 nd (we_add (we_pure xe_int ⟨1, rfl, we_drawN (n := 2) 0 gD r2 fx.gd xe_int (by decide) (by decide) fun sd hsd => ⟨(sd : Nat), rfl, ?_⟩⟩))
  rcases sd with _ | _ | sd
  · skip
    show WSs _ _ [some (.pin v0 (ST ⟨P, w0, K⟩)), some (.da (owD (.table f g))), some (.da (.int 1)), none, none, none] _
    refine xs_set 3 nd (xe_lstOf B (xe_ix (xe_castD (xv 1) e) (xv 2) (.inr rfl) (j := 1) (d := .tuple f) rfl) (.inr rfl)) ?_
    refine ws_set 4 nd (we_drawN (n := 4) 0 gD r2 fx.gd xe_int (by decide) (by decide) fun t ht => ?_)
    have lR : f.length ≤ 40 + v ∧ ∀ x ∈ f, Gd v x := by cases okw with | table a b c d => exact ⟨c, a⟩
    show WSs _ _ [some (.pin v0 (ST ⟨P, w0, K⟩)), some (.da (owD (.table f g))), some (.da (.int 1)), some (.ll f), some (.da (.int (t : Nat))), none] _
    refine xs_if (xt_eqI fx.u (xv 4) (xe_int (i := 0))) (fun _ => ?_) fun _ => ws_nil ?_
    · refine xs_ret (xe_tup3 xe_str (ix2 (xe_castD (xv 1) e)) (ix1 (xe_castD (xv 1) e))) ⟨_, .own (.da .nil), fin g f fun m hm => ?_⟩
      cases hm with
      | table a b c d => exact .table (fun x hx => (b x hx).mono (by omega)) (fun x hx => (a x hx).mono (by omega)) (by omega) (by omega)
    refine ws_meet (fun R : List PyData => [some (.pin v0 (ST ⟨P, w0, K⟩)), some (.da (owD (.table f g))), some (.da (.int 1)), some (.ll R), some (.da (.int (t : Nat))), none]) (fun R => R.length ≤ 40 + (v + 2) ∧ ∀ x ∈ R, Gd (v + 2) x) (fun key => wt_pure (xt_or2 (xt_eqI fx.u (xv 4) (xe_int (i := 1))) fun _ => xt_eqI fx.u (xe_lenS 3 B) (xe_int (i := 0))) ⟨fun hc => ?_, fun hc => ?_⟩) ?_
    · refine ws_expr (we_append 3 (we_fnR gO fx.room fx.gd (wr_ref 0 (wr_da (xe_int (i := 0)) (wr_nil ⟨_, _, rfl, v, .int 0, rfl, v2, gd_int _ _, fun x gx => ⟨_, _, _, _, rfl, rfl, .ll, Nat.lt_of_le_of_lt (show f.length ≤ 98 by omega) (by decide), ?_⟩⟩)))))
      refine ws_nil (key (f ++ [x]) ⟨by rw [List.length_append]; show f.length + 1 ≤ _; omega, fun y hy => ?_⟩)
      rcases List.mem_append.mp hy with hy | hy
      · exact (lR.2 y hy).mono (by omega)
      · rw [List.mem_singleton.mp hy]; exact gx
    · rw [Bool.or_eq_false_iff, decide_eq_false_iff_not, decide_eq_false_iff_not] at hc
      have h0 : 0 < f.length := by omega
      have hne : f ≠ [] := fun h => by rw [h] at h0; cases h0
      refine xs_if (xt_eqI fx.u (xv 4) (xe_int (i := 2))) (fun _ => ?_) fun _ => ?_
      · refine ws_expr (we_pop 3 hne ?_)
        exact ws_nil (ws_nil (key f.dropLast ⟨by rw [List.length_dropLast]; omega, fun y hy => (lR.2 y (List.dropLast_subset _ hy)).mono (by omega)⟩))
      · refine ws_set 5 nd (we_drawN (n := f.length) 0 gD r2 fx.gd (xe_cast (j := (f.length : Nat)) (xe_lenS 3 B) rfl) h0 (by omega) fun p hp => ?_)
        show WSs _ _ [some (.pin v0 (ST ⟨P, w0, K⟩)), some (.da (owD (.table f g))), some (.da (.int 1)), some (.ll f), some (.da (.int (t : Nat))), some (.da (.int (p : Nat)))] _
        refine ws_setll 3 (j := (p : Int)) (n := p) (we_fnR gO fx.room fx.gd (wr_ref 0 (wr_da (xe_ixll 3 (xv 5) (d := f[p]) (hd := atI_n (List.getElem?_eq_getElem hp))) (wr_nil ⟨_, _, rfl, v, f[p], rfl, v2, lR.2 _ (List.getElem_mem hp), fun x gx => ⟨_, _, _, _, rfl, rfl, .ll, ixN_nat hp, xv 5, ?_⟩⟩))))
        refine ws_nil (ws_nil (ws_drop 5 (key (f.set p x) ⟨by rw [List.length_set]; omega, fun y hy => ?_⟩)))
        rcases List.mem_or_eq_of_mem_set hy with hy | rfl
        · exact (lR.2 y hy).mono (by omega)
        · exact gx
    rintro R ⟨lR2, gR2⟩
    refine ws_frz 3 .ll ?_
    show WSs _ _ [some (.pin v0 (ST ⟨P, w0, K⟩)), some (.da (owD (.table f g))), some (.da (.int 1)), some (.da (.list R)), some (.da (.int (t : Nat))), none] _
    refine xs_ifT (xt_cast (xt_eqI fx.u (xv 2) (xe_int (i := 1))) (by decide +kernel)) ?_
    refine xs_ret (xe_tup3 xe_str (xe_tupOf B (xv 3)) (ix2 (xe_castD (xv 1) e))) ⟨_, .own (.da .nil), fin R g fun m hm => ?_⟩
    cases hm with
    | table a b c d => exact .table gR2 (fun x hx => (b x hx).mono (by omega)) lR2 (by omega)
  · skip
    show WSs _ _ [some (.pin v0 (ST ⟨P, w0, K⟩)), some (.da (owD (.table f g))), some (.da (.int 2)), none, none, none] _
    refine xs_set 3 nd (xe_lstOf B (xe_ix (xe_castD (xv 1) e) (xv 2) (.inr rfl) (j := 2) (d := .tuple g) rfl) (.inr rfl)) ?_
    refine ws_set 4 nd (we_drawN (n := 4) 0 gD r2 fx.gd xe_int (by decide) (by decide) fun t ht => ?_)
    have lR : g.length ≤ 40 + v ∧ ∀ x ∈ g, Gd v x := by cases okw with | table a b c d => exact ⟨d, b⟩
    show WSs _ _ [some (.pin v0 (ST ⟨P, w0, K⟩)), some (.da (owD (.table f g))), some (.da (.int 2)), some (.ll g), some (.da (.int (t : Nat))), none] _
    refine xs_if (xt_eqI fx.u (xv 4) (xe_int (i := 0))) (fun _ => ?_) fun _ => ws_nil ?_
    · refine xs_ret (xe_tup3 xe_str (ix2 (xe_castD (xv 1) e)) (ix1 (xe_castD (xv 1) e))) ⟨_, .own (.da .nil), fin g f fun m hm => ?_⟩
      cases hm with
      | table a b c d => exact .table (fun x hx => (b x hx).mono (by omega)) (fun x hx => (a x hx).mono (by omega)) (by omega) (by omega)
    refine ws_meet (fun R : List PyData => [some (.pin v0 (ST ⟨P, w0, K⟩)), some (.da (owD (.table f g))), some (.da (.int 2)), some (.ll R), some (.da (.int (t : Nat))), none]) (fun R => R.length ≤ 40 + (v + 2) ∧ ∀ x ∈ R, Gd (v + 2) x) (fun key => wt_pure (xt_or2 (xt_eqI fx.u (xv 4) (xe_int (i := 1))) fun _ => xt_eqI fx.u (xe_lenS 3 B) (xe_int (i := 0))) ⟨fun hc => ?_, fun hc => ?_⟩) ?_
    · refine ws_expr (we_append 3 (we_fnR gO fx.room fx.gd (wr_ref 0 (wr_da (xe_int (i := 0)) (wr_nil ⟨_, _, rfl, v, .int 0, rfl, v2, gd_int _ _, fun x gx => ⟨_, _, _, _, rfl, rfl, .ll, Nat.lt_of_le_of_lt (show g.length ≤ 98 by omega) (by decide), ?_⟩⟩)))))
      refine ws_nil (key (g ++ [x]) ⟨by rw [List.length_append]; show g.length + 1 ≤ _; omega, fun y hy => ?_⟩)
      rcases List.mem_append.mp hy with hy | hy
      · exact (lR.2 y hy).mono (by omega)
      · rw [List.mem_singleton.mp hy]; exact gx
    · rw [Bool.or_eq_false_iff, decide_eq_false_iff_not, decide_eq_false_iff_not] at hc
      have h0 : 0 < g.length := by omega
      have hne : g ≠ [] := fun h => by rw [h] at h0; cases h0
      refine xs_if (xt_eqI fx.u (xv 4) (xe_int (i := 2))) (fun _ => ?_) fun _ => ?_
      · refine ws_expr (we_pop 3 hne ?_)
        exact ws_nil (ws_nil (key g.dropLast ⟨by rw [List.length_dropLast]; omega, fun y hy => (lR.2 y (List.dropLast_subset _ hy)).mono (by omega)⟩))
      · refine ws_set 5 nd (we_drawN (n := g.length) 0 gD r2 fx.gd (xe_cast (j := (g.length : Nat)) (xe_lenS 3 B) rfl) h0 (by omega) fun p hp => ?_)
        show WSs _ _ [some (.pin v0 (ST ⟨P, w0, K⟩)), some (.da (owD (.table f g))), some (.da (.int 2)), some (.ll g), some (.da (.int (t : Nat))), some (.da (.int (p : Nat)))] _
        refine ws_setll 3 (j := (p : Int)) (n := p) (we_fnR gO fx.room fx.gd (wr_ref 0 (wr_da (xe_ixll 3 (xv 5) (d := g[p]) (hd := atI_n (List.getElem?_eq_getElem hp))) (wr_nil ⟨_, _, rfl, v, g[p], rfl, v2, lR.2 _ (List.getElem_mem hp), fun x gx => ⟨_, _, _, _, rfl, rfl, .ll, ixN_nat hp, xv 5, ?_⟩⟩))))
        refine ws_nil (ws_nil (ws_drop 5 (key (g.set p x) ⟨by rw [List.length_set]; omega, fun y hy => ?_⟩)))
        rcases List.mem_or_eq_of_mem_set hy with hy | rfl
        · exact (lR.2 y hy).mono (by omega)
        · exact gx
    rintro R ⟨lR2, gR2⟩
    refine ws_frz 3 .ll ?_
    show WSs _ _ [some (.pin v0 (ST ⟨P, w0, K⟩)), some (.da (owD (.table f g))), some (.da (.int 2)), some (.da (.list R)), some (.da (.int (t : Nat))), none] _
    refine xs_ifF (xt_cast (xt_eqI fx.u (xv 2) (xe_int (i := 1))) (by decide +kernel)) (ws_nil ?_)
    refine xs_ret (xe_tup3 xe_str (ix1 (xe_castD (xv 1) e)) (xe_tupOf B (xv 3))) ⟨_, .own (.da .nil), fin f R fun m hm => ?_⟩
    cases hm with
    | table a b c d => exact .table (fun x hx => (a x hx).mono (by omega)) gR2 (by omega) lR2
  · omega
theorem d_btri (D : DK K "_law_bent_trios" s_l_bent_trios) (gD : Def P w0 K mg bs 2 "_law_own_draw" ["state", "many"] (spDrawO ⟨P, w0, K⟩)) : Def P w0 K mg bs 3 "_law_bent_trios" ["state", "node", "strange"] (spBTri ⟨P, w0, K⟩) := by
  refine def_ok X G D sc_l_bent_trios (fun f fd F => F.binds (ps := ["state", "node", "strange"]) fun _ _ _ _ _ _ us hl => match us, hl with | [_, _, _], _ => rfl) (fun as Ψ h => by obtain ⟨_, _, _, _, rfl, _⟩ := h; rfl) fun f cdv A fr s H E fx as Ψ vs hsp hl => ?_
  obtain ⟨v, n, w, ds, rfl, okw, v2, v58, hc, hq⟩ := hsp
  obtain ⟨v0, v1, v2, rfl⟩ := ar3 hl
  have nd := fx.nd
  rcases hc with ⟨ts, ss, rfl, rfl, s2, s10⟩ | ⟨ts, ss, rfl, rfl, s2, s10⟩
  · skip
    have e := owD_arms ts
    have dw : ∀ m, OkO v m (.arms ts) → ∀ t ∈ ts, OkO v (m - 1) t.2.2 := fun m hm => by cases hm with | arms a b => exact a
    have lt : ts.length ≤ 100 + v := by cases okw with | arms a b => exact b
    have fin : ∀ ts' : List (Str × Str × Ow), ts'.length ≤ 100 + (v + 2) → (∀ t ∈ ts', ∃ t0 ∈ ts, t.2.2 = t0.2.2) → ((ts'.map (·.2.2)).flatMap nodesO).length ≤ 2 * ((ts.map (·.2.2)).flatMap nodesO).length → Ψ (.da (.tuple [.str "arms", .tuple (ts'.map orA)])) [ST ⟨P, w0, K⟩, .da (owD (.arms ts)), .da (.list (ss.map PyData.str))] := fun ts' h1 h2 h3 => by
      rw [← owD_arms]
      refine hq (.arms ts') ⟨fun m hm => ?_, by rw [cnt_arms, cnt_arms]; omega⟩
      have d := dw m hm
      cases hm with
      | arms a b =>
        refine .arms (fun t ht => ?_) h1
        obtain ⟨t0, ht0, e0⟩ := h2 t ht
        rw [e0]
        exact (a t0 ht0).up (by omega) (by omega)
    show WSs _ _ [some (.pin v0 (ST ⟨P, w0, K⟩)), some (.da (owD (.arms ts))), some (.da (.list (ss.map PyData.str))), none, none, none, none, none] _
    refine xs_set 3 nd (xe_lstOf B (ix1 (xe_castD (xv 1) e)) (.inr rfl)) ?_
    show WSs _ _ [some (.pin v0 (ST ⟨P, w0, K⟩)), some (.da (owD (.arms ts))), some (.da (.list (ss.map PyData.str))), some (.ll (ts.map orA)), none, none, none, none] _
    refine xs_if (xt_eqI fx.u (xe_lenS 3 B) (xe_int (i := 0))) (fun hc => ?_) fun hc => ws_nil ?_
    · have hs0 : ss[0]? = some ss[0] := List.getElem?_eq_getElem (by omega)
      have hs1 : ss[1]? = some ss[1] := List.getElem?_eq_getElem (by omega)
      refine xs_ret (xe_tup2 (ix0 (xe_castD (xv 1) e)) (xe_tup1 (xe_tup3 (xe_ix (xv 2) xe_int (.inl rfl) (j := 0) (d := PyData.str ss[0]) (atI_n (i := 0) (by rw [List.getElem?_map, hs0]; rfl))) (xe_ix (xv 2) xe_int (.inl rfl) (j := 1) (d := PyData.str ss[1]) (atI_n (i := 1) (by rw [List.getElem?_map, hs1]; rfl))) (xe_tup1 xe_str)))) ⟨_, .own (.da (.da .nil)), ?_⟩
      have q2 := hq (.arms [(ss[0], ss[1], .bare "same" [])]) ⟨fun m hm => ?_, by rw [cnt_arms]; show 1 + 1 ≤ _; have := cnt_pos (.arms ts); omega⟩
      · rw [owD_arms, List.map_cons, List.map_nil] at q2
        unfold orA at q2
        rw [owD_bare] at q2
        exact q2
      · refine .arms (fun t ht => ?_) (by show 1 ≤ _; omega)
        rw [List.mem_singleton.mp ht]
        cases hm with
        | arms a b => exact .bare (by decide +kernel) (by show 0 ≤ 10; decide)
    have hc : ¬ ts.length = 0 := fun h => by rw [List.length_map, h] at hc; cases hc
    have h0 : 0 < ts.length := by omega
    have lts : (ts.map orA).length = ts.length := List.length_map ..
    refine ws_set 4 nd (we_drawN (n := ts.length) 0 gD fx.room fx.gd (xe_cast (j := (ts.length : Nat)) (xe_lenS 3 B) (by rw [List.length_map])) h0 (by omega) fun p hp => ?_)
    have ht : ts[p]? = some ts[p] := List.getElem?_eq_getElem hp
    generalize ts[p] = t at ht
    show WSs _ _ [some (.pin v0 (ST ⟨P, w0, K⟩)), some (.da (owD (.arms ts))), some (.da (.list (ss.map PyData.str))), some (.ll (ts.map orA)), some (.da (.int (p : Nat))), none, none, none] _
    refine xs_set 5 nd (xe_ixll 3 (xv 4) (d := orA t) (hd := atI_n (by rw [List.getElem?_map, ht]; rfl))) ?_
    refine ws_set 6 nd (we_ixll 3 (we_drawN (n := ts.length) 0 gD fx.room fx.gd (xe_cast (j := (ts.length : Nat)) (xe_lenS 3 B) (by rw [List.length_map])) h0 (by omega) fun p2 hp2 => ⟨_, orA ts[p2], _, _, _, rfl, rfl, .ll, atI_n (by rw [List.getElem?_map, List.getElem?_eq_getElem hp2]; rfl), ?_⟩))
    have hm : ts[p2] ∈ ts := List.getElem_mem hp2
    generalize ts[p2] = m at hm
    have htm := List.mem_of_getElem? ht
    show WSs _ _ [some (.pin v0 (ST ⟨P, w0, K⟩)), some (.da (owD (.arms ts))), some (.da (.list (ss.map PyData.str))), some (.ll (ts.map orA)), some (.da (.int (p : Nat))), some (.da (orA t)), some (.da (orA m)), none] _
    refine xs_set 2 nd (xe_catL (ds := ss.map PyData.str) (es' := [PyData.str m.1, PyData.str m.2.1]) (few4 (by rw [List.length_map]; show ss.length + 2 ≤ _; omega)) (xv 2) (xe_frz (fun _ hq' => we_lst (wa_cons ((ix0 (xv 6)) _ (wa_cons ((ix1 (xv 6)) _ (wa_nil ⟨[PyData.str m.1, PyData.str m.2.1], rfl, (by show 2 ≤ sizeLine; decide), hq'⟩)))))))) ?_
    refine ws_frz 2 .ll ?_
    rw [show ss.map PyData.str ++ [PyData.str m.1, PyData.str m.2.1] = (ss ++ [m.1, m.2.1]).map PyData.str by rw [List.map_append]; rfl]
    have lU : (ss ++ [m.1, m.2.1]).length = ss.length + 2 := by rw [List.length_append]; rfl
    refine ws_set 7 nd (we_drawN (n := 7) 0 gD fx.room fx.gd xe_int (by decide) (by decide) fun q hq7 => ?_)
    show WSs _ _ [some (.pin v0 (ST ⟨P, w0, K⟩)), some (.da (owD (.arms ts))), some (.da (.list (((ss ++ [m.1, m.2.1]).map PyData.str)))), some (.ll (ts.map orA)), some (.da (.int (p : Nat))), some (.da (orA t)), some (.da (orA m)), some (.da (.int (q : Nat)))] _
    have ct := sum_mem (List.mem_map_of_mem (f := (·.2.2)) htm)
    have cm := sum_mem (List.mem_map_of_mem (f := (·.2.2)) hm)
    have self : ∀ x ∈ ts, ∃ t0 ∈ ts, x.2.2 = t0.2.2 := fun x hx => ⟨x, hx, rfl⟩
    have setok : ∀ u : Str × Str × Ow, (∃ t0 ∈ ts, u.2.2 = t0.2.2) → ∀ x ∈ ts.set p u, ∃ t0 ∈ ts, x.2.2 = t0.2.2 := fun u hu x hx => by
      rcases List.mem_or_eq_of_mem_set hx with hx | rfl
      · exact self x hx
      · exact hu
    have setc : ∀ u : Str × Str × Ow, cnt u.2.2 ≤ ((ts.map (·.2.2)).flatMap nodesO).length → (((ts.set p u).map (·.2.2)).flatMap nodesO).length ≤ 2 * ((ts.map (·.2.2)).flatMap nodesO).length := fun u hu => by
      rw [List.map_set]
      have := sum_set (ws := ts.map (·.2.2)) (j := p) (k := u.2.2)
      omega
    refine ws_meet (fun b : List (Str × Str × Ow) => [some (.pin v0 (ST ⟨P, w0, K⟩)), some (.da (owD (.arms ts))), some (.da (.list (((ss ++ [m.1, m.2.1]).map PyData.str)))), some (.ll (b.map orA)), some (.da (.int (p : Nat))), some (.da (orA t)), some (.da (orA m)), some (.da (.int (q : Nat)))]) (fun b => b.length ≤ 100 + (v + 2) ∧ (∀ t ∈ b, ∃ t0 ∈ ts, t.2.2 = t0.2.2) ∧ ((b.map (·.2.2)).flatMap nodesO).length ≤ 2 * ((ts.map (·.2.2)).flatMap nodesO).length) (fun key => wt_pure (xt_eqI fx.u (xv 7) (xe_int (i := 0))) ⟨fun _ => ?_, fun _ => ?_⟩) ?_
    · refine ws_expr (we_popAt 3 (we_pure (xv 4) ⟨p, _, _, _, orA t, rfl, rfl, .ll, by rw [List.getElem?_map, ht]; rfl, by rw [List.length_map]; omega, ?_⟩))
      refine ws_nil (cast (congrArg _ (congrArg Out.nx ?_)) (key (ts.eraseIdx p) ⟨Nat.le_trans (List.length_eraseIdx_le ..) (by omega), fun x hx => self x (List.mem_of_mem_eraseIdx hx), ?_⟩))
      · rw [map_erase]; rfl
      · rw [← map_erase]
        have := sum_erase (ws := ts.map (·.2.2)) (j := p)
        omega
    · refine xs_if (xt_eqI fx.u (xv 7) (xe_int (i := 1))) (fun _ => ?_) fun _ => ?_
      · refine ws_expr (we_append 3 (we_pure (xv 5) ⟨_, _, _, _, rfl, rfl, .ll, Nat.lt_of_le_of_lt (show (ts.map orA).length ≤ 200 by omega) (by decide), ?_⟩))
        refine ws_nil (ws_nil (cast (congrArg _ (congrArg Out.nx ?_)) (key (ts ++ [t]) ⟨by rw [List.length_append]; show ts.length + 1 ≤ _; omega, fun x hx => ?_, ?_⟩)))
        · rw [List.map_append (f := orA)]; rfl
        · rcases List.mem_append.mp hx with hx | hx
          · exact self x hx
          · rw [List.mem_singleton.mp hx]; exact self t htm
        · rw [List.map_append]
          have := sum_snoc (ws := ts.map (·.2.2)) (k := t.2.2)
          show (((ts.map (·.2.2)) ++ [t.2.2]).flatMap nodesO).length ≤ _
          omega
      refine xs_if (xt_eqI fx.u (xv 7) (xe_int (i := 2))) (fun _ => ?_) fun _ => ?_
      · refine ws_setll 3 (j := (p : Int)) (n := p) (we_tup (wa_cons (we_ixD (xv 2) (we_drawN (n := (ss ++ [m.1, m.2.1]).length) 0 gD fx.room fx.gd (xe_cast (j := ((ss ++ [m.1, m.2.1]).length : Nat)) (xe_len B (xv 2) (.inl rfl)) (by rw [List.length_map])) (by omega) (by omega) fun k hk => ⟨k, PyData.str (ss ++ [m.1, m.2.1])[k], rfl, by rw [List.getElem?_map, List.getElem?_eq_getElem hk]; rfl, wa_cons ((ix1 (xv 5)) _ (wa_cons ((ix2 (xv 5)) _ (wa_nil ⟨[_, _, _], rfl, (by show 3 ≤ sizeLine; decide), _, _, _, _, rfl, rfl, .ll, ixN_nat (by rw [List.length_map]; exact hp), xv 4, ?_⟩))))⟩))))
        refine ws_nil (ws_nil (ws_nil ((cast (congrArg _ (congrArg Out.nx ?_)) (key (ts.set p ((ss ++ [m.1, m.2.1])[k], t.2.1, t.2.2)) ⟨by rw [List.length_set]; omega, setok _ (self t htm), setc _ ct⟩)))))
        rw [List.map_set]
        rfl
      refine xs_if (xt_eqI fx.u (xv 7) (xe_int (i := 3))) (fun _ => ?_) fun _ => ?_
      · refine ws_setll 3 (j := (p : Int)) (n := p) (we_tup (wa_cons ((ix0 (xv 5)) _ (wa_cons (we_ixD (xv 2) (we_drawN (n := (ss ++ [m.1, m.2.1]).length) 0 gD fx.room fx.gd (xe_cast (j := ((ss ++ [m.1, m.2.1]).length : Nat)) (xe_len B (xv 2) (.inl rfl)) (by rw [List.length_map])) (by omega) (by omega) fun k hk => ⟨k, PyData.str (ss ++ [m.1, m.2.1])[k], rfl, by rw [List.getElem?_map, List.getElem?_eq_getElem hk]; rfl, wa_cons ((ix2 (xv 5)) _ (wa_nil ⟨[_, _, _], rfl, (by show 3 ≤ sizeLine; decide), _, _, _, _, rfl, rfl, .ll, ixN_nat (by rw [List.length_map]; exact hp), xv 4, ?_⟩))⟩))))))
        refine ws_nil (ws_nil (ws_nil (ws_nil ((cast (congrArg _ (congrArg Out.nx ?_)) (key (ts.set p (t.1, (ss ++ [m.1, m.2.1])[k], t.2.2)) ⟨by rw [List.length_set]; omega, setok _ (self t htm), setc _ ct⟩))))))
        rw [List.map_set]
        rfl
      refine xs_if (xt_eqI fx.u (xv 7) (xe_int (i := 4))) (fun _ => ?_) fun _ => ?_
      · refine ws_setll 3 (j := (p : Int)) (n := p) (we_pure (xe_tup3 (ix1 (xv 5)) (ix0 (xv 5)) (ix2 (xv 5))) ⟨_, _, _, _, rfl, rfl, .ll, ixN_nat (by rw [List.length_map]; exact hp), xv 4, ?_⟩)
        refine ws_nil (ws_nil (ws_nil (ws_nil (ws_nil ((cast (congrArg _ (congrArg Out.nx ?_)) (key (ts.set p (t.2.1, t.1, t.2.2)) ⟨by rw [List.length_set]; omega, setok _ (self t htm), setc _ ct⟩)))))))
        rw [List.map_set]
        rfl
      refine xs_if (xt_eqI fx.u (xv 7) (xe_int (i := 5))) (fun _ => ?_) fun _ => ?_
      · refine ws_setll 3 (j := (p : Int)) (n := p) (we_pure (xe_tup3 (ix0 (xv 5)) (ix1 (xv 5)) (ix2 (xv 6))) ⟨_, _, _, _, rfl, rfl, .ll, ixN_nat (by rw [List.length_map]; exact hp), xv 4, ?_⟩)
        refine ws_nil (ws_nil (ws_nil (ws_nil (ws_nil (ws_nil ((cast (congrArg _ (congrArg Out.nx ?_)) (key (ts.set p (t.1, t.2.1, m.2.2)) ⟨by rw [List.length_set]; omega, setok _ (self m hm), setc _ cm⟩))))))))
        rw [List.map_set]
        rfl
      refine ws_set 3 nd (we_catL (we_pure (xe_sliceS 3 (l := some (p : Nat)) (u := none) (.some (xv 4)) .none) ⟨_, .ll, we_pure (xe_sliceS 3 (l := none) (u := some (p : Nat)) .none (.some (xv 4))) ⟨_, .ll, few4 (by rw [cutD_from, cutD_to, List.length_drop, List.length_take]; omega), ?_⟩⟩))
      refine ws_nil (ws_nil (ws_nil (ws_nil (ws_nil (ws_nil ((cast (congrArg _ (congrArg Out.nx ?_)) (key (ts.drop p ++ ts.take p) ⟨by rw [(turn_perm ts p).length_eq]; omega, fun x hx => self x (trn_mem.mp hx), ?_⟩))))))))
      · rw [cutD_from, cutD_to, List.map_append (f := orA), List.map_drop, List.map_take]; rfl
      · rw [sum_perm ((turn_perm ts p).map (·.2.2))]
        omega
    rintro b ⟨lb, okb, cb⟩
    refine ws_frz 3 .ll ?_
    exact xs_ret (xe_tup2 (ix0 (xe_castD (xv 1) e)) (xe_tupOf B (xv 3))) ⟨_, .own (.da (.da .nil)), fin b lb okb cb⟩
  · skip
    have e := owD_parts ts
    have dw : ∀ m, OkO v m (.parts ts) → ∀ t ∈ ts, OkO v (m - 1) t.2.2 := fun m hm => by cases hm with | parts a b => exact a
    have lt : ts.length ≤ 100 + v := by cases okw with | parts a b => exact b
    have fin : ∀ ts' : List (Option Int × Option Int × Ow), ts'.length ≤ 100 + (v + 2) → (∀ t ∈ ts', ∃ t0 ∈ ts, t.2.2 = t0.2.2) → ((ts'.map (·.2.2)).flatMap nodesO).length ≤ 2 * ((ts.map (·.2.2)).flatMap nodesO).length → Ψ (.da (.tuple [.str "parts", .tuple (ts'.map orQ)])) [ST ⟨P, w0, K⟩, .da (owD (.parts ts)), .da (.list (ss.map plI))] := fun ts' h1 h2 h3 => by
      rw [← owD_parts]
      refine hq (.parts ts') ⟨fun m hm => ?_, by rw [cnt_parts, cnt_parts]; omega⟩
      have d := dw m hm
      cases hm with
      | parts a b =>
        refine .parts (fun t ht => ?_) h1
        obtain ⟨t0, ht0, e0⟩ := h2 t ht
        rw [e0]
        exact (a t0 ht0).up (by omega) (by omega)
    show WSs _ _ [some (.pin v0 (ST ⟨P, w0, K⟩)), some (.da (owD (.parts ts))), some (.da (.list (ss.map plI))), none, none, none, none, none] _
    refine xs_set 3 nd (xe_lstOf B (ix1 (xe_castD (xv 1) e)) (.inr rfl)) ?_
    show WSs _ _ [some (.pin v0 (ST ⟨P, w0, K⟩)), some (.da (owD (.parts ts))), some (.da (.list (ss.map plI))), some (.ll (ts.map orQ)), none, none, none, none] _
    refine xs_if (xt_eqI fx.u (xe_lenS 3 B) (xe_int (i := 0))) (fun hc => ?_) fun hc => ws_nil ?_
    · have hs0 : ss[0]? = some ss[0] := List.getElem?_eq_getElem (by omega)
      have hs1 : ss[1]? = some ss[1] := List.getElem?_eq_getElem (by omega)
      refine xs_ret (xe_tup2 (ix0 (xe_castD (xv 1) e)) (xe_tup1 (xe_tup3 (xe_ix (xv 2) xe_int (.inl rfl) (j := 0) (d := plI ss[0]) (atI_n (i := 0) (by rw [List.getElem?_map, hs0]; rfl))) (xe_ix (xv 2) xe_int (.inl rfl) (j := 1) (d := plI ss[1]) (atI_n (i := 1) (by rw [List.getElem?_map, hs1]; rfl))) (xe_tup1 xe_str)))) ⟨_, .own (.da (.da .nil)), ?_⟩
      have q2 := hq (.parts [(ss[0], ss[1], .bare "same" [])]) ⟨fun m hm => ?_, by rw [cnt_parts]; show 1 + 1 ≤ _; have := cnt_pos (.parts ts); omega⟩
      · rw [owD_parts, List.map_cons, List.map_nil] at q2
        unfold orQ at q2
        rw [owD_bare] at q2
        exact q2
      · refine .parts (fun t ht => ?_) (by show 1 ≤ _; omega)
        rw [List.mem_singleton.mp ht]
        cases hm with
        | parts a b => exact .bare (by decide +kernel) (by show 0 ≤ 10; decide)
    have hc : ¬ ts.length = 0 := fun h => by rw [List.length_map, h] at hc; cases hc
    have h0 : 0 < ts.length := by omega
    have lts : (ts.map orQ).length = ts.length := List.length_map ..
    refine ws_set 4 nd (we_drawN (n := ts.length) 0 gD fx.room fx.gd (xe_cast (j := (ts.length : Nat)) (xe_lenS 3 B) (by rw [List.length_map])) h0 (by omega) fun p hp => ?_)
    have ht : ts[p]? = some ts[p] := List.getElem?_eq_getElem hp
    generalize ts[p] = t at ht
    show WSs _ _ [some (.pin v0 (ST ⟨P, w0, K⟩)), some (.da (owD (.parts ts))), some (.da (.list (ss.map plI))), some (.ll (ts.map orQ)), some (.da (.int (p : Nat))), none, none, none] _
    refine xs_set 5 nd (xe_ixll 3 (xv 4) (d := orQ t) (hd := atI_n (by rw [List.getElem?_map, ht]; rfl))) ?_
    refine ws_set 6 nd (we_ixll 3 (we_drawN (n := ts.length) 0 gD fx.room fx.gd (xe_cast (j := (ts.length : Nat)) (xe_lenS 3 B) (by rw [List.length_map])) h0 (by omega) fun p2 hp2 => ⟨_, orQ ts[p2], _, _, _, rfl, rfl, .ll, atI_n (by rw [List.getElem?_map, List.getElem?_eq_getElem hp2]; rfl), ?_⟩))
    have hm : ts[p2] ∈ ts := List.getElem_mem hp2
    generalize ts[p2] = m at hm
    have htm := List.mem_of_getElem? ht
    show WSs _ _ [some (.pin v0 (ST ⟨P, w0, K⟩)), some (.da (owD (.parts ts))), some (.da (.list (ss.map plI))), some (.ll (ts.map orQ)), some (.da (.int (p : Nat))), some (.da (orQ t)), some (.da (orQ m)), none] _
    refine xs_set 2 nd (xe_catL (ds := ss.map plI) (es' := [plI m.1, plI m.2.1]) (few4 (by rw [List.length_map]; show ss.length + 2 ≤ _; omega)) (xv 2) (xe_frz (fun _ hq' => we_lst (wa_cons ((ix0 (xv 6)) _ (wa_cons ((ix1 (xv 6)) _ (wa_nil ⟨[plI m.1, plI m.2.1], rfl, (by show 2 ≤ sizeLine; decide), hq'⟩)))))))) ?_
    refine ws_frz 2 .ll ?_
    rw [show ss.map plI ++ [plI m.1, plI m.2.1] = (ss ++ [m.1, m.2.1]).map plI by rw [List.map_append]; rfl]
    have lU : (ss ++ [m.1, m.2.1]).length = ss.length + 2 := by rw [List.length_append]; rfl
    refine ws_set 7 nd (we_drawN (n := 7) 0 gD fx.room fx.gd xe_int (by decide) (by decide) fun q hq7 => ?_)
    show WSs _ _ [some (.pin v0 (ST ⟨P, w0, K⟩)), some (.da (owD (.parts ts))), some (.da (.list (((ss ++ [m.1, m.2.1]).map plI)))), some (.ll (ts.map orQ)), some (.da (.int (p : Nat))), some (.da (orQ t)), some (.da (orQ m)), some (.da (.int (q : Nat)))] _
    have ct := sum_mem (List.mem_map_of_mem (f := (·.2.2)) htm)
    have cm := sum_mem (List.mem_map_of_mem (f := (·.2.2)) hm)
    have self : ∀ x ∈ ts, ∃ t0 ∈ ts, x.2.2 = t0.2.2 := fun x hx => ⟨x, hx, rfl⟩
    have setok : ∀ u : Option Int × Option Int × Ow, (∃ t0 ∈ ts, u.2.2 = t0.2.2) → ∀ x ∈ ts.set p u, ∃ t0 ∈ ts, x.2.2 = t0.2.2 := fun u hu x hx => by
      rcases List.mem_or_eq_of_mem_set hx with hx | rfl
      · exact self x hx
      · exact hu
    have setc : ∀ u : Option Int × Option Int × Ow, cnt u.2.2 ≤ ((ts.map (·.2.2)).flatMap nodesO).length → (((ts.set p u).map (·.2.2)).flatMap nodesO).length ≤ 2 * ((ts.map (·.2.2)).flatMap nodesO).length := fun u hu => by
      rw [List.map_set]
      have := sum_set (ws := ts.map (·.2.2)) (j := p) (k := u.2.2)
      omega
    refine ws_meet (fun b : List (Option Int × Option Int × Ow) => [some (.pin v0 (ST ⟨P, w0, K⟩)), some (.da (owD (.parts ts))), some (.da (.list (((ss ++ [m.1, m.2.1]).map plI)))), some (.ll (b.map orQ)), some (.da (.int (p : Nat))), some (.da (orQ t)), some (.da (orQ m)), some (.da (.int (q : Nat)))]) (fun b => b.length ≤ 100 + (v + 2) ∧ (∀ t ∈ b, ∃ t0 ∈ ts, t.2.2 = t0.2.2) ∧ ((b.map (·.2.2)).flatMap nodesO).length ≤ 2 * ((ts.map (·.2.2)).flatMap nodesO).length) (fun key => wt_pure (xt_eqI fx.u (xv 7) (xe_int (i := 0))) ⟨fun _ => ?_, fun _ => ?_⟩) ?_
    · refine ws_expr (we_popAt 3 (we_pure (xv 4) ⟨p, _, _, _, orQ t, rfl, rfl, .ll, by rw [List.getElem?_map, ht]; rfl, by rw [List.length_map]; omega, ?_⟩))
      refine ws_nil (cast (congrArg _ (congrArg Out.nx ?_)) (key (ts.eraseIdx p) ⟨Nat.le_trans (List.length_eraseIdx_le ..) (by omega), fun x hx => self x (List.mem_of_mem_eraseIdx hx), ?_⟩))
      · rw [map_erase]; rfl
      · rw [← map_erase]
        have := sum_erase (ws := ts.map (·.2.2)) (j := p)
        omega
    · refine xs_if (xt_eqI fx.u (xv 7) (xe_int (i := 1))) (fun _ => ?_) fun _ => ?_
      · refine ws_expr (we_append 3 (we_pure (xv 5) ⟨_, _, _, _, rfl, rfl, .ll, Nat.lt_of_le_of_lt (show (ts.map orQ).length ≤ 200 by omega) (by decide), ?_⟩))
        refine ws_nil (ws_nil (cast (congrArg _ (congrArg Out.nx ?_)) (key (ts ++ [t]) ⟨by rw [List.length_append]; show ts.length + 1 ≤ _; omega, fun x hx => ?_, ?_⟩)))
        · rw [List.map_append (f := orQ)]; rfl
        · rcases List.mem_append.mp hx with hx | hx
          · exact self x hx
          · rw [List.mem_singleton.mp hx]; exact self t htm
        · rw [List.map_append]
          have := sum_snoc (ws := ts.map (·.2.2)) (k := t.2.2)
          show (((ts.map (·.2.2)) ++ [t.2.2]).flatMap nodesO).length ≤ _
          omega
      refine xs_if (xt_eqI fx.u (xv 7) (xe_int (i := 2))) (fun _ => ?_) fun _ => ?_
      · refine ws_setll 3 (j := (p : Int)) (n := p) (we_tup (wa_cons (we_ixD (xv 2) (we_drawN (n := (ss ++ [m.1, m.2.1]).length) 0 gD fx.room fx.gd (xe_cast (j := ((ss ++ [m.1, m.2.1]).length : Nat)) (xe_len B (xv 2) (.inl rfl)) (by rw [List.length_map])) (by omega) (by omega) fun k hk => ⟨k, plI (ss ++ [m.1, m.2.1])[k], rfl, by rw [List.getElem?_map, List.getElem?_eq_getElem hk]; rfl, wa_cons ((ix1 (xv 5)) _ (wa_cons ((ix2 (xv 5)) _ (wa_nil ⟨[_, _, _], rfl, (by show 3 ≤ sizeLine; decide), _, _, _, _, rfl, rfl, .ll, ixN_nat (by rw [List.length_map]; exact hp), xv 4, ?_⟩))))⟩))))
        refine ws_nil (ws_nil (ws_nil ((cast (congrArg _ (congrArg Out.nx ?_)) (key (ts.set p ((ss ++ [m.1, m.2.1])[k], t.2.1, t.2.2)) ⟨by rw [List.length_set]; omega, setok _ (self t htm), setc _ ct⟩)))))
        rw [List.map_set]
        rfl
      refine xs_if (xt_eqI fx.u (xv 7) (xe_int (i := 3))) (fun _ => ?_) fun _ => ?_
      · refine ws_setll 3 (j := (p : Int)) (n := p) (we_tup (wa_cons ((ix0 (xv 5)) _ (wa_cons (we_ixD (xv 2) (we_drawN (n := (ss ++ [m.1, m.2.1]).length) 0 gD fx.room fx.gd (xe_cast (j := ((ss ++ [m.1, m.2.1]).length : Nat)) (xe_len B (xv 2) (.inl rfl)) (by rw [List.length_map])) (by omega) (by omega) fun k hk => ⟨k, plI (ss ++ [m.1, m.2.1])[k], rfl, by rw [List.getElem?_map, List.getElem?_eq_getElem hk]; rfl, wa_cons ((ix2 (xv 5)) _ (wa_nil ⟨[_, _, _], rfl, (by show 3 ≤ sizeLine; decide), _, _, _, _, rfl, rfl, .ll, ixN_nat (by rw [List.length_map]; exact hp), xv 4, ?_⟩))⟩))))))
        refine ws_nil (ws_nil (ws_nil (ws_nil ((cast (congrArg _ (congrArg Out.nx ?_)) (key (ts.set p (t.1, (ss ++ [m.1, m.2.1])[k], t.2.2)) ⟨by rw [List.length_set]; omega, setok _ (self t htm), setc _ ct⟩))))))
        rw [List.map_set]
        rfl
      refine xs_if (xt_eqI fx.u (xv 7) (xe_int (i := 4))) (fun _ => ?_) fun _ => ?_
      · refine ws_setll 3 (j := (p : Int)) (n := p) (we_pure (xe_tup3 (ix1 (xv 5)) (ix0 (xv 5)) (ix2 (xv 5))) ⟨_, _, _, _, rfl, rfl, .ll, ixN_nat (by rw [List.length_map]; exact hp), xv 4, ?_⟩)
        refine ws_nil (ws_nil (ws_nil (ws_nil (ws_nil ((cast (congrArg _ (congrArg Out.nx ?_)) (key (ts.set p (t.2.1, t.1, t.2.2)) ⟨by rw [List.length_set]; omega, setok _ (self t htm), setc _ ct⟩)))))))
        rw [List.map_set]
        rfl
      refine xs_if (xt_eqI fx.u (xv 7) (xe_int (i := 5))) (fun _ => ?_) fun _ => ?_
      · refine ws_setll 3 (j := (p : Int)) (n := p) (we_pure (xe_tup3 (ix0 (xv 5)) (ix1 (xv 5)) (ix2 (xv 6))) ⟨_, _, _, _, rfl, rfl, .ll, ixN_nat (by rw [List.length_map]; exact hp), xv 4, ?_⟩)
        refine ws_nil (ws_nil (ws_nil (ws_nil (ws_nil (ws_nil ((cast (congrArg _ (congrArg Out.nx ?_)) (key (ts.set p (t.1, t.2.1, m.2.2)) ⟨by rw [List.length_set]; omega, setok _ (self m hm), setc _ cm⟩))))))))
        rw [List.map_set]
        rfl
      refine ws_set 3 nd (we_catL (we_pure (xe_sliceS 3 (l := some (p : Nat)) (u := none) (.some (xv 4)) .none) ⟨_, .ll, we_pure (xe_sliceS 3 (l := none) (u := some (p : Nat)) .none (.some (xv 4))) ⟨_, .ll, few4 (by rw [cutD_from, cutD_to, List.length_drop, List.length_take]; omega), ?_⟩⟩))
      refine ws_nil (ws_nil (ws_nil (ws_nil (ws_nil (ws_nil ((cast (congrArg _ (congrArg Out.nx ?_)) (key (ts.drop p ++ ts.take p) ⟨by rw [(turn_perm ts p).length_eq]; omega, fun x hx => self x (trn_mem.mp hx), ?_⟩))))))))
      · rw [cutD_from, cutD_to, List.map_append (f := orQ), List.map_drop, List.map_take]; rfl
      · rw [sum_perm ((turn_perm ts p).map (·.2.2))]
        omega
    rintro b ⟨lb, okb, cb⟩
    refine ws_frz 3 .ll ?_
    exact xs_ret (xe_tup2 (ix0 (xe_castD (xv 1) e)) (xe_tupOf B (xv 3))) ⟨_, .own (.da (.da .nil)), fin b lb okb cb⟩
end
end Law
/-! WXg: the drawn ways, what is asked, the law k13. -/
namespace Law
open PySem PySem.Spec PyProof.Rows L2 TL
def hdO : Ow → Str
  | .bare s _ => s
  | .table _ _ => "table"
  | .apart _ _ => "apart"
  | .some_ _ _ => "some"
  | .must _ _ => "must"
  | .opt _ => "opt"
  | .each _ => "each"
  | .arms _ => "arms"
  | .parts _ => "parts"
theorem owD_hd (w : Ow) : ∃ ds, owD w = .tuple (.str (hdO w) :: ds) := by cases w <;> exact ⟨_, by rw [owD]; rfl⟩
abbrev six (w : Ow) : List PyData := [.tuple [.str "same"], .tuple [.str "rank"], .tuple [.str "clip"], .tuple [.str "nope"], .tuple [.str "Same", .int 1, .tuple []], .tuple [.str "", owD w]]
abbrev four (w : Ow) : List PyData := [.tuple [.str "opt", owD w], .tuple [.str "each", owD w], .tuple [.str "some", owD w, .int 0], .tuple [.str "must", owD w, .tuple []]]
abbrev bares : List PyData := [.tuple [.str "same"], .tuple [.str "rank"], .tuple [.str "clip"], .tuple [.str "ranks"]]
theorem six_ok {v : Nat} {w : Ow} {j : Nat} (hj : j < 6) : ∃ fr, (six w)[j]? = some (owD fr) ∧ OkB v w fr := by
  rcases j with _ | _ | _ | _ | _ | _ | j
  · exact ⟨.bare "same" [], by rw [owD_bare]; rfl, okb_bare (by decide +kernel) (by show 0 ≤ 10; decide)⟩
  · exact ⟨.bare "rank" [], by rw [owD_bare]; rfl, okb_bare (by decide +kernel) (by show 0 ≤ 10; decide)⟩
  · exact ⟨.bare "clip" [], by rw [owD_bare]; rfl, okb_bare (by decide +kernel) (by show 0 ≤ 10; decide)⟩
  · exact ⟨.bare "nope" [], by rw [owD_bare]; rfl, okb_bare (by decide +kernel) (by show 0 ≤ 10; decide)⟩
  · exact ⟨.bare "Same" [.int 1, .tuple []], by rw [owD_bare]; rfl, okb_bare (by decide +kernel) (by show 2 ≤ 10; decide)⟩
  · exact ⟨.bare "" [owD w], by rw [owD_bare]; rfl, okb_bare (by decide +kernel) (by show 1 ≤ 10; decide)⟩
  · omega
theorem bares_ok {v : Nat} {w : Ow} {j : Nat} (hj : j < 4) : ∃ fr, bares[j]? = some (owD fr) ∧ OkB v w fr := by
  rcases j with _ | _ | _ | _ | j
  · exact ⟨.bare "same" [], by rw [owD_bare]; rfl, okb_bare (by decide +kernel) (by show 0 ≤ 10; decide)⟩
  · exact ⟨.bare "rank" [], by rw [owD_bare]; rfl, okb_bare (by decide +kernel) (by show 0 ≤ 10; decide)⟩
  · exact ⟨.bare "clip" [], by rw [owD_bare]; rfl, okb_bare (by decide +kernel) (by show 0 ≤ 10; decide)⟩
  · exact ⟨.bare "ranks" [], by rw [owD_bare]; rfl, okb_bare (by decide +kernel) (by show 0 ≤ 10; decide)⟩
  · omega
theorem four_ok {v : Nat} {w : Ow} {j : Nat} (hv : 2 ≤ v) (hj : j < 4) : ∃ fr, (four w)[j]? = some (owD fr) ∧ OkB v w fr := by
  have up : ∀ m, OkO v m w → OkO (v + 2) m w := fun m h => h.up (by omega) (Nat.le_refl _)
  have cp := cnt_pos w
  rcases j with _ | _ | _ | _ | j
  · exact ⟨.opt w, by rw [owD_opt]; rfl, fun m h => .opt (up m h), by rw [cnt_opt]; omega⟩
  · exact ⟨.each w, by rw [owD_each]; rfl, fun m h => .each (up m h), by rw [cnt_each]; omega⟩
  · exact ⟨.some_ w (.int 0), by rw [owD_some]; rfl, fun m h => .some_ (up m h) (gd_int _ _), by rw [cnt_some]; omega⟩
  · exact ⟨.must w (.tuple []), by rw [owD_must]; rfl, fun m h => .must (up m h) ((gd_unit 0).mono (by omega)), by rw [cnt_must]; omega⟩
  · omega
/-! ### right ways as odd ways -/
def owP : Pw → Ow
  | .same => .bare "same" []
  | .rank => .bare "rank" []
  | .clip => .bare "clip" []
  | .table f g => .table f g
  | .apart d e => .apart d e
mutual
def owOf : Wy → Ow
  | .plain p => owP p
  | .some_ w d => .some_ (owOf w) d
  | .must w d => .must (owOf w) d
  | .opt w => .opt (owOf w)
  | .each w => .each (owOf w)
  | .arms ts => .arms (ofA ts)
  | .parts ts => .parts (ofQ ts)
def ofA : List (Str × Str × Wy) → List (Str × Str × Ow)
  | [] => []
  | (a, b, w) :: ts => (a, b, owOf w) :: ofA ts
def ofQ : List (Option Nat × Option Nat × Wy) → List (Option Int × Option Int × Ow)
  | [] => []
  | (a, b, w) :: ts => (a.map Int.ofNat, b.map Int.ofNat, owOf w) :: ofQ ts
end
theorem ofA_map : ∀ ts, ofA ts = ts.map fun t => (t.1, t.2.1, owOf t.2.2)
  | [] => by rw [ofA]; rfl
  | (a, b, w) :: ts => by rw [ofA, ofA_map ts]; rfl
theorem ofQ_map : ∀ ts, ofQ ts = ts.map fun t => (t.1.map Int.ofNat, t.2.1.map Int.ofNat, owOf t.2.2)
  | [] => by rw [ofQ]; rfl
  | (a, b, w) :: ts => by rw [ofQ, ofQ_map ts]; rfl
theorem pl_of (p : Option Nat) : plI (p.map Int.ofNat) = plD p := by cases p <;> rfl
mutual
theorem owOf_D : ∀ w : Wy, owD (owOf w) = wyD w
  | .plain p => by rw [owOf]; cases p <;> (rw [owP, owD, wyD]; rfl)
  | .some_ w d => by rw [owOf, owD, wyD, owOf_D w]
  | .must w d => by rw [owOf, owD, wyD, owOf_D w]
  | .opt w => by rw [owOf, owD, wyD, owOf_D w]
  | .each w => by rw [owOf, owD, wyD, owOf_D w]
  | .arms ts => by rw [owOf, owD, wyD, owA_of ts]
  | .parts ts => by rw [owOf, owD, wyD, owQ_of ts]
theorem owA_of : ∀ ts, owA (ofA ts) = wyA ts
  | [] => by rw [ofA, owA, wyA]
  | (a, b, w) :: ts => by rw [ofA, owA, wyA, owOf_D w, owA_of ts]
theorem owQ_of : ∀ ts, owQ (ofQ ts) = wyQ ts
  | [] => by rw [ofQ, owQ, wyQ]
  | (a, b, w) :: ts => by rw [ofQ, owQ, wyQ, owOf_D w, owQ_of ts, pl_of, pl_of]
end
theorem vl50 {n : Nat} {k : Kd} {v : PyData} (rt : Rt n k) (hn : n ≤ 5) (h : v ∈ vl k) : Gd 50 v := ⟨(vl_vd rt v h).plain, by have := (vl_vd rt v h).depth; omega⟩
theorem owOf_ok : ∀ {n : Nat} {w : Wy}, Wd n w → ∀ {l r : Kd}, Wok w l r → FK l → FK r → OkO 50 n (owOf w)
  | _, _, .plain (p := p), l, r, ok, fl, fr => by
    rw [owOf]
    cases ok with
    | plain hp ap =>
    cases hp with
    | same => exact .bare (by decide +kernel) (by show 0 ≤ 10; decide)
    | rank _ => exact .bare (by decide +kernel) (by show 0 ≤ 10; decide)
    | clip _ _ => exact .bare (by decide +kernel) (by show 0 ≤ 10; decide)
    | table t => exact .table (fun x hx => vl50 fr.rt (by decide) (t.mf x hx)) (fun x hx => vl50 fl.rt (by decide) (t.mg x hx)) (by have := t.lf; have := fl.few; omega) (by have := t.lg; have := fr.few; omega)
    | apart he => exact .apart (vl50 fl.rt (by decide) (ap _ _ rfl)) (vl50 fr.rt (by decide) he)
  | _, _, .some_ (d := d) h, l, r, ok, fl, fr => by
    rw [owOf]
    cases ok with
    | some_ a b => exact .some_ (owOf_ok h a fl fr.opt) (vl50 fl.rt (by decide) b)
  | _, _, .must h, l, r, ok, fl, fr => by
    rw [owOf]
    cases ok with
    | must a b => exact .must (owOf_ok h a fl.opt fr) (vl50 fr.rt (by decide) b)
  | _, _, .opt h, l, r, ok, fl, fr => by
    rw [owOf]
    cases ok with
    | opt a => exact .opt (owOf_ok h a fl.opt fr.opt)
  | _, _, .each h, l, r, ok, fl, fr => by
    rw [owOf]
    cases ok with
    | each a => exact .each (owOf_ok h a fl.row fr.row)
  | _, _, .arms (ts := ts) h lt, l, r, ok, fl, fr => by
    rw [owOf, ofA_map]
    cases ok with
    | arms h1 h2 _ _ _ =>
      refine .arms (fun t ht => ?_) (by rw [List.length_map]; omega)
      obtain ⟨t0, ht0, rfl⟩ := List.mem_map.mp ht
      obtain ⟨m1, m2⟩ := h2 t0 ht0
      exact owOf_ok (h t0 ht0) (h1 t0 ht0) (fl.arm m1) (fr.arm m2)
  | _, _, .parts (ts := ts) h lt, l, r, ok, fl, fr => by
    rw [owOf, ofQ_map]
    cases ok with
    | parts h1 _ _ =>
      refine .parts (fun t ht => ?_) (by rw [List.length_map]; have := lt.1; omega)
      obtain ⟨t0, ht0, rfl⟩ := List.mem_map.mp ht
      exact owOf_ok (h t0 ht0) (h1 t0 ht0) (fl.part _) (fr.part _)
theorem sum_bound {ws : List Ow} {b : Nat} (h : ∀ w ∈ ws, cnt w ≤ b) : (ws.flatMap nodesO).length ≤ ws.length * b := by
  induction ws with
  | nil => exact Nat.zero_le _
  | cons w ws ih =>
    rw [List.flatMap_cons, List.length_append, List.length_cons, Nat.succ_mul]
    have h1 := h w List.mem_cons_self
    have h2 := ih fun x hx => h x (List.mem_cons_of_mem _ hx)
    have h1 : (nodesO w).length ≤ b := h1
    omega
abbrev bd (a b : Nat) : Nat := (a + b) * 21 ^ (max a b - 1)
theorem bd_pos {a b : Nat} (h : 1 ≤ a) : 1 ≤ bd a b := Nat.mul_pos (by omega) (Nat.pow_pos (by decide))
theorem bd_step {a b a' b' : Nat} (hs : a' + b' + 1 ≤ a + b) (hm : max a' b' ≤ max a b) : bd a' b' + 1 ≤ bd a b := by
  have hp : 21 ^ (max a' b' - 1) ≤ 21 ^ (max a b - 1) := Nat.pow_le_pow_right (by decide) (by omega)
  have h1 : bd a' b' ≤ (a' + b') * 21 ^ (max a b - 1) := Nat.mul_le_mul_left _ hp
  have h2 : (a' + b' + 1) * 21 ^ (max a b - 1) ≤ bd a b := Nat.mul_le_mul_right _ hs
  have h3 : 1 ≤ 21 ^ (max a b - 1) := Nat.pow_pos (by decide)
  rw [Nat.succ_mul] at h2
  omega
theorem bd_many {a b a' b' : Nat} (hs : a' + b' + 1 ≤ a + b) (hm : max a' b' + 1 ≤ max a b) (h1 : 1 ≤ max a' b') : 20 * bd a' b' + 1 ≤ bd a b := by
  have e : 21 ^ (max a b - 1) = 21 * 21 ^ (max a b - 2) := by rw [← Nat.pow_succ', show (max a b - 2).succ = max a b - 1 by omega]
  have hp : 21 ^ (max a' b' - 1) ≤ 21 ^ (max a b - 2) := Nat.pow_le_pow_right (by decide) (by omega)
  have h2 : bd a' b' ≤ (a' + b') * 21 ^ (max a b - 2) := Nat.mul_le_mul_left _ hp
  have h3 : (a' + b' + 1) * 21 ^ (max a b - 2) ≤ (a + b) * 21 ^ (max a b - 2) := Nat.mul_le_mul_right _ hs
  have h4 : 1 ≤ 21 ^ (max a b - 2) := Nat.pow_pos (by decide)
  have h5 : bd a b = 21 * ((a + b) * 21 ^ (max a b - 2)) := by show (a + b) * 21 ^ (max a b - 1) = _; rw [e, Nat.mul_left_comm]
  rw [Nat.succ_mul] at h3
  rw [h5]
  omega
theorem Rt.posN {n : Nat} {k : Kd} (h : Rt n k) : 1 ≤ n := by cases h <;> omega
theorem range_lt1 {ts : List (Option Nat × Option Nat × Wy)} {n i : Nat} {t : Option Nat × Option Nat × Wy} (h : (ts.filterMap (·.1)).Perm (List.range n)) (ht : t ∈ ts) (e : t.1 = some i) : i < n := List.mem_range.mp (h.mem_iff.mp (List.mem_filterMap.mpr ⟨t, ht, e⟩))
theorem range_lt {ts : List (Option Nat × Option Nat × Wy)} {n i : Nat} {t : Option Nat × Option Nat × Wy} (h : (ts.filterMap (·.2.1)).Perm (List.range n)) (ht : t ∈ ts) (e : t.2.1 = some i) : i < n := List.mem_range.mp (h.mem_iff.mp (List.mem_filterMap.mpr ⟨t, ht, e⟩))
theorem owOf_cnt : ∀ {n : Nat} {w : Wy}, Wd n w → ∀ {l r : Kd}, Wok w l r → ∀ {a b : Nat}, Rt a l → Rt b r → cnt (owOf w) ≤ bd a b
  | _, _, .plain (p := p), l, r, ok, a, b, rl, rr => by
    have ha : 1 ≤ a := rl.posN
    have c1 : cnt (owOf (.plain p)) = 1 := by rw [owOf]; cases p <;> exact cnt_leaf rfl
    rw [c1]
    exact bd_pos ha
  | _, _, .some_ (d := d) h, l, r, ok, a, b, rl, rr => by
    cases ok with
    | some_ x y =>
      obtain ⟨m, rfl, rm⟩ := rr.opt_in
      have := owOf_cnt h x rl rm
      rw [owOf, cnt_some]
      exact Nat.le_trans (Nat.succ_le_succ this) (bd_step (by omega) (by omega))
  | _, _, .must h, l, r, ok, a, b, rl, rr => by
    cases ok with
    | must x y =>
      obtain ⟨m, rfl, rm⟩ := rl.opt_in
      have := owOf_cnt h x rm rr
      rw [owOf, cnt_must]
      exact Nat.le_trans (Nat.succ_le_succ this) (bd_step (by omega) (by omega))
  | _, _, .opt h, l, r, ok, a, b, rl, rr => by
    cases ok with
    | opt x =>
      obtain ⟨m, rfl, rm⟩ := rl.opt_in
      obtain ⟨k, rfl, rk⟩ := rr.opt_in
      have := owOf_cnt h x rm rk
      rw [owOf, cnt_opt]
      exact Nat.le_trans (Nat.succ_le_succ this) (bd_step (by omega) (by omega))
  | _, _, .each h, l, r, ok, a, b, rl, rr => by
    cases ok with
    | each x =>
      obtain ⟨m, rfl, rm, _⟩ := rl.row_in
      obtain ⟨k, rfl, rk, _⟩ := rr.row_in
      have := owOf_cnt h x rm rk
      rw [owOf, cnt_each]
      exact Nat.le_trans (Nat.succ_le_succ this) (bd_step (by omega) (by omega))
  | _, _, .arms (ts := ts) h lt, l, r, ok, a, b, rl, rr => by
    cases ok with
    | @arms _ xs ys h1 h2 h3 _ _ =>
      obtain ⟨a', rfl, ra⟩ : ∃ m, a = m + 1 ∧ ∀ s ∈ xs.map (·.1), Rt m (armL xs s) := by
        cases rl with
        | @one m _ q1 q2 q3 q4 => exact ⟨m, rfl, fun s hs => q4 _ (armL_mem (Rt.one_nd (.one q1 q2 q3 q4)) hs)⟩
      obtain ⟨b', rfl, rb⟩ : ∃ m, b = m + 1 ∧ ∀ s ∈ ys.map (·.1), Rt m (armL ys s) := by
        cases rr with
        | @one m _ q1 q2 q3 q4 => exact ⟨m, rfl, fun s hs => q4 _ (armL_mem (Rt.one_nd (.one q1 q2 q3 q4)) hs)⟩
      rw [owOf, ofA_map, cnt_arms, List.map_map]
      by_cases hz : ts = []
      · rw [hz]
        exact bd_pos (by omega)
      · obtain ⟨t1, ht1⟩ := List.exists_mem_of_ne_nil ts hz
        have p1 : 1 ≤ a' := (ra _ (h2 t1 ht1).1).posN
        refine Nat.le_trans (Nat.succ_le_succ (sum_bound (b := bd a' b') fun w hw => ?_)) ?_
        · obtain ⟨t, ht, rfl⟩ := List.mem_map.mp hw
          exact owOf_cnt (h t ht) (h1 t ht) (ra _ (h2 t ht).1) (rb _ (h2 t ht).2)
        · rw [List.length_map]
          refine Nat.le_trans (Nat.succ_le_succ (Nat.mul_le_mul_right _ lt)) (bd_many (by omega) (by omega) (by omega))
  | _, _, .parts (ts := ts) h lt, l, r, ok, a, b, rl, rr => by
    cases ok with
    | @parts _ ps qs h1 h2 h3 =>
      obtain ⟨a', rfl, ra⟩ : ∃ m, a = m + 1 ∧ ∀ p ∈ ps, Rt m p.2 := by
        cases rl with
        | @rec_ m _ q1 q2 => exact ⟨m, rfl, q2⟩
      obtain ⟨b', rfl, rb⟩ : ∃ m, b = m + 1 ∧ ∀ p ∈ qs, Rt m p.2 := by
        cases rr with
        | @rec_ m _ q1 q2 => exact ⟨m, rfl, q2⟩
      have part : ∀ (ps : List (Str × Kd)) (m : Nat), (∀ p ∈ ps, Rt m p.2) → ∀ i, i < ps.length → Rt m (partK (.rec_ ps) (some i)) := fun ps m q i hi => by
        rw [partK_at (List.getElem?_eq_getElem hi)]
        exact q _ (List.getElem_mem hi)
      rw [owOf, ofQ_map, cnt_parts, List.map_map]
      by_cases hz : ts = []
      · rw [hz]
        exact bd_pos (by omega)
      · have key : ∀ t ∈ ts, ∃ a1 b1, Rt a1 (partK (.rec_ ps) t.1) ∧ Rt b1 (partK (.rec_ qs) t.2.1) ∧ a1 ≤ max a' 1 ∧ b1 ≤ max b' 1 ∧ 1 ≤ max a' b' ∧ a1 + b1 + 1 ≤ a' + 1 + (b' + 1) ∧ max a1 b1 ≤ max a' b' := fun t ht => by
          have l1 : ∀ i, t.1 = some i → i < ps.length := fun i e => range_lt1 h2 ht e
          have l2 : ∀ i, t.2.1 = some i → i < qs.length := fun i e => range_lt h3 ht e
          have nn := lt.2 t ht
          have pos : ∀ {m : Nat} {k : Kd}, Rt m k → 1 ≤ m := fun r => r.posN
          cases e1 : t.1 with
          | none =>
            cases e2 : t.2.1 with
            | none => rw [e1, e2] at nn; rcases nn with h | h <;> exact absurd rfl h
            | some j =>
              have q := part qs b' rb j (l2 j e2)
              have := pos q
              exact ⟨1, b', noth_rt, q, by omega, by omega, by omega, by omega, by omega⟩
          | some i =>
            have q := part ps a' ra i (l1 i e1)
            have := pos q
            cases e2 : t.2.1 with
            | none => exact ⟨a', 1, q, noth_rt, by omega, by omega, by omega, by omega, by omega⟩
            | some j =>
              have q2 := part qs b' rb j (l2 j e2)
              have := pos q2
              exact ⟨a', b', q, q2, by omega, by omega, by omega, by omega, by omega⟩
        have all : ∀ t ∈ ts, 20 * cnt (owOf t.2.2) + 1 ≤ bd (a' + 1) (b' + 1) := fun t ht => by
          obtain ⟨a1, b1, r1, r2, _, _, m1, s1, mm⟩ := key t ht
          have c := owOf_cnt (h t ht) (h1 t ht) r1 r2
          have p1 : 1 ≤ a1 := r1.posN
          exact Nat.le_trans (by omega) (bd_many s1 (by omega) (by omega))
        obtain ⟨b0, eb⟩ : ∃ b0, b0 = (bd (a' + 1) (b' + 1) - 1) / 20 := ⟨_, rfl⟩
        refine Nat.le_trans (Nat.succ_le_succ (sum_bound (b := b0) fun w hw => ?_)) ?_
        · obtain ⟨t, ht, rfl⟩ := List.mem_map.mp hw
          have := all t ht
          show cnt (owOf t.2.2) ≤ b0
          omega
        · rw [List.length_map]
          have h5 := Nat.mul_le_mul_right b0 lt.1
          obtain ⟨t1, ht1⟩ := List.exists_mem_of_ne_nil ts hz
          have := all t1 ht1
          omega
theorem cnt100 {n : Nat} {w : Wy} {l r : Kd} (h : Wd n w) (ok : Wok w l r) (fl : FK l) (fr : FK r) : cnt (owOf w) ≤ 100000 := Nat.le_trans (owOf_cnt h ok fl.rt fr.rt) (by decide)
theorem node_in : ∀ {n : Nat} {v : Nat} {u : Ow}, OkO v n u → ∀ x ∈ nodesO u, ∃ m, OkO v m x
  | 0, v, u, h => by cases h
  | n + 1, v, u, h => fun x hx => by
    rw [nodes_kids] at hx
    rcases List.mem_cons.mp hx with rfl | hx
    · exact ⟨_, h⟩
    · obtain ⟨k, hk, hx⟩ := List.mem_flatMap.mp hx
      exact node_in (kids_ok h k hk) x hx
theorem node_ok {n v p : Nat} {u x : Ow} (h : OkO v n u) (hx : (nodesO u)[p]? = some x) : ∃ m, OkO v m x := node_in h x (List.mem_of_getElem? hx)
theorem cnt_in : ∀ {n : Nat} {v : Nat} {u : Ow}, OkO v n u → ∀ x ∈ nodesO u, cnt x ≤ cnt u
  | 0, v, u, h => by cases h
  | n + 1, v, u, h => fun x hx => by
    rw [nodes_kids] at hx
    rcases List.mem_cons.mp hx with rfl | hx
    · exact Nat.le_refl _
    · obtain ⟨k, hk, hx⟩ := List.mem_flatMap.mp hx
      exact Nat.le_trans (cnt_in (kids_ok h k hk) x hx) (cnt_kid hk)
/-- worlds: a way and two kinds -/
structure Wl (w : Ow) (l r : Kd) : Prop where
  ok : OkO 50 7 w
  fl : FK l
  fr : FK r
  few : cnt w ≤ 100000
theorem Wl.fa {w : Ow} {l r : Kd} (h : Wl w l r) : FA w l r := ⟨⟨7, h.ok.up (by decide) (Nat.le_refl _)⟩, h.fl, h.fr⟩
def spWl (T : TC) : SpD := fun as Ψ => as = [ST T] ∧ ∀ (w : Ow) (l r : Kd), Wl w l r → Ψ (.ll [owD w, kD l, kD r]) as
def spAskF : SpD := fun as Ψ => ∃ (w : Ow) (l r : Kd), as = [.da (owD w), .da (kD l), .da (kD r)] ∧ FA w l r ∧ Ψ (.da (.bool true)) as
def spChg (T : TC) : SpD := fun as Ψ => ∃ w : Ow, as = [ST T, .da (owD w)] ∧ OkO 50 7 w ∧ cnt w ≤ 100000 ∧ ∀ w', OkO 60 9 w' → Ψ (.da (owD w')) as
def spAllA (T : TC) : SpD := fun as Ψ => ∃ (w : Ow) (l r : Kd), as = [ST T, .da (owD w), .da (kD l), .da (kD r)] ∧ Wl w l r ∧ Ψ (.da (.bool true)) as
abbrev wl3 (q : Ow × Kd × Kd) : PyData := .list [owD q.1, kD q.2.1, kD q.2.2]
def spWide (T : TC) : SpD := fun as Ψ => ∃ s : Nat, as = [ST T, .da (.int (s : Nat))] ∧ 1 ≤ s ∧ s ≤ 2001 ∧ ∀ lo hi, Rt 1 (.num lo hi) → sz (.num lo hi) = s → Ψ (.da (kD (.num lo hi))) as
section
variable {P : Program} {w0 : World} {K : PySem.W.Frag} {mg : Str → Option Value} {bs h : Heap} (X : K.In h) (G : h.Ns mainGlobals mg) (B : Blt mg)
include X G B
theorem d_wide (D : DK K "_law_wide" s_l_wide) (gD : Def P w0 K mg bs 2 "_law_own_draw" ["state", "many"] (spDrawO ⟨P, w0, K⟩)) : Def P w0 K mg bs 3 "_law_wide" ["state", "size"] (spWide ⟨P, w0, K⟩) := by
  refine def_ok X G D sc_l_wide (fun f fd F => F.binds (ps := ["state", "size"]) fun _ _ _ _ _ _ us hl => match us, hl with | [_, _], _ => rfl) (fun as Ψ h => by obtain ⟨_, rfl, _⟩ := h; rfl) fun f cdv A fr s H E fx as Ψ vs hsp hl => ?_
  obtain ⟨s, rfl, s1, s2, hq⟩ := hsp
  obtain ⟨v0, v1, rfl⟩ := ar2 hl
  have nd := fx.nd
  show WSs _ _ [some (.pin v0 (ST ⟨P, w0, K⟩)), some (.da (.int (s : Nat))), none] _
  refine ws_set 2 nd (we_min2 B fx.calm (we_sub (we_drawN (n := 9) 0 gD fx.room fx.gd xe_int (by decide) (by decide) fun q q9 => ⟨(q : Nat), rfl, we_pure xe_int ⟨4, rfl, _, rfl, we_pure (xe_sub xe_int (xv 1)) ⟨_, rfl, ?_⟩⟩⟩)))
  obtain ⟨lo, e, l1, l2⟩ : ∃ lo : Int, (if (1001 : Int) - (s : Nat) < (q : Nat) - 4 then (1001 : Int) - (s : Nat) else (q : Nat) - 4) = lo ∧ -1000 ≤ lo ∧ lo + (s : Nat) ≤ 1001 := by
    refine ⟨_, rfl, ?_, ?_⟩ <;> (split <;> omega)
  rw [e]
  show WSs _ _ [some (.pin v0 (ST ⟨P, w0, K⟩)), some (.da (.int (s : Nat))), some (.da (.int lo))] _
  have q2 := hq lo (lo + (s : Nat) - 1) (.num (by omega) (by omega) (by omega) (by omega)) (by have := sz_num (lo := lo) (hi := lo + (s : Nat) - 1) (by omega); omega)
  rw [kD] at q2
  exact xs_ret (xe_tup3 xe_str (xv 2) (xe_sub (xe_add (xv 2) (xv 1)) xe_int)) ⟨_, .own (.da .nil), q2⟩
end
end Law
/-! WXh: the drawn ways, what is asked, the law k13. -/
namespace Law
open PySem PySem.Spec PyProof.Rows L2 TL
section
variable {P : Program} {w0 : World} {K : PySem.W.Frag} {mg : Str → Option Value} {bs h : Heap} (X : K.In h) (G : h.Ns mainGlobals mg) (B : Blt mg)
include X G B
theorem d_bent (D : DK K "_law_own_bent" s_l_own_bent) (gD : Def P w0 K mg bs 2 "_law_own_draw" ["state", "many"] (spDrawO ⟨P, w0, K⟩)) (gO : Def P w0 K mg bs 3 "_law_odd" ["state", "value"] (spOdd ⟨P, w0, K⟩)) (gBT : Def P w0 K mg bs 4 "_law_bent_table" ["state", "node"] (spBTab ⟨P, w0, K⟩)) (gBR : Def P w0 K mg bs 3 "_law_bent_trios" ["state", "node", "strange"] (spBTri ⟨P, w0, K⟩)) : Def P w0 K mg bs 5 "_law_own_bent" ["state", "node"] (spBent ⟨P, w0, K⟩) := by
  refine def_ok X G D sc_l_own_bent (fun f fd F => F.binds (ps := ["state", "node"]) fun _ _ _ _ _ _ us hl => match us, hl with | [_, _], _ => rfl) (fun as Ψ h => by obtain ⟨_, _, _, rfl, _⟩ := h; rfl) fun f cdv A fr s H E fx as Ψ vs hsp hl => ?_
  obtain ⟨v, n, w, rfl, okw, v2, v58, hq⟩ := hsp
  obtain ⟨v0, v1, rfl⟩ := ar2 hl
  have nd := fx.nd
  have r2 := fx.room.mono (show 2 ≤ 4 by decide)
  have r3 := fx.room.mono (show 3 ≤ 4 by decide)
  obtain ⟨ds0, e0⟩ := owD_hd w
  show WSs _ _ [some (.pin v0 (ST ⟨P, w0, K⟩)), some (.da (owD w)), none, none] _
  refine xs_set 2 nd (ix0 (xe_castD (xv 1) e0)) ?_
  refine ws_set 3 nd (we_drawN (n := 8) 0 gD r2 fx.gd xe_int (by decide) (by decide) fun t ht => ?_)
  show WSs _ _ [some (.pin v0 (ST ⟨P, w0, K⟩)), some (.da (owD w)), some (.da (.str (hdO w))), some (.da (.int (t : Nat)))] _
  refine xs_if (xt_eqI fx.u (xv 3) (xe_int (i := 0))) (fun _ => ?_) fun _ => ws_nil ?_
  · refine ws_ret (we_ixD (ds := six w) (xe_frz (fun _ hq' => we_lst (wa_cons ((xe_tup1 xe_str) _ (wa_cons ((xe_tup1 xe_str) _ (wa_cons ((xe_tup1 xe_str) _ (wa_cons ((xe_tup1 xe_str) _ (wa_cons ((xe_tup3 xe_str xe_int xe_tup0) _ (wa_cons ((xe_tup2 xe_str (xv 1)) _ (wa_nil ⟨six w, rfl, (by show 6 ≤ sizeLine; decide), hq'⟩))))))))))))))) (we_drawN (n := 6) 0 gD r2 fx.gd xe_int (by decide) (by decide) fun j hj => ?_))
    obtain ⟨fr, e, okb⟩ := six_ok (v := v) (w := w) hj
    exact ⟨j, _, rfl, e, _, .own (.da .nil), hq fr okb⟩
  refine xs_if (xt_eqI fx.u (xv 3) (xe_int (i := 1))) (fun _ => ?_) fun _ => ws_nil ?_
  · refine ws_ret (we_ixD (ds := four w) (xe_frz (fun _ hq' => we_lst (wa_cons ((xe_tup2 xe_str (xv 1)) _ (wa_cons ((xe_tup2 xe_str (xv 1)) _ (wa_cons ((xe_tup3 xe_str (xv 1) xe_int) _ (wa_cons ((xe_tup3 xe_str (xv 1) xe_tup0) _ (wa_nil ⟨four w, rfl, (by show 4 ≤ sizeLine; decide), hq'⟩))))))))))) (we_drawN (n := 4) 0 gD r2 fx.gd xe_int (by decide) (by decide) fun j hj => ?_))
    obtain ⟨fr, e, okb⟩ := four_ok (v := v) (w := w) v2 hj
    exact ⟨j, _, rfl, e, _, .own (.da .nil), hq fr okb⟩
  clear e0
  cases okw with
  | @bare _ s ds hno hl =>
    show WSs _ _ [some (.pin v0 (ST ⟨P, w0, K⟩)), some (.da (owD _)), some (.da (.str s)), some (.da (.int (t : Nat)))] _
    refine xs_ifF (xt_isW fx.u (xv 2) (decide_eq_false fun h => hno (by rw [h]; decide +kernel))) (ws_nil ?_)
    refine xs_ifF (xt_isW fx.u (xv 2) (decide_eq_false fun h => hno (by rw [h]; decide +kernel))) (ws_nil ?_)
    refine xs_ifF (xt_cast (xt_or2 (k := false) (k2 := false) (xt_isW fx.u (xv 2) (decide_eq_false fun h => hno (by rw [h]; decide +kernel))) fun _ => xt_isW fx.u (xv 2) (decide_eq_false fun h => hno (by rw [h]; decide +kernel))) rfl) (ws_nil ?_)
    refine xs_ifF (xt_cast (xt_or2 (k := false) (k2 := false) (xt_isW fx.u (xv 2) (decide_eq_false fun h => hno (by rw [h]; decide +kernel))) fun _ => xt_isW fx.u (xv 2) (decide_eq_false fun h => hno (by rw [h]; decide +kernel))) rfl) (ws_nil ?_)
    refine xs_ifF (xt_isW fx.u (xv 2) (decide_eq_false fun h => hno (by rw [h]; decide +kernel))) (ws_nil ?_)
    refine xs_ifF (xt_isW fx.u (xv 2) (decide_eq_false fun h => hno (by rw [h]; decide +kernel))) (ws_nil ?_)
    refine ws_ret (we_ixD (ds := bares) (xe_frz (fun _ hq' => we_lst (wa_cons ((xe_tup1 xe_str) _ (wa_cons ((xe_tup1 xe_str) _ (wa_cons ((xe_tup1 xe_str) _ (wa_cons ((xe_tup1 xe_str) _ (wa_nil ⟨bares, rfl, (by show 4 ≤ sizeLine; decide), hq'⟩))))))))))) (we_drawN (n := 4) 0 gD r2 fx.gd xe_int (by decide) (by decide) fun j hj => ?_))
    obtain ⟨fr, e, okb⟩ := bares_ok (v := v) (w := .bare s ds) hj
    exact ⟨j, _, rfl, e, _, .own (.da .nil), hq fr okb⟩
  | @table n f g h1 h2 h3 h4 =>
    have e := owD_table f g
    show WSs _ _ [some (.pin v0 (ST ⟨P, w0, K⟩)), some (.da (owD _)), some (.da (.str "table")), some (.da (.int (t : Nat)))] _
    refine is_w fx.u (xv 2) ?_
    exact ws_ret (we_fnR gBT fx.room fx.gd (wr_ref 0 (wr_da (xv 1) (wr_nil ⟨_, _, rfl, v, 1, f, g, rfl, .table h1 h2 h3 h4, v2, v58, fun fr okb => ⟨_, .own (.da .nil), hq fr okb⟩⟩))))
  | @apart _ d e2 h1 h2 =>
    have e := owD_apart d e2
    show WSs _ _ [some (.pin v0 (ST ⟨P, w0, K⟩)), some (.da (owD _)), some (.da (.str "apart")), some (.da (.int (t : Nat)))] _
    refine no_w fx.u (xv 2) ?_
    refine is_w fx.u (xv 2) ?_
    refine xs_if (xt_lt (xv 3) (xe_int (i := 4))) (fun _ => ?_) fun _ => ws_nil ?_
    · refine ws_ret (we_tup (wa_cons (xe_str _ (wa_cons (we_fnR gO r3 fx.gd (wr_ref 0 (wr_da (ix1 (xe_castD (xv 1) e)) (wr_nil ⟨_, _, rfl, v, d, rfl, v2, h1, fun x gx => wa_cons ((ix2 (xe_castD (xv 1) e)) _ (wa_nil ⟨[.str "apart", x, e2], rfl, (by show 3 ≤ sizeLine; decide), _, .own (.da .nil), ?_⟩))⟩))))))))
      rw [← owD_apart x e2]
      exact hq (.apart x e2) ⟨fun m hm => by cases hm with | apart a b => exact .apart gx (b.mono (by omega)), (by rw [cnt_leaf (w := .apart x e2) rfl, cnt_leaf (w := .apart d e2) rfl]; decide)⟩
    refine xs_if (xt_lt (xv 3) (xe_int (i := 7))) (fun _ => ?_) fun _ => ws_nil ?_
    · refine ws_ret (we_tup (wa_cons (xe_str _ (wa_cons ((ix1 (xe_castD (xv 1) e)) _ (wa_cons (we_fnR gO r3 fx.gd (wr_ref 0 (wr_da (ix2 (xe_castD (xv 1) e)) (wr_nil ⟨_, _, rfl, v, e2, rfl, v2, h2, fun x gx => wa_nil ⟨[.str "apart", d, x], rfl, (by show 3 ≤ sizeLine; decide), _, .own (.da .nil), ?_⟩⟩))))))))))
      rw [← owD_apart d x]
      exact hq (.apart d x) ⟨fun m hm => by cases hm with | apart a b => exact .apart (a.mono (by omega)) gx, (by rw [cnt_leaf (w := .apart d x) rfl, cnt_leaf (w := .apart d e2) rfl]; decide)⟩
    · refine xs_ret (xe_tup3 xe_str (ix2 (xe_castD (xv 1) e)) (ix1 (xe_castD (xv 1) e))) ⟨_, .own (.da .nil), ?_⟩
      rw [← owD_apart e2 d]
      exact hq (.apart e2 d) ⟨fun m hm => by cases hm with | apart a b => exact .apart (b.mono (by omega)) (a.mono (by omega)), (by rw [cnt_leaf (w := .apart e2 d) rfl, cnt_leaf (w := .apart d e2) rfl]; decide)⟩
  | @some_ _ w d h1 h2 =>
    have e := owD_some w d
    show WSs _ _ [some (.pin v0 (ST ⟨P, w0, K⟩)), some (.da (owD _)), some (.da (.str "some")), some (.da (.int (t : Nat)))] _
    refine no_w fx.u (xv 2) ?_
    refine no_w fx.u (xv 2) ?_
    refine xs_ifT (xt_cast (xt_or2 (k := true) (k2 := true) (xt_isW fx.u (xv 2) (by decide +kernel)) fun he => by cases he) rfl) ?_
    refine xs_if (xt_lt (xv 3) (xe_int (i := 6))) (fun _ => ?_) fun _ => ws_nil ?_
    · refine ws_ret (we_tup (wa_cons ((xv 2) _ (wa_cons ((ix1 (xe_castD (xv 1) e)) _ (wa_cons (we_fnR gO r3 fx.gd (wr_ref 0 (wr_da (ix2 (xe_castD (xv 1) e)) (wr_nil ⟨_, _, rfl, v, d, rfl, v2, h2, fun x gx => wa_nil ⟨[.str "some", owD w, x], rfl, (by show 3 ≤ sizeLine; decide), _, .own (.da .nil), ?_⟩⟩))))))))))
      rw [← owD_some w x]
      exact hq (.some_ w x) ⟨fun m hm => by cases hm with | some_ a b => exact .some_ (a.up (by omega) (by omega)) gx, by rw [cnt_some, cnt_some]; omega⟩
    · refine xs_ret (xe_tup3 (xe_castD (d' := .str "must") (xe_ifExp (d1 := .str "must") (d2 := .str "some") (xt_isW (k := true) fx.u (xv 2) (by decide +kernel)) (fun _ => xe_str) fun _ => xe_str) rfl) (ix1 (xe_castD (xv 1) e)) (ix2 (xe_castD (xv 1) e))) ⟨_, .own (.da .nil), ?_⟩
      rw [← owD_must w d]
      exact hq (.must w d) ⟨fun m hm => by cases hm with | some_ a b => exact .must (a.up (by omega) (by omega)) (b.mono (by omega)), by rw [cnt_must, cnt_some]; omega⟩
  | @must _ w d h1 h2 =>
    have e := owD_must w d
    show WSs _ _ [some (.pin v0 (ST ⟨P, w0, K⟩)), some (.da (owD _)), some (.da (.str "must")), some (.da (.int (t : Nat)))] _
    refine no_w fx.u (xv 2) ?_
    refine no_w fx.u (xv 2) ?_
    refine xs_ifT (xt_cast (xt_or2 (k := false) (k2 := true) (xt_isW fx.u (xv 2) (by decide +kernel)) fun _ => xt_isW fx.u (xv 2) (by decide +kernel)) rfl) ?_
    refine xs_if (xt_lt (xv 3) (xe_int (i := 6))) (fun _ => ?_) fun _ => ws_nil ?_
    · refine ws_ret (we_tup (wa_cons ((xv 2) _ (wa_cons ((ix1 (xe_castD (xv 1) e)) _ (wa_cons (we_fnR gO r3 fx.gd (wr_ref 0 (wr_da (ix2 (xe_castD (xv 1) e)) (wr_nil ⟨_, _, rfl, v, d, rfl, v2, h2, fun x gx => wa_nil ⟨[.str "must", owD w, x], rfl, (by show 3 ≤ sizeLine; decide), _, .own (.da .nil), ?_⟩⟩))))))))))
      rw [← owD_must w x]
      exact hq (.must w x) ⟨fun m hm => by cases hm with | must a b => exact .must (a.up (by omega) (by omega)) gx, by rw [cnt_must, cnt_must]; omega⟩
    · refine xs_ret (xe_tup3 (xe_castD (d' := .str "some") (xe_ifExp (d1 := .str "must") (d2 := .str "some") (xt_isW (k := false) fx.u (xv 2) (by decide +kernel)) (fun _ => xe_str) fun _ => xe_str) rfl) (ix1 (xe_castD (xv 1) e)) (ix2 (xe_castD (xv 1) e))) ⟨_, .own (.da .nil), ?_⟩
      rw [← owD_some w d]
      exact hq (.some_ w d) ⟨fun m hm => by cases hm with | must a b => exact .some_ (a.up (by omega) (by omega)) (b.mono (by omega)), by rw [cnt_some, cnt_must]; omega⟩
  | @opt _ w h1 =>
    have e := owD_opt w
    show WSs _ _ [some (.pin v0 (ST ⟨P, w0, K⟩)), some (.da (owD _)), some (.da (.str "opt")), some (.da (.int (t : Nat)))] _
    refine no_w fx.u (xv 2) ?_
    refine no_w fx.u (xv 2) ?_
    refine xs_ifF (xt_cast (xt_or2 (k := false) (k2 := false) (xt_isW fx.u (xv 2) (by decide +kernel)) fun _ => xt_isW fx.u (xv 2) (by decide +kernel)) rfl) (ws_nil ?_)
    refine xs_ifT (xt_cast (xt_or2 (k := true) (k2 := true) (xt_isW fx.u (xv 2) (by decide +kernel)) fun he => by cases he) rfl) ?_
    refine xs_ret (xe_tup2 (xe_castD (d' := .str "each") (xe_ifExp (d1 := .str "each") (d2 := .str "opt") (xt_isW (k := true) fx.u (xv 2) (by decide +kernel)) (fun _ => xe_str) fun _ => xe_str) rfl) (ix1 (xe_castD (xv 1) e))) ⟨_, .own (.da .nil), ?_⟩
    rw [← owD_each w]
    exact hq (.each w) ⟨fun m hm => by cases hm with | opt a => exact .each (a.up (by omega) (by omega)), by rw [cnt_each, cnt_opt]; omega⟩
  | @each _ w h1 =>
    have e := owD_each w
    show WSs _ _ [some (.pin v0 (ST ⟨P, w0, K⟩)), some (.da (owD _)), some (.da (.str "each")), some (.da (.int (t : Nat)))] _
    refine no_w fx.u (xv 2) ?_
    refine no_w fx.u (xv 2) ?_
    refine xs_ifF (xt_cast (xt_or2 (k := false) (k2 := false) (xt_isW fx.u (xv 2) (by decide +kernel)) fun _ => xt_isW fx.u (xv 2) (by decide +kernel)) rfl) (ws_nil ?_)
    refine xs_ifT (xt_cast (xt_or2 (k := false) (k2 := true) (xt_isW fx.u (xv 2) (by decide +kernel)) fun _ => xt_isW fx.u (xv 2) (by decide +kernel)) rfl) ?_
    refine xs_ret (xe_tup2 (xe_castD (d' := .str "opt") (xe_ifExp (d1 := .str "each") (d2 := .str "opt") (xt_isW (k := false) fx.u (xv 2) (by decide +kernel)) (fun _ => xe_str) fun _ => xe_str) rfl) (ix1 (xe_castD (xv 1) e))) ⟨_, .own (.da .nil), ?_⟩
    rw [← owD_opt w]
    exact hq (.opt w) ⟨fun m hm => by cases hm with | each a => exact .opt (a.up (by omega) (by omega)), by rw [cnt_opt, cnt_each]; omega⟩
  | @arms _ ts h1 h2 =>
    have e := owD_arms ts
    show WSs _ _ [some (.pin v0 (ST ⟨P, w0, K⟩)), some (.da (owD _)), some (.da (.str "arms")), some (.da (.int (t : Nat)))] _
    refine no_w fx.u (xv 2) ?_
    refine no_w fx.u (xv 2) ?_
    refine xs_ifF (xt_cast (xt_or2 (k := false) (k2 := false) (xt_isW fx.u (xv 2) (by decide +kernel)) fun _ => xt_isW fx.u (xv 2) (by decide +kernel)) rfl) (ws_nil ?_)
    refine xs_ifF (xt_cast (xt_or2 (k := false) (k2 := false) (xt_isW fx.u (xv 2) (by decide +kernel)) fun _ => xt_isW fx.u (xv 2) (by decide +kernel)) rfl) (ws_nil ?_)
    refine is_w fx.u (xv 2) ?_
    exact ws_ret (we_fnR gBR r3 fx.gd (wr_ref 0 (wr_da (xv 1) (wr_da (xe_frz (fun _ hq' => we_lst (wa_cons (xe_str _ (wa_cons (xe_str _ (wa_cons (xe_str _ (wa_nil ⟨[.str "q7", .str "", .str "zz9"], rfl, (by show 3 ≤ sizeLine; decide), hq'⟩))))))))) (wr_nil ⟨_, _, rfl, v, _, .arms ts, _, rfl, .arms h1 h2, v2, v58, .inl ⟨ts, ["q7", "", "zz9"], rfl, rfl, by decide, by decide⟩, fun fr okb => ⟨_, .own (.da .nil), hq fr okb⟩⟩)))))
  | @parts _ ts h1 h2 =>
    have e := owD_parts ts
    show WSs _ _ [some (.pin v0 (ST ⟨P, w0, K⟩)), some (.da (owD _)), some (.da (.str "parts")), some (.da (.int (t : Nat)))] _
    refine no_w fx.u (xv 2) ?_
    refine no_w fx.u (xv 2) ?_
    refine xs_ifF (xt_cast (xt_or2 (k := false) (k2 := false) (xt_isW fx.u (xv 2) (by decide +kernel)) fun _ => xt_isW fx.u (xv 2) (by decide +kernel)) rfl) (ws_nil ?_)
    refine xs_ifF (xt_cast (xt_or2 (k := false) (k2 := false) (xt_isW fx.u (xv 2) (by decide +kernel)) fun _ => xt_isW fx.u (xv 2) (by decide +kernel)) rfl) (ws_nil ?_)
    refine no_w fx.u (xv 2) ?_
    refine is_w fx.u (xv 2) ?_
    exact ws_ret (we_fnR gBR r3 fx.gd (wr_ref 0 (wr_da (xv 1) (wr_da (xe_frz (fun _ hq' => we_lst (wa_cons (xe_non _ (wa_cons ((xe_neg xe_int) _ (wa_cons ((xe_len B (ix1 (xe_castD (xv 1) e)) (.inr rfl)) _ (wa_cons (xe_int _ (wa_nil ⟨[.none, .int (-1), .int ((ts.map orQ).length : Nat), .int 1000000], rfl, (by show 4 ≤ sizeLine; decide), hq'⟩))))))))))) (wr_nil ⟨_, _, rfl, v, _, .parts ts, _, rfl, .parts h1 h2, v2, v58, .inr ⟨ts, [none, some (-1), some ((ts.map orQ).length : Nat), some 1000000], rfl, rfl, by show 2 ≤ 4; decide, by show 4 ≤ 10; decide⟩, fun fr okb => ⟨_, .own (.da .nil), hq fr okb⟩⟩)))))
end
end Law
/-! WXi: the drawn ways, what is asked, the law k13. -/
namespace Law
open PySem PySem.Spec PyProof.Rows L2 TL
section
variable {P : Program} {w0 : World} {K : PySem.W.Frag} {mg : Str → Option Value} {bs h : Heap} (X : K.In h) (G : h.Ns mainGlobals mg) (B : Blt mg)
include X G B
theorem d_chain (D : DK K "_law_chain" s_l_chain) (gD : Def P w0 K mg bs 2 "_law_own_draw" ["state", "many"] (spDrawO ⟨P, w0, K⟩)) (gNum : Def P w0 K mg bs 3 "_law_num" ["state", "most"] (spONumN ⟨P, w0, K⟩)) (gLi : Def P w0 K mg bs 12 "_law_like" ["state", "kind", "room", "most"] (spOLike ⟨P, w0, K⟩ 1)) (gW : Def P w0 K mg bs 12 "_law_own_way" ["state", "left", "right", "deep"] (spWay ⟨P, w0, K⟩ 1)) (gOV : Def P w0 K mg bs 7 "_law_own_value" ["state", "kind"] (spOVal ⟨P, w0, K⟩ 4)) : Def P w0 K mg bs 13 "_law_chain" ["state"] (spWl ⟨P, w0, K⟩) := by
  refine def_ok X G D sc_l_chain (fun f fd F => F.binds (ps := ["state"]) fun _ _ _ _ _ _ us hl => match us, hl with | [_], _ => rfl) (fun as Ψ h => by obtain ⟨rfl, _⟩ := h; rfl) fun f cdv A fr s H E fx as Ψ vs hsp hl => ?_
  obtain ⟨rfl, hq⟩ := hsp
  obtain ⟨v0, rfl⟩ := ar1 hl
  have nd := fx.nd
  have r2 := fx.room.mono (show 2 ≤ 12 by decide)
  have r3 := fx.room.mono (show 3 ≤ 12 by decide)
  have r7 := fx.room.mono (show 7 ≤ 12 by decide)
  show WSs _ _ [some (.pin v0 (ST ⟨P, w0, K⟩)), none, none, none, none] _
  refine ws_set 1 nd (we_fnR gNum r3 fx.gd (wr_ref 0 (wr_da (xe_int (i := ((3 : Nat) : Int))) (wr_nil ⟨_, _, rfl, 3, rfl, by decide, by decide, fun lo hi rl fl => ?_⟩))))
  generalize Kd.num lo hi = l at rl fl
  show WSs _ _ [some (.pin v0 (ST ⟨P, w0, K⟩)), some (.da (kD l)), none, none, none] _
  refine ws_set 2 nd (we_fnR gLi fx.room fx.gd (wr_ref 0 (wr_da (xv 1) (wr_da (xe_int (i := ((1 : Nat) : Int))) (wr_da (xe_int (i := ((3 : Nat) : Int))) (wr_nil ⟨_, _, rfl, l, 3, rfl, rl.mono (by decide), Nat.le_trans fl (by decide), by decide, by decide, by decide, fun r rk => ?_⟩))))))
  have fr : sz r ≤ 3 := rk.few
  show WSs _ _ [some (.pin v0 (ST ⟨P, w0, K⟩)), some (.da (kD l)), some (.da (kD r)), none, none] _
  refine ws_set 3 nd (we_fnR gW fx.room fx.gd (wr_ref 0 (wr_da (xv 1) (wr_da (xv 2) (wr_da (xe_int (i := ((1 : Nat) : Int))) (wr_nil ⟨_, _, rfl, l, r, rfl, rl.mono (by decide), rk.rt.mono (by decide), by omega, by omega, by decide, fun y h1 h2 => ?_⟩))))))
  have fkl : FK l := ⟨rl.mono (by decide), by omega⟩
  have ok0 := owOf_ok h2 h1 fkl ⟨rk.rt.mono (by decide), by omega⟩
  have c0 : cnt (owOf y) ≤ 1 := by
    cases h2 with
    | @plain _ p => rw [owOf]; cases p <;> (rw [owP, cnt_leaf rfl]; exact Nat.le_refl _)
    | some_ h => cases h
    | must h => cases h
    | opt h => cases h
    | each h => cases h
    | @arms _ ts h lt =>
      rw [owOf, ofA_map, cnt_arms, List.map_map]
      rw [show ts = [] from List.eq_nil_iff_forall_not_mem.mpr fun t ht => by have := h t ht; cases this]
      exact Nat.le_refl _
    | @parts _ ts h lt =>
      rw [owOf, ofQ_map, cnt_parts, List.map_map]
      rw [show ts = [] from List.eq_nil_iff_forall_not_mem.mpr fun t ht => by have := h t ht; cases this]
      exact Nat.le_refl _
  rw [← owOf_D y]
  generalize owOf y = w at ok0 c0
  clear h1 h2
  show WSs _ _ [some (.pin v0 (ST ⟨P, w0, K⟩)), some (.da (kD l)), some (.da (kD r)), some (.da (owD w)), none] _
  refine ws_forW fx (fun (i : Nat) => .int i) (fun zs : List Nat => zs.length ≤ 3) (fun q : Ow × Kd => [some (.pin v0 (ST ⟨P, w0, K⟩)), some (.da (kD l)), some (.da (kD q.2)), some (.da (owD q.1)), none]) (fun zs i q => OkO 50 (1 + i) q.1 ∧ cnt q.1 ≤ 1 + i ∧ Rt (1 + i) q.2 ∧ sz q.2 ≤ 3 + i) (wi_rangeN B (we_ixD (ds := ([1, 3, 0, 2, 3, 3].map fun i : Nat => PyData.int (i : Nat))) (xe_frz (fun _ hq' => we_lst (wa_cons (xe_int _ (wa_cons (xe_int _ (wa_cons (xe_int _ (wa_cons (xe_int _ (wa_cons (xe_int _ (wa_cons (xe_int _ (wa_nil ⟨([1, 3, 0, 2, 3, 3].map fun i : Nat => PyData.int (i : Nat)), rfl, (by show 6 ≤ sizeLine; decide), hq'⟩))))))))))))))) (we_drawN (n := 6) 0 gD r2 fx.gd xe_int (by decide) (by decide) fun j hj => ?_))) ?_ ?_
  · obtain ⟨b, e, b3⟩ : ∃ b : Nat, ([1, 3, 0, 2, 3, 3].map fun i : Nat => PyData.int (i : Nat))[j]? = some (.int (b : Nat)) ∧ b ≤ 3 := by
      rcases j with _ | _ | _ | _ | _ | _ | j
      all_goals first | exact ⟨_, rfl, by decide⟩ | omega
    exact ⟨j, _, rfl, e, b, rfl, by omega, List.range b, (w, r), by rw [List.length_range]; exact b3, rfl, ⟨by exact ok0, by omega, rk.rt, by omega⟩, rfl⟩
  · rintro zs i z ⟨w, r⟩ hz hx ⟨okw, cw, rr, sr⟩
    have hi := (List.getElem?_eq_some_iff.mp hx).1
    have okw : OkO 50 (1 + i) w := okw
    have cw : cnt w ≤ 1 + i := cw
    have rr : Rt (1 + i) r := rr
    have sr : sz r ≤ 3 + i := sr
    refine wg_name 4 nd ?_
    show WSs _ _ [some (.pin v0 (ST ⟨P, w0, K⟩)), some (.da (kD l)), some (.da (kD r)), some (.da (owD w)), some (.da (.int (z : Nat)))] _
    refine ws_set 3 nd (we_tup (wa_cons (xe_str _ (wa_cons ((xv 3) _ (wa_cons (we_fnR gOV r7 fx.gd (wr_ref 0 (wr_da (xv 1) (wr_nil ⟨_, _, rfl, l, rfl, rl.mono (by decide), fun d hd => wa_nil ⟨[.str "some", owD w, d], rfl, (by show 3 ≤ sizeLine; decide), ?_⟩⟩))))))))))
    rw [← owD_some w d]
    refine xs_set 2 nd (xe_castD (xe_tup2 xe_str (xv 2)) (kD_opt r).symm) ?_
    exact ws_drop 4 (ws_nil ⟨(.some_ w d, .opt r), ⟨by show OkO 50 (1 + (i + 1)) _; rw [← Nat.add_assoc]; exact .some_ okw (vl50 rl (by decide) hd), by show cnt (.some_ w d) ≤ _; rw [cnt_some]; omega, by show Rt (1 + (i + 1)) _; rw [← Nat.add_assoc]; exact .opt rr, by show sz (.opt r) ≤ _; rw [sz_opt]; omega⟩, rfl⟩)
  rintro zs ⟨w, r⟩ hz ⟨okw, cw, rr, sr⟩
  have okw : OkO 50 4 w := OkO.up (n := 1 + zs.length) okw (Nat.le_refl _) (by omega)
  have cw : cnt w ≤ 4 := Nat.le_trans (show cnt w ≤ 1 + zs.length from cw) (by omega)
  have rr : Rt 4 r := Rt.mono (n := 1 + zs.length) rr (by omega)
  have sr : sz r ≤ 6 := Nat.le_trans (show sz r ≤ 3 + zs.length from sr) (by omega)
  show WSs _ _ [some (.pin v0 (ST ⟨P, w0, K⟩)), some (.da (kD l)), some (.da (kD r)), some (.da (owD w)), none] _
  refine ws_forW fx (fun (i : Nat) => .int i) (fun zs : List Nat => zs.length ≤ 3) (fun q : Ow × Kd => [some (.pin v0 (ST ⟨P, w0, K⟩)), some (.da (kD q.2)), some (.da (kD r)), some (.da (owD q.1)), none]) (fun zs i q => OkO 50 (4 + i) q.1 ∧ cnt q.1 ≤ 4 + i ∧ Rt (1 + i) q.2 ∧ sz q.2 ≤ 3 + i) (wi_rangeN B (we_ixD (ds := ([0, 3, 1, 3, 2, 3].map fun i : Nat => PyData.int (i : Nat))) (xe_frz (fun _ hq' => we_lst (wa_cons (xe_int _ (wa_cons (xe_int _ (wa_cons (xe_int _ (wa_cons (xe_int _ (wa_cons (xe_int _ (wa_cons (xe_int _ (wa_nil ⟨([0, 3, 1, 3, 2, 3].map fun i : Nat => PyData.int (i : Nat)), rfl, (by show 6 ≤ sizeLine; decide), hq'⟩))))))))))))))) (we_drawN (n := 6) 0 gD r2 fx.gd xe_int (by decide) (by decide) fun j hj => ?_))) ?_ ?_
  · obtain ⟨b, e, b3⟩ : ∃ b : Nat, ([0, 3, 1, 3, 2, 3].map fun i : Nat => PyData.int (i : Nat))[j]? = some (.int (b : Nat)) ∧ b ≤ 3 := by
      rcases j with _ | _ | _ | _ | _ | _ | j
      all_goals first | exact ⟨_, rfl, by decide⟩ | omega
    exact ⟨j, _, rfl, e, b, rfl, by omega, List.range b, (w, l), by rw [List.length_range]; exact b3, rfl, ⟨okw, by omega, rl, by omega⟩, rfl⟩
  · rintro zs i z ⟨w, l⟩ hz hx ⟨okw, cw, rl, sl⟩
    have hi := (List.getElem?_eq_some_iff.mp hx).1
    have okw : OkO 50 (4 + i) w := okw
    have cw : cnt w ≤ 4 + i := cw
    have rl : Rt (1 + i) l := rl
    have sl : sz l ≤ 3 + i := sl
    refine wg_name 4 nd ?_
    show WSs _ _ [some (.pin v0 (ST ⟨P, w0, K⟩)), some (.da (kD l)), some (.da (kD r)), some (.da (owD w)), some (.da (.int (z : Nat)))] _
    refine ws_set 3 nd (we_tup (wa_cons (xe_str _ (wa_cons ((xv 3) _ (wa_cons (we_fnR gOV r7 fx.gd (wr_ref 0 (wr_da (xv 2) (wr_nil ⟨_, _, rfl, r, rfl, rr, fun d hd => wa_nil ⟨[.str "must", owD w, d], rfl, (by show 3 ≤ sizeLine; decide), ?_⟩⟩))))))))))
    rw [← owD_must w d]
    refine xs_set 1 nd (xe_castD (xe_tup2 xe_str (xv 1)) (kD_opt l).symm) ?_
    exact ws_drop 4 (ws_nil ⟨(.must w d, .opt l), ⟨by show OkO 50 (4 + (i + 1)) _; rw [← Nat.add_assoc]; exact .must okw (vl50 rr (by decide) hd), by show cnt (.must w d) ≤ _; rw [cnt_must]; omega, by show Rt (1 + (i + 1)) _; rw [← Nat.add_assoc]; exact .opt rl, by show sz (.opt l) ≤ _; rw [sz_opt]; omega⟩, rfl⟩)
  rintro zs ⟨w, l⟩ hz ⟨okw, cw, rl, sl⟩
  have okw : OkO 50 7 w := OkO.up (n := 4 + zs.length) okw (Nat.le_refl _) (by omega)
  have cw : cnt w ≤ 4 + zs.length := cw
  have rl : Rt 4 l := Rt.mono (n := 1 + zs.length) rl (by omega)
  have sl : sz l ≤ 3 + zs.length := sl
  exact ws_ret (we_lst (wa_cons ((xv 3) _ (wa_cons ((xv 1) _ (wa_cons ((xv 2) _ (wa_nil ⟨[_, _, _], rfl, (by show 3 ≤ sizeLine; decide), _, .own .nil, hq w l r ⟨okw, ⟨rl, by omega⟩, ⟨rr, by omega⟩, by omega⟩⟩))))))))
end
end Law
/-! WXj: the drawn ways, what is asked, the law k13. -/
namespace Law
open PySem PySem.Spec PyProof.Rows L2 TL
section
variable {P : Program} {w0 : World} {K : PySem.W.Frag} {mg : Str → Option Value} {bs h : Heap} (X : K.In h) (G : h.Ns mainGlobals mg) (B : Blt mg)
include X G B
theorem d_ltab (D : DK K "_law_long_table" s_l_long_table) (gD : Def P w0 K mg bs 2 "_law_own_draw" ["state", "many"] (spDrawO ⟨P, w0, K⟩)) (gWd : Def P w0 K mg bs 3 "_law_wide" ["state", "size"] (spWide ⟨P, w0, K⟩)) (gK : Def P w0 K mg bs 19 "_law_own_kind" ["state", "room", "most"] (spOKind ⟨P, w0, K⟩ 3)) (gT : Def P w0 K mg bs 8 "_law_table" ["state", "left", "right"] (spTable ⟨P, w0, K⟩ 4)) : Def P w0 K mg bs 20 "_law_long_table" ["state"] (spWl ⟨P, w0, K⟩) := by
  refine def_ok X G D sc_l_long_table (fun f fd F => F.binds (ps := ["state"]) fun _ _ _ _ _ _ us hl => match us, hl with | [_], _ => rfl) (fun as Ψ h => by obtain ⟨rfl, _⟩ := h; rfl) fun f cdv A fr s H E fx as Ψ vs hsp hl => ?_
  obtain ⟨rfl, hq⟩ := hsp
  obtain ⟨v0, rfl⟩ := ar1 hl
  have nd := fx.nd
  have r2 := fx.room.mono (show 2 ≤ 19 by decide)
  have r3 := fx.room.mono (show 3 ≤ 19 by decide)
  have r8 := fx.room.mono (show 8 ≤ 19 by decide)
  show WSs _ _ [some (.pin v0 (ST ⟨P, w0, K⟩)), none, none] _
  refine ws_set 1 nd (we_fnR gWd r3 fx.gd (wr_ref 0 (wr_cons (we_add (we_pure xe_int ⟨18, rfl, we_drawN (n := 4) 0 gD r2 fx.gd xe_int (by decide) (by decide) fun j hj => ⟨(j : Nat), rfl, wr_nil ⟨_, _, rfl, 18 + j, by push_cast; rfl, by omega, by omega, fun lo hi rl fl => ?_⟩⟩⟩))))) 
  generalize Kd.num lo hi = l at rl fl
  have fkl : FK l := ⟨rl.mono (by decide), by omega⟩
  show WSs _ _ [some (.pin v0 (ST ⟨P, w0, K⟩)), some (.da (kD l)), none] _
  refine ws_set 2 nd (we_fnR gK fx.room fx.gd (wr_ref 0 (wr_da (xe_int (i := ((3 : Nat) : Int))) (wr_da (xe_int (i := ((9 : Nat) : Int))) (wr_nil ⟨_, _, rfl, 9, rfl, by decide, by decide, by decide, fun r rk => ?_⟩)))))
  have fkr : FK r := ⟨rk.rt.mono (by decide), Nat.le_trans rk.few (by decide)⟩
  show WSs _ _ [some (.pin v0 (ST ⟨P, w0, K⟩)), some (.da (kD l)), some (.da (kD r))] _
  refine ws_if (wt_eqI fx.u (we_drawN (n := 2) 0 gD r2 fx.gd xe_int (by decide) (by decide) fun c hc => ⟨(c : Nat), rfl, xe_int (i := 1), fun _ => ?_, fun _ => ws_nil ?_⟩))
  · refine ws_ret (we_lst (wa_cons (we_fnR gT r8 fx.gd (wr_ref 0 (wr_da (xv 2) (wr_da (xv 1) (wr_nil ⟨_, _, rfl, r, l, rfl, fkr.rt, fkl.rt, Nat.le_trans fkr.few (by decide), Nat.le_trans fkl.few (by decide), fun f g t => wa_cons ((xv 2) _ (wa_cons ((xv 1) _ (wa_nil ⟨[_, _, _], rfl, (by show 3 ≤ sizeLine; decide), _, .own .nil, ?_⟩))))⟩)))))))
    have q2 := hq (.table f g) r l ⟨.table (fun x hx => vl50 fkl.rt (by decide) (t.mf x hx)) (fun x hx => vl50 fkr.rt (by decide) (t.mg x hx)) (by have := t.lf; have := fkr.few; omega) (by have := t.lg; have := fkl.few; omega), fkr, fkl, by rw [cnt_leaf rfl]; decide⟩
    rw [owD_table] at q2
    exact q2
  · refine ws_ret (we_lst (wa_cons (we_fnR gT r8 fx.gd (wr_ref 0 (wr_da (xv 1) (wr_da (xv 2) (wr_nil ⟨_, _, rfl, l, r, rfl, fkl.rt, fkr.rt, Nat.le_trans fkl.few (by decide), Nat.le_trans fkr.few (by decide), fun f g t => wa_cons ((xv 1) _ (wa_cons ((xv 2) _ (wa_nil ⟨[_, _, _], rfl, (by show 3 ≤ sizeLine; decide), _, .own .nil, ?_⟩))))⟩)))))))
    have q2 := hq (.table f g) l r ⟨.table (fun x hx => vl50 fkr.rt (by decide) (t.mf x hx)) (fun x hx => vl50 fkl.rt (by decide) (t.mg x hx)) (by have := t.lf; have := fkl.few; omega) (by have := t.lg; have := fkr.few; omega), fkl, fkr, by rw [cnt_leaf rfl]; decide⟩
    rw [owD_table] at q2
    exact q2
theorem d_world (D : DK K "_law_world" s_l_world) (gD : Def P w0 K mg bs 2 "_law_own_draw" ["state", "many"] (spDrawO ⟨P, w0, K⟩)) (gCh : Def P w0 K mg bs 13 "_law_chain" ["state"] (spWl ⟨P, w0, K⟩)) (gLt : Def P w0 K mg bs 20 "_law_long_table" ["state"] (spWl ⟨P, w0, K⟩)) (gK : Def P w0 K mg bs 23 "_law_own_kind" ["state", "room", "most"] (spOKind ⟨P, w0, K⟩ 4)) (gLi : Def P w0 K mg bs 24 "_law_like" ["state", "kind", "room", "most"] (spOLike ⟨P, w0, K⟩ 4)) (gW : Def P w0 K mg bs 22 "_law_own_way" ["state", "left", "right", "deep"] (spWay ⟨P, w0, K⟩ 6)) : Def P w0 K mg bs 25 "_law_world" ["state"] (spWl ⟨P, w0, K⟩) := by
  refine def_ok X G D sc_l_world (fun f fd F => F.binds (ps := ["state"]) fun _ _ _ _ _ _ us hl => match us, hl with | [_], _ => rfl) (fun as Ψ h => by obtain ⟨rfl, _⟩ := h; rfl) fun f cdv A fr s H E fx as Ψ vs hsp hl => ?_
  obtain ⟨rfl, hq⟩ := hsp
  obtain ⟨v0, rfl⟩ := ar1 hl
  have nd := fx.nd
  have r2 := fx.room.mono (show 2 ≤ 24 by decide)
  have r13 := fx.room.mono (show 13 ≤ 24 by decide)
  have r20 := fx.room.mono (show 20 ≤ 24 by decide)
  have r22 := fx.room.mono (show 22 ≤ 24 by decide)
  have r23 := fx.room.mono (show 23 ≤ 24 by decide)
  show WSs _ _ [some (.pin v0 (ST ⟨P, w0, K⟩)), none, none, none] _
  refine ws_set 1 nd (we_drawN (n := 6) 0 gD r2 fx.gd xe_int (by decide) (by decide) fun t ht => ?_)
  show WSs _ _ [some (.pin v0 (ST ⟨P, w0, K⟩)), some (.da (.int (t : Nat))), none, none] _
  refine xs_if (xt_eqI fx.u (xv 1) (xe_int (i := 2))) (fun _ => ?_) fun _ => ws_nil ?_
  · exact ws_ret (we_fnR gCh r13 fx.gd (wr_ref 0 (wr_nil ⟨_, _, rfl, rfl, fun w l r q => ⟨_, .own .nil, hq w l r q⟩⟩)))
  refine xs_if (xt_eqI fx.u (xv 1) (xe_int (i := 3))) (fun _ => ?_) fun _ => ws_nil ?_
  · exact ws_ret (we_fnR gLt r20 fx.gd (wr_ref 0 (wr_nil ⟨_, _, rfl, rfl, fun w l r q => ⟨_, .own .nil, hq w l r q⟩⟩)))
  refine ws_set 2 nd (we_fnR gK r23 fx.gd (wr_ref 0 (wr_da (xe_int (i := ((4 : Nat) : Int))) (wr_da (xe_int (i := ((30 : Nat) : Int))) (wr_nil ⟨_, _, rfl, 30, rfl, by decide, by decide, by decide, fun l lk => ?_⟩)))))
  show WSs _ _ [some (.pin v0 (ST ⟨P, w0, K⟩)), some (.da (.int (t : Nat))), some (.da (kD l)), none] _
  refine ws_set 3 nd (we_fnR gLi fx.room fx.gd (wr_ref 0 (wr_da (xv 2) (wr_da (xe_int (i := ((4 : Nat) : Int))) (wr_da (xe_int (i := ((30 : Nat) : Int))) (wr_nil ⟨_, _, rfl, l, 30, rfl, lk.rt, Nat.le_trans lk.few (by decide), by decide, by decide, by decide, fun r rk => ?_⟩))))))
  show WSs _ _ [some (.pin v0 (ST ⟨P, w0, K⟩)), some (.da (.int (t : Nat))), some (.da (kD l)), some (.da (kD r))] _
  have fkl : FK l := ⟨lk.rt, lk.few⟩
  have fkr : FK r := ⟨rk.rt, rk.few⟩
  exact ws_ret (we_lst (wa_cons (we_fnR gW r22 fx.gd (wr_ref 0 (wr_da (xv 2) (wr_da (xv 3) (wr_da (xe_int (i := ((6 : Nat) : Int))) (wr_nil ⟨_, _, rfl, l, r, rfl, lk.rt, rk.rt, lk.few, rk.few, by decide, fun y h1 h2 => wa_cons ((xv 2) _ (wa_cons ((xv 3) _ (wa_nil ⟨[_, _, _], rfl, (by show 3 ≤ sizeLine; decide), _, .own .nil, by have q2 := hq (owOf y) l r ⟨(owOf_ok h2 h1 fkl fkr).up (Nat.le_refl _) (by decide), fkl, fkr, cnt100 h2 h1 fkl fkr⟩; rw [owOf_D] at q2; exact q2⟩))))⟩))))))))
end
end Law
/-! WXk: the drawn ways, what is asked, the law k13. -/
namespace Law
open PySem PySem.Spec PyProof.Rows L2 TL
section
variable {P : Program} {w0 : World} {K : PySem.W.Frag} {mg : Str → Option Value} {bs h : Heap} (X : K.In h) (G : h.Ns mainGlobals mg) (B : Blt mg)
include X G B
theorem d_asked (D : DK K "_law_asked" s_l_asked) (gFi : Def P w0 K mg bs 27 "fits" ["way", "left", "right"] spFitsO) (gLF : Def P w0 K mg bs 20 "_law_own_fits" ["way", "left", "right", "deep"] (spLFw 6)) : Def P w0 K mg bs 28 "_law_asked" ["way", "left", "right"] spAskF := by
  refine def_ok X G D sc_l_asked (fun f fd F => F.binds (ps := ["way", "left", "right"]) fun _ _ _ _ _ _ us hl => match us, hl with | [_, _, _], _ => rfl) (fun as Ψ h => by obtain ⟨_, _, _, rfl, _⟩ := h; rfl) fun f cdv A fr s H E fx as Ψ vs hsp hl => ?_
  obtain ⟨w, l, r, rfl, q, hq⟩ := hsp
  obtain ⟨v0, v1, v2, rfl⟩ := ar3 hl
  have nd := fx.nd
  have r20 := fx.room.mono (show 20 ≤ 27 by decide)
  show WSs _ _ [some (.da (owD w)), some (.da (kD l)), some (.da (kD r)), none] _
  refine xs_set 3 nd (fun Ψ' hq' => we_fnP gFi fx.room fx.gd (wa_d (xv 0) (wa_d (xv 1) (wa_d (xv 2) wa_n))) ⟨w, l, r, rfl, q, hq'⟩) ?_
  show WSs _ _ [some (.da (owD w)), some (.da (kD l)), some (.da (kD r)), some (.da (.bool (fitsO 6 w l r)))] _
  exact xs_ret (xe_castD (xe_andB (k := true) (k2 := true) (xe_isBool (d := .bool _) B (xv 3)) fun _ => xe_castD (xe_eqP fx.u (xv 3) (fun Ψ' hq' => we_fnP gLF r20 fx.gd (wa_d (xv 0) (wa_d (xv 1) (wa_d (xv 2) (wa_d (xe_int (i := ((6 : Nat) : Int))) wa_n)))) ⟨w, l, r, rfl, q, hq'⟩) rfl rfl (by simp [PyData.depth])) (congrArg PyData.bool (eqv_self rfl))) rfl) ⟨_, .da (.da (.da .nil)), hq⟩
theorem d_chg (D : DK K "_law_changed_way" s_l_changed_way) (gD : Def P w0 K mg bs 2 "_law_own_draw" ["state", "many"] (spDrawO ⟨P, w0, K⟩)) (gN : ∀ n : Nat, Def P w0 K mg bs (n + 2) "_law_own_nodes" ["way"] (spNodes n)) (gP : ∀ n : Nat, Def P w0 K mg bs (n + 3) "_law_put" ["way", "place", "fresh"] (spPut n)) (gB : Def P w0 K mg bs 5 "_law_own_bent" ["state", "node"] (spBent ⟨P, w0, K⟩)) : Def P w0 K mg bs 12 "_law_changed_way" ["state", "way"] (spChg ⟨P, w0, K⟩) := by
  refine def_ok X G D sc_l_changed_way (fun f fd F => F.binds (ps := ["state", "way"]) fun _ _ _ _ _ _ us hl => match us, hl with | [_, _], _ => rfl) (fun as Ψ h => by obtain ⟨_, rfl, _⟩ := h; rfl) fun f cdv A fr s H E fx as Ψ vs hsp hl => ?_
  obtain ⟨w, rfl, okw, cw, hq⟩ := hsp
  obtain ⟨v0, v1, rfl⟩ := ar2 hl
  have nd := fx.nd
  have r2 := fx.room.mono (show 2 ≤ 11 by decide)
  have r5 := fx.room.mono (show 5 ≤ 11 by decide)
  show WSs _ _ [some (.pin v0 (ST ⟨P, w0, K⟩)), some (.da (owD w)), none, none, none] _
  refine ws_forW fx (fun (i : Nat) => .int i) (fun zs : List Nat => zs.length ≤ 2) (fun u : Ow => [some (.pin v0 (ST ⟨P, w0, K⟩)), some (.da (owD u)), none, none, none]) (fun zs i u => OkO (50 + 2 * i) (7 + i) u ∧ cnt u + 1 ≤ 100001 * 3 ^ i) (wi_rangeN B (we_add (we_pure xe_int ⟨1, rfl, we_drawN (n := 2) 0 gD r2 fx.gd xe_int (by decide) (by decide) fun z hz => ⟨(z : Nat), rfl, 1 + z, by push_cast; rfl, by omega, List.range (1 + z), w, by rw [List.length_range]; omega, rfl, ⟨okw, by omega⟩, rfl⟩⟩))) ?_ ?_
  · rintro zs i z u hz hx ⟨oku, cu⟩
    have hi := (List.getElem?_eq_some_iff.mp hx).1
    have i2 : i < 2 := Nat.lt_of_lt_of_le hi hz
    have c3 : 100001 * 3 ^ i ≤ 300003 := by
      rcases i with _ | _ | i
      · decide
      · decide
      · omega
    have cu2 : cnt u ≤ 2 ^ 23 := by omega
    refine wg_name 2 nd ?_
    refine xs_set 3 nd (fun Ψ' hq' => we_fnP (gN (7 + i)) (fx.room.mono (show 7 + i + 2 ≤ 11 by omega)) fx.gd (wa_d (xv 1) wa_n) ⟨50 + 2 * i, u, rfl, oku, by omega, cu2, hq'⟩) ?_
    refine ws_frz 3 .ll ?_
    show WSs _ _ [some (.pin v0 (ST ⟨P, w0, K⟩)), some (.da (owD u)), some (.da (.int (z : Nat))), some (.da (.list ((nodesO u).map owD))), none] _
    refine ws_set 4 nd (we_drawN (n := cnt u) 0 gD r2 fx.gd (xe_cast (j := (cnt u : Nat)) (xe_len B (xv 3) (.inl rfl)) (by rw [List.length_map]; rfl)) (cnt_pos u) (by omega) fun p hp => ?_)
    obtain ⟨x, hxp⟩ : ∃ x, (nodesO u)[p]? = some x := ⟨_, List.getElem?_eq_getElem hp⟩
    obtain ⟨m, okx⟩ := node_ok oku hxp
    show WSs _ _ [some (.pin v0 (ST ⟨P, w0, K⟩)), some (.da (owD u)), some (.da (.int (z : Nat))), some (.da (.list ((nodesO u).map owD))), some (.da (.int (p : Nat)))] _
    have cx := cnt_in oku x (List.mem_of_getElem? hxp)
    refine ws_set 1 nd (we_fnR (gP (7 + i)) (fx.room.mono (show 7 + i + 3 ≤ 11 by omega)) fx.gd (wr_da (xv 1) (wr_da (xv 4) (wr_cons (we_fnR gB r5 fx.gd (wr_ref 0 (wr_da (xe_ix (xv 3) (xv 4) (.inl rfl) (atI_n (by rw [List.getElem?_map, hxp]; rfl))) (wr_nil ⟨_, _, rfl, 50 + 2 * i, m, x, rfl, okx, by omega, by omega, fun fr okb => wr_nil ⟨_, _, rfl, 50 + 2 * i, 50 + 2 * i + 2, p, u, fr, rfl, oku, by omega, by omega, hp, cu2, (fun m y h1 h2 => by rw [hxp] at h1; rw [← Option.some.inj h1] at h2; exact okb.ok m h2), fun w' o' c' => ?_⟩⟩))))))))
    refine ws_drop 2 (ws_drop 3 (ws_drop 4 (ws_nil ⟨w', ⟨o'.up (by omega) (by omega), ?_⟩, rfl⟩)))
    have := okb.few
    rw [Nat.pow_succ, ← Nat.mul_assoc]
    omega
  rintro zs u hz ⟨oku, cu⟩
  exact xs_ret (xv 1) ⟨_, .own (.da .nil), hq u (oku.up (by omega) (by omega))⟩
theorem d_alla (D : DK K "_law_all_asked" s_l_all_asked) (gD : Def P w0 K mg bs 2 "_law_own_draw" ["state", "many"] (spDrawO ⟨P, w0, K⟩)) (gAs : Def P w0 K mg bs 28 "_law_asked" ["way", "left", "right"] spAskF) (gCw : Def P w0 K mg bs 12 "_law_changed_way" ["state", "way"] (spChg ⟨P, w0, K⟩)) (gLi : Def P w0 K mg bs 24 "_law_like" ["state", "kind", "room", "most"] (spOLike ⟨P, w0, K⟩ 4)) : Def P w0 K mg bs 29 "_law_all_asked" ["state", "way", "left", "right"] (spAllA ⟨P, w0, K⟩) := by
  refine def_ok X G D sc_l_all_asked (fun f fd F => F.binds (ps := ["state", "way", "left", "right"]) fun _ _ _ _ _ _ us hl => match us, hl with | [_, _, _, _], _ => rfl) (fun as Ψ h => by obtain ⟨_, _, _, rfl, _⟩ := h; rfl) fun f cdv A fr s H E fx as Ψ vs hsp hl => ?_
  obtain ⟨w, l, r, rfl, q, hq⟩ := hsp
  obtain ⟨v0, v1, v2, v3, rfl⟩ := ar4 hl
  have nd := fx.nd
  have r2 := fx.room.mono (show 2 ≤ 28 by decide)
  have r12 := fx.room.mono (show 12 ≤ 28 by decide)
  have r24 := fx.room.mono (show 24 ≤ 28 by decide)
  have fa := q.fa
  have fb : FA w r l := ⟨fa.ok, fa.fr, fa.fl⟩
  have lf : sz l ≤ 4000 := Nat.le_trans q.fl.few (by decide)
  have rf : sz r ≤ 4000 := Nat.le_trans q.fr.few (by decide)
  show WSs _ _ [some (.pin v0 (ST ⟨P, w0, K⟩)), some (.da (owD w)), some (.da (kD l)), some (.da (kD r)), none, none, none, none] _
  refine xs_ifF (xt_cast (xt_not (xt_val (k := true) (fun Ψ' hq' => we_fnP gAs fx.room fx.gd (wa_d (xv 1) (wa_d (xv 2) (wa_d (xv 3) wa_n))) ⟨w, l, r, rfl, fa, hq'⟩))) rfl) (ws_nil ?_)
  refine ws_forT fx (List.range 8) (fun (i : Nat) => .int (i : Nat)) (fun _ : Unit => [some (.pin v0 (ST ⟨P, w0, K⟩)), some (.da (owD w)), some (.da (kD l)), some (.da (kD r)), none, none, none, none]) (fun _ _ => True) () (xi_rangeN B (xe_int (i := ((8 : Nat) : Int))) (by decide)) trivial rfl ?_ fun _ _ => xs_ret xe_bl ⟨_, .own (.da (.da (.da .nil))), hq⟩
  rintro _ i _ hx _
  refine wg_name 4 nd ?_
  refine ws_set 5 nd (we_fnR gCw r12 fx.gd (wr_ref 0 (wr_da (xv 1) (wr_nil ⟨_, _, rfl, w, rfl, q.ok, q.few, fun b okb => ?_⟩))))
  have fc : FA b l r := ⟨⟨_, okb⟩, q.fl, q.fr⟩
  refine ws_set 6 nd (we_drawN (n := 8) 0 gD r2 fx.gd xe_int (by decide) (by decide) fun t ht => ?_)
  show WSs _ _ [some (.pin v0 (ST ⟨P, w0, K⟩)), some (.da (owD w)), some (.da (kD l)), some (.da (kD r)), some (.da (.int (i : Nat))), some (.da (owD b)), some (.da (.int (t : Nat))), none] _
  refine ws_meet (fun _ : Unit => [some (.pin v0 (ST ⟨P, w0, K⟩)), some (.da (owD w)), some (.da (kD l)), some (.da (kD r)), some (.da (.int (i : Nat))), some (.da (owD b)), some (.da (.int (t : Nat))), some (.da (.bool true))]) (fun _ => True) (fun key => wt_pure (xt_eqI fx.u (xv 6) (xe_int (i := 5))) ⟨fun _ => ?_, fun _ => ?_⟩) ?_
  · exact xs_set 7 nd (fun Ψ' hq' => we_fnP gAs fx.room fx.gd (wa_d (xv 1) (wa_d (xv 3) (wa_d (xv 2) wa_n))) ⟨w, r, l, rfl, fb, hq'⟩) (ws_nil (key () trivial))
  · refine xs_if (xt_eqI fx.u (xv 6) (xe_int (i := 6))) (fun _ => ?_) fun _ => ?_
    · exact ws_set 7 nd (we_fnR gAs fx.room fx.gd (wr_da (xv 1) (wr_da (xv 2) (wr_cons (we_fnR gLi r24 fx.gd (wr_ref 0 (wr_da (xv 3) (wr_da (xe_int (i := ((4 : Nat) : Int))) (wr_da (xe_int (i := ((30 : Nat) : Int))) (wr_nil ⟨_, _, rfl, r, 30, rfl, q.fr.rt, rf, by decide, by decide, by decide, fun k kk => wr_nil ⟨_, _, rfl, w, l, k, rfl, ⟨fa.ok, q.fl, ⟨kk.rt, kk.few⟩⟩, ws_nil (ws_nil (key () trivial))⟩⟩))))))))))
    refine xs_if (xt_eqI fx.u (xv 6) (xe_int (i := 7))) (fun _ => ?_) fun _ => ?_
    · exact ws_set 7 nd (we_fnR gAs fx.room fx.gd (wr_da (xv 1) (wr_cons (we_fnR gLi r24 fx.gd (wr_ref 0 (wr_da (xv 2) (wr_da (xe_int (i := ((4 : Nat) : Int))) (wr_da (xe_int (i := ((30 : Nat) : Int))) (wr_nil ⟨_, _, rfl, l, 30, rfl, q.fl.rt, lf, by decide, by decide, by decide, fun k kk => wr_da (xv 3) (wr_nil ⟨_, _, rfl, w, k, r, rfl, ⟨fa.ok, ⟨kk.rt, kk.few⟩, q.fr⟩, ws_nil (ws_nil (ws_nil (key () trivial)))⟩)⟩))))))))) 
    · exact xs_set 7 nd (fun Ψ' hq' => we_fnP gAs fx.room fx.gd (wa_d (xv 5) (wa_d (xv 2) (wa_d (xv 3) wa_n))) ⟨b, l, r, rfl, fc, hq'⟩) (ws_nil (ws_nil (ws_nil (key () trivial))))
  rintro _ _
  show WSs _ _ [some (.pin v0 (ST ⟨P, w0, K⟩)), some (.da (owD w)), some (.da (kD l)), some (.da (kD r)), some (.da (.int (i : Nat))), some (.da (owD b)), some (.da (.int (t : Nat))), some (.da (.bool true))] _
  exact xs_ifF (xt_cast (xt_not (xt_val (k := true) (xv 7))) rfl) (ws_nil (ws_drop 4 (ws_drop 5 (ws_drop 6 (ws_drop 7 (ws_nil ⟨(), trivial, rfl⟩))))))
theorem d_law (gSt : Def P w0 K mg bs 1 "_law_state" ["script"] (spState ⟨P, w0, K⟩)) (gWo : Def P w0 K mg bs 25 "_law_world" ["state"] (spWl ⟨P, w0, K⟩)) (gAA : Def P w0 K mg bs 29 "_law_all_asked" ["state", "way", "left", "right"] (spAllA ⟨P, w0, K⟩)) (gAs : Def P w0 K mg bs 28 "_law_asked" ["way", "left", "right"] spAskF) : ∀ f fd, Fun K "law" "law" s_law f fd → FnG P w0 K mg bs CX0 30 f fd ["script"] (mkSp ⟨P, w0, K⟩ spLaw) := by
  refine fn_def sc_law (fun as Ψ h => by obtain ⟨_, rfl, _⟩ := h; rfl) fun f cdv A fr s H E fx as Ψ us hsp hl => ?_
  obtain ⟨ns, rfl, hns, hq⟩ := hsp
  obtain ⟨v0, rfl⟩ := ar1 hl
  have nd := fx.nd
  have q1 := fx.room.mono (show 1 ≤ 29 by decide)
  have q25 := fx.room.mono (show 25 ≤ 29 by decide)
  have q28 := fx.room.mono (show 28 ≤ 29 by decide)
  show WSs _ _ [some (.da (.list (ns.map .int))), none, none, none] _
  refine ws_set 1 nd (we_fnR gSt q1 fx.gd (wr_da (xv 0) (wr_nil ⟨_, _, rfl, ns, rfl, hns, ?_⟩)))
  show WSs _ _ [some (.da (.list (ns.map .int))), some (ST ⟨P, w0, K⟩), none, none] _
  refine ws_set 2 nd (we_lst (wa_cons (we_frz (we_fnR gWo q25 fx.gd (wr_ref 1 (wr_nil ⟨_, _, rfl, rfl, fun w1 l1 r1 o1 => ⟨_, .ll, wa_cons (we_frz (we_fnR gWo q25 fx.gd (wr_ref 1 (wr_nil ⟨_, _, rfl, rfl, fun w2 l2 r2 o2 => ⟨_, .ll, wa_cons (we_frz (we_fnR gWo q25 fx.gd (wr_ref 1 (wr_nil ⟨_, _, rfl, rfl, fun w3 l3 r3 o3 => ⟨_, .ll, wa_nil ⟨[(w1, l1, r1), (w2, l2, r2), (w3, l3, r3)].map wl3, rfl, (by show 3 ≤ sizeLine; decide), ?_⟩⟩⟩))))⟩⟩))))⟩⟩))))))
  refine ws_frz 2 .ll ?_
  show WSs _ _ [some (.da (.list (ns.map .int))), some (ST ⟨P, w0, K⟩), some (.da (.list ([(w1, l1, r1), (w2, l2, r2), (w3, l3, r3)].map wl3))), none] _
  have all : ∀ q ∈ [(w1, l1, r1), (w2, l2, r2), (w3, l3, r3)], Wl q.1 q.2.1 q.2.2 := fun q hq => by
    rcases List.mem_cons.mp hq with rfl | hq
    · exact o1
    rcases List.mem_cons.mp hq with rfl | hq
    · exact o2
    · rw [List.mem_singleton.mp hq]
      exact o3
  refine ws_forT fx [(w1, l1, r1), (w2, l2, r2), (w3, l3, r3)] wl3 (fun _ : Unit => [some (.da (.list (ns.map .int))), some (ST ⟨P, w0, K⟩), some (.da (.list ([(w1, l1, r1), (w2, l2, r2), (w3, l3, r3)].map wl3))), none]) (fun _ _ => True) () (xi_lst (xv 2)) trivial rfl ?_ ?_
  · rintro i ⟨wy, l, r⟩ _ hx _
    have q := all _ (List.mem_of_getElem? hx)
    have q : Wl wy l r := q
    refine wg_name 3 nd ?_
    show WSs _ _ [some (.da (.list (ns.map .int))), some (ST ⟨P, w0, K⟩), some (.da (.list ([(w1, l1, r1), (w2, l2, r2), (w3, l3, r3)].map wl3))), some (.da (.list [owD wy, kD l, kD r]))] _
    exact ws_if (wt_not (wt_val (we_fnR gAA fx.room fx.gd (wr_ref 1 (wr_da (il0 (xv 3)) (wr_da (il1 (xv 3)) (wr_da (il2 (xv 3)) (wr_nil ⟨_, _, rfl, wy, l, r, rfl, q, ⟨true, rfl, fun h => (by cases h), fun _ => ws_nil (ws_drop 3 (ws_nil ⟨(), trivial, rfl⟩))⟩⟩))))))))
  · rintro _ _
    exact xs_ret (xe_castD (xe_allM (fun _ : Ow × Kd × Kd => true) [(w1, l1, r1), (w2, l2, r2), (w3, l3, r3)] B rfl (xe_lcM [("world", 3)] (fun (q : Ow × Kd × Kd) Γ => Γ.set 3 (some (.da (wl3 q)))) [(w1, l1, r1), (w2, l2, r2), (w3, l3, r3)] wl3 (fun _ => .bool true) fx (R := fun _ => .da (.bool true)) (xi_lst (xv 2)) (by show 3 ≤ sizeLine; decide) (fun q hq s H C cl fp => gc_name 3 nd rfl) fun q hq s H C cl fp Ψ' hq' => we_fnP gAs (fx.blk.room.mono (by decide)) fx.blk.gd (wa_d (il0 (xv 3)) (wa_d (il1 (xv 3)) (wa_d (il2 (xv 3)) wa_n))) ⟨q.1, q.2.1, q.2.2, rfl, (all q hq).fa, hq'⟩)) (by rfl)) ⟨_, .da .nil, hq _⟩
end
end Law
namespace Law
open PySem PySem.Spec PyProof.Rows L2 TL
/-! ### all together -/
theorem all_mk {P : Program} {w : World} {K : PySem.W.Frag} {h : Heap} {mg : Str → Option Value} {fa : Addr} (X : K.In h) (G : h.Ns mainGlobals mg) (hfa : mg "law" = some (.ref fa)) (Disnumber : DK K "is_number" s_is_number) (Dsizeof : DK K "size_of" s_size_of) (Drowsizes : DK K "row_sizes" s_row_sizes) (Disvalue : DK K "is_value" s_is_value) (Disarmvalue : DK K "is_arm_value" s_is_arm_value) (Dfits : DK K "fits" s_fits) (Dfitswithin : DK K "fits_within" s_fits_within) (Dfitsbare : DK K "fits_bare" s_fits_bare) (Dfitstable : DK K "fits_table" s_fits_table) (Dfitssome : DK K "fits_some" s_fits_some) (Dfitsmust : DK K "fits_must" s_fits_must) (Dfitsinside : DK K "fits_inside" s_fits_inside) (Dfitsarms : DK K "fits_arms" s_fits_arms) (Darmkind : DK K "arm_kind" s_arm_kind) (Dhasalltags : DK K "has_all_tags" s_has_all_tags) (Dfitsparts : DK K "fits_parts" s_fits_parts) (Displace : DK K "is_place" s_is_place) (Dpartkind : DK K "part_kind" s_part_kind) (Deachplaceonce : DK K "each_place_once" s_each_place_once) (Dlstate : DK K "_law_state" s_l_state) (Dlmixed : DK K "_law_mixed" s_l_mixed) (Dlowndraw : DK K "_law_own_draw" s_l_own_draw) (Dlownnames : DK K "_law_own_names" s_l_own_names) (Dlownsize : DK K "_law_own_size" s_l_own_size) (Dldepth : DK K "_law_depth" s_l_depth) (Dlownisvalue : DK K "_law_own_is_value" s_l_own_is_value) (Dlnum : DK K "_law_num" s_l_num) (Dlownpick : DK K "_law_own_pick" s_l_own_pick) (Dlownkind : DK K "_law_own_kind" s_l_own_kind) (Dlrow : DK K "_law_row" s_l_row) (Dlarms : DK K "_law_arms" s_l_arms) (Dlrecs : DK K "_law_recs" s_l_recs) (Dlinner : DK K "_law_inner" s_l_inner) (Dllike : DK K "_law_like" s_l_like) (Dlchanged : DK K "_law_changed" s_l_changed) (Dlownvalue : DK K "_law_own_value" s_l_own_value) (Dlwords : DK K "_law_words" s_l_words) (Dlownway : DK K "_law_own_way" s_l_own_way) (Dltable : DK K "_law_table" s_l_table) (Dlturned : DK K "_law_turned" s_l_turned) (Dlarmtrios : DK K "_law_arm_trios" s_l_arm_trios) (Dlparttrios : DK K "_law_part_trios" s_l_part_trios) (Dlpartof : DK K "_law_part_of" s_l_part_of) (Dlownfits : DK K "_law_own_fits" s_l_own_fits) (Dlfitstable : DK K "_law_fits_table" s_l_fits_table) (Dlfitsarms : DK K "_law_fits_arms" s_l_fits_arms) (Dlfitsparts : DK K "_law_fits_parts" s_l_fits_parts) (Dlkids : DK K "_law_kids" s_l_kids) (Dlownnodes : DK K "_law_own_nodes" s_l_own_nodes) (Dlput : DK K "_law_put" s_l_put) (Dlodd : DK K "_law_odd" s_l_odd) (Dlownbent : DK K "_law_own_bent" s_l_own_bent) (Dlbenttable : DK K "_law_bent_table" s_l_bent_table) (Dlbenttrios : DK K "_law_bent_trios" s_l_bent_trios) (Dlwide : DK K "_law_wide" s_l_wide) (Dlchain : DK K "_law_chain" s_l_chain) (Dllongtable : DK K "_law_long_table" s_l_long_table) (Dlworld : DK K "_law_world" s_l_world) (Dlasked : DK K "_law_asked" s_l_asked) (Dlchangedway : DK K "_law_changed_way" s_l_changed_way) (Dlallasked : DK K "_law_all_asked" s_l_all_asked) (Dlaw : DK K "law" s_law)
  (cN : DKV K "NOTHING" (kD nothK)) (cD : DKC K "DEEPEST" 6) (cT : DKC K "TABLE_SIZE" 20)
  (z : ∀ nm ∈ (["len", "int", "abs", "divmod", "list", "tuple", "range", "zip", "enumerate", "reversed", "sorted", "min", "max", "sum", "all", "any", "set", "repr", "str", "isinstance", "bool", "dict"] : List Str), NoG K nm) :
    ∃ fd : FuncData, (∀ (s : Shared) (v : Value), BindsTo s fd ⟨[v], []⟩ [("script", v)]) ∧ ∀ base : Heap, K.In base → base.Ns mainGlobals mg → FnG P w K mg base CX0 30 fa fd ["script"] (mkSp ⟨P, w, K⟩ spLaw) := by
  have B := blt_mk X G z
  obtain ⟨f, fd, F, a⟩ := Dlaw
  have e : fa = f := by
    have := hfa.symm.trans (PySem.W.mg_of X G a)
    injection this with this
    injection this
  subst e
  refine ⟨fd, fun s v => ?_, fun bs _ _ => ?_⟩
  · obtain ⟨oc, od, kV, doc, pm, an, cdv, ct, osl, rfl, lk, hcd⟩ := F.ex
    exact .of_eq rfl
  · skip
    have gSt := d_state (P := P) (w := w) (bs := bs) X G B Dlstate
    have gM := d_mixed (P := P) (w := w) (bs := bs) X G B Dlmixed
    have gD := d_own_draw (P := P) (w := w) (bs := bs) X G B Dlowndraw gM
    have gN := d_own_names (P := P) (w := w) (bs := bs) X G B Dlownnames gD
    have gSz := fun n hn => d_osize (P := P) (w := w) (bs := bs) X G B Dlownsize n hn
    have gS := gSz 4 (by decide)
    have gDp := d_depth (P := P) (w := w) (bs := bs) X G B Dldepth 4 (by decide)
    have gNumN := d_onum (P := P) (w := w) (bs := bs) X G B Dlnum gD
    have gNum := Def.weak num_weak gNumN
    have gPk := d_opick (P := P) (w := w) (bs := bs) X G B Dlownpick gD gN
    obtain ⟨gK, gL⟩ := d_kinds (P := P) (w := w) (bs := bs) X G B Dlownkind Dllike Dlchanged Dlinner Dlarms Dlrecs Dlrow gD gN gNum gPk gS gDp gSz 4 (by decide)
    obtain ⟨gK3, gL3⟩ := d_kinds (P := P) (w := w) (bs := bs) X G B Dlownkind Dllike Dlchanged Dlinner Dlarms Dlrecs Dlrow gD gN gNum gPk gS gDp gSz 3 (by decide)
    obtain ⟨gK1, gL1⟩ := d_kinds (P := P) (w := w) (bs := bs) X G B Dlownkind Dllike Dlchanged Dlinner Dlarms Dlrecs Dlrow gD gN gNum gPk gS gDp gSz 1 (by decide)
    have gOV := d_oval (P := P) (w := w) (bs := bs) X G B Dlownvalue gD 4
    have gT := d_table (P := P) (w := w) (bs := bs) X G B Dltable (n := 4) gS gOV
    have gWd := d_words (P := P) (w := w) (bs := bs) X G B Dlwords gS
    have gTn := d_turned (P := P) (w := w) (bs := bs) X G B Dlturned gD
    have gWay := r_way (P := P) (w := w) (bs := bs) X G B Dlownway Dlarmtrios Dlparttrios gD gWd gT gOV gTn
    have gIn0 := d_is_number (P := P) (w := w) (bs := bs) X G B Disnumber
    have gIV := d_isv (P := P) (w := w) (bs := bs) X G B Disvalue Disarmvalue gIn0 5
    have gSzP := d_size (P := P) (w := w) (bs := bs) X G B Dsizeof Drowsizes 5 (by decide)
    have gAk := d_armKO (P := P) (w := w) (bs := bs) X G B Darmkind
    have gPk2 := d_part_kind (P := P) (w := w) (bs := bs) X G B Dpartkind (dkv_gl cN X G)
    have gTg := d_tagsO (P := P) (w := w) (bs := bs) X G B Dhasalltags
    have gIp := d_is_placeO (P := P) (w := w) (bs := bs) X G B Displace gIn0
    have gOn := d_onceO (P := P) (w := w) (bs := bs) X G B Deachplaceonce
    have gBa := d_bareO (P := P) (w := w) (bs := bs) X G B Dfitsbare gSzP
    have gFT := d_ftabO (P := P) (w := w) (bs := bs) X G B Dfitstable (fun Y h1 _ => by rw [h1]; exact cT.mg X G) gIV gSzP
    have gFW := r_fwO (P := P) (w := w) (bs := bs) X G B Dfitswithin Dfitssome Dfitsmust Dfitsinside Dfitsarms Dfitsparts gBa gFT gIV gAk gTg gPk2 gIp gOn 6
    have gFi := d_fitsO (P := P) (w := w) (bs := bs) X G B Dfits (fun Y h1 _ => by rw [h1]; exact cD.mg X G) gFW
    have gPo := d_part_of (P := P) (w := w) (bs := bs) X G B Dlpartof
    have gOIV := d_oisG (P := P) (w := w) (bs := bs) X G B Dlownisvalue 5
    have gLT := d_lftab (P := P) (w := w) (bs := bs) X G B Dlfitstable gOIV gS
    have gLF := r_lfw (P := P) (w := w) (bs := bs) X G B Dlownfits Dlfitsarms Dlfitsparts gOIV gS gLT gPo 6
    have gKi := d_kids (P := P) (w := w) (bs := bs) X G B Dlkids
    have gNo := d_nodes (P := P) (w := w) (bs := bs) X G B Dlownnodes gKi
    have gPu := d_put (P := P) (w := w) (bs := bs) X G B Dlput gNo
    have gOd := d_odd (P := P) (w0 := w) (bs := bs) X G B Dlodd gD
    have gBT := d_btab (P := P) (w0 := w) (bs := bs) X G B Dlbenttable gD gOd
    have gBR := d_btri (P := P) (w0 := w) (bs := bs) X G B Dlbenttrios gD
    have gBe := d_bent (P := P) (w0 := w) (bs := bs) X G B Dlownbent gD gOd gBT gBR
    have gWi := d_wide (P := P) (w0 := w) (bs := bs) X G B Dlwide gD
    have gCh := d_chain (P := P) (w0 := w) (bs := bs) X G B Dlchain gD gNumN gL1 (gWay 1) gOV
    have gLt := d_ltab (P := P) (w0 := w) (bs := bs) X G B Dllongtable gD gWi gK3 gT
    have gWo := d_world (P := P) (w0 := w) (bs := bs) X G B Dlworld gD gCh gLt gK gL (gWay 6)
    have gAs := d_asked (P := P) (w0 := w) (bs := bs) X G B Dlasked gFi gLF
    have gCw := d_chg (P := P) (w0 := w) (bs := bs) X G B Dlchangedway gD gNo gPu gBe
    have gAA := d_alla (P := P) (w0 := w) (bs := bs) X G B Dlallasked gD gAs gCw gL
    have glaw := d_law (P := P) (w0 := w) (bs := bs) X G B gSt gWo gAA gAs
    exact (glaw _ _ F).mono (by decide)
end Law
open PySem PySem.W PyProof.Rows
set_option maxRecDepth 100000 in
set_option maxHeartbeats 0 in
theorem PySem.Challenge.cw_tellgarner_k13_ways_fit_holds : PySem.Challenge.rw_tellgarner_k13_ways_fit.Holds := by
  w_on; o_law; k_head; (case hw => w_witness2)
  k_fill
  refine TL.walkG (l := PySem.Challenge.rw_tellgarner_k13_ways_fit) (n := 63) (k := 30) rfl (by decide) rfl ⟨rfl, by decide, by decide⟩ (fun w h Y => PySem.W.kIn_of Y) ?F
  case F =>
    intro w mg fa h KX G hmg
    refine' Law.all_mk KX G hmg (TL.dk_mk ?a0 ?l0 ?c0 ?k0) (TL.dk_mk ?a1 ?l1 ?c1 ?k1) (TL.dk_mk ?a2 ?l2 ?c2 ?k2) (TL.dk_mk ?a3 ?l3 ?c3 ?k3) (TL.dk_mk ?a4 ?l4 ?c4 ?k4) (TL.dk_mk ?a5 ?l5 ?c5 ?k5) (TL.dk_mk ?a6 ?l6 ?c6 ?k6) (TL.dk_mk ?a7 ?l7 ?c7 ?k7) (TL.dk_mk ?a8 ?l8 ?c8 ?k8) (TL.dk_mk ?a9 ?l9 ?c9 ?k9) (TL.dk_mk ?a10 ?l10 ?c10 ?k10) (TL.dk_mk ?a11 ?l11 ?c11 ?k11) (TL.dk_mk ?a12 ?l12 ?c12 ?k12) (TL.dk_mk ?a13 ?l13 ?c13 ?k13) (TL.dk_mk ?a14 ?l14 ?c14 ?k14) (TL.dk_mk ?a15 ?l15 ?c15 ?k15) (TL.dk_mk ?a16 ?l16 ?c16 ?k16) (TL.dk_mk ?a17 ?l17 ?c17 ?k17) (TL.dk_mk ?a18 ?l18 ?c18 ?k18) (TL.dk_mk ?a19 ?l19 ?c19 ?k19) (TL.dk_mk ?a20 ?l20 ?c20 ?k20) (TL.dk_mk ?a21 ?l21 ?c21 ?k21) (TL.dk_mk ?a22 ?l22 ?c22 ?k22) (TL.dk_mk ?a23 ?l23 ?c23 ?k23) (TL.dk_mk ?a24 ?l24 ?c24 ?k24) (TL.dk_mk ?a25 ?l25 ?c25 ?k25) (TL.dk_mk ?a26 ?l26 ?c26 ?k26) (TL.dk_mk ?a27 ?l27 ?c27 ?k27) (TL.dk_mk ?a28 ?l28 ?c28 ?k28) (TL.dk_mk ?a29 ?l29 ?c29 ?k29) (TL.dk_mk ?a30 ?l30 ?c30 ?k30) (TL.dk_mk ?a31 ?l31 ?c31 ?k31) (TL.dk_mk ?a32 ?l32 ?c32 ?k32) (TL.dk_mk ?a33 ?l33 ?c33 ?k33) (TL.dk_mk ?a34 ?l34 ?c34 ?k34) (TL.dk_mk ?a35 ?l35 ?c35 ?k35) (TL.dk_mk ?a36 ?l36 ?c36 ?k36) (TL.dk_mk ?a37 ?l37 ?c37 ?k37) (TL.dk_mk ?a38 ?l38 ?c38 ?k38) (TL.dk_mk ?a39 ?l39 ?c39 ?k39) (TL.dk_mk ?a40 ?l40 ?c40 ?k40) (TL.dk_mk ?a41 ?l41 ?c41 ?k41) (TL.dk_mk ?a42 ?l42 ?c42 ?k42) (TL.dk_mk ?a43 ?l43 ?c43 ?k43) (TL.dk_mk ?a44 ?l44 ?c44 ?k44) (TL.dk_mk ?a45 ?l45 ?c45 ?k45) (TL.dk_mk ?a46 ?l46 ?c46 ?k46) (TL.dk_mk ?a47 ?l47 ?c47 ?k47) (TL.dk_mk ?a48 ?l48 ?c48 ?k48) (TL.dk_mk ?a49 ?l49 ?c49 ?k49) (TL.dk_mk ?a50 ?l50 ?c50 ?k50) (TL.dk_mk ?a51 ?l51 ?c51 ?k51) (TL.dk_mk ?a52 ?l52 ?c52 ?k52) (TL.dk_mk ?a53 ?l53 ?c53 ?k53) (TL.dk_mk ?a54 ?l54 ?c54 ?k54) (TL.dk_mk ?a55 ?l55 ?c55 ?k55) (TL.dk_mk ?a56 ?l56 ?c56 ?k56) (TL.dk_mk ?a57 ?l57 ?c57 ?k57) (TL.dk_mk ?a58 ?l58 ?c58 ?k58) (TL.dk_mk ?a59 ?l59 ?c59 ?k59) (TL.dk_mk ?a60 ?l60 ?c60 ?k60) (TL.dk_mk ?a61 ?l61 ?c61 ?k61) (Law.dkv_noth ?vE ?vL ?vI ?vM ?vJ) (TL.dkc_mk ?vD) (TL.dkc_mk ?vT) ?z
    (case a0 => k_is); (case l0 => k_is); (case c0 => k_is); (case k0 => k_is)
    (case a1 => k_is); (case l1 => k_is); (case c1 => k_is); (case k1 => k_is)
    (case a2 => k_is); (case l2 => k_is); (case c2 => k_is); (case k2 => k_is)
    (case a3 => k_is); (case l3 => k_is); (case c3 => k_is); (case k3 => k_is)
    (case a4 => k_is); (case l4 => k_is); (case c4 => k_is); (case k4 => k_is)
    (case a5 => k_is); (case l5 => k_is); (case c5 => k_is); (case k5 => k_is)
    (case a6 => k_is); (case l6 => k_is); (case c6 => k_is); (case k6 => k_is)
    (case a7 => k_is); (case l7 => k_is); (case c7 => k_is); (case k7 => k_is)
    (case a8 => k_is); (case l8 => k_is); (case c8 => k_is); (case k8 => k_is)
    (case a9 => k_is); (case l9 => k_is); (case c9 => k_is); (case k9 => k_is)
    (case a10 => k_is); (case l10 => k_is); (case c10 => k_is); (case k10 => k_is)
    (case a11 => k_is); (case l11 => k_is); (case c11 => k_is); (case k11 => k_is)
    (case a12 => k_is); (case l12 => k_is); (case c12 => k_is); (case k12 => k_is)
    (case a13 => k_is); (case l13 => k_is); (case c13 => k_is); (case k13 => k_is)
    (case a14 => k_is); (case l14 => k_is); (case c14 => k_is); (case k14 => k_is)
    (case a15 => k_is); (case l15 => k_is); (case c15 => k_is); (case k15 => k_is)
    (case a16 => k_is); (case l16 => k_is); (case c16 => k_is); (case k16 => k_is)
    (case a17 => k_is); (case l17 => k_is); (case c17 => k_is); (case k17 => k_is)
    (case a18 => k_is); (case l18 => k_is); (case c18 => k_is); (case k18 => k_is)
    (case a19 => k_is); (case l19 => k_is); (case c19 => k_is); (case k19 => k_is)
    (case a20 => k_is); (case l20 => k_is); (case c20 => k_is); (case k20 => k_is)
    (case a21 => k_is); (case l21 => k_is); (case c21 => k_is); (case k21 => k_is)
    (case a22 => k_is); (case l22 => k_is); (case c22 => k_is); (case k22 => k_is)
    (case a23 => k_is); (case l23 => k_is); (case c23 => k_is); (case k23 => k_is)
    (case a24 => k_is); (case l24 => k_is); (case c24 => k_is); (case k24 => k_is)
    (case a25 => k_is); (case l25 => k_is); (case c25 => k_is); (case k25 => k_is)
    (case a26 => k_is); (case l26 => k_is); (case c26 => k_is); (case k26 => k_is)
    (case a27 => k_is); (case l27 => k_is); (case c27 => k_is); (case k27 => k_is)
    (case a28 => k_is); (case l28 => k_is); (case c28 => k_is); (case k28 => k_is)
    (case a29 => k_is); (case l29 => k_is); (case c29 => k_is); (case k29 => k_is)
    (case a30 => k_is); (case l30 => k_is); (case c30 => k_is); (case k30 => k_is)
    (case a31 => k_is); (case l31 => k_is); (case c31 => k_is); (case k31 => k_is)
    (case a32 => k_is); (case l32 => k_is); (case c32 => k_is); (case k32 => k_is)
    (case a33 => k_is); (case l33 => k_is); (case c33 => k_is); (case k33 => k_is)
    (case a34 => k_is); (case l34 => k_is); (case c34 => k_is); (case k34 => k_is)
    (case a35 => k_is); (case l35 => k_is); (case c35 => k_is); (case k35 => k_is)
    (case a36 => k_is); (case l36 => k_is); (case c36 => k_is); (case k36 => k_is)
    (case a37 => k_is); (case l37 => k_is); (case c37 => k_is); (case k37 => k_is)
    (case a38 => k_is); (case l38 => k_is); (case c38 => k_is); (case k38 => k_is)
    (case a39 => k_is); (case l39 => k_is); (case c39 => k_is); (case k39 => k_is)
    (case a40 => k_is); (case l40 => k_is); (case c40 => k_is); (case k40 => k_is)
    (case a41 => k_is); (case l41 => k_is); (case c41 => k_is); (case k41 => k_is)
    (case a42 => k_is); (case l42 => k_is); (case c42 => k_is); (case k42 => k_is)
    (case a43 => k_is); (case l43 => k_is); (case c43 => k_is); (case k43 => k_is)
    (case a44 => k_is); (case l44 => k_is); (case c44 => k_is); (case k44 => k_is)
    (case a45 => k_is); (case l45 => k_is); (case c45 => k_is); (case k45 => k_is)
    (case a46 => k_is); (case l46 => k_is); (case c46 => k_is); (case k46 => k_is)
    (case a47 => k_is); (case l47 => k_is); (case c47 => k_is); (case k47 => k_is)
    (case a48 => k_is); (case l48 => k_is); (case c48 => k_is); (case k48 => k_is)
    (case a49 => k_is); (case l49 => k_is); (case c49 => k_is); (case k49 => k_is)
    (case a50 => k_is); (case l50 => k_is); (case c50 => k_is); (case k50 => k_is)
    (case a51 => k_is); (case l51 => k_is); (case c51 => k_is); (case k51 => k_is)
    (case a52 => k_is); (case l52 => k_is); (case c52 => k_is); (case k52 => k_is)
    (case a53 => k_is); (case l53 => k_is); (case c53 => k_is); (case k53 => k_is)
    (case a54 => k_is); (case l54 => k_is); (case c54 => k_is); (case k54 => k_is)
    (case a55 => k_is); (case l55 => k_is); (case c55 => k_is); (case k55 => k_is)
    (case a56 => k_is); (case l56 => k_is); (case c56 => k_is); (case k56 => k_is)
    (case a57 => k_is); (case l57 => k_is); (case c57 => k_is); (case k57 => k_is)
    (case a58 => k_is); (case l58 => k_is); (case c58 => k_is); (case k58 => k_is)
    (case a59 => k_is); (case l59 => k_is); (case c59 => k_is); (case k59 => k_is)
    (case a60 => k_is); (case l60 => k_is); (case c60 => k_is); (case k60 => k_is)
    (case a61 => k_is); (case l61 => k_is); (case c61 => k_is); (case k61 => k_is)
    (case vE => k_is); (case vL => k_is); (case vI => rfl); (case vM => k_is); (case vJ => rfl)
    (case vD => k_is)
    (case vT => k_is)
    case z =>
      intro nm hn
      simp only [List.mem_cons, List.not_mem_nil, or_false] at hn
      rcases hn with rfl | rfl | rfl | rfl | rfl | rfl | rfl | rfl | rfl | rfl | rfl | rfl | rfl | rfl | rfl | rfl | rfl | rfl | rfl | rfl | rfl | rfl <;> (unfold TL.NoG; k_is)
