import PyProof.Rows.All
import Wide.All
import OpenK.AllK
import Wide.FinOn
import HandS.ForMost
import KE.KDictKeyed
import HandS.TupAny
import HandS.Style
import HandS.Conv
import HandS.Rev
import HandS.RevRange
import HandS.Small
import HandS.Deep
import HandS.IsInst
import HandS.Flow
import KE.KDictDisplayH
import HandS.TupLen
import HandS.RaiseMore
import HandS.Exc
import HandS.ExcOwn
import HandS.WordsExc
import HandS.TryOnly
import HandS.TryMany
import HandS.ExcCtx
import HandS.HotCalls
import HandS.ExcField
import HandS.ExcIs
import KE.KExcIs
import HandS.SortInts
import HandS.SortKw
import KE.DataMinMax
import PySem.Challenge.RW_wardens_k49_trials_in_order
set_option Elab.async false
set_option linter.all false
set_option maxRecDepth 100000
set_option autoImplicit false
set_option maxHeartbeats 4000000
/-! Sim, part 1: data, what stands for it in the abstract heap, the state of a def's body. -/
namespace Sim
open PySem PySem.Spec PyProof.Rows L2

/-- modes of a list or dict: shared (never changed), own (one slot alone holds it), borrowed (own, and a loop walks it) -/
inductive Md where
  | sh | own | brw
  deriving DecidableEq
inductive D where
  | non | bl (b : Bool) | int (i : Int) | str (x : Str) | tup (ds : List D) | lst (m : Md) (ds : List D) | dct (m : Md) (ks ds : List D)
  /-- the law's own argument -/
  | scr (ns : List Int)
def D.owned : D → Bool
  | .lst .sh _ => false
  | .lst _ _ => true
  | .dct .sh _ _ => false
  | .dct _ _ _ => true
  | _ => false
def D.frz : D → D
  | .lst _ ds => .lst .sh ds
  | .dct _ ks ds => .dct .sh ks ds
  | d => d
theorem D.frz_owned (d : D) : d.frz.owned = false := by cases d <;> rfl
theorem D.frz_of {d : D} (h : d.owned = false) : d.frz = d := by
  cases d with
  | lst m ds => cases m <;> first | rfl | cases h
  | dct m ks ds => cases m <;> first | rfl | cases h
  | _ => rfl

mutual
def keyOf : D → Option NestedKey
  | .non => some .none
  | .bl b => some (.num (if b = true then 1 else 0))
  | .int i => some (.num i)
  | .str x => some (.text x)
  | .tup ds => match keysOf ds with
    | some ks => some (.tup ks)
    | none => none
  | _ => none
def keysOf : List D → Option (List NestedKey)
  | [] => some []
  | d :: ds => match keyOf d, keysOf ds with
    | some k, some ks => some (k :: ks)
    | _, _ => none
end
def leafOf : D → Option Leaf
  | .non => some .none
  | .int i => some (.num i)
  | .str x => some (.text x)
  | _ => none

/-- keys by value, whole numbers never as truth values -/
def numIs (l : Leaf) (v : Value) : Bool := Leaf.isOf l v && (match v with
  | .bool _ => false
  | _ => true)
theorem numIs_le {l : Leaf} {v : Value} (h : numIs l v = true) : Leaf.isOf l v = true := by
  unfold numIs at h
  rw [Bool.and_eq_true] at h
  exact h.1
def numKind (P : Program) (w : World) : KeyKind P w Leaf where
  is := numIs
  hash := (leafKind P w).hash
  inj := fun v a b ha hb => (leafKind P w).inj v a b (numIs_le ha) (numIs_le hb)
  byValue := fun k v h => (leafKind P w).byValue k v (numIs_le h)
  pyHash := fun hv h => (leafKind P w).pyHash (numIs_le hv) h
  eqBool := fun hu hv h => (leafKind P w).eqBool (numIs_le hu) (numIs_le hv) h
  «strs» := fun k x t v h => by
    cases k with
    | none => exact absurd (numIs_le h) Bool.false_ne_true
    | num i => exact absurd (numIs_le h) Bool.false_ne_true
    | text y =>
      have e := (leafKind P w).strs (.text y) x t v (numIs_le h)
      cases v with
      | bool b => rfl
      | _ => exact (Bool.and_true _).trans e
/-- the world of a proof -/
structure Gx where
  P : Program
  w : World
  K : PySem.W.Frag
def gx (X : Cx) : Gx := ⟨X.prog, X.w, X.K⟩

/-- a dict with keys carried by value; a dict with tuple keys: by its own object alone -/
def leafO (G : Gx) (a : Addr) (ep : Nat) (kvs : List (Leaf × V)) : HO := .ext fun h => ∃ vs, KV kvs vs ∧ h.DictAt (numKind G.P G.w) a vs ep
def TupRel (xs : List (NestedKey × Addr × V)) (ys : List (NestedKey × Addr × Value)) : Prop := Paired (fun p q => p.1 = q.1 ∧ p.2.1 = q.2.1 ∧ RelV p.2.2 q.2.2) xs ys
def tupO (G : Gx) (a : Addr) (ep : Nat) (xs : List (NestedKey × Addr × V)) : HO := .ext fun h => ∃ es ys, h.DictRaw a es ep ∧ es.toList = ys.map (entryOfKey (nestedKind G.P G.w)) ∧ TupRel xs ys

mutual
/-- the shared data d stands at v in H -/
def Rep (G : Gx) (H : Hp) : D → V → Prop
  | .non, v => v = .non
  | .bl b, v => v = .bl b
  | .int i, v => v = .int i
  | .str x, v => v = .str x
  | .tup ds, v => ∃ a vs, v = .ref a ∧ SqT G.K H a vs ∧ RepL G H ds vs
  | .lst m ds, v => m = .sh ∧ ∃ a vs, v = .ref a ∧ H a = some (.lst vs) ∧ RepL G H ds vs
  | .scr ns, v => ∃ a, v = .ref a ∧ SqL G.K H a (ns.map V.int)
  | .dct m ks ds, v => m = .sh ∧ ∃ a, v = .ref a ∧ (a == sysModules) = false ∧
      ((∃ ep kvs, H a = some (leafO G a ep kvs) ∧ ks.map leafOf = kvs.map (fun p => some p.1) ∧ kvs.length ≤ sizeLine ∧ RepL G H ds (kvs.map (·.2))) ∨
       (∃ ep xs, H a = some (tupO G a ep xs) ∧ ks.map keyOf = xs.map (fun p => some p.1) ∧ xs.length ≤ sizeLine ∧ (xs.map (·.1)).Nodup ∧ (∀ p ∈ xs, p.1.depth ≤ 8) ∧ RepL G H ks (xs.map fun p => .ref p.2.1) ∧ RepL G H ds (xs.map (·.2.2))))
def RepL (G : Gx) (H : Hp) : List D → List V → Prop
  | [], vs => vs = []
  | d :: ds, vs => ∃ v r, vs = v :: r ∧ Rep G H d v ∧ RepL G H ds r
end

theorem Same.rd {H H' : Hp} {a : Addr} {u : HO} (e : Same H H') (h : Rd H a u) : Rd H' a u := by
  rcases h with h | ⟨o, h⟩
  · exact .inl (e _ _ h)
  · exact .inr ⟨o, e _ _ h⟩
theorem Same.seqT {K : PySem.W.Frag} {H H' : Hp} {a : Addr} {xs : List V} (e : Same H H') (h : SqT K H a xs) : SqT K H' a xs := by
  rcases h with (h | ⟨o, h⟩) | h
  · exact .inl (.inl (e _ _ h))
  · exact .inl (.inr ⟨o, e _ _ h⟩)
  · exact .inr h

mutual
theorem Rep.mono {G : Gx} {H H' : Hp} (e : Same H H') : ∀ (d : D) (v : V), Rep G H d v → Rep G H' d v
  | .non, _, h => h
  | .bl _, _, h => h
  | .int _, _, h => h
  | .str _, _, h => h
  | .tup ds, _, h => by
    obtain ⟨a, vs, r, q, t⟩ := h
    exact ⟨a, vs, r, Same.seqT e q, RepL.mono e ds vs t⟩
  | .lst m ds, _, h => by
    obtain ⟨z, a, vs, r, q, t⟩ := h
    exact ⟨z, a, vs, r, e _ _ q, RepL.mono e ds vs t⟩
  | .scr ns, _, h => by
    obtain ⟨a, r, q⟩ := h
    exact ⟨a, r, e.seq q⟩
  | .dct m ks ds, _, h => by
    obtain ⟨z, a, r, sm, q⟩ := h
    refine ⟨z, a, r, sm, ?_⟩
    rcases q with ⟨ep, kvs, q1, q2, q3, q5⟩ | ⟨ep, xs, q1, q2, q3, q4, q8, q5, q7⟩
    · exact .inl ⟨ep, kvs, e _ _ q1, q2, q3, RepL.mono e ds _ q5⟩
    · exact .inr ⟨ep, xs, e _ _ q1, q2, q3, q4, q8, RepL.mono e ks _ q5, RepL.mono e ds _ q7⟩
theorem RepL.mono {G : Gx} {H H' : Hp} (e : Same H H') : ∀ (ds : List D) (vs : List V), RepL G H ds vs → RepL G H' ds vs
  | [], _, h => h
  | d :: ds, _, h => by
    obtain ⟨v, r, q, h1, h2⟩ := h
    exact ⟨v, r, q, Rep.mono e d v h1, RepL.mono e ds r h2⟩
end
section
variable {G : Gx} {H : Hp}
theorem Rep.owned : ∀ {d : D} {v : V}, Rep G H d v → d.owned = false
  | .non, _, _ => rfl
  | .bl _, _, _ => rfl
  | .int _, _, _ => rfl
  | .str _, _, _ => rfl
  | .tup _, _, _ => rfl
  | .lst m _, _, h => by obtain ⟨rfl, _⟩ := h; rfl
  | .dct m _ _, _, h => by obtain ⟨rfl, _⟩ := h; rfl
  | .scr _, _, _ => rfl
theorem RepL.nil : RepL G H [] [] := rfl
theorem RepL.cons {d : D} {ds : List D} {v : V} {vs : List V} (h : Rep G H d v) (t : RepL G H ds vs) : RepL G H (d :: ds) (v :: vs) := ⟨v, vs, rfl, h, t⟩
theorem RepL.length : ∀ {ds : List D} {vs : List V}, RepL G H ds vs → ds.length = vs.length
  | [], _, h => by cases h; rfl
  | d :: ds, _, h => by obtain ⟨v, r, rfl, _, t⟩ := h; simp [t.length]
theorem RepL.get : ∀ {ds : List D} {vs : List V} {i : Nat} {d : D}, RepL G H ds vs → ds[i]? = some d → ∃ v, vs[i]? = some v ∧ Rep G H d v
  | [], _, _, _, _, e => by simp at e
  | d :: ds, _, 0, d', h, e => by
    obtain ⟨v, r, rfl, h1, t⟩ := h
    simp at e; subst e
    exact ⟨v, rfl, h1⟩
  | d :: ds, _, i + 1, d', h, e => by
    obtain ⟨v, r, rfl, h1, t⟩ := h
    simp at e
    obtain ⟨v', q, h2⟩ := RepL.get t e
    exact ⟨v', by simpa using q, h2⟩
theorem RepL.append : ∀ {ds es : List D} {vs ws : List V}, RepL G H ds vs → RepL G H es ws → RepL G H (ds ++ es) (vs ++ ws)
  | [], _, _, _, h, t => by cases h; exact t
  | d :: ds, _, _, _, h, t => by
    obtain ⟨v, r, rfl, h1, h2⟩ := h
    exact ⟨v, r ++ _, rfl, h1, h2.append t⟩
theorem RepL.set {d : D} {v : V} (h : Rep G H d v) : ∀ {ds : List D} {vs : List V} (i : Nat), RepL G H ds vs → RepL G H (ds.set i d) (vs.set i v)
  | [], _, _, t => by cases t; exact rfl
  | _ :: _, _, 0, t => by obtain ⟨_, r, rfl, _, t⟩ := t; exact ⟨v, r, rfl, h, t⟩
  | _ :: _, _, i + 1, t => by obtain ⟨w, r, rfl, h1, t⟩ := t; exact ⟨w, r.set i v, rfl, h1, t.set h i⟩
theorem RepL.take : ∀ {ds : List D} {vs : List V} (n : Nat), RepL G H ds vs → RepL G H (ds.take n) (vs.take n)
  | _, _, 0, _ => rfl
  | [], _, n + 1, t => by cases t; exact rfl
  | d :: ds, _, n + 1, t => by obtain ⟨w, r, rfl, h1, t⟩ := t; exact ⟨w, r.take n, rfl, h1, t.take n⟩
theorem RepL.drop : ∀ {ds : List D} {vs : List V} (n : Nat), RepL G H ds vs → RepL G H (ds.drop n) (vs.drop n)
  | _, _, 0, t => t
  | [], _, n + 1, t => by cases t; exact rfl
  | d :: ds, _, n + 1, t => by obtain ⟨w, r, rfl, h1, t⟩ := t; exact t.drop n
theorem RepL.reverse {ds : List D} : ∀ {vs : List V}, RepL G H ds vs → RepL G H ds.reverse vs.reverse := by
  induction ds with
  | nil => intro vs t; cases t; exact rfl
  | cons d ds ih =>
    intro vs t
    obtain ⟨w, r, rfl, h1, t⟩ := t
    rw [List.reverse_cons, List.reverse_cons]
    exact (ih t).append (.cons h1 .nil)
theorem RepL.mem : ∀ {ds : List D} {vs : List V} {v : V}, RepL G H ds vs → v ∈ vs → ∃ d ∈ ds, Rep G H d v
  | [], _, _, t, h => by cases t; cases h
  | d :: ds, _, v', t, h => by
    obtain ⟨w, r, rfl, h1, t⟩ := t
    rcases List.mem_cons.mp h with e | h
    · exact ⟨d, List.mem_cons_self, e ▸ h1⟩
    · obtain ⟨d', m, q⟩ := t.mem h
      exact ⟨d', List.mem_cons_of_mem _ m, q⟩
theorem RepL.ints : ∀ (ns : List Int), RepL G H (ns.map D.int) (ns.map V.int)
  | [] => rfl
  | n :: ns => ⟨_, _, rfl, rfl, RepL.ints ns⟩
end

/-- an own list or dict -/
def OwnV (G : Gx) (Hs H : Hp) : D → V → Prop
  | .lst _ ds, v => ∃ a vs, v = .ref a ∧ Hs a = none ∧ H a = some (.lst vs) ∧ RepL G Hs ds vs
  | .dct _ ks ds, v => ∃ a, v = .ref a ∧ Hs a = none ∧ (a == sysModules) = false ∧
      ((∃ ep kvs, H a = some (leafO G a ep kvs) ∧ ks.map leafOf = kvs.map (fun p => some p.1) ∧ kvs.length ≤ sizeLine ∧ RepL G Hs ds (kvs.map (·.2))) ∨
       (∃ ep xs, H a = some (tupO G a ep xs) ∧ ks.map keyOf = xs.map (fun p => some p.1) ∧ xs.length ≤ sizeLine ∧ (xs.map (·.1)).Nodup ∧ (∀ p ∈ xs, p.1.depth ≤ 8) ∧ RepL G Hs ks (xs.map fun p => .ref p.2.1) ∧ RepL G Hs ds (xs.map (·.2.2))))
  | _, _ => False
/-- what a slot (or a result) holds -/
def SlotV (G : Gx) (Hs H : Hp) (d : D) (v : V) : Prop := if d.owned = true then OwnV G Hs H d v else Rep G Hs d v
section
variable {G : Gx} {Hs H Hs' H' : Hp} {d : D} {v : V} {a : Addr}
theorem SlotV.rep (h : SlotV G Hs H d v) (o : d.owned = false) : Rep G Hs d v := by
  unfold SlotV at h; rw [o] at h; exact h
theorem SlotV.own (h : SlotV G Hs H d v) (o : d.owned = true) : OwnV G Hs H d v := by
  unfold SlotV at h; rw [if_pos o] at h; exact h
theorem SlotV.of (h : Rep G Hs d v) : SlotV G Hs H d v := by
  unfold SlotV; rw [h.owned]; exact h
theorem SlotV.ofOwn (h : OwnV G Hs H d v) (o : d.owned = true) : SlotV G Hs H d v := by
  unfold SlotV; rw [if_pos o]; exact h
theorem OwnV.ref (h : OwnV G Hs H d v) : ∃ a o, v = .ref a ∧ Hs a = none ∧ H a = some o := by
  cases d with
  | lst m ds => obtain ⟨a, vs, e, n, q, _⟩ := h; exact ⟨a, _, e, n, q⟩
  | dct m ks ds =>
    obtain ⟨a, e, n, _, q⟩ := h
    rcases q with ⟨ep, kvs, q, _⟩ | ⟨ep, xs, q, _⟩
    · exact ⟨a, _, e, n, q⟩
    · exact ⟨a, _, e, n, q⟩
  | _ => exact h.elim
/-- the object stays, the shared heap grows elsewhere -/
theorem OwnV.stay (h : OwnV G Hs H d v) (s : Same Hs Hs') (n : ∀ a, v = .ref a → Hs' a = none) (k : ∀ a o, v = .ref a → H a = some o → H' a = some o) : OwnV G Hs' H' d v := by
  cases d with
  | lst m ds => obtain ⟨a, vs, e, _, q, t⟩ := h; exact ⟨a, vs, e, n a e, k a _ e q, RepL.mono s _ _ t⟩
  | dct m ks ds =>
    obtain ⟨a, e, _, sm, q⟩ := h
    refine ⟨a, e, n a e, sm, ?_⟩
    rcases q with ⟨ep, kvs, q1, q2, q3, q5⟩ | ⟨ep, xs, q1, q2, q3, q4, q8, q5, q7⟩
    · exact .inl ⟨ep, kvs, k a _ e q1, q2, q3, RepL.mono s _ _ q5⟩
    · exact .inr ⟨ep, xs, k a _ e q1, q2, q3, q4, q8, RepL.mono s _ _ q5, RepL.mono s _ _ q7⟩
  | _ => exact h.elim
/-- an own thing is shared from here on -/
theorem OwnV.freeze (h : OwnV G Hs H d (.ref a)) {o : HO} (ho : H a = some o) : Rep G (upd Hs a o) d.frz (.ref a) := by
  have hn : Hs a = none := by
    obtain ⟨b, _, e, n, _⟩ := h.ref
    cases e; exact n
  have s : Same Hs (upd Hs a o) := fun b u q => by
    rw [upd_ne (ne_of_none q hn)]; exact q
  cases d with
  | lst m ds =>
    obtain ⟨b, vs, e, n, q, t⟩ := h
    cases e
    rw [ho] at q; cases q
    exact ⟨rfl, a, vs, rfl, upd_same, RepL.mono s _ _ t⟩
  | dct m ks ds =>
    obtain ⟨b, e, n, sm, q⟩ := h
    cases e
    refine ⟨rfl, a, rfl, sm, ?_⟩
    rcases q with ⟨ep, kvs, q1, q2, q3, q5⟩ | ⟨ep, xs, q1, q2, q3, q4, q8, q5, q7⟩
    · rw [ho] at q1; cases q1
      exact .inl ⟨ep, kvs, upd_same, q2, q3, RepL.mono s _ _ q5⟩
    · rw [ho] at q1; cases q1
      exact .inr ⟨ep, xs, upd_same, q2, q3, q4, q8, RepL.mono s _ _ q5, RepL.mono s _ _ q7⟩
  | _ => exact h.elim
end

/-! ### the state -/
abbrev Rho := List (Option D)
/-- what a slot owns -/
def Own (ρ : Rho) (σ : L2.St) (b : Addr) : Prop := ∃ (i : Nat) (d : D), ρ[i]? = some (some d) ∧ d.owned = true ∧ σ[i]? = some (some (V.ref b))
/-- a def's entry: its heap, its slots; io: the parameters that are handed on changed -/
structure Fm where
  H0 : Hp
  σ0 : L2.St
/-- static facts of a def: os, the slots that may hold own things; io, the parameters that are handed on changed; fx, the slots that are not assigned here -/
structure Sc where
  os : List Nat
  io : List Nat
  fx : List Nat := []
  /-- what is wished of an exception -/
  xw : D → L2.St → Hp → Prop := fun _ _ _ => False
structure Rel (G : Gx) (S : Sc) (F : Fm) (Hs H : Hp) (ρ : Rho) (σ : L2.St) : Prop where
  sub : Same Hs H
  len : ρ.length = σ.length
  slot : ∀ (i : Nat) (d : D), ρ[i]? = some (some d) → ∃ v, σ[i]? = some (some v) ∧ SlotV G Hs H d v
  apart : ∀ (i j : Nat) (d e : D) (a : Addr), i ≠ j → ρ[i]? = some (some d) → ρ[j]? = some (some e) → d.owned = true → e.owned = true → σ[i]? = some (some (V.ref a)) → σ[j]? = some (some (V.ref a)) → False
  fresh : ∀ (i : Nat) (d : D) (a : Addr), i ∉ S.io → ρ[i]? = some (some d) → d.owned = true → σ[i]? = some (some (V.ref a)) → F.H0 a = none
  vals : ∀ (i : Nat) (d : D), i ∉ S.os → ρ[i]? = some (some d) → d.owned = false
  par : ∀ (i : Nat), i ∈ S.io → σ[i]? = F.σ0[i]?
  dom0 : ∀ b, F.H0 b ≠ none → H b ≠ none
section
variable {G : Gx} {S : Sc} {F : Fm} {Hs H Hs' H' Hs'' H'' : Hp} {ρ ρ' ρ'' : Rho} {σ σ' σ'' : L2.St} {i : Nat} {d : D} {v : V} {a b : Addr} {o : HO}
theorem Rel.ownAt (r : Rel G S F Hs H ρ σ) (h : Own ρ σ b) : Hs b = none ∧ ∃ o, H b = some o := by
  obtain ⟨i, d, e, ho, es⟩ := h
  obtain ⟨v, ev, q⟩ := r.slot i d e
  rw [es] at ev; cases ev
  obtain ⟨a, o, e', n, q⟩ := (q.own ho).ref
  cases e'
  exact ⟨n, o, q⟩
/-- from one state to the next -/
structure Nxt (G : Gx) (S : Sc) (F : Fm) (ρ : Rho) (σ : L2.St) (Hs H : Hp) (ρ' : Rho) (σ' : L2.St) (Hs' H' : Hp) : Prop where
  rel : Rel G S F Hs' H' ρ' σ'
  same : Same Hs Hs'
  keep : ∀ b o, H b = some o → ¬ Own ρ σ b → H' b = some o
  dom : ∀ b, H b ≠ none → H' b ≠ none
  own : ∀ b, Own ρ' σ' b → Own ρ σ b ∨ H b = none
  grow : ∀ b, Hs' b ≠ none → Hs b ≠ none ∨ Own ρ σ b ∨ H b = none
  fix : ∀ (i : Nat), i ∈ S.fx → σ'[i]? = σ[i]?
  slen : σ'.length = σ.length
theorem Nxt.refl (r : Rel G S F Hs H ρ σ) : Nxt G S F ρ σ Hs H ρ σ Hs H := ⟨r, Same.refl _, fun _ _ h _ => h, fun _ h => h, fun _ h => .inl h, fun _ h => .inl h, fun _ _ => rfl, rfl⟩
theorem Nxt.trans (x : Nxt G S F ρ σ Hs H ρ' σ' Hs' H') (y : Nxt G S F ρ' σ' Hs' H' ρ'' σ'' Hs'' H'') : Nxt G S F ρ σ Hs H ρ'' σ'' Hs'' H'' := by
  refine ⟨y.rel, x.same.trans y.same, fun b o h n => ?_, fun b h => y.dom b (x.dom b h), fun b h => ?_, fun b h => ?_, fun i hi => (y.fix i hi).trans (x.fix i hi), y.slen.trans x.slen⟩
  · refine y.keep b o (x.keep b o h n) fun q => ?_
    rcases x.own b q with q | q
    · exact n q
    · rw [h] at q; cases q
  · rcases y.own b h with q | q
    · exact x.own b q
    · right
      cases e : H b with
      | none => rfl
      | some o => exact absurd q (x.dom b (by rw [e]; exact fun z => by cases z))
  · rcases y.grow b h with q | q | q
    · exact x.grow b q
    · rcases x.own b q with q | q
      · exact .inr (.inl q)
      · exact .inr (.inr q)
    · refine .inr (.inr ?_)
      cases e : H b with
      | none => rfl
      | some o => exact absurd q (x.dom b (by rw [e]; exact fun z => by cases z))
/-- the heap grows alone; o: the new object shared at once -/
theorem Rel.grow (r : Rel G S F Hs H ρ σ) (s : Same Hs Hs') (s' : Same H H') (sub : Same Hs' H') (g : ∀ b, Hs' b ≠ none → Hs b ≠ none ∨ H b = none) : Nxt G S F ρ σ Hs H ρ σ Hs' H' := by
  have own : ∀ (i : Nat) (d : D) (v : V), ρ[i]? = some (some d) → σ[i]? = some (some v) → d.owned = true → ∀ (a : Addr), v = V.ref a → Hs' a = none := fun i d v e1 e2 e3 a e4 => by
    subst e4
    obtain ⟨n, o, q⟩ := r.ownAt ⟨i, d, e1, e3, e2⟩
    cases z : Hs' a with
    | none => rfl
    | some u =>
      rcases g a (by rw [z]; exact fun y => by cases y) with y | y
      · exact absurd n y
      · rw [q] at y; cases y
  refine ⟨⟨sub, r.len, fun i d e => ?_, r.apart, r.fresh, r.vals, r.par, fun b h => ?_⟩, s, fun b o h _ => s' b o h, fun b h => ?_, fun b h => .inl h, fun b h => ?_, fun _ _ => rfl, rfl⟩
  · obtain ⟨v, ev, q⟩ := r.slot i d e
    refine ⟨v, ev, ?_⟩
    by_cases ho : d.owned = true
    · exact .ofOwn ((q.own ho).stay s (own i d v e ev ho) fun a o _ q => s' a o q) ho
    · exact .of (Rep.mono s _ _ (q.rep (by simpa using ho)))
  · cases e : H b with
    | none => exact absurd e (r.dom0 b h)
    | some u => rw [s' b u e]; exact fun z => by cases z
  · cases e : H b with
    | none => exact absurd e h
    | some u => rw [s' b u e]; exact fun z => by cases z
  · rcases g b h with y | y
    · exact .inl y
    · exact .inr (.inr y)
/-- a new object, shared -/
theorem Rel.newSh (r : Rel G S F Hs H ρ σ) (hn : H a = none) (o : HO) : Nxt G S F ρ σ Hs H ρ σ (upd Hs a o) (upd H a o) := by
  have hs : Hs a = none := r.sub.free hn
  refine r.grow (fun b u q => by rw [upd_ne (ne_of_none q hs)]; exact q) (fun b u q => by rw [upd_ne (ne_of_none q hn)]; exact q) (fun b u q => ?_) fun b h => ?_
  · by_cases e : b = a
    · subst e; rw [upd_same] at q ⊢; exact q
    · rw [upd_ne e] at q ⊢; exact r.sub b u q
  · by_cases e : b = a
    · subst e; exact .inr hn
    · rw [upd_ne e] at h; exact .inl h
/-- a new object, held by nobody yet -/
theorem Rel.newOwn (r : Rel G S F Hs H ρ σ) (hn : H a = none) (o : HO) : Nxt G S F ρ σ Hs H ρ σ Hs (upd H a o) := by
  refine r.grow (Same.refl _) (fun b u q => by rw [upd_ne (ne_of_none q hn)]; exact q) (fun b u q => ?_) fun b h => .inl h
  have q' := r.sub b u q
  rw [upd_ne (ne_of_none q' hn)]; exact q'
/-- a thing that no slot holds stays -/
theorem Nxt.tmp (n : Nxt G S F ρ σ Hs H ρ' σ' Hs' H') (h1 : H a = some o) (h2 : Hs a = none) (h3 : ¬ Own ρ σ a) : H' a = some o ∧ Hs' a = none ∧ ¬ Own ρ' σ' a := by
  refine ⟨n.keep a o h1 h3, ?_, fun z => ?_⟩
  · cases q : Hs' a with
    | none => rfl
    | some u =>
      rcases n.grow a (by rw [q]; exact fun z => by cases z) with y | y | y
      · exact absurd h2 y
      · exact absurd y h3
      · rw [h1] at y; cases y
  · rcases n.own a z with y | y
    · exact h3 y
    · rw [h1] at y; cases y
/-- such a thing is changed -/
theorem Nxt.tmpWrite (n : Nxt G S F ρ σ Hs H ρ' σ' Hs' H') (h0 : H a = none) (h2 : Hs' a = none) (h3 : ¬ Own ρ' σ' a) (o' : HO) : Nxt G S F ρ σ Hs H ρ' σ' Hs' (upd H' a o') := by
  have r := n.rel
  have kp : ∀ b w, b ≠ a → H' b = some w → upd H' a o' b = some w := fun b w hb q => by rw [upd_ne hb]; exact q
  have nn : ∀ b, H' b ≠ none → upd H' a o' b ≠ none := fun b h => by
    by_cases e : b = a
    · subst e; rw [upd_same]; exact fun z => by cases z
    · rw [upd_ne e]; exact h
  refine ⟨⟨fun b w q => kp b w (ne_of_none q h2) (r.sub b w q), r.len, fun i d h => ?_, r.apart, r.fresh, r.vals, r.par, fun b h => nn b (r.dom0 b h)⟩, n.same, fun b w h no => kp b w (ne_of_none h h0) (n.keep b w h no), fun b h => nn b (n.dom b h), n.own, n.grow, n.fix, n.slen⟩
  obtain ⟨v, ev, sv⟩ := r.slot i d h
  refine ⟨v, ev, ?_⟩
  by_cases ho : d.owned = true
  · refine .ofOwn ((sv.own ho).stay (.refl _) (fun b z => ?_) fun b w z q => ?_) ho
    · subst z; exact (r.ownAt ⟨i, d, h, ho, ev⟩).1
    · subst z; exact kp b w (fun z => by subst z; exact h3 ⟨i, d, h, ho, ev⟩) q
  · exact .of (sv.rep (by simpa using ho))
end
end Sim

/-! Sim, part 2: the judgements; names, constants, operators. -/
namespace Sim
open PySem PySem.Spec PyProof.Rows L2

inductive Res (α : Type) where
  | fail | ok (a : α) (ρ : Rho) | ex (x : D) (ρ : Rho)
def Res.bind {α β : Type} (r : Res α) (f : α → Rho → Res β) : Res β :=
  match r with
  | .fail => .fail
  | .ok a ρ => f a ρ
  | .ex x ρ => .ex x ρ
theorem Res.bind_ok {α β : Type} {r : Res α} {f : α → Rho → Res β} {b : β} {ρ' : Rho} (h : r.bind f = .ok b ρ') : ∃ a ρ1, r = .ok a ρ1 ∧ f a ρ1 = .ok b ρ' := by
  cases r with
  | fail => cases h
  | ok a ρ => exact ⟨a, ρ, rfl, h⟩
  | ex x ρ => cases h
def pureO {α : Type} (o : Option α) (ρ : Rho) : Res α :=
  match o with
  | some a => .ok a ρ
  | none => .fail
theorem pureO_ok {α : Type} {o : Option α} {ρ ρ' : Rho} {a : α} (h : pureO o ρ = .ok a ρ') : o = some a ∧ ρ = ρ' := by
  cases o with
  | none => cases h
  | some b => cases h; exact ⟨rfl, rfl⟩
abbrev EM := Rho → Res D
abbrev TM := Rho → Res Bool
abbrev AM := Rho → Res (List D)

/-! ### the largest readings -/
def WE (X : Cx) (e : Expr) : TE := fun σ H Q => ∃ t, PE X e t ∧ t σ H Q
def WT (X : Cx) (e : Expr) : TT := fun σ H Q => ∃ t, PT X e t ∧ t σ H Q
def WW (X : Cx) (e : Expr) : TT := fun σ H Q => ∃ t, PW X e t ∧ t σ H Q
def WA (X : Cx) (es : List Expr) : TA := fun σ H Q => ∃ t, PA X es t ∧ t σ H Q
def WOp (X : Cx) (f : Value → Value → Sem Value) : R2 := fun x y H Q => ∃ r, OpR X f r ∧ r x y H Q
def WUn (X : Cx) (f : Value → Sem Value) : V → Hp → VK → Prop := fun x H Q => ∃ r, UnR X f r ∧ r x H Q
def WIx (X : Cx) : R2 := fun x y H Q => ∃ r, IxR X r ∧ r x y H Q
def WSl (X : Cx) : V → Option Int → Option Int → Hp → VK → Prop := fun x lo hi H Q => ∃ r, SlR X r ∧ r x lo hi H Q
def WCall (X : Cx) (f : Value) : List V → Hp → VK → Prop := fun xs H Q => ∃ r, CallR X f r ∧ r xs H Q
section
variable {X : Cx}
theorem peW (e : Expr) : PE X e (WE X e) := ⟨fun pins s σ H Q I ⟨_, h, q⟩ => h.run pins s σ H Q I q⟩
theorem ptW (e : Expr) : PT X e (WT X e) := ⟨fun pins s σ H Q I ⟨_, h, q⟩ => h.run pins s σ H Q I q⟩
theorem pwW (e : Expr) : PW X e (WW X e) := ⟨fun wh pins s σ H Q I ⟨_, h, q⟩ => h.run wh pins s σ H Q I q⟩
theorem paW (es : List Expr) : PA X es (WA X es) := ⟨fun pos pins s σ H Q I ⟨_, h, q⟩ => h.run pos pins s σ H Q I q⟩
theorem opW (f : Value → Value → Sem Value) : OpR X f (WOp X f) := fun pins s σ H x y v u Q I rx ry ⟨_, h, q⟩ => h pins s σ H x y v u Q I rx ry q
theorem unW (f : Value → Sem Value) : UnR X f (WUn X f) := fun pins s σ H x v Q I rx ⟨_, h, q⟩ => h pins s σ H x v Q I rx q
theorem ixW : IxR X (WIx X) := fun value slice pins s σ H x y v u Q I rx ry ⟨_, h, q⟩ hs => h value slice pins s σ H x y v u Q I rx ry q hs
theorem slW : SlR X (WSl X) := fun pins s σ H x v vl vu lo hi sl Q I rx hs pl pu ⟨_, h, q⟩ => h pins s σ H x v vl vu lo hi sl Q I rx hs pl pu q
theorem callW (f : Value) : CallR X f (WCall X f) := fun pins s σ H xs us Q I r ⟨_, h, q⟩ => h pins s σ H xs us Q I r q
end

/-! ### the judgements -/
/-- behind an expression: a shared value -/
structure SimV (X : Cx) (S : Sc) (e : Expr) (m : EM) : Prop where
  run : ∀ {ρ : Rho} {d : D} {ρ' : Rho}, m ρ = .ok d ρ' → ∀ {F : Fm} {σ : L2.St} {Hs H : Hp}, Rel (gx X) S F Hs H ρ σ → ∀ {Q : VK},
    (∀ v Hs' H', Nxt (gx X) S F ρ σ Hs H ρ' σ Hs' H' → Rep (gx X) Hs' d v → Q v H') → WE X e σ H Q
/-- a value that may be new and held by nobody -/
structure SimE (X : Cx) (S : Sc) (e : Expr) (m : EM) : Prop where
  run : ∀ {ρ : Rho} {d : D} {ρ' : Rho}, m ρ = .ok d ρ' → ∀ {F : Fm} {σ : L2.St} {Hs H : Hp}, Rel (gx X) S F Hs H ρ σ → ∀ {Q : VK},
    (∀ v Hs' H', Nxt (gx X) S F ρ σ Hs H ρ' σ Hs' H' → SlotV (gx X) Hs' H' d v → (d.owned = true → ∀ a, v = .ref a → H a = none ∧ ¬ Own ρ' σ a) → Q v H') → WE X e σ H Q
structure SimT (X : Cx) (S : Sc) (e : Expr) (m : TM) : Prop where
  run : ∀ {ρ : Rho} {b : Bool} {ρ' : Rho}, m ρ = .ok b ρ' → ∀ {F : Fm} {σ : L2.St} {Hs H : Hp}, Rel (gx X) S F Hs H ρ σ → ∀ {Q : Bool → Hp → Prop},
    (∀ Hs' H', Nxt (gx X) S F ρ σ Hs H ρ' σ Hs' H' → Q b H') → WT X e σ H Q
structure SimW (X : Cx) (S : Sc) (e : Expr) (m : TM) : Prop where
  run : ∀ {ρ : Rho} {b : Bool} {ρ' : Rho}, m ρ = .ok b ρ' → ∀ {F : Fm} {σ : L2.St} {Hs H : Hp}, Rel (gx X) S F Hs H ρ σ → ∀ {Q : Bool → Hp → Prop},
    (∀ Hs' H', Nxt (gx X) S F ρ σ Hs H ρ' σ Hs' H' → Q b H') → WW X e σ H Q
structure SimA (X : Cx) (S : Sc) (es : List Expr) (m : AM) : Prop where
  run : ∀ {ρ : Rho} {ds : List D} {ρ' : Rho}, m ρ = .ok ds ρ' → ∀ {F : Fm} {σ : L2.St} {Hs H : Hp}, Rel (gx X) S F Hs H ρ σ → ∀ {Q : List V → Hp → Prop},
    (∀ vs Hs' H', Nxt (gx X) S F ρ σ Hs H ρ' σ Hs' H' → RepL (gx X) Hs' ds vs → Q vs H') → WA X es σ H Q

/-! ### names and constants -/
def nameM (i : Nat) : EM := fun ρ => match ρ[i]? with
  | some (some d) => .ok d ρ
  | _ => .fail
/-- an own thing is shared from here on -/
def frzM (i : Nat) : EM := fun ρ => match ρ[i]? with
  | some (some d) => .ok d.frz (ρ.set i (some d.frz))
  | _ => .fail
def constM (d : D) : EM := fun ρ => .ok d ρ
def shM (m : EM) : EM := fun ρ => (m ρ).bind fun d ρ' => .ok d.frz ρ'
section
variable {X : Cx} {S : Sc}
theorem sim_name (i : Nat) {x : Str} {pos : Pos} (ho : i ∉ S.os := by first | decide | exact of_decide_eq_true rfl) (hN : X.N[i]? = some x := by rfl) (hv : Vis X.env.scope x := by first | exact Or.inl rfl | exact Or.inr (Or.inl rfl) | exact Or.inr (Or.inr rfl))
    (hd : (x == ("__debug__" : Str)) = false := by decide) (hcd : (x == ("__classdict__" : Str)) = false := by decide) : SimV X S (.Name x pos) (nameM i) := by
  refine ⟨fun {ρ d ρ'} h {F σ Hs H} r {Q} q => ?_⟩
  unfold nameM at h
  split at h
  · rename_i e he
    cases h
    obtain ⟨v, ev, sv⟩ := r.slot i d he
    exact ⟨_, pe_var hN hv hd hcd, v, ev, q v Hs H (.refl r) (sv.rep (r.vals i d ho he))⟩
  · cases h
theorem upd_self {Hs H : Hp} {a : Addr} {o : HO} (s : Same Hs H) (h : H a = some o) : Same (upd Hs a o) H := fun b u q => by
  by_cases e : b = a
  · subst e; rw [upd_same] at q; rw [h]; exact q
  · rw [upd_ne e] at q; exact s b u q
theorem same_new {Hs : Hp} {a : Addr} {o : HO} (h : Hs a = none) : Same Hs (upd Hs a o) := fun b u q => by
  rw [upd_ne (ne_of_none q h)]; exact q
theorem get_set_some {α : Type} {l : List α} {i j : Nat} {x y : α} (h : (l.set i x)[j]? = some y) : (j = i ∧ y = x ∧ i < l.length) ∨ (j ≠ i ∧ l[j]? = some y) := by
  by_cases e : j = i
  · subst e
    rw [List.getElem?_set] at h
    simp only [if_true] at h
    split at h
    · cases h; exact .inl ⟨rfl, rfl, by assumption⟩
    · cases h
  · rw [List.getElem?_set_ne (Ne.symm e)] at h
    exact .inr ⟨e, h⟩
/-- the own thing at i is shared from here on -/
theorem Rel.freeze {G : Gx} {F : Fm} {Hs H : Hp} {ρ : Rho} {σ : L2.St} {i : Nat} {d : D} {v : V} (r : Rel G S F Hs H ρ σ) (he : ρ[i]? = some (some d)) (ev : σ[i]? = some (some v)) :
    ∃ Hs', Nxt G S F ρ σ Hs H (ρ.set i (some d.frz)) σ Hs' H ∧ Rep G Hs' d.frz v := by
  obtain ⟨v', ev', sv⟩ := r.slot i d he
  rw [ev] at ev'; cases ev'
  by_cases ho : d.owned = true
  · obtain ⟨a, o, e, n, q⟩ := (sv.own ho).ref
    subst e
    have sm : Same Hs (upd Hs a o) := same_new n
    have own' : ∀ b, Own (ρ.set i (some d.frz)) σ b → Own ρ σ b ∧ b ≠ a := fun b ⟨j, e, h1, h2, h3⟩ => by
      rcases get_set_some h1 with ⟨_, z, _⟩ | ⟨hj, h1⟩
      · cases z; rw [D.frz_owned] at h2; cases h2
      · refine ⟨⟨j, e, h1, h2, h3⟩, fun z => ?_⟩
        subst z
        exact r.apart j i e d b hj h1 he h2 ho h3 ev
    refine ⟨upd Hs a o, ⟨⟨upd_self r.sub q, by simpa using r.len, fun j e h => ?_, fun j k e f b hjk h1 h2 o1 o2 s1 s2 => ?_, fun j e b hj h1 o1 s1 => ?_, fun j e hj h1 => ?_, r.par, r.dom0⟩, sm, fun b u h _ => h, fun b h => h, fun b h => .inl (own' b h).1, fun b h => ?_, fun _ _ => rfl, rfl⟩, (sv.own ho).freeze q⟩
    · rcases get_set_some h with ⟨rfl, z, _⟩ | ⟨hj, h⟩
      · cases z
        exact ⟨.ref a, ev, .of ((sv.own ho).freeze q)⟩
      · obtain ⟨w, ew, sw⟩ := r.slot j e h
        refine ⟨w, ew, ?_⟩
        by_cases oe : e.owned = true
        · refine .ofOwn ((sw.own oe).stay sm (fun b z => ?_) fun b u _ z => z) oe
          subst z
          have hb : b ≠ a := fun z => by subst z; exact r.apart j i e d b hj h he oe ho ew ev
          rw [upd_ne hb]
          exact (r.ownAt ⟨j, e, h, oe, ew⟩).1
        · exact .of (Rep.mono sm _ _ (sw.rep (by simpa using oe)))
    · rcases get_set_some h1 with ⟨_, z, _⟩ | ⟨hj, h1⟩
      · cases z; rw [D.frz_owned] at o1; cases o1
      rcases get_set_some h2 with ⟨_, z, _⟩ | ⟨hk, h2⟩
      · cases z; rw [D.frz_owned] at o2; cases o2
      exact r.apart j k e f b hjk h1 h2 o1 o2 s1 s2
    · rcases get_set_some h1 with ⟨_, z, _⟩ | ⟨hj', h1⟩
      · cases z; rw [D.frz_owned] at o1; cases o1
      exact r.fresh j e b hj h1 o1 s1
    · rcases get_set_some h1 with ⟨_, z, _⟩ | ⟨hj', h1⟩
      · cases z; exact D.frz_owned _
      exact r.vals j e hj h1
    · by_cases e : b = a
      · subst e; exact .inr (.inl ⟨i, d, he, ho, ev⟩)
      · rw [upd_ne e] at h; exact .inl h
  · have ho' : d.owned = false := by simpa using ho
    have e : d.frz = d := D.frz_of ho'
    rw [e]
    have es : ρ.set i (some d) = ρ := by
      apply List.ext_getElem?
      intro j
      by_cases hj : j = i
      · subst hj
        rw [List.getElem?_set_self (List.getElem?_eq_some_iff.mp he).1, he]
      · rw [List.getElem?_set_ne (Ne.symm hj)]
    rw [es]
    exact ⟨Hs, .refl r, sv.rep ho'⟩
theorem sim_frz (i : Nat) {x : Str} {pos : Pos} (hN : X.N[i]? = some x := by rfl) (hv : Vis X.env.scope x := by first | exact Or.inl rfl | exact Or.inr (Or.inl rfl) | exact Or.inr (Or.inr rfl))
    (hd : (x == ("__debug__" : Str)) = false := by decide) (hcd : (x == ("__classdict__" : Str)) = false := by decide) : SimV X S (.Name x pos) (frzM i) := by
  refine ⟨fun {ρ d ρ'} h {F σ Hs H} r {Q} q => ?_⟩
  unfold frzM at h
  split at h
  · rename_i e he
    cases h
    obtain ⟨v, ev, sv⟩ := r.slot i e he
    obtain ⟨Hs', n, rp⟩ := r.freeze he ev
    exact ⟨_, pe_var hN hv hd hcd, v, ev, q v Hs' H n rp⟩
  · cases h
theorem sim_const {e : Expr} {d : D} {v : V} (h : PE X e (tC v)) (r : ∀ G H, Rep G H d v) : SimV X S e (constM d) := by
  refine ⟨fun {ρ d' ρ'} hm {F σ Hs H} rl {Q} q => ?_⟩
  cases hm
  exact ⟨_, h, q v Hs H (.refl rl) (r _ _)⟩
theorem sim_int {i : Int} {j : Nat} {pos : Pos} : SimV X S (.Constant (.int i) j pos) (constM (.int i)) := sim_const pe_int fun _ _ => rfl
theorem sim_bl {b : Bool} {j : Nat} {pos : Pos} : SimV X S (.Constant (.bool b) j pos) (constM (.bl b)) := sim_const pe_bl fun _ _ => rfl
theorem sim_non {j : Nat} {pos : Pos} : SimV X S (.Constant .none j pos) (constM .non) := sim_const pe_non fun _ _ => rfl
theorem sim_str {x : Str} {j : Nat} {pos : Pos} : SimV X S (.Constant (.str x) j pos) (constM (.str x)) := sim_const pe_str fun _ _ => rfl
/-- a shared value is a result -/
theorem SimV.e {e : Expr} {m : EM} (h : SimV X S e m) : SimE X S e m :=
  ⟨fun {ρ d ρ'} hm {F σ Hs H} rl {Q} q => h.run hm rl fun v Hs' H' n rp => q v Hs' H' n (.of rp) fun o => by rw [rp.owned] at o; cases o⟩
/-- a new thing that nobody holds is shared at once -/
theorem Nxt.share {G : Gx} {F : Fm} {Hs H Hs' H' : Hp} {ρ ρ' : Rho} {σ : L2.St} {d : D} {v : V} (n : Nxt G S F ρ σ Hs H ρ' σ Hs' H') (sv : SlotV G Hs' H' d v) (fr : d.owned = true → ∀ a, v = .ref a → H a = none ∧ ¬ Own ρ' σ a) :
    ∃ Hs2, Nxt G S F ρ σ Hs H ρ' σ Hs2 H' ∧ Rep G Hs2 d.frz v := by
  by_cases ho : d.owned = true
  · obtain ⟨a, o, e, hn, ha⟩ := (sv.own ho).ref
    subst e
    obtain ⟨h0, h1⟩ := fr ho a rfl
    have sm : Same Hs' (upd Hs' a o) := same_new hn
    refine ⟨upd Hs' a o, ⟨⟨upd_self n.rel.sub ha, n.rel.len, fun j e h => ?_, n.rel.apart, n.rel.fresh, n.rel.vals, n.rel.par, n.rel.dom0⟩, n.same.trans sm, n.keep, n.dom, n.own, fun b hb => ?_, n.fix, n.slen⟩, (sv.own ho).freeze ha⟩
    · obtain ⟨w, ew, sw⟩ := n.rel.slot j e h
      refine ⟨w, ew, ?_⟩
      by_cases oe : e.owned = true
      · refine .ofOwn ((sw.own oe).stay sm (fun b z => ?_) fun b u _ z => z) oe
        subst z
        have hb : b ≠ a := fun z => by subst z; exact h1 ⟨j, e, h, oe, ew⟩
        rw [upd_ne hb]
        exact (n.rel.ownAt ⟨j, e, h, oe, ew⟩).1
      · exact .of (Rep.mono sm _ _ (sw.rep (by simpa using oe)))
    · by_cases e : b = a
      · subst e; exact .inr (.inr h0)
      · rw [upd_ne e] at hb; exact n.grow b hb
  · have ho' : d.owned = false := by simpa using ho
    rw [D.frz_of ho']
    exact ⟨Hs', n, sv.rep ho'⟩
theorem SimE.v {e : Expr} {m : EM} (h : SimE X S e m) : SimV X S e (shM m) := by
  refine ⟨fun {ρ d ρ'} hm {F σ Hs H} rl {Q} q => ?_⟩
  unfold shM at hm
  obtain ⟨d0, ρ1, e1, e2⟩ := Res.bind_ok hm
  cases e2
  refine h.run e1 rl fun v Hs' H' n sv fr => ?_
  obtain ⟨Hs2, n2, r2⟩ := n.share sv fr
  exact q v Hs2 H' n2 r2
end

/-! ### two operands -/
/-- the heap grows by shared things -/
structure Ext (Hs H Hs' H' : Hp) : Prop where
  s : Same Hs Hs'
  h : Same H H'
  sub : Same Hs' H'
  g : ∀ b, Hs' b ≠ none → Hs b ≠ none ∨ H b = none
theorem Ext.refl {Hs H : Hp} (s : Same Hs H) : Ext Hs H Hs H := ⟨.refl _, .refl _, s, fun _ h => .inl h⟩
theorem Ext.new {Hs H : Hp} {a : Addr} (s : Same Hs H) (hn : H a = none) (o : HO) : Ext Hs H (upd Hs a o) (upd H a o) := by
  have hs : Hs a = none := s.free hn
  refine ⟨same_new hs, same_new hn, fun b u q => ?_, fun b h => ?_⟩
  · by_cases e : b = a
    · subst e; rw [upd_same] at q ⊢; exact q
    · rw [upd_ne e] at q ⊢; exact s b u q
  · by_cases e : b = a
    · subst e; exact .inr hn
    · rw [upd_ne e] at h; exact .inl h
theorem Ext.nxt {G : Gx} {S : Sc} {F : Fm} {Hs H Hs' H' : Hp} {ρ : Rho} {σ : L2.St} (x : Ext Hs H Hs' H') (r : Rel G S F Hs H ρ σ) : Nxt G S F ρ σ Hs H ρ σ Hs' H' := r.grow x.s x.h x.sub x.g
/-- a shared value comes -/
def Gives (G : Gx) (Hs H : Hp) (d : D) (Q : VK) : Prop := ∀ w Hs' H', Ext Hs H Hs' H' → Rep G Hs' d w → Q w H'
def OpS (X : Cx) (op : Value → Value → Sem Value) (f : D → D → Option D) : Prop :=
  ∀ {x y d : D}, f x y = some d → ∀ {Hs H : Hp} {u v : V} {Q : VK}, Same Hs H → SlotV (gx X) Hs H x u → SlotV (gx X) Hs H y v → Gives (gx X) Hs H d Q → WOp X op u v H Q
def op2 (f : D → D → Option D) (ma mb : EM) : EM := fun ρ => (ma ρ).bind fun x ρ1 => (mb ρ1).bind fun y ρ2 => pureO (f x y) ρ2
def testM (m : EM) : TM := fun ρ => (m ρ).bind fun d ρ' => match d with
  | .bl c => .ok c ρ'
  | _ => .fail
theorem testM_ok {m : EM} {ρ ρ' : Rho} {c : Bool} (h : testM m ρ = .ok c ρ') : m ρ = .ok (.bl c) ρ' := by
  obtain ⟨d, ρ1, e1, e2⟩ := Res.bind_ok h
  split at e2
  · cases e2; exact e1
  · cases e2
section
variable {X : Cx} {S : Sc} {a b : Expr} {ma mb : EM} {pos : Pos}
theorem v2 (ha : SimV X S a ma) (hb : SimV X S b mb) {ρ ρ1 ρ2 : Rho} {x y : D} (ea : ma ρ = .ok x ρ1) (eb : mb ρ1 = .ok y ρ2) {F : Fm} {σ : L2.St} {Hs H : Hp} (r : Rel (gx X) S F Hs H ρ σ) {R : V → V → Hp → Prop}
    (h : ∀ u v Hs' H', Nxt (gx X) S F ρ σ Hs H ρ2 σ Hs' H' → Rep (gx X) Hs' x u → Rep (gx X) Hs' y v → R u v H') : WE X a σ H fun u H1 => WE X b σ H1 fun v H2 => R u v H2 :=
  ha.run ea r fun u Hs1 H1 n1 r1 => hb.run eb n1.rel fun v Hs2 H2 n2 r2 => h u v Hs2 H2 (n1.trans n2) (Rep.mono n2.same _ _ r1) r2
theorem op2_ok {f : D → D → Option D} {ρ ρ' : Rho} {d : D} (h : op2 f ma mb ρ = .ok d ρ') : ∃ x y ρ1, ma ρ = .ok x ρ1 ∧ mb ρ1 = .ok y ρ' ∧ f x y = some d := by
  obtain ⟨x, ρ1, e1, h⟩ := Res.bind_ok h
  obtain ⟨y, ρ2, e2, h⟩ := Res.bind_ok h
  obtain ⟨e3, rfl⟩ := pureO_ok h
  exact ⟨x, y, ρ1, e1, e2, e3⟩
theorem sim_bin {op : Operator} {f : D → D → Option D} (ho : OpS X (binaryOp op) f) (ha : SimV X S a ma) (hb : SimV X S b mb) : SimV X S (.BinOp a op b pos) (op2 f ma mb) := by
  refine ⟨fun {ρ d ρ'} hm {F σ Hs H} rl {Q} q => ?_⟩
  obtain ⟨x, y, ρ1, e1, e2, e3⟩ := op2_ok hm
  refine ⟨_, pe_op (opW _) (peW a) (peW b), v2 ha hb e1 e2 rl fun u v Hs' H' n ru rv => ?_⟩
  exact ho e3 n.rel.sub (.of ru) (.of rv) fun w Hs2 H2 x2 rw => q w Hs2 H2 (n.trans (x2.nxt n.rel)) rw
theorem sim_cmp {op : CmpOp} {f : D → D → Option D} (ho : OpS X (compareOp op) f) (ha : SimV X S a ma) (hb : SimV X S b mb) (hm : behindInMarks op b = false) : SimV X S (.Compare a [op] [b] pos) (op2 f ma mb) := by
  refine ⟨fun {ρ d ρ'} h {F σ Hs H} rl {Q} q => ?_⟩
  obtain ⟨x, y, ρ1, e1, e2, e3⟩ := op2_ok h
  refine ⟨_, pe_cmpR (opW _) (peW a) (peW b) hm, v2 ha hb e1 e2 rl fun u v Hs' H' n ru rv => ?_⟩
  exact ho e3 n.rel.sub (.of ru) (.of rv) fun w Hs2 H2 x2 rw => q w Hs2 H2 (n.trans (x2.nxt n.rel)) rw
theorem sim_cmpT {op : CmpOp} {f : D → D → Option D} (ho : OpS X (compareOp op) f) (ha : SimV X S a ma) (hb : SimV X S b mb) (hm : behindInMarks op b = false) : SimT X S (.Compare a [op] [b] pos) (testM (op2 f ma mb)) := by
  refine ⟨fun {ρ c ρ'} h {F σ Hs H} rl {Q} q => ?_⟩
  obtain ⟨x, y, ρ1, e1, e2, e3⟩ := op2_ok (testM_ok h)
  refine ⟨_, pt_cmpR (opW _) (peW a) (peW b) hm, v2 ha hb e1 e2 rl fun u v Hs' H' n ru rv => ?_⟩
  exact ho e3 n.rel.sub (.of ru) (.of rv) fun w Hs2 H2 x2 rw => ⟨c, rw, q Hs2 H2 (n.trans (x2.nxt n.rel))⟩
/-- an expression that gives a truth value, as a test -/
theorem sim_test {e : Expr} {m : EM} (h : SimV X S e m) (he : ∀ whole, isTrue e X.env whole = (do let v ← whole; standAt e.pos; holding [v] (truthy v)) := by intro _; rfl) : SimT X S e (testM m) := by
  refine ⟨fun {ρ c ρ'} hm {F σ Hs H} rl {Q} q => ?_⟩
  refine ⟨_, pt_val (peW e) he, h.run (testM_ok hm) rl fun v Hs' H' n rp => ?_⟩
  cases (show v = .bl c from rp)
  exact ⟨c, rfl, q Hs' H' n⟩
/-! ### not, and, or, if -/
def notM (m : TM) : TM := fun ρ => (m ρ).bind fun c ρ' => .ok (!c) ρ'
def andM (m n : TM) : TM := fun ρ => (m ρ).bind fun c ρ' => match c with
  | true => n ρ'
  | false => .ok false ρ'
def orM (m n : TM) : TM := fun ρ => (m ρ).bind fun c ρ' => match c with
  | true => .ok true ρ'
  | false => n ρ'
def ifM (c : TM) (m n : EM) : EM := fun ρ => (c ρ).bind fun b ρ' => match b with
  | true => m ρ'
  | false => n ρ'
def blM (m : TM) : EM := fun ρ => (m ρ).bind fun c ρ' => .ok (.bl c) ρ'
variable {mc md : TM} {c : Expr} {rest : List Expr}
theorem sim_notT (h : SimT X S a mc) : SimT X S (.UnaryOp .Not a pos) (notM mc) := by
  refine ⟨fun {ρ b ρ'} hm {F σ Hs H} rl {Q} q => ?_⟩
  obtain ⟨x, ρ1, e1, e2⟩ := Res.bind_ok hm
  cases e2
  exact ⟨_, pt_not (ptW a), h.run e1 rl fun Hs' H' n => q Hs' H' n⟩
theorem sim_and1 (h : SimT X S a mc) : SimW X S (.BoolOp .And [a] pos) mc := by
  refine ⟨fun {ρ b ρ'} hm {F σ Hs H} rl {Q} q => ?_⟩
  exact ⟨_, pw_and1 (ptW a), h.run hm rl q⟩
theorem sim_or1 (h : SimT X S a mc) : SimW X S (.BoolOp .Or [a] pos) mc := by
  refine ⟨fun {ρ b ρ'} hm {F σ Hs H} rl {Q} q => ?_⟩
  exact ⟨_, pw_or1 (ptW a), h.run hm rl q⟩
theorem sim_andW (h : SimT X S a mc) (h2 : SimW X S (.BoolOp .And (b :: rest) pos) md) : SimW X S (.BoolOp .And (a :: b :: rest) pos) (andM mc md) := by
  refine ⟨fun {ρ b ρ'} hm {F σ Hs H} rl {Q} q => ?_⟩
  obtain ⟨x, ρ1, e1, e2⟩ := Res.bind_ok hm
  refine ⟨_, pw_and (ptW a) (pwW _), h.run e1 rl fun Hs' H' n => ?_⟩
  cases x with
  | true => rw [if_pos rfl]; exact h2.run e2 n.rel fun Hs2 H2 n2 => q Hs2 H2 (n.trans n2)
  | false => rw [if_neg Bool.false_ne_true]; cases e2; exact q Hs' H' n
theorem sim_orW (h : SimT X S a mc) (h2 : SimW X S (.BoolOp .Or (b :: rest) pos) md) : SimW X S (.BoolOp .Or (a :: b :: rest) pos) (orM mc md) := by
  refine ⟨fun {ρ b ρ'} hm {F σ Hs H} rl {Q} q => ?_⟩
  obtain ⟨x, ρ1, e1, e2⟩ := Res.bind_ok hm
  refine ⟨_, pw_or (ptW a) (pwW _), h.run e1 rl fun Hs' H' n => ?_⟩
  cases x with
  | false => rw [if_neg Bool.false_ne_true]; exact h2.run e2 n.rel fun Hs2 H2 n2 => q Hs2 H2 (n.trans n2)
  | true => rw [if_pos rfl]; cases e2; exact q Hs' H' n
theorem SimW.t (h : SimW X S a mc) : SimT X S a mc := by
  refine ⟨fun {ρ b ρ'} hm {F σ Hs H} rl {Q} q => ?_⟩
  exact ⟨_, (pwW a).pt, h.run hm rl q⟩
/-- .. as values -/
def andV (m n : EM) : EM := fun ρ => (testM m ρ).bind fun c ρ' => match c with
  | true => n ρ'
  | false => .ok (.bl false) ρ'
def orV (m n : EM) : EM := fun ρ => (testM m ρ).bind fun c ρ' => match c with
  | true => .ok (.bl true) ρ'
  | false => n ρ'
def notV (m : EM) : EM := fun ρ => (testM m ρ).bind fun c ρ' => .ok (.bl (!c)) ρ'
theorem sim_oneV {op : BoolOp} (h : SimV X S a ma) : SimV X S (.BoolOp op [a] pos) ma := by
  refine ⟨fun {ρ d ρ'} hm {F σ Hs H} rl {Q} q => ?_⟩
  exact ⟨_, pe_one (peW a), h.run hm rl q⟩
theorem sim_andV (h : SimV X S a ma) (h2 : SimV X S (.BoolOp .And (b :: rest) pos) mb) : SimV X S (.BoolOp .And (a :: b :: rest) pos) (andV ma mb) := by
  refine ⟨fun {ρ d ρ'} hm {F σ Hs H} rl {Q} q => ?_⟩
  obtain ⟨x, ρ1, e1, e2⟩ := Res.bind_ok hm
  refine ⟨_, pe_and (peW a) (peW _), h.run (testM_ok e1) rl fun v Hs' H' n rp => ⟨x, rp, ?_⟩⟩
  cases x with
  | true => rw [if_pos rfl]; exact h2.run e2 n.rel fun v2 Hs2 H2 n2 => q v2 Hs2 H2 (n.trans n2)
  | false => rw [if_neg Bool.false_ne_true]; cases e2; exact q _ Hs' H' n rfl
theorem sim_orV (h : SimV X S a ma) (h2 : SimV X S (.BoolOp .Or (b :: rest) pos) mb) : SimV X S (.BoolOp .Or (a :: b :: rest) pos) (orV ma mb) := by
  refine ⟨fun {ρ d ρ'} hm {F σ Hs H} rl {Q} q => ?_⟩
  obtain ⟨x, ρ1, e1, e2⟩ := Res.bind_ok hm
  refine ⟨_, pe_or (peW a) (peW _), h.run (testM_ok e1) rl fun v Hs' H' n rp => ⟨x, rp, ?_⟩⟩
  cases x with
  | false => rw [if_neg Bool.false_ne_true]; exact h2.run e2 n.rel fun v2 Hs2 H2 n2 => q v2 Hs2 H2 (n.trans n2)
  | true => rw [if_pos rfl]; cases e2; exact q _ Hs' H' n rfl
theorem sim_notV (h : SimV X S a ma) : SimV X S (.UnaryOp .Not a pos) (notV ma) := by
  refine ⟨fun {ρ d ρ'} hm {F σ Hs H} rl {Q} q => ?_⟩
  obtain ⟨x, ρ1, e1, e2⟩ := Res.bind_ok hm
  cases e2
  exact ⟨_, pe_not (peW a), h.run (testM_ok e1) rl fun v Hs' H' n rp => ⟨x, rp, q _ Hs' H' n rfl⟩⟩
theorem sim_ifV (hc : SimT X S c mc) (ha : SimV X S a ma) (hb : SimV X S b mb) : SimV X S (.IfExp c a b pos) (ifM mc ma mb) := by
  refine ⟨fun {ρ d ρ'} hm {F σ Hs H} rl {Q} q => ?_⟩
  obtain ⟨x, ρ1, e1, e2⟩ := Res.bind_ok hm
  refine ⟨_, pe_ifExp (ptW c) (peW a) (peW b), hc.run e1 rl fun Hs' H' n => ?_⟩
  cases x with
  | true => rw [if_pos rfl]; exact ha.run e2 n.rel fun v2 Hs2 H2 n2 => q v2 Hs2 H2 (n.trans n2)
  | false => rw [if_neg Bool.false_ne_true]; exact hb.run e2 n.rel fun v2 Hs2 H2 n2 => q v2 Hs2 H2 (n.trans n2)
end
end Sim

/-! Sim, part 3: operators by values; operands that look at a slot; displays, subscripts, slices, calls of built-ins. -/
namespace Sim
open PySem PySem.Spec PyProof.Rows L2

/-! ### what a slot shows -/
section
variable {G : Gx} {Hs H : Hp} {v : V}
theorem SlotV.int {i : Int} (h : SlotV G Hs H (.int i) v) : v = .int i := h
theorem SlotV.bl {b : Bool} (h : SlotV G Hs H (.bl b) v) : v = .bl b := h
theorem SlotV.str {x : Str} (h : SlotV G Hs H (.str x) v) : v = .str x := h
theorem SlotV.non (h : SlotV G Hs H .non v) : v = .non := h
theorem SlotV.tup {ds : List D} (h : SlotV G Hs H (.tup ds) v) : ∃ a vs, v = .ref a ∧ SqT G.K Hs a vs ∧ RepL G Hs ds vs := h
theorem SlotV.lst {m : Md} {ds : List D} (s : Same Hs H) (h : SlotV G Hs H (.lst m ds) v) : ∃ a vs, v = .ref a ∧ H a = some (.lst vs) ∧ RepL G Hs ds vs := by
  cases m with
  | sh => obtain ⟨_, a, vs, e, q, t⟩ := h.rep rfl; exact ⟨a, vs, e, s _ _ q, t⟩
  | own => obtain ⟨a, vs, e, _, q, t⟩ := h.own rfl; exact ⟨a, vs, e, q, t⟩
  | brw => obtain ⟨a, vs, e, _, q, t⟩ := h.own rfl; exact ⟨a, vs, e, q, t⟩
end

/-! ### data for == -/
mutual
def toPy : D → Option PyData
  | .non => some .none
  | .bl b => some (.bool b)
  | .int i => some (.int i)
  | .str x => some (.str x)
  | .tup ds => match toPys ds with
    | some ps => some (.tuple ps)
    | none => none
  | .lst _ ds => match toPys ds with
    | some ps => some (.list ps)
    | none => none
  | .dct _ _ _ => none
  | .scr _ => none
def toPys : List D → Option (List PyData)
  | [] => some []
  | d :: ds => match toPy d, toPys ds with
    | some p, some ps => some (p :: ps)
    | _, _ => none
end
mutual
theorem rep_dp {G : Gx} {Hs H : Hp} (s : Same Hs H) : ∀ (d : D) (v : V) (p : PyData), Rep G Hs d v → toPy d = some p → Dp G.K H v p
  | .non, _, _, h, e => by cases h; cases e; exact .non
  | .bl b, _, _, h, e => by cases h; cases e; exact .bl b
  | .int i, _, _, h, e => by cases h; cases e; exact .int i
  | .str x, _, _, h, e => by cases h; cases e; exact .str x
  | .tup ds, _, p, h, e => by
    obtain ⟨a, vs, rfl, q, t⟩ := h
    unfold toPy at e
    split at e
    · rename_i ps hp
      cases e
      exact .tup (Same.seqT s q) (reps_dp s ds vs ps t hp)
    · cases e
  | .lst m ds, _, p, h, e => by
    obtain ⟨_, a, vs, rfl, q, t⟩ := h
    unfold toPy at e
    split at e
    · rename_i ps hp
      cases e
      exact .lst (.of (s _ _ q)) (reps_dp s ds vs ps t hp)
    · cases e
  | .dct _ _ _, _, _, _, e => by cases e
  | .scr _, _, _, _, e => by cases e
theorem reps_dp {G : Gx} {Hs H : Hp} (s : Same Hs H) : ∀ (ds : List D) (vs : List V) (ps : List PyData), RepL G Hs ds vs → toPys ds = some ps → DpAll G.K H vs ps
  | [], _, _, h, e => by cases h; cases e; exact .nil
  | d :: ds, _, ps, h, e => by
    obtain ⟨v, r, rfl, h1, h2⟩ := h
    unfold toPys at e
    split at e
    · rename_i p qs hp hq
      cases e
      exact .cons (rep_dp s d v p h1 hp) (reps_dp s ds r qs h2 hq)
    · cases e
end
theorem slot_dp {G : Gx} {Hs H : Hp} (s : Same Hs H) {d : D} {v : V} {p : PyData} (h : SlotV G Hs H d v) (e : toPy d = some p) : Dp G.K H v p := by
  by_cases ho : d.owned = true
  · cases d with
    | lst m ds =>
      obtain ⟨a, vs, rfl, q, t⟩ := h.lst s
      unfold toPy at e
      split at e
      · rename_i ps hp
        cases e
        exact .lst (.of q) (reps_dp s ds vs ps t hp)
      · cases e
    | dct m ks ds => cases e
    | _ => cases ho
  · exact rep_dp s d v p (h.rep (by simpa using ho)) e

/-! ### the operators by data -/
abbrev cap : Nat := 16777216
def addD : D → D → Option D
  | .int i, .int j => some (.int (i + j))
  | .str x, .str y => if x.length + y.length ≤ cap then some (.str (x ++ y)) else none
  | .tup xs, .tup ys => if xs.length + ys.length ≤ cap then some (.tup (xs ++ ys)) else none
  | .lst _ xs, .lst _ ys => if xs.length + ys.length ≤ cap then some (.lst .sh (xs ++ ys)) else none
  | _, _ => none
def subD : D → D → Option D
  | .int i, .int j => some (.int (i - j))
  | _, _ => none
def mulD : D → D → Option D
  | .int i, .int j => if (-18446744073709551616 < i ∧ i < 18446744073709551616) ∨ (-18446744073709551616 < j ∧ j < 18446744073709551616) then some (.int (i * j)) else none
  | .lst _ xs, .int k => if -1000000000 < k ∧ k < 1000000000 ∧ xs.length * k.toNat ≤ cap then some (.lst .sh (List.replicate k.toNat xs).flatten) else none
  | _, _ => none
def fdivD : D → D → Option D
  | .int i, .int j => if 0 < j ∧ j < 1073741824 then some (.int (i / j)) else none
  | _, _ => none
def modD : D → D → Option D
  | .int i, .int j => if 0 < j then some (.int (i % j)) else none
  | _, _ => none
def powD : D → D → Option D
  | .int i, .int j => if 0 ≤ j ∧ j ≤ 1000 ∧ i.natAbs < 18446744073709551616 then some (.int (i ^ j.toNat)) else none
  | _, _ => none
def cmpD (f : Int → Int → Bool) : D → D → Option D
  | .int i, .int j => some (.bl (f i j))
  | _, _ => none
def ltD : D → D → Option D := cmpD fun i j => decide (i < j)
def leD : D → D → Option D := cmpD fun i j => decide (i ≤ j)
def gtD : D → D → Option D := cmpD fun i j => decide (j < i)
def geD : D → D → Option D := cmpD fun i j => decide (j ≤ i)
def eqB : D → D → Option Bool
  | .int i, .int j => some (decide (i = j))
  | .str x, .str y => some (decide (x = y))
  | .bl a, .bl b => some (decide (a = b))
  | .non, .non => some true
  | x, y => match toPy x, toPy y with
    | some p, some q => if SeqAt.shaped p = true ∧ SeqAt.shaped q = true then some (PyData.eqv p q) else none
    | _, _ => none
def eqD (x y : D) : Option D := (eqB x y).map .bl
def neD (x y : D) : Option D := (eqB x y).map fun b => .bl (!b)
def isN : D → Bool
  | .non => true
  | _ => false
def isD (x y : D) : Option D := match y with
  | .non => some (.bl (isN x))
  | _ => none
def isNotD (x y : D) : Option D := match y with
  | .non => some (.bl (!isN x))
  | _ => none
theorem sizeCap : sizeLine = cap := sizeLine_eq
section
variable {X : Cx}
theorem os_add : OpS X (binaryOp .Add) addD := by
  intro x y d e Hs H u v Q s rx ry q
  unfold addD at e
  split at e
  · cases e
    exact ⟨_, op_add, _, _, rx, ry, q _ Hs H (.refl s) rfl⟩
  · split at e
    · cases e
      exact ⟨_, op_add_str, _, _, rx, ry, by rw [sizeCap]; assumption, q _ Hs H (.refl s) rfl⟩
    · cases e
  · split at e
    · rename_i xs ys hz
      cases e
      obtain ⟨a, vs, rfl, t1, r1⟩ := rx.tup
      obtain ⟨b, ws, rfl, t2, r2⟩ := ry.tup
      refine ⟨_, op_catA, a, b, vs, ws, rfl, rfl, Same.seqT s t1, Same.seqT s t2, by rw [sizeCap, ← r1.length, ← r2.length]; exact hz, fun z => ?_, fun _ z => ?_, fun _ _ p hp => ?_⟩
      · subst z
        refine q _ Hs H (.refl s) ⟨b, ws, rfl, t2, ?_⟩
        simpa using r1.append r2
      · subst z
        refine q _ Hs H (.refl s) ⟨a, vs, rfl, t1, ?_⟩
        simpa using r1.append r2
      · refine q _ _ _ (.new s hp _) ⟨p, _, rfl, .inl (.inl upd_same), RepL.mono (same_new (s.free hp)) _ _ (r1.append r2)⟩
    · cases e
  · split at e
    · rename_i m xs m' ys hz
      cases e
      obtain ⟨a, vs, rfl, t1, r1⟩ := rx.lst s
      obtain ⟨b, ws, rfl, t2, r2⟩ := ry.lst s
      refine ⟨_, op_cat, a, b, vs, ws, rfl, rfl, t1, t2, by rw [sizeCap, ← r1.length, ← r2.length]; exact hz, fun p hp => ?_⟩
      exact q _ _ _ (.new s hp _) ⟨rfl, p, _, rfl, upd_same, RepL.mono (same_new (s.free hp)) _ _ (r1.append r2)⟩
    · cases e
  · cases e
theorem os_sub : OpS X (binaryOp .Sub) subD := by
  intro x y d e Hs H u v Q s rx ry q
  unfold subD at e
  split at e
  · cases e
    exact ⟨_, op_sub, _, _, rx, ry, q _ Hs H (.refl s) rfl⟩
  · cases e
theorem RepL.rep {G : Gx} {H : Hp} {ds : List D} {vs : List V} (h : RepL G H ds vs) : ∀ n : Nat, RepL G H (List.replicate n ds).flatten (List.replicate n vs).flatten
  | 0 => rfl
  | n + 1 => by rw [List.replicate_succ, List.replicate_succ, List.flatten_cons, List.flatten_cons]; exact h.append (h.rep n)
theorem os_mul : OpS X (binaryOp .Mult) mulD := by
  intro x y d e Hs H u v Q s rx ry q
  unfold mulD at e
  split at e
  · split at e
    · rename_i h
      cases e
      exact ⟨_, op_mul, _, _, rx, ry, h, q _ Hs H (.refl s) rfl⟩
    · cases e
  · split at e
    · rename_i m xs k hz
      cases e
      obtain ⟨a, vs, rfl, t1, r1⟩ := rx.lst s
      cases ry.int
      refine ⟨_, op_rep, a, k, vs, rfl, rfl, t1, by omega, by omega, by rw [sizeCap, ← r1.length]; exact hz.2.2, fun p hp => ?_⟩
      exact q _ _ _ (.new s hp _) ⟨rfl, p, _, rfl, upd_same, RepL.mono (same_new (s.free hp)) _ _ (r1.rep _)⟩
    · cases e
  · cases e
theorem os_fdiv : OpS X (binaryOp .FloorDiv) fdivD := by
  intro x y d e Hs H u v Q s rx ry q
  unfold fdivD at e
  split at e
  · split at e
    · rename_i h
      cases e
      exact ⟨_, op_fdiv, _, _, rx, ry, h, q _ Hs H (.refl s) rfl⟩
    · cases e
  · cases e
theorem os_mod : OpS X (binaryOp .Mod) modD := by
  intro x y d e Hs H u v Q s rx ry q
  unfold modD at e
  split at e
  · split at e
    · rename_i h
      cases e
      exact ⟨_, op_mod, _, _, rx, ry, h, q _ Hs H (.refl s) rfl⟩
    · cases e
  · cases e
theorem os_pow : OpS X (binaryOp .Pow) powD := by
  intro x y d e Hs H u v Q s rx ry q
  unfold powD at e
  split at e
  · split at e
    · rename_i h
      cases e
      exact ⟨_, op_pow, _, _, rx, ry, ⟨h.1, by omega, h.2.2⟩, q _ Hs H (.refl s) rfl⟩
    · cases e
  · cases e
theorem os_cmp {op : CmpOp} {f : Int → Int → Bool} (ho : OpR X (compareOp op) (rI0 fun i j => .bl (f i j))) : OpS X (compareOp op) (cmpD f) := by
  intro x y d e Hs H u v Q s rx ry q
  unfold cmpD at e
  split at e
  · cases e
    exact ⟨_, ho, _, _, rx, ry, q _ Hs H (.refl s) rfl⟩
  · cases e
theorem os_lt : OpS X (compareOp .Lt) ltD := os_cmp op_lt
theorem os_le : OpS X (compareOp .LtE) leD := os_cmp op_le
theorem os_gt : OpS X (compareOp .Gt) gtD := os_cmp op_gt
theorem os_ge : OpS X (compareOp .GtE) geD := os_cmp op_ge
theorem os_eq0 (hu : X.A.units + 64 < cLine) {x y : D} {b : Bool} (e : eqB x y = some b) {Hs H : Hp} {u v : V} (s : Same Hs H) (rx : SlotV (gx X) Hs H x u) (ry : SlotV (gx X) Hs H y v) :
    (∃ r, OpR X (compareOp .Eq) r ∧ ∀ Q : VK, Q (.bl b) H → r u v H Q) ∧ (∃ r, OpR X (compareOp .NotEq) r ∧ ∀ Q : VK, Q (.bl (!b)) H → r u v H Q) := by
  have dec : ∀ {p r : Prop} [Decidable p] [Decidable r], (p ↔ r) → decide p = decide r := fun h => by
    rw [decide_eq_decide]; exact h
  unfold eqB at e
  split at e
  · cases e
    cases rx.int; cases ry.int
    refine ⟨⟨_, op_eq, fun Q q => ⟨rfl, ?_⟩⟩, ⟨_, op_ne, fun Q q => ⟨rfl, ?_⟩⟩⟩
    · rw [dec (show V.int _ = V.int _ ↔ _ from ⟨fun h => V.int.inj h, fun h => by rw [h]⟩)]; exact q
    · rw [dec (show V.int _ = V.int _ ↔ _ from ⟨fun h => V.int.inj h, fun h => by rw [h]⟩)]; exact q
  · cases e
    cases rx.str; cases ry.str
    refine ⟨⟨_, op_eq, fun Q q => ⟨rfl, ?_⟩⟩, ⟨_, op_ne, fun Q q => ⟨rfl, ?_⟩⟩⟩
    · rw [dec (show V.str _ = V.str _ ↔ _ from ⟨fun h => V.str.inj h, fun h => by rw [h]⟩)]; exact q
    · rw [dec (show V.str _ = V.str _ ↔ _ from ⟨fun h => V.str.inj h, fun h => by rw [h]⟩)]; exact q
  · cases e
    cases rx.bl; cases ry.bl
    refine ⟨⟨_, op_eq, fun Q q => ⟨rfl, ?_⟩⟩, ⟨_, op_ne, fun Q q => ⟨rfl, ?_⟩⟩⟩
    · rw [dec (show V.bl _ = V.bl _ ↔ _ from ⟨fun h => V.bl.inj h, fun h => by rw [h]⟩)]; exact q
    · rw [dec (show V.bl _ = V.bl _ ↔ _ from ⟨fun h => V.bl.inj h, fun h => by rw [h]⟩)]; exact q
  · cases e
    cases rx.non; cases ry.non
    exact ⟨⟨_, op_eq, fun Q q => ⟨rfl, q⟩⟩, ⟨_, op_ne, fun Q q => ⟨rfl, q⟩⟩⟩
  · split at e
    · rename_i p q' hp hq
      split at e
      · rename_i hs
        cases e
        exact ⟨⟨_, op_eqD hu, fun Q q => ⟨p, q', slot_dp s rx hp, slot_dp s ry hq, hs.1, hs.2, q⟩⟩, ⟨_, op_neD hu, fun Q q => ⟨p, q', slot_dp s rx hp, slot_dp s ry hq, hs.1, hs.2, q⟩⟩⟩
      · cases e
    · cases e
theorem os_eq (hu : X.A.units + 64 < cLine) : OpS X (compareOp .Eq) eqD := by
  intro x y d e Hs H u v Q s rx ry q
  obtain ⟨b, eb, rfl⟩ := Option.map_eq_some_iff.mp e
  obtain ⟨⟨r, hr, h⟩, _⟩ := os_eq0 hu eb s rx ry
  exact ⟨r, hr, h Q (q _ Hs H (.refl s) rfl)⟩
theorem os_ne (hu : X.A.units + 64 < cLine) : OpS X (compareOp .NotEq) neD := by
  intro x y d e Hs H u v Q s rx ry q
  obtain ⟨b, eb, rfl⟩ := Option.map_eq_some_iff.mp e
  obtain ⟨_, ⟨r, hr, h⟩⟩ := os_eq0 hu eb s rx ry
  exact ⟨r, hr, h Q (q _ Hs H (.refl s) rfl)⟩
theorem isN_of {G : Gx} {Hs H : Hp} {d : D} {u : V} (h : SlotV G Hs H d u) : decide (u = .non) = isN d := by
  by_cases ho : d.owned = true
  · obtain ⟨a, o, rfl, _, _⟩ := (h.own ho).ref
    cases d <;> first | rfl | cases ho
  · have h' := h.rep (by simpa using ho)
    cases d with
    | non => cases h'; rfl
    | bl b => cases h'; rfl
    | int b => cases h'; rfl
    | str b => cases h'; rfl
    | tup ds => obtain ⟨a, vs, rfl, _⟩ := h'; rfl
    | lst m ds => obtain ⟨_, a, vs, rfl, _⟩ := h'; rfl
    | dct m ks ds => obtain ⟨_, a, rfl, _⟩ := h'; rfl
    | scr ns => obtain ⟨a, rfl, _⟩ := h'; rfl
theorem os_is : OpS X (compareOp .Is) isD := by
  intro x y d e Hs H u v Q s rx ry q
  unfold isD at e
  split at e
  · cases e
    cases ry.non
    refine ⟨_, op_isN, rfl, ?_⟩
    rw [isN_of rx]
    exact q _ Hs H (.refl s) rfl
  · cases e
theorem os_isNot : OpS X (compareOp .IsNot) isNotD := by
  intro x y d e Hs H u v Q s rx ry q
  unfold isNotD at e
  split at e
  · cases e
    cases ry.non
    refine ⟨_, op_notN, rfl, ?_⟩
    rw [isN_of rx]
    exact q _ Hs H (.refl s) rfl
  · cases e
end
end Sim

/-! Sim, part 4: operands that look at a slot; displays, subscripts, slices, calls of built-ins. -/
namespace Sim
open PySem PySem.Spec PyProof.Rows L2

/-! ### operands: a shared value, or a slot that is looked at when the operation is done -/
abbrev PD := Sum D Nat
abbrev PM := Rho → Res PD
def res (p : PD) (ρ : Rho) : Option D := match p with
  | .inl d => some d
  | .inr i => match ρ[i]? with
    | some (some d) => some d
    | _ => none
def PVal (G : Gx) (Hs : Hp) (σ : L2.St) (p : PD) (v : V) : Prop := match p with
  | .inl d => Rep G Hs d v
  | .inr i => σ[i]? = some (some v)
theorem PVal.mono {G : Gx} {Hs Hs' : Hp} {σ : L2.St} {p : PD} {v : V} (s : Same Hs Hs') (h : PVal G Hs σ p v) : PVal G Hs' σ p v := by
  cases p with
  | inl d => exact Rep.mono s _ _ h
  | inr i => exact h
theorem PVal.look {G : Gx} {S : Sc} {F : Fm} {Hs H : Hp} {ρ : Rho} {σ : L2.St} {p : PD} {v : V} {d : D} (r : Rel G S F Hs H ρ σ) (h : PVal G Hs σ p v) (e : res p ρ = some d) : SlotV G Hs H d v := by
  cases p with
  | inl d' => cases e; exact .of h
  | inr i =>
    unfold res at e
    simp only at e
    split at e
    · rename_i d' he
      cases e
      obtain ⟨w, ew, sw⟩ := r.slot i _ he
      rw [show σ[i]? = some (some v) from h] at ew
      cases ew
      exact sw
    · cases e
structure SimP (X : Cx) (S : Sc) (e : Expr) (m : PM) : Prop where
  run : ∀ {ρ : Rho} {p : PD} {ρ' : Rho}, m ρ = .ok p ρ' → ∀ {F : Fm} {σ : L2.St} {Hs H : Hp}, Rel (gx X) S F Hs H ρ σ → ∀ {Q : VK},
    (∀ v Hs' H', Nxt (gx X) S F ρ σ Hs H ρ' σ Hs' H' → PVal (gx X) Hs' σ p v → Q v H') → WE X e σ H Q
def PVals (G : Gx) (Hs : Hp) (σ : L2.St) : List PD → List V → Prop := Paired (PVal G Hs σ)
structure SimPA (X : Cx) (S : Sc) (es : List Expr) (m : Rho → Res (List PD)) : Prop where
  run : ∀ {ρ : Rho} {ps : List PD} {ρ' : Rho}, m ρ = .ok ps ρ' → ∀ {F : Fm} {σ : L2.St} {Hs H : Hp}, Rel (gx X) S F Hs H ρ σ → ∀ {Q : List V → Hp → Prop},
    (∀ vs Hs' H', Nxt (gx X) S F ρ σ Hs H ρ' σ Hs' H' → Paired (PVal (gx X) Hs' σ) ps vs → Q vs H') → WA X es σ H Q
def peekM (i : Nat) : PM := fun ρ => match ρ[i]? with
  | some (some _) => .ok (.inr i) ρ
  | _ => .fail
def vP (m : EM) : PM := fun ρ => (m ρ).bind fun d ρ' => .ok (.inl d) ρ'
def opP (f : D → D → Option D) (ma mb : PM) : EM := fun ρ => (ma ρ).bind fun p ρ1 => (mb ρ1).bind fun q ρ2 => match res p ρ2, res q ρ2 with
  | some x, some y => pureO (f x y) ρ2
  | _, _ => .fail
section
variable {X : Cx} {S : Sc}
theorem sim_peek (i : Nat) {x : Str} {pos : Pos} (hN : X.N[i]? = some x := by rfl) (hv : Vis X.env.scope x := by first | exact Or.inl rfl | exact Or.inr (Or.inl rfl) | exact Or.inr (Or.inr rfl))
    (hd : (x == ("__debug__" : Str)) = false := by decide) (hcd : (x == ("__classdict__" : Str)) = false := by decide) : SimP X S (.Name x pos) (peekM i) := by
  refine ⟨fun {ρ p ρ'} h {F σ Hs H} r {Q} q => ?_⟩
  unfold peekM at h
  split at h
  · rename_i e he
    cases h
    obtain ⟨v, ev, sv⟩ := r.slot i e he
    exact ⟨_, pe_var hN hv hd hcd, v, ev, q v Hs H (.refl r) ev⟩
  · cases h
theorem SimV.p {e : Expr} {m : EM} (h : SimV X S e m) : SimP X S e (vP m) := by
  refine ⟨fun {ρ p ρ'} hm {F σ Hs H} r {Q} q => ?_⟩
  obtain ⟨d, ρ1, e1, e2⟩ := Res.bind_ok hm
  cases e2
  exact h.run e1 r fun v Hs' H' n rp => q v Hs' H' n rp
variable {a b : Expr} {ma mb : PM} {pos : Pos}
theorem p2 (ha : SimP X S a ma) (hb : SimP X S b mb) {ρ ρ1 ρ2 : Rho} {p q : PD} {x y : D} (ea : ma ρ = .ok p ρ1) (eb : mb ρ1 = .ok q ρ2) (ex : res p ρ2 = some x) (ey : res q ρ2 = some y) {F : Fm} {σ : L2.St} {Hs H : Hp} (r : Rel (gx X) S F Hs H ρ σ) {R : V → V → Hp → Prop}
    (h : ∀ u v Hs' H', Nxt (gx X) S F ρ σ Hs H ρ2 σ Hs' H' → SlotV (gx X) Hs' H' x u → SlotV (gx X) Hs' H' y v → R u v H') : WE X a σ H fun u H1 => WE X b σ H1 fun v H2 => R u v H2 :=
  ha.run ea r fun u Hs1 H1 n1 r1 => hb.run eb n1.rel fun v Hs2 H2 n2 r2 => h u v Hs2 H2 (n1.trans n2) ((r1.mono n2.same).look n2.rel ex) (r2.look n2.rel ey)
theorem opP_ok {f : D → D → Option D} {ρ ρ' : Rho} {d : D} (h : opP f ma mb ρ = .ok d ρ') : ∃ p q x y ρ1, ma ρ = .ok p ρ1 ∧ mb ρ1 = .ok q ρ' ∧ res p ρ' = some x ∧ res q ρ' = some y ∧ f x y = some d := by
  obtain ⟨p, ρ1, e1, h⟩ := Res.bind_ok h
  obtain ⟨q, ρ2, e2, h⟩ := Res.bind_ok h
  split at h
  · rename_i x y hx hy
    obtain ⟨e3, rfl⟩ := pureO_ok h
    exact ⟨p, q, x, y, ρ1, e1, e2, hx, hy, e3⟩
  · cases h
theorem sim_binP {op : Operator} {f : D → D → Option D} (ho : OpS X (binaryOp op) f) (ha : SimP X S a ma) (hb : SimP X S b mb) : SimV X S (.BinOp a op b pos) (opP f ma mb) := by
  refine ⟨fun {ρ d ρ'} hm {F σ Hs H} rl {Q} q => ?_⟩
  obtain ⟨p, p', x, y, ρ1, e1, e2, ex, ey, e3⟩ := opP_ok hm
  refine ⟨_, pe_op (opW _) (peW a) (peW b), p2 ha hb e1 e2 ex ey rl fun u v Hs' H' n ru rv => ?_⟩
  exact ho e3 n.rel.sub ru rv fun w Hs2 H2 x2 rw => q w Hs2 H2 (n.trans (x2.nxt n.rel)) rw
theorem sim_cmpP {op : CmpOp} {f : D → D → Option D} (ho : OpS X (compareOp op) f) (ha : SimP X S a ma) (hb : SimP X S b mb) (hm : behindInMarks op b = false) : SimV X S (.Compare a [op] [b] pos) (opP f ma mb) := by
  refine ⟨fun {ρ d ρ'} h {F σ Hs H} rl {Q} q => ?_⟩
  obtain ⟨p, p', x, y, ρ1, e1, e2, ex, ey, e3⟩ := opP_ok h
  refine ⟨_, pe_cmpR (opW _) (peW a) (peW b) hm, p2 ha hb e1 e2 ex ey rl fun u v Hs' H' n ru rv => ?_⟩
  exact ho e3 n.rel.sub ru rv fun w Hs2 H2 x2 rw => q w Hs2 H2 (n.trans (x2.nxt n.rel)) rw
theorem sim_cmpPT {op : CmpOp} {f : D → D → Option D} (ho : OpS X (compareOp op) f) (ha : SimP X S a ma) (hb : SimP X S b mb) (hm : behindInMarks op b = false) : SimT X S (.Compare a [op] [b] pos) (testM (opP f ma mb)) := by
  refine ⟨fun {ρ c ρ'} h {F σ Hs H} rl {Q} q => ?_⟩
  obtain ⟨p, p', x, y, ρ1, e1, e2, ex, ey, e3⟩ := opP_ok (testM_ok h)
  refine ⟨_, pt_cmpR (opW _) (peW a) (peW b) hm, p2 ha hb e1 e2 ex ey rl fun u v Hs' H' n ru rv => ?_⟩
  exact ho e3 n.rel.sub ru rv fun w Hs2 H2 x2 rw => ⟨c, rw, q Hs2 H2 (n.trans (x2.nxt n.rel))⟩
/-! ### unary -/
def negD : D → Option D
  | .int i => some (.int (-i))
  | _ => none
def op1 (f : D → Option D) (ma : EM) : EM := fun ρ => (ma ρ).bind fun x ρ1 => pureO (f x) ρ1
theorem sim_neg {m : EM} (ha : SimV X S a m) : SimV X S (.UnaryOp .USub a pos) (op1 negD m) := by
  refine ⟨fun {ρ d ρ'} h {F σ Hs H} rl {Q} q => ?_⟩
  obtain ⟨x, ρ1, e1, e2⟩ := Res.bind_ok h
  obtain ⟨e3, rfl⟩ := pureO_ok e2
  unfold negD at e3
  split at e3
  · cases e3
    exact ⟨_, pe_un un_neg (peW a), ha.run e1 rl fun v Hs' H' n rp => ⟨_, rp, q _ Hs' H' n rfl⟩⟩
  · cases e3

/-! ### argument lists, displays -/
def nilA : AM := fun ρ => .ok [] ρ
def consA (m : EM) (n : AM) : AM := fun ρ => (m ρ).bind fun d ρ1 => (n ρ1).bind fun ds ρ2 => .ok (d :: ds) ρ2
variable {e : Expr} {es : List Expr} {me : EM} {mes : AM}
theorem sim_nil : SimA X S [] nilA := by
  refine ⟨fun {ρ ds ρ'} h {F σ Hs H} rl {Q} q => ?_⟩
  cases h
  exact ⟨_, pa_nil, q [] Hs H (.refl rl) rfl⟩
theorem sim_cons (h1 : SimV X S e me) (h2 : SimA X S es mes) (hs : starEach (e :: es) X.env = (false, eval e X.env) :: starEach es X.env := by rfl) : SimA X S (e :: es) (consA me mes) := by
  refine ⟨fun {ρ ds ρ'} h {F σ Hs H} rl {Q} q => ?_⟩
  obtain ⟨d, ρ1, e1, h⟩ := Res.bind_ok h
  obtain ⟨ds', ρ2, e2, h⟩ := Res.bind_ok h
  cases h
  refine ⟨_, pa_cons (peW e) (paW es) hs, h1.run e1 rl fun v Hs1 H1 n1 r1 => h2.run e2 n1.rel fun vs Hs2 H2 n2 r2 => q _ Hs2 H2 (n1.trans n2) (.cons (Rep.mono n2.same _ _ r1) r2)⟩
def nilP : Rho → Res (List PD) := fun ρ => .ok [] ρ
def consP (m : PM) (n : Rho → Res (List PD)) : Rho → Res (List PD) := fun ρ => (m ρ).bind fun d ρ1 => (n ρ1).bind fun ds ρ2 => .ok (d :: ds) ρ2
variable {mp : PM} {mps : Rho → Res (List PD)}
theorem sim_nilP : SimPA X S [] nilP := by
  refine ⟨fun {ρ ds ρ'} h {F σ Hs H} rl {Q} q => ?_⟩
  cases h
  exact ⟨_, pa_nil, q [] Hs H (.refl rl) .nil⟩
theorem sim_consP (h1 : SimP X S e mp) (h2 : SimPA X S es mps) (hs : starEach (e :: es) X.env = (false, eval e X.env) :: starEach es X.env := by rfl) : SimPA X S (e :: es) (consP mp mps) := by
  refine ⟨fun {ρ ds ρ'} h {F σ Hs H} rl {Q} q => ?_⟩
  obtain ⟨d, ρ1, e1, h⟩ := Res.bind_ok h
  obtain ⟨ds', ρ2, e2, h⟩ := Res.bind_ok h
  cases h
  refine ⟨_, pa_cons (peW e) (paW es) hs, h1.run e1 rl fun v Hs1 H1 n1 r1 => h2.run e2 n1.rel fun vs Hs2 H2 n2 r2 => q _ Hs2 H2 (n1.trans n2) (.cons (r1.mono n2.same) r2)⟩
def tupM (m : AM) : EM := fun ρ => (m ρ).bind fun ds ρ1 => if ds.length ≤ cap then .ok (.tup ds) ρ1 else .fail
def lstM (m : AM) : EM := fun ρ => (m ρ).bind fun ds ρ1 => if ds.length ≤ cap then .ok (.lst .own ds) ρ1 else .fail
theorem sim_tup {x1 : Nat} (h : SimA X S es mes) : SimV X S (.Tuple es x1 pos) (tupM mes) := by
  refine ⟨fun {ρ d ρ'} hm {F σ Hs H} rl {Q} q => ?_⟩
  obtain ⟨ds, ρ1, e1, hm⟩ := Res.bind_ok hm
  split at hm
  · rename_i hz
    cases hm
    refine ⟨_, pe_tup (paW es), h.run e1 rl fun vs Hs' H' n r => ⟨by rw [sizeCap, ← r.length]; exact hz, fun p hp => ?_⟩⟩
    exact q _ _ _ (n.trans (n.rel.newSh hp _)) ⟨p, vs, rfl, .inl (.inl upd_same), RepL.mono (same_new (n.rel.sub.free hp)) _ _ r⟩
  · cases hm
theorem Rel.notOwn {G : Gx} {F : Fm} {Hs H : Hp} {ρ : Rho} {σ : L2.St} {b : Addr} (r : Rel G S F Hs H ρ σ) (h : H b = none) : ¬ Own ρ σ b := fun z => by
  obtain ⟨_, o, q⟩ := r.ownAt z
  rw [h] at q; cases q
theorem Nxt.unn {G : Gx} {F : Fm} {Hs H Hs' H' : Hp} {ρ ρ' : Rho} {σ σ' : L2.St} {b : Addr} (n : Nxt G S F ρ σ Hs H ρ' σ' Hs' H') (h : H' b = none) : H b = none := by
  cases e : H b with
  | none => rfl
  | some o => exact absurd h (n.dom b (by rw [e]; exact fun z => by cases z))
theorem sim_lst (h : SimA X S es mes) : SimE X S (.List es pos) (lstM mes) := by
  refine ⟨fun {ρ d ρ'} hm {F σ Hs H} rl {Q} q => ?_⟩
  obtain ⟨ds, ρ1, e1, hm⟩ := Res.bind_ok hm
  split at hm
  · rename_i hz
    cases hm
    refine ⟨_, pe_lst (paW es), h.run e1 rl fun vs Hs' H' n r => ⟨by rw [sizeCap, ← r.length]; exact hz, fun p hp => ?_⟩⟩
    refine q _ _ _ (n.trans (n.rel.newOwn hp _)) (.ofOwn ⟨p, vs, rfl, n.rel.sub.free hp, upd_same, r⟩ rfl) fun _ a e => ?_
    cases e
    exact ⟨n.unn hp, n.rel.notOwn hp⟩
  · cases hm

/-! ### subscripts -/
def cutG {α : Type} (xs : List α) (lo hi : Option Int) : List α := (xs.drop (HT.sIx xs.length 0 lo)).take (HT.sIx xs.length xs.length hi - HT.sIx xs.length 0 lo)
def IxS (X : Cx) (f : D → D → Option D) : Prop :=
  ∀ {x y d : D}, f x y = some d → ∀ {Hs H : Hp} {u v : V} {Q : VK}, Same Hs H → SlotV (gx X) Hs H x u → SlotV (gx X) Hs H y v → Gives (gx X) Hs H d Q → WIx X u v H Q
theorem sim_ix {f : D → D → Option D} (hf : IxS X f) (ha : SimP X S a ma) (hb : SimP X S b mb) (hs : PlainIx b := by exact fun _ _ => rfl) : SimV X S (.Subscript a b pos) (opP f ma mb) := by
  refine ⟨fun {ρ d ρ'} h {F σ Hs H} rl {Q} q => ?_⟩
  obtain ⟨p, p', x, y, ρ1, e1, e2, ex, ey, e3⟩ := opP_ok h
  refine ⟨_, pe_ix ixW (peW a) (peW b) hs, p2 ha hb e1 e2 ex ey rl fun u v Hs' H' n ru rv => ?_⟩
  exact hf e3 n.rel.sub ru rv fun w Hs2 H2 x2 rw => q w Hs2 H2 (n.trans (x2.nxt n.rel)) rw
theorem RepL.atI {G : Gx} {H : Hp} {ds : List D} {vs : List V} {i : Int} {d : D} (h : RepL G H ds vs) (e : atI ds i = some d) : ∃ v, L2.atI vs i = some v ∧ Rep G H d v := by
  unfold L2.atI at e ⊢
  rw [← h.length]
  cases q : ixN ds.length i with
  | none => rw [q] at e; cases e
  | some j =>
    rw [q] at e
    exact h.get e
/-- items of lists, tuples, texts (dicts: part 6) -/
def ixD : D → D → Option D
  | .tup ds, .int i => atI ds i
  | .lst _ ds, .int i => atI ds i
  | .scr ns, .int i => (atI ns i).map .int
  | .str z, .int i => if z.length ≤ cap then (atI z.cps.toList i).map fun c => .str ⟨#[c]⟩ else none
  | _, _ => none
theorem is_ix : IxS X ixD := by
  intro x y d e Hs H u v Q s rx ry q
  unfold ixD at e
  split at e
  · obtain ⟨a, vs, rfl, t, r⟩ := rx.tup
    cases ry.int
    obtain ⟨w, ew, rw'⟩ := r.atI e
    exact ⟨_, ix_tup, a, vs, _, w, rfl, rfl, Same.seqT s t, ew, q _ Hs H (.refl s) rw'⟩
  · obtain ⟨a, vs, rfl, t, r⟩ := rx.lst s
    cases ry.int
    obtain ⟨w, ew, rw'⟩ := r.atI e
    exact ⟨_, ix_list, a, vs, _, w, rfl, rfl, .of t, ew, q _ Hs H (.refl s) rw'⟩
  · obtain ⟨n, en, rfl⟩ := Option.map_eq_some_iff.mp e
    obtain ⟨a, rfl, t⟩ := rx
    cases ry.int
    refine ⟨_, ix_list, a, _, _, .int n, rfl, rfl, s.seq t, ?_, q _ Hs H (.refl s) rfl⟩
    unfold L2.atI at en ⊢
    rw [List.length_map]
    obtain ⟨j, ej, en⟩ := Option.bind_eq_some_iff.mp en
    rw [ej]
    show (List.map V.int _)[j]? = _
    rw [List.getElem?_map, en]
    rfl
  · split at e
    · rename_i hz
      obtain ⟨c, ec, rfl⟩ := Option.map_eq_some_iff.mp e
      cases rx.str
      cases ry.int
      exact ⟨_, ix_str, _, _, c, rfl, rfl, by rw [sizeCap]; exact hz, ec, q _ Hs H (.refl s) rfl⟩
    · cases e
  · cases e

/-! ### slices -/
def WO (X : Cx) (e : Option Expr) : TO := fun σ H Q => ∃ t, PO X e t ∧ t σ H Q
theorem poW (e : Option Expr) : PO X e (WO X e) := ⟨fun pins s σ H Q I ⟨_, h, q⟩ => h.run pins s σ H Q I q⟩
structure SimO (X : Cx) (S : Sc) (e : Option Expr) (m : Rho → Res (Option Int)) : Prop where
  run : ∀ {ρ : Rho} {o : Option Int} {ρ' : Rho}, m ρ = .ok o ρ' → ∀ {F : Fm} {σ : L2.St} {Hs H : Hp}, Rel (gx X) S F Hs H ρ σ → ∀ {Q : Option Int → Hp → Prop},
    (∀ Hs' H', Nxt (gx X) S F ρ σ Hs H ρ' σ Hs' H' → Q o H') → WO X e σ H Q
def noO : Rho → Res (Option Int) := fun ρ => .ok none ρ
def someO (m : EM) : Rho → Res (Option Int) := fun ρ => (m ρ).bind fun d ρ1 => match d with
  | .int i => .ok (some i) ρ1
  | _ => .fail
theorem sim_noO : SimO X S none noO := by
  refine ⟨fun {ρ d ρ'} h {F σ Hs H} rl {Q} q => ?_⟩
  cases h
  exact ⟨_, po_none, q Hs H (.refl rl)⟩
theorem sim_someO (h1 : SimV X S e me) : SimO X S (some e) (someO me) := by
  refine ⟨fun {ρ o ρ'} h {F σ Hs H} rl {Q} q => ?_⟩
  obtain ⟨d, ρ1, e1, h⟩ := Res.bind_ok h
  split at h
  · cases h
    exact ⟨_, po_some (peW e), h1.run e1 rl fun v Hs1 H1 n1 r1 => ⟨_, r1, q Hs1 H1 n1⟩⟩
  · cases h
def sliceD : D → Option Int → Option Int → Option D
  | .tup ds, lo, hi => some (.tup (cutG ds lo hi))
  | .lst _ ds, lo, hi => some (.lst .sh (cutG ds lo hi))
  | _, _, _ => none
def sliceM (m : PM) (ml mh : Rho → Res (Option Int)) : EM := fun ρ => (m ρ).bind fun p ρ1 => (ml ρ1).bind fun lo ρ2 => (mh ρ2).bind fun hi ρ3 => match res p ρ3 with
  | some x => pureO (sliceD x lo hi) ρ3
  | none => .fail
theorem RepL.cut {G : Gx} {H : Hp} {ds : List D} {vs : List V} (h : RepL G H ds vs) (lo hi : Option Int) : RepL G H (cutG ds lo hi) (cutV vs lo hi) := by
  unfold cutG cutV
  rw [← h.length]
  exact (h.drop _).take _
theorem cutV_whole {xs : List V} {lo hi : Option Int} (h : HT.sIx xs.length 0 lo = 0 ∧ HT.sIx xs.length xs.length hi = xs.length) : cutV xs lo hi = xs := by
  unfold cutV
  rw [h.1, h.2]
  simp
theorem sim_slice {lo hi : Option Expr} {ml mh : Rho → Res (Option Int)} {p2 : Pos} (ha : SimP X S a ma) (hl : SimO X S lo ml) (hh : SimO X S hi mh) : SimV X S (.Subscript a (.Slice lo hi none p2) pos) (sliceM ma ml mh) := by
  refine ⟨fun {ρ d ρ'} h {F σ Hs H} rl {Q} q => ?_⟩
  obtain ⟨p, ρ1, e1, h⟩ := Res.bind_ok h
  obtain ⟨l, ρ2, e2, h⟩ := Res.bind_ok h
  obtain ⟨u, ρ3, e3, h⟩ := Res.bind_ok h
  split at h
  · rename_i x hx
    obtain ⟨e4, rfl⟩ := pureO_ok h
    refine ⟨_, pe_slice slW (peW a) (poW lo) (poW hi), ha.run e1 rl fun v Hs1 H1 n1 r1 => hl.run e2 n1.rel fun Hs2 H2 n2 => hh.run e3 n2.rel fun Hs3 H3 n3 => ?_⟩
    have n := (n1.trans n2).trans n3
    have sx := (r1.mono (n2.same.trans n3.same)).look n3.rel hx
    unfold sliceD at e4
    split at e4
    · cases e4
      obtain ⟨b, vs, rfl, t, r⟩ := sx.tup
      refine ⟨_, sl_tupA, b, vs, rfl, Same.seqT n.rel.sub t, fun z => ?_, fun _ p hp => ?_⟩
      · exact q _ _ _ n ⟨b, vs, rfl, t, by have := r.cut l u; rwa [cutV_whole z] at this⟩
      · exact q _ _ _ (n.trans (n.rel.newSh hp _)) ⟨p, _, rfl, .inl (.inl upd_same), RepL.mono (same_new (n.rel.sub.free hp)) _ _ (r.cut l u)⟩
    · cases e4
      obtain ⟨b, vs, rfl, t, r⟩ := sx.lst n.rel.sub
      refine ⟨_, sl_list, b, vs, rfl, .of t, fun p hp => ?_⟩
      exact q _ _ _ (n.trans (n.rel.newSh hp _)) ⟨rfl, p, _, rfl, upd_same, RepL.mono (same_new (n.rel.sub.free hp)) _ _ (r.cut l u)⟩
    · cases e4
  · cases h

/-! ### calls of built-ins -/
/-- what comes may be new and held by nobody -/
def GivesE (G : Gx) (Hs H : Hp) (d : D) (Q : VK) : Prop := ∀ w Hs' H', Ext Hs H Hs' H' → SlotV G Hs' H' d w → (d.owned = true → ∀ a, w = .ref a → H a = none) → Q w H'
def SlotVs (G : Gx) (Hs H : Hp) : List D → List V → Prop := Paired (SlotV G Hs H)
def CallS (X : Cx) (fn : Value) (f : List D → Option D) : Prop :=
  ∀ {ds : List D} {d : D}, f ds = some d → ∀ {Hs H : Hp} {vs : List V} {Q : VK}, Same Hs H → Paired (SlotV (gx X) Hs H) ds vs → GivesE (gx X) Hs H d Q → WCall X fn vs H Q
def CallV (X : Cx) (fn : Value) (f : List D → Option D) : Prop :=
  ∀ {ds : List D} {d : D}, f ds = some d → ∀ {Hs H : Hp} {vs : List V} {Q : VK}, Same Hs H → Paired (SlotV (gx X) Hs H) ds vs → Gives (gx X) Hs H d Q → WCall X fn vs H Q
def resL (ps : List PD) (ρ : Rho) : Option (List D) := match ps with
  | [] => some []
  | p :: ps => match res p ρ, resL ps ρ with
    | some d, some ds => some (d :: ds)
    | _, _ => none
theorem resL_look {G : Gx} {F : Fm} {Hs H : Hp} {ρ : Rho} {σ : L2.St} (r : Rel G S F Hs H ρ σ) : ∀ {ps : List PD} {vs : List V} {ds : List D}, Paired (PVal G Hs σ) ps vs → resL ps ρ = some ds → Paired (SlotV G Hs H) ds vs
  | _, _, _, .nil, e => by cases e; exact .nil
  | p :: ps, v :: vs, ds, .cons h t, e => by
    unfold resL at e
    split at e
    · rename_i d ds' hd hds
      cases e
      exact .cons (h.look r hd) (resL_look r t hds)
    · cases e
def callM (f : List D → Option D) (m : Rho → Res (List PD)) : EM := fun ρ => (m ρ).bind fun ps ρ1 => match resL ps ρ1 with
  | some ds => pureO (f ds) ρ1
  | none => .fail
theorem callM_ok {f : List D → Option D} {ρ ρ' : Rho} {d : D} (h : callM f mps ρ = .ok d ρ') : ∃ ps ds, mps ρ = .ok ps ρ' ∧ resL ps ρ' = some ds ∧ f ds = some d := by
  obtain ⟨ps, ρ1, e1, h⟩ := Res.bind_ok h
  split at h
  · rename_i ds hds
    obtain ⟨e2, rfl⟩ := pureO_ok h
    exact ⟨ps, ds, e1, hds, e2⟩
  · cases h
variable {x : Str} {p0 : Pos} {id T : String} {f : List D → Option D}
theorem sim_callB (hf : CallV X (.builtin id) f) (hg : Gl X x) (hm : X.mg x = none) (hv : bootBuiltins x = some (.builtin id)) (ha : SimPA X S (e :: es) mps) (hn : x ≠ "__name__" := by decide) (hdb : (x == ("__debug__" : Str)) = false := by decide)
    (he : starEach (e :: es) X.env = (false, eval e X.env) :: starEach es X.env := by rfl) (hpl : (backTo pos (starEach es X.env)).any (·.1) = false := by rfl) : SimV X S (.Call (.Name x p0) (e :: es) [] pos) (callM f mps) := by
  refine ⟨fun {ρ d ρ'} h {F σ Hs H} rl {Q} q => ?_⟩
  obtain ⟨ps, ds, e1, e2, e3⟩ := callM_ok h
  refine ⟨_, pe_callB (callW _) hg hm hv (paW (e :: es)) hn hdb he hpl, ha.run e1 rl fun vs Hs' H' n r => ?_⟩
  exact hf e3 n.rel.sub (resL_look n.rel r e2) fun w Hs2 H2 x2 rw => q w Hs2 H2 (n.trans (x2.nxt n.rel)) rw
theorem sim_callTy (hf : CallV X (.type T) f) (hg : Gl X x) (hm : X.mg x = none) (hv : bootBuiltins x = some (.type T)) (ha : SimPA X S (e :: es) mps) (hn : x ≠ "__name__" := by decide) (hdb : (x == ("__debug__" : Str)) = false := by decide)
    (he : starEach (e :: es) X.env = (false, eval e X.env) :: starEach es X.env := by rfl) (hpl : (backTo pos (starEach es X.env)).any (·.1) = false := by rfl) : SimV X S (.Call (.Name x p0) (e :: es) [] pos) (callM f mps) := by
  refine ⟨fun {ρ d ρ'} h {F σ Hs H} rl {Q} q => ?_⟩
  obtain ⟨ps, ds, e1, e2, e3⟩ := callM_ok h
  refine ⟨_, pe_callTy (callW _) hg hm hv (paW (e :: es)) hn hdb he hpl, ha.run e1 rl fun vs Hs' H' n r => ?_⟩
  exact hf e3 n.rel.sub (resL_look n.rel r e2) fun w Hs2 H2 x2 rw => q w Hs2 H2 (n.trans (x2.nxt n.rel)) rw
theorem sim_callBE (hf : CallS X (.builtin id) f) (hg : Gl X x) (hm : X.mg x = none) (hv : bootBuiltins x = some (.builtin id)) (ha : SimPA X S (e :: es) mps) (hn : x ≠ "__name__" := by decide) (hdb : (x == ("__debug__" : Str)) = false := by decide)
    (he : starEach (e :: es) X.env = (false, eval e X.env) :: starEach es X.env := by rfl) (hpl : (backTo pos (starEach es X.env)).any (·.1) = false := by rfl) : SimE X S (.Call (.Name x p0) (e :: es) [] pos) (callM f mps) := by
  refine ⟨fun {ρ d ρ'} h {F σ Hs H} rl {Q} q => ?_⟩
  obtain ⟨ps, ds, e1, e2, e3⟩ := callM_ok h
  refine ⟨_, pe_callB (callW _) hg hm hv (paW (e :: es)) hn hdb he hpl, ha.run e1 rl fun vs Hs' H' n r => ?_⟩
  exact hf e3 n.rel.sub (resL_look n.rel r e2) fun w Hs2 H2 x2 sw fr => q w Hs2 H2 (n.trans (x2.nxt n.rel)) sw fun o a ea => ⟨n.unn (fr o a ea), n.rel.notOwn (fr o a ea)⟩
theorem sim_callTyE (hf : CallS X (.type T) f) (hg : Gl X x) (hm : X.mg x = none) (hv : bootBuiltins x = some (.type T)) (ha : SimPA X S (e :: es) mps) (hn : x ≠ "__name__" := by decide) (hdb : (x == ("__debug__" : Str)) = false := by decide)
    (he : starEach (e :: es) X.env = (false, eval e X.env) :: starEach es X.env := by rfl) (hpl : (backTo pos (starEach es X.env)).any (·.1) = false := by rfl) : SimE X S (.Call (.Name x p0) (e :: es) [] pos) (callM f mps) := by
  refine ⟨fun {ρ d ρ'} h {F σ Hs H} rl {Q} q => ?_⟩
  obtain ⟨ps, ds, e1, e2, e3⟩ := callM_ok h
  refine ⟨_, pe_callTy (callW _) hg hm hv (paW (e :: es)) hn hdb he hpl, ha.run e1 rl fun vs Hs' H' n r => ?_⟩
  exact hf e3 n.rel.sub (resL_look n.rel r e2) fun w Hs2 H2 x2 sw fr => q w Hs2 H2 (n.trans (x2.nxt n.rel)) sw fun o a ea => ⟨n.unn (fr o a ea), n.rel.notOwn (fr o a ea)⟩
end
end Sim

/-! Sim, part 5: statements and loops. -/
namespace Sim
open PySem PySem.Spec PyProof.Rows L2

inductive Flow where
  | nxt | brk | cnt | ret (d : D) | exc (x : D)
abbrev SM := Rho → Res Flow
def WS (X : Cx) (st : Stmt) : TS := fun D σ H => ∃ t, PS X st t ∧ t D σ H
def WB (X : Cx) (st : List Stmt) : TS := fun D σ H => ∃ t, PSs X st t ∧ t D σ H
def WG (X : Cx) (e : Expr) : TG := fun v σ H Q => ∃ t, PG X e t ∧ t v σ H Q
def WGs (X : Cx) (es : List Expr) : TGs := fun vs σ H Q => ∃ t, PGs X es t ∧ t vs σ H Q
def WI (X : Cx) (tg iter : Expr) : TI := fun σ H R => ∃ t, PI X tg iter t ∧ t σ H R
def WIp (X : Cx) (op : Operator) : TIp := fun x y H Q => ∃ t, PIp X op t ∧ t x y H Q
section
variable {X : Cx}
theorem psW (st : Stmt) : PS X st (WS X st) := ⟨fun pins s σ H D I ⟨_, h, q⟩ => h.run pins s σ H D I q⟩
theorem pbW (st : List Stmt) : PSs X st (WB X st) := ⟨fun pins s σ H D I ⟨_, h, q⟩ => h.run pins s σ H D I q⟩
theorem pgW (e : Expr) : PG X e (WG X e) := ⟨fun pins s σ H v u Q I r ⟨_, h, q⟩ => h.run pins s σ H v u Q I r q⟩
theorem pgsW (es : List Expr) : PGs X es (WGs X es) := ⟨fun pins s σ H v u Q I r ⟨_, h, q⟩ => h.run pins s σ H v u Q I r q⟩
theorem piW (tg iter : Expr) : PI X tg iter (WI X tg iter) := ⟨fun pins s σ H R I ⟨_, h, q⟩ => h.run pins s σ H R I q⟩
theorem ipW (op : Operator) : PIp X op (WIp X op) := fun pins s σ H x y v u Q I rx ry ⟨_, h, q⟩ => h pins s σ H x y v u Q I rx ry q
end
/-- what is known of a returned value -/
def RetV (G : Gx) (F : Fm) (Hs H : Hp) (ρ : Rho) (σ : L2.St) (d : D) (v : V) : Prop := SlotV G Hs H d v ∧ (d.owned = true → ∀ a, v = .ref a → F.H0 a = none ∧ ¬ Own ρ σ a)
def EndOk (G : Gx) (S : Sc) (F : Fm) (ρ : Rho) (σ : L2.St) (Hs H : Hp) (f : Flow) (ρ' : Rho) (E : Ends) : Prop := match f with
  | .nxt => ∀ σ' Hs' H', Nxt G S F ρ σ Hs H ρ' σ' Hs' H' → E.nx σ' H'
  | .brk => ∀ σ' Hs' H', Nxt G S F ρ σ Hs H ρ' σ' Hs' H' → E.bk σ' H'
  | .cnt => ∀ σ' Hs' H', Nxt G S F ρ σ Hs H ρ' σ' Hs' H' → E.ct σ' H'
  | .ret d => ∀ v σ' Hs' H', Nxt G S F ρ σ Hs H ρ' σ' Hs' H' → RetV G F Hs' H' ρ' σ' d v → E.rt v H'
  | .exc x => ∀ σ' Hs' H', Nxt G S F ρ σ Hs H ρ' σ' Hs' H' → S.xw x σ' H'
structure SimS (X : Cx) (S : Sc) (st : Stmt) (m : SM) : Prop where
  run : ∀ {ρ : Rho} {f : Flow} {ρ' : Rho}, m ρ = .ok f ρ' → ∀ {F : Fm} {σ : L2.St} {Hs H : Hp}, Rel (gx X) S F Hs H ρ σ → ∀ {E : Ends}, EndOk (gx X) S F ρ σ Hs H f ρ' E → WS X st E σ H
structure SimB (X : Cx) (S : Sc) (st : List Stmt) (m : SM) : Prop where
  run : ∀ {ρ : Rho} {f : Flow} {ρ' : Rho}, m ρ = .ok f ρ' → ∀ {F : Fm} {σ : L2.St} {Hs H : Hp}, Rel (gx X) S F Hs H ρ σ → ∀ {E : Ends}, EndOk (gx X) S F ρ σ Hs H f ρ' E → WB X st E σ H
/-- the state behind goes on -/
theorem EndOk.pre {G : Gx} {S : Sc} {F : Fm} {ρ ρ1 : Rho} {σ σ1 : L2.St} {Hs H Hs1 H1 : Hp} {f : Flow} {ρ' : Rho} {E : Ends} (n : Nxt G S F ρ σ Hs H ρ1 σ1 Hs1 H1) (h : EndOk G S F ρ σ Hs H f ρ' E) : EndOk G S F ρ1 σ1 Hs1 H1 f ρ' E := by
  cases f with
  | nxt => exact fun σ' Hs' H' m => h σ' Hs' H' (n.trans m)
  | brk => exact fun σ' Hs' H' m => h σ' Hs' H' (n.trans m)
  | cnt => exact fun σ' Hs' H' m => h σ' Hs' H' (n.trans m)
  | ret d => exact fun v σ' Hs' H' m => h v σ' Hs' H' (n.trans m)
  | exc x => exact fun σ' Hs' H' m => h σ' Hs' H' (n.trans m)

/-! ### slots change -/
section
variable {G : Gx} {S : Sc} {F : Fm} {ρ ρ1 : Rho} {σ : L2.St} {Hs H Hs1 H1 : Hp} {i : Nat} {d : D} {v : V} {a : Addr}
theorem set_none_some {l : Rho} {i j : Nat} {y : D} (h : (l.set i none)[j]? = some (some y)) : j ≠ i ∧ l[j]? = some (some y) := by
  rcases get_set_some h with ⟨_, z, _⟩ | z
  · cases z
  · exact z
/-- a slot is given away -/
theorem Rel.drop (r : Rel G S F Hs H ρ σ) (i : Nat) : Nxt G S F ρ σ Hs H (ρ.set i none) σ Hs H := by
  refine ⟨⟨r.sub, by simpa using r.len, fun j e h => r.slot j e (set_none_some h).2, fun j k e f b hjk h1 h2 => r.apart j k e f b hjk (set_none_some h1).2 (set_none_some h2).2, fun j e b hj h => r.fresh j e b hj (set_none_some h).2, fun j e hj h => r.vals j e hj (set_none_some h).2, r.par, r.dom0⟩,
    .refl _, fun _ _ h _ => h, fun _ h => h, fun b ⟨j, e, h, o⟩ => .inl ⟨j, e, (set_none_some h).2, o⟩, fun b h => .inl h, fun _ _ => rfl, rfl⟩
/-- a name is stored -/
theorem Nxt.assign (r0 : Rel G S F Hs H ρ σ) (n : Nxt G S F ρ σ Hs H ρ1 σ Hs1 H1) (hi : i ∉ S.io) (hf : i ∉ S.fx) (sv : SlotV G Hs1 H1 d v) (fr : d.owned = true → i ∈ S.os ∧ ∀ a, v = .ref a → H a = none ∧ ¬ Own ρ1 σ a) :
    Nxt G S F ρ σ Hs H (ρ1.set i (some d)) (σ.set i (some v)) Hs1 H1 := by
  have r := n.rel
  have other : ∀ {j : Nat} {e : D} {b : Addr}, j ≠ i → (σ.set i (some v))[j]? = some (some (V.ref b)) → σ[j]? = some (some (V.ref b)) := fun hj h => by
    rwa [List.getElem?_set_ne (Ne.symm hj)] at h
  have mine : ∀ {b : Addr}, (σ.set i (some v))[i]? = some (some (V.ref b)) → v = .ref b := fun h => by
    rcases get_set_some h with ⟨_, z, _⟩ | ⟨z, _⟩
    · exact (Option.some.inj z).symm
    · exact absurd rfl z
  refine ⟨⟨r.sub, by simpa using r.len, fun j e h => ?_, fun j k e f b hjk h1 h2 o1 o2 s1 s2 => ?_, fun j e b hj h1 o1 s1 => ?_, fun j e hj h1 => ?_, fun j hj => ?_, r.dom0⟩, n.same, n.keep, n.dom, fun b ⟨j, e, h1, o1, s1⟩ => ?_, n.grow, fun j hj => ?_, by rw [List.length_set]⟩
  · rcases get_set_some h with ⟨rfl, z, hl⟩ | ⟨hj, h⟩
    · cases z
      refine ⟨v, ?_, sv⟩
      rw [List.getElem?_set_self (by rw [← r.len]; exact hl)]
    · obtain ⟨w, ew, sw⟩ := r.slot j e h
      exact ⟨w, by rw [List.getElem?_set_ne (Ne.symm hj)]; exact ew, sw⟩
  · rcases get_set_some h1 with ⟨q1, z, _⟩ | ⟨hj, g1⟩
    · cases z
      rcases get_set_some h2 with ⟨q2, _, _⟩ | ⟨hk, g2⟩
      · exact hjk (q1.trans q2.symm)
      · rw [q1] at s1
        exact ((fr o1).2 b (mine s1)).2 ⟨k, f, g2, o2, other (e := f) hk s2⟩
    · rcases get_set_some h2 with ⟨q2, z, _⟩ | ⟨hk, g2⟩
      · cases z
        rw [q2] at s2
        exact ((fr o2).2 b (mine s2)).2 ⟨j, e, g1, o1, other (e := e) hj s1⟩
      · exact r.apart j k e f b hjk g1 g2 o1 o2 (other (e := e) hj s1) (other (e := f) hk s2)
  · rcases get_set_some h1 with ⟨rfl, z, _⟩ | ⟨hj', h1⟩
    · cases z
      have h0 := ((fr o1).2 b (mine s1)).1
      cases q : F.H0 b with
      | none => rfl
      | some o => exact absurd h0 (r0.dom0 b (by rw [q]; exact fun z => by cases z))
    · exact r.fresh j e b hj h1 o1 (other (e := e) hj' s1)
  · rcases get_set_some h1 with ⟨rfl, z, _⟩ | ⟨hj', h1⟩
    · cases z
      cases o : d.owned with
      | false => rfl
      | true => exact absurd (fr o).1 hj
    · exact r.vals j e hj h1
  · rw [List.getElem?_set_ne (fun z => by subst z; exact hi hj)]
    exact r.par j hj
  · rcases get_set_some h1 with ⟨rfl, z, _⟩ | ⟨hj', h1⟩
    · cases z
      exact .inr ((fr o1).2 b (mine s1)).1
    · exact n.own b ⟨j, e, h1, o1, other (e := e) hj' s1⟩
  · rw [List.getElem?_set_ne (fun z => by subst z; exact hf hj)]
/-- an own thing is changed -/
theorem Rel.write (r : Rel G S F Hs H ρ σ) {d0 : D} (he : ρ[i]? = some (some d0)) (o0 : d0.owned = true) (es : σ[i]? = some (some (V.ref a))) (o : HO) (od : d.owned = true) (own : OwnV G Hs (upd H a o) d (.ref a)) :
    Nxt G S F ρ σ Hs H (ρ.set i (some d)) σ Hs (upd H a o) := by
  have oa : Own ρ σ a := ⟨i, d0, he, o0, es⟩
  obtain ⟨ha, u, hu⟩ := r.ownAt oa
  have kp : ∀ b w, b ≠ a → H b = some w → upd H a o b = some w := fun b w hb q => by rw [upd_ne hb]; exact q
  refine ⟨⟨fun b w q => kp b w (ne_of_none q ha) (r.sub b w q), by simpa using r.len, fun j e h => ?_, fun j k e f b hjk h1 h2 o1 o2 s1 s2 => ?_, fun j e b hj h1 o1 s1 => ?_, fun j e hj h1 => ?_, r.par, fun b h => ?_⟩, .refl _, fun b w h no => kp b w (fun z => no (z ▸ oa)) h, fun b h => ?_, fun b ⟨j, e, h1, o1, s1⟩ => ?_, fun b h => .inl h, fun _ _ => rfl, rfl⟩
  · rcases get_set_some h with ⟨rfl, z, hl⟩ | ⟨hj, h⟩
    · cases z
      exact ⟨_, es, .ofOwn own od⟩
    · obtain ⟨w, ew, sw⟩ := r.slot j e h
      refine ⟨w, ew, ?_⟩
      by_cases oe : e.owned = true
      · refine .ofOwn ((sw.own oe).stay (.refl _) (fun b z => ?_) fun b w' z q => ?_) oe
        · subst z; exact (r.ownAt ⟨j, e, h, oe, ew⟩).1
        · subst z; exact kp b w' (fun z => by subst z; exact r.apart j i e d0 b hj h he oe o0 ew es) q
      · exact .of (sw.rep (by simpa using oe))
  · rcases get_set_some h1 with ⟨q1, z, _⟩ | ⟨hj, g1⟩
    · cases z
      rcases get_set_some h2 with ⟨q2, _, _⟩ | ⟨hk, g2⟩
      · exact hjk (q1.trans q2.symm)
      · rw [q1] at s1
        exact r.apart i k d0 f b (fun z => hjk (q1.trans z)) he g2 o0 o2 s1 s2
    · rcases get_set_some h2 with ⟨q2, z, _⟩ | ⟨hk, g2⟩
      · cases z
        rw [q2] at s2
        exact r.apart j i e d0 b hj g1 he o1 o0 s1 s2
      · exact r.apart j k e f b hjk g1 g2 o1 o2 s1 s2
  · rcases get_set_some h1 with ⟨rfl, z, _⟩ | ⟨hj', h1⟩
    · exact r.fresh j d0 b hj he o0 s1
    · exact r.fresh j e b hj h1 o1 s1
  · rcases get_set_some h1 with ⟨rfl, z, _⟩ | ⟨hj', h1⟩
    · have := r.vals j d0 hj he
      rw [o0] at this; cases this
    · exact r.vals j e hj h1
  · by_cases e : b = a
    · subst e; rw [upd_same]; exact fun z => by cases z
    · rw [upd_ne e]; exact r.dom0 b h
  · by_cases e : b = a
    · subst e; rw [upd_same]; exact fun z => by cases z
    · rw [upd_ne e]; exact h
  · rcases get_set_some h1 with ⟨rfl, z, _⟩ | ⟨hj', h1⟩
    · exact .inl ⟨j, d0, he, o0, s1⟩
    · exact .inl ⟨j, e, h1, o1, s1⟩
end

/-! ### blocks -/
def nilM : SM := fun ρ => .ok .nxt ρ
def seqM (m n : SM) : SM := fun ρ => (m ρ).bind fun f ρ1 => match f with
  | .nxt => n ρ1
  | f => .ok f ρ1
def setM (i : Nat) (m : EM) : SM := fun ρ => (m ρ).bind fun d ρ1 => .ok .nxt (ρ1.set i (some d))
def dropM (m : EM) : SM := fun ρ => (m ρ).bind fun _ ρ1 => .ok .nxt ρ1
def retM (m : EM) : SM := fun ρ => (m ρ).bind fun d ρ1 => .ok (.ret d) ρ1
def retN : SM := fun ρ => .ok (.ret .non) ρ
def retS (i : Nat) : SM := fun ρ => match ρ[i]? with
  | some (some d) => .ok (.ret d) (ρ.set i none)
  | _ => .fail
def brkM : SM := fun ρ => .ok .brk ρ
def cntM : SM := fun ρ => .ok .cnt ρ
def iteM (c : TM) (m n : SM) : SM := fun ρ => (c ρ).bind fun b ρ1 => match b with
  | true => m ρ1
  | false => n ρ1
section
variable {X : Cx} {S : Sc} {st : Stmt} {rest a b : List Stmt} {m n : SM} {e : Expr} {me : EM} {pos : Pos} {x : Str} {px : Pos}
theorem sim_bnil : SimB X S [] nilM := by
  refine ⟨fun {ρ f ρ'} h {F σ Hs H} rl {E} q => ?_⟩
  cases h
  exact ⟨_, pss_nil, q σ Hs H (.refl rl)⟩
theorem sim_bone (h : SimS X S st m) : SimB X S [st] m := by
  refine ⟨fun {ρ f ρ'} hm {F σ Hs H} rl {E} q => ?_⟩
  exact ⟨_, pss_one (psW st), h.run hm rl q⟩
theorem sim_bcons (h1 : SimS X S st m) (h2 : SimB X S rest n) : SimB X S (st :: rest) (seqM m n) := by
  refine ⟨fun {ρ f ρ'} hm {F σ Hs H} rl {E} q => ?_⟩
  obtain ⟨f1, ρ1, e1, e2⟩ := Res.bind_ok hm
  cases f1 with
  | nxt =>
    refine ⟨_, pss_cons (psW st) (pbW rest), h1.run e1 rl (E := { E with nx := WB X rest E }) fun σ' Hs' H' n => ?_⟩
    exact h2.run e2 n.rel (q.pre n)
  | brk => cases e2; exact ⟨_, pss_cons (psW st) (pbW rest), h1.run e1 rl (E := { E with nx := WB X rest E }) q⟩
  | cnt => cases e2; exact ⟨_, pss_cons (psW st) (pbW rest), h1.run e1 rl (E := { E with nx := WB X rest E }) q⟩
  | ret d => cases e2; exact ⟨_, pss_cons (psW st) (pbW rest), h1.run e1 rl (E := { E with nx := WB X rest E }) q⟩
  | exc x => cases e2; exact ⟨_, pss_cons (psW st) (pbW rest), h1.run e1 rl (E := { E with nx := WB X rest E }) q⟩
theorem sim_pass : SimS X S (.Pass pos) nilM := by
  refine ⟨fun {ρ f ρ'} h {F σ Hs H} rl {E} q => ?_⟩
  cases h
  exact ⟨_, ps_pass, q σ Hs H (.refl rl)⟩
theorem sim_doc {y : Str} {j : Nat} {p' : Pos} : SimS X S (.Expr (.Constant (.str y) j p') pos) nilM := by
  refine ⟨fun {ρ f ρ'} h {F σ Hs H} rl {E} q => ?_⟩
  cases h
  exact ⟨_, ps_doc, q σ Hs H (.refl rl)⟩
theorem sim_break : SimS X S (.Break pos) brkM := by
  refine ⟨fun {ρ f ρ'} h {F σ Hs H} rl {E} q => ?_⟩
  cases h
  exact ⟨_, ps_break, q σ Hs H (.refl rl)⟩
theorem sim_continue : SimS X S (.Continue pos) cntM := by
  refine ⟨fun {ρ f ρ'} h {F σ Hs H} rl {E} q => ?_⟩
  cases h
  exact ⟨_, ps_continue, q σ Hs H (.refl rl)⟩
/-- x = e, the value shared -/
theorem sim_set (i : Nat) (hN : X.N.Nodup) (he : SimV X S e me) (hio : i ∉ S.io := by first | decide | exact of_decide_eq_true rfl) (hfx : i ∉ S.fx := by first | decide | exact of_decide_eq_true rfl) (hi : X.N[i]? = some x := by rfl) (hx : Loc X.env.scope x := by first | exact Or.inl rfl | exact Or.inr rfl)
    (hs : swapsWith e (some (.Name x px)) pos.line X.env = pure false := by rfl) (hf : X.fn x = true ∨ X.env.scope.names.lookup x = some .local := by first | exact .inl rfl | exact .inr rfl) : SimS X S (.Assign [.Name x px] e pos) (setM i me) := by
  refine ⟨fun {ρ f ρ'} hm {F σ Hs H} rl {E} q => ?_⟩
  obtain ⟨d, ρ1, e1, e2⟩ := Res.bind_ok hm
  cases e2
  exact ⟨_, ps_set hN hi hx (peW e) hs hf, he.run e1 rl fun v Hs' H' n r => q _ Hs' H' (n.assign rl hio hfx (.of r) fun o => by rw [r.owned] at o; cases o)⟩
/-- x = e, x may hold it alone -/
theorem sim_setE (i : Nat) (hN : X.N.Nodup) (he : SimE X S e me) (hos : i ∈ S.os := by first | decide | exact of_decide_eq_true rfl) (hio : i ∉ S.io := by first | decide | exact of_decide_eq_true rfl) (hfx : i ∉ S.fx := by first | decide | exact of_decide_eq_true rfl) (hi : X.N[i]? = some x := by rfl) (hx : Loc X.env.scope x := by first | exact Or.inl rfl | exact Or.inr rfl)
    (hs : swapsWith e (some (.Name x px)) pos.line X.env = pure false := by rfl) (hf : X.fn x = true ∨ X.env.scope.names.lookup x = some .local := by first | exact .inl rfl | exact .inr rfl) : SimS X S (.Assign [.Name x px] e pos) (setM i me) := by
  refine ⟨fun {ρ f ρ'} hm {F σ Hs H} rl {E} q => ?_⟩
  obtain ⟨d, ρ1, e1, e2⟩ := Res.bind_ok hm
  cases e2
  exact ⟨_, ps_set hN hi hx (peW e) hs hf, he.run e1 rl fun v Hs' H' n sv fr => q _ Hs' H' (n.assign rl hio hfx sv fun o => ⟨hos, fr o⟩)⟩
theorem sim_expr (he : SimV X S e me) (hs : swapsWith e none pos.line X.env = pure false := by rfl) : SimS X S (.Expr e pos) (dropM me) := by
  refine ⟨fun {ρ f ρ'} hm {F σ Hs H} rl {E} q => ?_⟩
  obtain ⟨d, ρ1, e1, e2⟩ := Res.bind_ok hm
  cases e2
  exact ⟨_, ps_expr (peW e) hs, he.run e1 rl fun v Hs' H' n r => q _ Hs' H' n⟩
theorem sim_ret (he : SimE X S e me) : SimS X S (.Return (some e) pos) (retM me) := by
  refine ⟨fun {ρ f ρ'} hm {F σ Hs H} rl {E} q => ?_⟩
  obtain ⟨d, ρ1, e1, e2⟩ := Res.bind_ok hm
  cases e2
  refine ⟨_, ps_ret (peW e), he.run e1 rl fun v Hs' H' n sv fr => q v σ Hs' H' n ⟨sv, fun o a ea => ⟨?_, (fr o a ea).2⟩⟩⟩
  cases z : F.H0 a with
  | none => rfl
  | some u => exact absurd (fr o a ea).1 (rl.dom0 a (by rw [z]; exact fun z => by cases z))
theorem sim_retN : SimS X S (.Return none pos) retN := by
  refine ⟨fun {ρ f ρ'} hm {F σ Hs H} rl {E} q => ?_⟩
  cases hm
  exact ⟨_, ps_retN, q .non σ Hs H (.refl rl) ⟨rfl, fun o => by cases o⟩⟩
/-- return x, the slot gives its own thing away -/
theorem sim_retS (i : Nat) (hio : i ∉ S.io := by first | decide | exact of_decide_eq_true rfl) (hN : X.N[i]? = some x := by rfl) (hv : Vis X.env.scope x := by first | exact Or.inl rfl | exact Or.inr (Or.inl rfl) | exact Or.inr (Or.inr rfl))
    (hd : (x == ("__debug__" : Str)) = false := by decide) (hcd : (x == ("__classdict__" : Str)) = false := by decide) : SimS X S (.Return (some (.Name x px)) pos) (retS i) := by
  refine ⟨fun {ρ f ρ'} hm {F σ Hs H} rl {E} q => ?_⟩
  unfold retS at hm
  split at hm
  · rename_i d hd'
    cases hm
    obtain ⟨v, ev, sv⟩ := rl.slot i d hd'
    refine ⟨_, ps_ret (pe_var hN hv hd hcd), v, ev, q v σ Hs H (rl.drop i) ⟨sv, fun o a ea => ⟨?_, fun ⟨j, e, h1, o1, s1⟩ => ?_⟩⟩⟩
    · subst ea; exact rl.fresh i d a hio hd' o ev
    · subst ea
      obtain ⟨hj, h1⟩ := set_none_some h1
      exact rl.apart j i e d a hj h1 hd' o1 o s1 ev
  · cases hm
theorem sim_if {c : Expr} {mc : TM} (hc : SimT X S c mc) (ha : SimB X S a m) (hb : SimB X S b n) : SimS X S (.If c a b pos) (iteM mc m n) := by
  refine ⟨fun {ρ f ρ'} hm {F σ Hs H} rl {E} q => ?_⟩
  obtain ⟨t, ρ1, e1, e2⟩ := Res.bind_ok hm
  refine ⟨_, ps_if (ptW c) (pbW a) (pbW b), hc.run e1 rl fun Hs' H' n => ?_⟩
  cases t with
  | true => rw [if_pos rfl]; exact ha.run e2 n.rel (q.pre n)
  | false => rw [if_neg Bool.false_ne_true]; exact hb.run e2 n.rel (q.pre n)

/-! ### targets -/
abbrev GM := D → Rho → Res Unit
structure SimG (X : Cx) (S : Sc) (tg : Expr) (g : GM) : Prop where
  run : ∀ {d : D} {ρ ρ' : Rho}, g d ρ = .ok () ρ' → ∀ {F : Fm} {σ : L2.St} {Hs H : Hp}, Rel (gx X) S F Hs H ρ σ → ∀ {v : V}, Rep (gx X) Hs d v → ∀ {Q : L2.St → Hp → Prop},
    (∀ σ' Hs' H', Nxt (gx X) S F ρ σ Hs H ρ' σ' Hs' H' → Q σ' H') → WG X tg v σ H Q
structure SimGs (X : Cx) (S : Sc) (tgs : List Expr) (g : List D → Rho → Res Unit) : Prop where
  run : ∀ {ds : List D} {ρ ρ' : Rho}, g ds ρ = .ok () ρ' → ∀ {F : Fm} {σ : L2.St} {Hs H : Hp}, Rel (gx X) S F Hs H ρ σ → ∀ {vs : List V}, RepL (gx X) Hs ds vs → ∀ {Q : L2.St → Hp → Prop},
    (∀ σ' Hs' H', Nxt (gx X) S F ρ σ Hs H ρ' σ' Hs' H' → Q σ' H') → WGs X tgs vs σ H Q
def nameG (i : Nat) : GM := fun d ρ => .ok () (ρ.set i (some d))
def nilG : List D → Rho → Res Unit := fun ds ρ => match ds with
  | [] => .ok () ρ
  | _ => .fail
def consG (g : GM) (gs : List D → Rho → Res Unit) : List D → Rho → Res Unit := fun ds ρ => match ds with
  | d :: ds => (g d ρ).bind fun _ ρ1 => gs ds ρ1
  | _ => .fail
def tupG (n : Nat) (gs : List D → Rho → Res Unit) : GM := fun d ρ => match d with
  | .tup ds => if ds.length = n then gs ds ρ else .fail
  | _ => .fail
def asgM (g : GM) (m : EM) : SM := fun ρ => (m ρ).bind fun d ρ1 => (g d ρ1).bind fun _ ρ2 => .ok .nxt ρ2
theorem sim_gname (i : Nat) (hN : X.N.Nodup) (hio : i ∉ S.io := by first | decide | exact of_decide_eq_true rfl) (hfx : i ∉ S.fx := by first | decide | exact of_decide_eq_true rfl) (hi : X.N[i]? = some x := by rfl) (hx : Loc X.env.scope x := by first | exact Or.inl rfl | exact Or.inr rfl)
    (hf : X.fn x = true ∨ X.env.scope.names.lookup x = some .local := by first | exact .inl rfl | exact .inr rfl) : SimG X S (.Name x pos) (nameG i) := by
  refine ⟨fun {d ρ ρ'} hm {F σ Hs H} rl {v} r {Q} q => ?_⟩
  cases hm
  exact ⟨_, pg_name hN hi hx hf, q _ Hs H ((Nxt.refl rl).assign rl hio hfx (.of r) fun o => by rw [r.owned] at o; cases o)⟩
theorem sim_gnil : SimGs X S [] nilG := by
  refine ⟨fun {ds ρ ρ'} hm {F σ Hs H} rl {vs} r {Q} q => ?_⟩
  unfold nilG at hm
  split at hm
  · cases hm
    exact ⟨_, pgs_nil, r, q σ Hs H (.refl rl)⟩
  · cases hm
theorem sim_gcons {es : List Expr} {g : GM} {gs : List D → Rho → Res Unit} (h1 : SimG X S e g) (h2 : SimGs X S es gs) (hs : (assignEach (e :: es) X.env).map (·.2) = assign e X.env :: (assignEach es X.env).map (·.2) := by rfl) : SimGs X S (e :: es) (consG g gs) := by
  refine ⟨fun {ds ρ ρ'} hm {F σ Hs H} rl {vs} r {Q} q => ?_⟩
  unfold consG at hm
  split at hm
  · obtain ⟨_, ρ1, e1, e2⟩ := Res.bind_ok hm
    obtain ⟨v, w, rfl, r1, r2⟩ := r
    exact ⟨_, pgs_cons (pgW e) (pgsW es) hs, v, w, rfl, h1.run e1 rl r1 fun σ' Hs' H' n => h2.run e2 n.rel (RepL.mono n.same _ _ r2) fun σ2 Hs2 H2 n2 => q σ2 Hs2 H2 (n.trans n2)⟩
  · cases hm
theorem sim_gtup {es : List Expr} {gs : List D → Rho → Res Unit} {n k : Nat} (hc : X.calm = true) (h : SimGs X S es gs) (hn : (assignEach es X.env).length = n := by rfl) (hst : (assignEach es X.env).findIdx? (·.1) = none := by rfl) : SimG X S (.Tuple es k pos) (tupG n gs) := by
  refine ⟨fun {d ρ ρ'} hm {F σ Hs H} rl {v} r {Q} q => ?_⟩
  unfold tupG at hm
  split at hm
  · split at hm
    · rename_i ds hl
      obtain ⟨a, vs, rfl, t, rs⟩ := r
      exact ⟨_, pg_tup hc (pgsW es) hn hst, a, vs, rfl, Same.seqT rl.sub t, by rw [← rs.length]; exact hl, h.run hm rl rs q⟩
    · cases hm
  · cases hm
theorem sim_asg {tg : Expr} {g : GM} (he : SimV X S e me) (hg : SimG X S tg g) (hs : swapsWithSole [tg] e pos.line X.env = pure false := by rfl) (hw : swappedStores [tg] e X.env = pure none := by rfl)
    (h1 : (assignEach [tg] X.env).map (·.2) = [assign tg X.env] := by rfl) : SimS X S (.Assign [tg] e pos) (asgM g me) := by
  refine ⟨fun {ρ f ρ'} hm {F σ Hs H} rl {E} q => ?_⟩
  obtain ⟨d, ρ1, e1, hm⟩ := Res.bind_ok hm
  obtain ⟨_, ρ2, e2, hm⟩ := Res.bind_ok hm
  cases hm
  exact ⟨_, ps_asg (peW e) (pgW tg) hs hw h1, he.run e1 rl fun v Hs' H' n r => hg.run e2 n.rel r fun σ2 Hs2 H2 n2 => q σ2 Hs2 H2 (n.trans n2)⟩

/-! ### name op= e -/
def IpS (X : Cx) (op : Operator) (f : D → D → Option D) : Prop :=
  ∀ {x y d : D}, f x y = some d → ∀ {Hs H : Hp} {u v : V} {Q : VK}, Same Hs H → Rep (gx X) Hs x u → Rep (gx X) Hs y v → Gives (gx X) Hs H d Q → WIp X op u v H Q
def augM (i : Nat) (f : D → D → Option D) (m : EM) : SM := fun ρ => match ρ[i]? with
  | some (some x) => (m ρ).bind fun y ρ1 => match f x y with
    | some d => .ok .nxt (ρ1.set i (some d))
    | none => .fail
  | _ => .fail
theorem sim_aug (i : Nat) {op : Operator} {f : D → D → Option D} (hN : X.N.Nodup) (ho : IpS X op f) (he : SimV X S e me) (hos : i ∉ S.os := by first | decide | exact of_decide_eq_true rfl) (hio : i ∉ S.io := by first | decide | exact of_decide_eq_true rfl) (hfx : i ∉ S.fx := by first | decide | exact of_decide_eq_true rfl) (hi : X.N[i]? = some x := by rfl) (hx : Loc X.env.scope x := by first | exact Or.inl rfl | exact Or.inr rfl)
    (hf : X.fn x = true ∨ X.env.scope.names.lookup x = some .local := by first | exact .inl rfl | exact .inr rfl) : SimS X S (.AugAssign (.Name x px) op e pos) (augM i f me) := by
  refine ⟨fun {ρ f' ρ'} hm {F σ Hs H} rl {E} q => ?_⟩
  unfold augM at hm
  split at hm
  · rename_i d0 h0
    obtain ⟨y, ρ1, e1, hm⟩ := Res.bind_ok hm
    split at hm
    · rename_i d hd
      cases hm
      obtain ⟨v, ev, sv⟩ := rl.slot i d0 h0
      have r0 := sv.rep (rl.vals i d0 hos h0)
      refine ⟨_, ps_aug hN hi hx (peW e) (ipW op) hf, v, ev, he.run e1 rl fun w Hs' H' n r => ?_⟩
      exact ho hd n.rel.sub (Rep.mono n.same _ _ r0) r fun z Hs2 H2 x2 rz => q _ Hs2 H2 ((n.trans (x2.nxt n.rel)).assign rl hio hfx (.of rz) fun o => by rw [rz.owned] at o; cases o)
    · cases hm
  · cases hm
def iaddD : D → D → Option D
  | .int i, .int j => some (.int (i + j))
  | .str x, .str y => if x.length + y.length ≤ cap then some (.str (x ++ y)) else none
  | _, _ => none
theorem ip_addS : IpS X .Add iaddD := by
  intro x y d e Hs H u v Q s rx ry q
  unfold iaddD at e
  split at e
  · cases e
    exact ⟨_, ip_add, _, _, rx, ry, q _ Hs H (.refl s) rfl⟩
  · split at e
    · cases e
      refine ⟨fun x y H Q => ∃ i j, x = .str i ∧ y = .str j ∧ i.length + j.length ≤ sizeLine ∧ Q (.str (i ++ j)) H, fun pins s σ H x y v u Q I rx ry h => iop_add_str pins s σ H x y v u Q I rx ry h, _, _, rx, ry, by rw [sizeCap]; assumption, q _ Hs H (.refl s) rfl⟩
    · cases e
  · cases e
theorem ip_subS : IpS X .Sub subD := by
  intro x y d e Hs H u v Q s rx ry q
  unfold subD at e
  split at e
  · cases e
    exact ⟨_, ip_sub, _, _, rx, ry, q _ Hs H (.refl s) rfl⟩
  · cases e

/-! ### while -/
def whileM (c : TM) (b : SM) : Nat → SM
  | 0 => fun _ => .fail
  | n + 1 => fun ρ => (c ρ).bind fun t ρ1 => match t with
    | false => .ok .nxt ρ1
    | true => (b ρ1).bind fun f ρ2 => match f with
      | .nxt => whileM c b n ρ2
      | .cnt => whileM c b n ρ2
      | .brk => .ok .nxt ρ2
      | .ret d => .ok (.ret d) ρ2
      | .exc x => .ok (.exc x) ρ2
theorem sim_while {c : Expr} {mc : TM} (n : Nat) (hp : PassesOwn (model X.prog X.w) X.A X.env X.xe) (hc : SimT X S c mc) (hb : SimB X S b m) : SimS X S (.While c b [] pos) (whileM mc m n) := by
  refine ⟨fun {ρ f ρ'} hm {F σ Hs H} rl {E} q => ?_⟩
  refine ⟨_, ps_while hp (ptW c) (pbW b), fun k σ1 H1 => ∃ ρ1 Hs1, whileM mc m k ρ1 = .ok f ρ' ∧ Nxt (gx X) S F ρ σ Hs H ρ1 σ1 Hs1 H1, ⟨n, ρ, Hs, hm, .refl rl⟩, ?_⟩
  rintro k σ1 H1 ⟨ρ1, Hs1, e, n1⟩
  cases k with
  | zero => cases e
  | succ k =>
    obtain ⟨t, ρ2, e1, e⟩ := Res.bind_ok e
    refine hc.run e1 n1.rel fun Hs2 H2 n2 => ?_
    cases t with
    | false =>
      rw [if_neg Bool.false_ne_true]
      cases e
      exact q _ _ _ (n1.trans n2)
    | true =>
      rw [if_pos rfl]
      obtain ⟨f1, ρ3, e2, e⟩ := Res.bind_ok e
      have n12 := n1.trans n2
      refine ⟨fun σ' H' => ∃ ρ1 Hs1, whileM mc m k ρ1 = .ok f ρ' ∧ Nxt (gx X) S F ρ σ Hs H ρ1 σ' Hs1 H', fun σ' H' h => ⟨k, Nat.lt_succ_self k, h⟩, hb.run e2 n2.rel ?_⟩
      cases f1 with
      | nxt => exact fun σ3 Hs3 H3 n3 => ⟨ρ3, Hs3, e, n12.trans n3⟩
      | cnt => exact fun σ3 Hs3 H3 n3 => ⟨ρ3, Hs3, e, n12.trans n3⟩
      | brk => cases e; exact fun σ3 Hs3 H3 n3 => q _ _ _ (n12.trans n3)
      | ret d => cases e; exact fun v σ3 Hs3 H3 n3 => q v _ _ _ (n12.trans n3)
      | exc x => cases e; exact fun σ3 Hs3 H3 n3 => q _ _ _ (n12.trans n3)

/-! ### for -/
/-- the iterator hands out just these, while what was shared stays -/
def Feeds (G : Gx) (J : It) (ds : List D) (Hs0 : Hp) : Prop :=
  (∀ (i : Nat) (d : D) (Hs H : Hp), ds[i]? = some d → Same Hs0 Hs → Same Hs H → J.go i H ∧ ∀ x H', J.yld i H x H' → ∃ Hs', Ext Hs H Hs' H' ∧ Rep G Hs' d x) ∧ ∀ (Hs H : Hp), Same Hs0 Hs → Same Hs H → J.stop ds.length H
structure SimI (X : Cx) (S : Sc) (tg iter : Expr) (m : AM) : Prop where
  run : ∀ {ρ : Rho} {ds : List D} {ρ' : Rho}, m ρ = .ok ds ρ' → ∀ {F : Fm} {σ : L2.St} {Hs H : Hp}, Rel (gx X) S F Hs H ρ σ → ∀ {R : It → Hp → Prop},
    (∀ J Hs' H', Nxt (gx X) S F ρ σ Hs H ρ' σ Hs' H' → Feeds (gx X) J ds Hs' → R J H') → WI X tg iter σ H R
def forGo (g : GM) (b : SM) : List D → SM
  | [] => fun ρ => .ok .nxt ρ
  | d :: ds => fun ρ => (g d ρ).bind fun _ ρ1 => (b ρ1).bind fun f ρ2 => match f with
    | .nxt => forGo g b ds ρ2
    | .cnt => forGo g b ds ρ2
    | .brk => .ok .nxt ρ2
    | .ret d => .ok (.ret d) ρ2
    | .exc x => .ok (.exc x) ρ2
def forM (it : AM) (g : GM) (b : SM) : SM := fun ρ => (it ρ).bind fun ds ρ1 => forGo g b ds ρ1
theorem sim_for {tg iter : Expr} {mi : AM} {g : GM} (hp : PassesOwn (model X.prog X.w) X.A X.env X.xe) (hc : X.calm = true) (hi : SimI X S tg iter mi) (hg : SimG X S tg g) (hb : SimB X S b m) (hs : ∀ x, foldedSetIterable iter X.env x = pure x := by intro _; rfl) :
    SimS X S (.For tg iter b [] pos) (forM mi g m) := by
  refine ⟨fun {ρ f ρ'} hm {F σ Hs H} rl {E} q => ?_⟩
  obtain ⟨ds, ρ1, e1, e2⟩ := Res.bind_ok hm
  refine ⟨_, ps_for hp hc (piW tg iter) (pgW tg) (pbW b) hs, hi.run e1 rl fun J Hs1 H1 n1 fd => ?_⟩
  refine ⟨fun i k σ' H' => ∃ ρ2 Hs2, i + k = ds.length ∧ forGo g m (ds.drop i) ρ2 = .ok f ρ' ∧ Same Hs1 Hs2 ∧ Nxt (gx X) S F ρ σ Hs H ρ2 σ' Hs2 H', ⟨ds.length, ρ1, Hs1, by simp, e2, .refl _, n1⟩, ?_⟩
  rintro i k σ2 H2 ⟨ρ2, Hs2, ek, e, sm, n2⟩
  by_cases hi' : i < ds.length
  · have ed := List.drop_eq_getElem_cons hi'
    rw [ed] at e
    obtain ⟨_, ρ3, e3, e⟩ := Res.bind_ok e
    obtain ⟨f1, ρ4, e4, e⟩ := Res.bind_ok e
    obtain ⟨go, yl⟩ := fd.1 i _ Hs2 H2 (List.getElem?_eq_getElem hi') sm n2.rel.sub
    refine .inr ⟨go, fun σ' H' => ∃ ρ2 Hs2, i + 1 + (k - 1) = ds.length ∧ forGo g m (ds.drop (i + 1)) ρ2 = .ok f ρ' ∧ Same Hs1 Hs2 ∧ Nxt (gx X) S F ρ σ Hs H ρ2 σ' Hs2 H', fun σ' H' h => ⟨k - 1, by omega, h⟩, fun x H3 y => ?_⟩
    obtain ⟨Hs3, x3, r3⟩ := yl x H3 y
    have n3 := n2.trans (x3.nxt n2.rel)
    refine hg.run e3 n3.rel r3 fun σ4 Hs4 H4 n4 => ?_
    have n34 := n3.trans n4
    refine hb.run e4 n4.rel ?_
    have sm4 : Same Hs1 Hs4 := (sm.trans x3.s).trans n4.same
    cases f1 with
    | nxt => exact fun σ5 Hs5 H5 n5 => ⟨ρ4, Hs5, by omega, e, sm4.trans n5.same, n34.trans n5⟩
    | cnt => exact fun σ5 Hs5 H5 n5 => ⟨ρ4, Hs5, by omega, e, sm4.trans n5.same, n34.trans n5⟩
    | brk => cases e; exact fun σ5 Hs5 H5 n5 => q _ _ _ (n34.trans n5)
    | ret d => cases e; exact fun v σ5 Hs5 H5 n5 => q v _ _ _ (n34.trans n5)
    | exc x => cases e; exact fun σ5 Hs5 H5 n5 => q _ _ _ (n34.trans n5)
  · have ei : i = ds.length := by omega
    subst ei
    rw [List.drop_length] at e
    cases e
    exact .inl ⟨fd.2 Hs2 H2 sm n2.rel.sub, q _ _ _ n2⟩
/-! ### what is walked -/
def itemsD : D → Option (List D)
  | .lst .sh ds => some ds
  | .tup ds => some ds
  | .scr ns => some (ns.map .int)
  | _ => none
def iterM (m : EM) : AM := fun ρ => (m ρ).bind fun d ρ1 => pureO (itemsD d) ρ1
theorem feeds_list' {G : Gx} {a : Addr} {vs : List V} {ds : List D} {Hs0 : Hp} (t : SqL G.K Hs0 a vs) (r : RepL G Hs0 ds vs) : Feeds G (Itl G.K a) ds Hs0 := by
  refine ⟨fun i d Hs H e s1 s2 => ?_, fun Hs H s1 s2 => ⟨vs, (s1.trans s2).seq t, by rw [r.length]; exact Nat.le_refl _⟩⟩
  obtain ⟨v, ev, rv⟩ := r.get e
  refine ⟨⟨vs, v, (s1.trans s2).seq t, ev⟩, fun x H' y => ?_⟩
  obtain ⟨rfl, y⟩ := y
  have := y vs ((s1.trans s2).seq t)
  rw [ev] at this; cases this
  exact ⟨Hs, .refl s2, Rep.mono s1 _ _ rv⟩
theorem feeds_tup {G : Gx} {a : Addr} {vs : List V} {ds : List D} {Hs0 : Hp} (t : SqT G.K Hs0 a vs) (r : RepL G Hs0 ds vs) : Feeds G (Itt G.K a) ds Hs0 := by
  refine ⟨fun i d Hs H e s1 s2 => ?_, fun Hs H s1 s2 => ⟨vs, Same.seqT (s1.trans s2) t, by rw [r.length]; exact Nat.le_refl _⟩⟩
  obtain ⟨v, ev, rv⟩ := r.get e
  refine ⟨⟨vs, v, Same.seqT (s1.trans s2) t, ev⟩, fun x H' y => ?_⟩
  obtain ⟨rfl, y⟩ := y
  have := y vs (Same.seqT (s1.trans s2) t)
  rw [ev] at this; cases this
  exact ⟨Hs, .refl s2, Rep.mono s1 _ _ rv⟩
theorem pi_seq {tg l : Expr} {tl : TE} (hl : PE X l tl) : PI X tg l (fun σ H R => tl σ H fun x H1 => ∃ a, x = .ref a ∧ (((∃ xs, SqL X.K H1 a xs) ∧ R (Itl X.K a) H1) ∨ ((∃ xs, SqT X.K H1 a xs) ∧ R (Itt X.K a) H1))) := by
  refine ⟨fun pins s σ H R I h => ?_⟩
  refine thn (hl.run pins s σ H _ I h) fun v s1 ⟨x, H1, I1, r1, q1⟩ => ?_
  obtain ⟨a, e, q1⟩ := q1
  subst e
  have pe : PE X l (fun σ' H' Q => False) := ⟨fun _ _ _ _ _ _ z => z.elim⟩
  rcases q1 with ⟨⟨xs, hq⟩, q⟩ | ⟨⟨xs, hq⟩, q⟩
  · cases r1
    obtain ⟨its, rv, p, hz⟩ := I1.list hq
    refine wpAny_pyIter_list p.isList ?_
    refine ⟨s1.heap.objs.size, [s1.heap.objs.size], _, _, H1, rfl, I1.kept (t' := s1.toks) fun b o e => Heap.get?_push_of_some _ e, turn_list a _, ⟨_, Heap.get?_push_size _ rfl, rfl, rfl⟩, fun b hb => ?_, q⟩
    have e : b = s1.heap.objs.size := by simpa using hb
    subst e
    exact I1.fpOk (Nat.le_refl _) (I1.hok.fresh (Nat.le_refl _))
  · cases r1
    obtain ⟨its, rv, p, hz⟩ := I1.tuple hq
    refine wpAny_pyIter_tuple (show s1.heap.IsTuple a its.toArray from p) ?_
    refine ⟨s1.heap.objs.size, [s1.heap.objs.size], _, _, H1, rfl, I1.kept (t' := s1.toks) fun b o e => Heap.get?_push_of_some _ e, turn_tuple a _, ⟨_, Heap.get?_push_size _ rfl, rfl, rfl⟩, fun b hb => ?_, q⟩
    have e : b = s1.heap.objs.size := by simpa using hb
    subst e
    exact I1.fpOk (Nat.le_refl _) (I1.hok.fresh (Nat.le_refl _))
theorem sim_iter {tg l : Expr} {ml : EM} (hl : SimV X S l ml) : SimI X S tg l (iterM ml) := by
  refine ⟨fun {ρ ds ρ'} hm {F σ Hs H} rl {R} q => ?_⟩
  obtain ⟨d, ρ1, e1, e2⟩ := Res.bind_ok hm
  obtain ⟨e3, rfl⟩ := pureO_ok e2
  refine ⟨_, pi_seq (peW l), hl.run e1 rl fun v Hs' H' n r => ?_⟩
  unfold itemsD at e3
  split at e3
  · cases e3
    obtain ⟨_, a, vs, rfl, t, rs⟩ := r
    exact ⟨a, rfl, .inl ⟨⟨vs, .of (n.rel.sub _ _ t)⟩, q _ Hs' H' n (feeds_list' (G := gx X) (.of t) rs)⟩⟩
  · cases e3
    obtain ⟨a, vs, rfl, t, rs⟩ := r
    exact ⟨a, rfl, .inr ⟨⟨vs, Same.seqT n.rel.sub t⟩, q _ Hs' H' n (feeds_tup (G := gx X) t rs)⟩⟩
  · cases e3
    obtain ⟨a, rfl, t⟩ := r
    exact ⟨a, rfl, .inl ⟨⟨_, n.rel.sub.seq t⟩, q _ Hs' H' n (feeds_list' (G := gx X) t (RepL.ints _))⟩⟩
  · cases e3
/-- range(n), range(a, b) -/
def rangeL (lo : Int) (n : Nat) : List D := (List.range n).map fun (k : Nat) => .int (lo + (k : Int))
def range1 (m : AM) : AM := fun ρ => (m ρ).bind fun ds ρ1 => match ds with
  | [.int j] => if -1000000000000 ≤ j ∧ j ≤ 1000000000000 then .ok (rangeL 0 j.toNat) ρ1 else .fail
  | _ => .fail
def range2 (m : AM) : AM := fun ρ => (m ρ).bind fun ds ρ1 => match ds with
  | [.int i, .int j] => if -1000000000000 ≤ i ∧ i ≤ 1000000000000 ∧ -1000000000000 ≤ j ∧ j ≤ 1000000000000 then .ok (rangeL i (j - i).toNat) ρ1 else .fail
  | _ => .fail
theorem feeds_range {G : Gx} {lo : Int} {n : Nat} {Hs0 : Hp} : Feeds G (Itr lo n) (rangeL lo n) Hs0 := by
  unfold rangeL
  refine ⟨fun i d Hs H e s1 s2 => ?_, fun Hs H s1 s2 => by simp [Itr]⟩
  rw [List.getElem?_map] at e
  obtain ⟨k, ek, e⟩ := Option.map_eq_some_iff.mp e
  obtain ⟨hk, ek⟩ := List.getElem?_eq_some_iff.mp ek
  rw [List.length_range] at hk
  rw [List.getElem_range] at ek
  subst ek
  cases e
  refine ⟨hk, fun x H' y => ?_⟩
  obtain ⟨rfl, rfl⟩ := y
  exact ⟨Hs, .refl s2, rfl⟩
theorem sim_range1 {tg : Expr} {p : Pos} {ma : AM} (hm : X.mg "range" = none) (ha : SimA X S [e] ma) (hg : Gl X "range" := by rfl) (hs : starEach [e] X.env = [(false, eval e X.env)] := by rfl) : SimI X S tg (.Call (.Name "range" p) [e] [] pos) (range1 ma) := by
  refine ⟨fun {ρ ds ρ'} h {F σ Hs H} rl {R} q => ?_⟩
  obtain ⟨ds, ρ1, e1, e2⟩ := Res.bind_ok h
  split at e2
  · split at e2
    · cases e2
      refine ⟨_, pi_range1 hg hm (paW [e]) hs, ha.run e1 rl fun vs Hs' H' n r => ?_⟩
      obtain ⟨v, w, rfl, rfl, rfl⟩ := r
      exact ⟨_, rfl, by omega, by omega, q _ Hs' H' n feeds_range⟩
    · cases e2
  · cases e2
theorem sim_range2 {tg e' : Expr} {p : Pos} {ma : AM} (hm : X.mg "range" = none) (ha : SimA X S [e, e'] ma) (hg : Gl X "range" := by rfl) (hs : starEach [e, e'] X.env = [(false, eval e X.env), (false, eval e' X.env)] := by rfl) (hs2 : starEach [e'] X.env = [(false, eval e' X.env)] := by rfl) :
    SimI X S tg (.Call (.Name "range" p) [e, e'] [] pos) (range2 ma) := by
  refine ⟨fun {ρ ds ρ'} h {F σ Hs H} rl {R} q => ?_⟩
  obtain ⟨ds, ρ1, e1, e2⟩ := Res.bind_ok h
  split at e2
  · split at e2
    · cases e2
      refine ⟨_, pi_range2 hg hm (paW [e, e']) hs hs2, ha.run e1 rl fun vs Hs' H' n r => ?_⟩
      obtain ⟨v, w, rfl, rfl, v', w', rfl, rfl, rfl⟩ := r
      exact ⟨_, _, rfl, ⟨by omega, by omega, by omega, by omega⟩, q _ Hs' H' n feeds_range⟩
    · cases e2
  · cases e2
end
end Sim

/-! Sim, part 6: a def's promise, calls, own things changed through calls. -/
namespace Sim
open PySem PySem.Spec PyProof.Rows L2

/-- what a def does: its arguments; its result and what became of the parameters that are handed on -/
abbrev Fn := List D → Option (D × List D)
def pad (n : Nat) (ds : List D) : Rho := ds.map some ++ List.replicate n none
def padV (n : Nat) (vs : List V) : L2.St := vs.map some ++ List.replicate n none
def lasts (io : List Nat) (ρ : Rho) : Option (List D) := match io with
  | [] => some []
  | i :: io => match ρ[i]?, lasts io ρ with
    | some (some d), some ds => some (d :: ds)
    | _, _ => none
/-- a def by its body: n more slots than parameters -/
def defF (n : Nat) (io : List Nat) (body : SM) : Fn := fun ds => match body (pad n ds) with
  | .ok .nxt ρ => (lasts io ρ).map fun fs => (.non, fs)
  | .ok (.ret d) ρ => (lasts io ρ).map fun fs => (d, fs)
  | _ => none
def spF (G : Gx) (S : Sc) (np n : Nat) (f : Fn) : Sp := fun vs H Q _ => vs.length = np ∧ ∃ (ds : List D) (d : D) (fs : List D) (Hs : Hp), f ds = some (d, fs) ∧
  Rel G S ⟨H, padV n vs⟩ Hs H (pad n ds) (padV n vs) ∧
  ∀ v σ' Hs' H' ρ', Nxt G S ⟨H, padV n vs⟩ (pad n ds) (padV n vs) Hs H ρ' σ' Hs' H' → RetV G ⟨H, padV n vs⟩ Hs' H' ρ' σ' d v → lasts S.io ρ' = some fs → Q v H'
theorem start_pad {N : List Str} {vs : List V} {n : Nat} (h : N.length = vs.length + n) : L2.start N vs = padV n vs := by
  unfold L2.start padV
  rw [h, Nat.add_sub_cancel_left]
theorem def_ok {P : Program} {w : World} {K : PySem.W.Frag} {mg : Str → Option Value} {base : Heap} {x qual : Str} {st : Stmt} {f : Addr} {fd : FuncData} {N ps : List Str} {k np n : Nat} {S : Sc} {body : SM} (F : Fun K x qual st f fd) (SC : FnScope N ps (defScope st)) (hp : ps.length = np) (hn : N.length = np + n)
    (hbody : ∀ (cdv : Value) (A : Around) (outer : List Env) (s : Shared) (H : Hp) (E : XK), Room k (A.deeper (envOfC qual (defScope st) s.heap.objs.size f cdv)) → PassesOwn (model P w) (A.deeper (envOfC qual (defScope st) s.heap.objs.size f cdv)) (envOfC qual (defScope st) s.heap.objs.size f cdv) (fun _ _ => False) →
      SimB (cxOf CX0 P w K mg base N qual (defScope st) f cdv A outer s H E).nox S (defBody st) body) :
    FnOk P w K mg base CX0 (k + 1) f fd ps (spF ⟨P, w, K⟩ S np n (defF n S.io body)) := by
  refine F.ok SC (fun vs H Q E h => by rw [h.1, hp]) (fun cdv A outer s H vs Q E hr h => ?_)
  obtain ⟨hl, ds, d, fs, Hs, e, rl, q⟩ := h
  rw [start_pad (by rw [hn, hl])]
  unfold defF at e
  have B := hbody cdv A outer s H E hr PassesOwn.never
  split at e
  · rename_i ρ hb
    obtain ⟨fs', e1, e2⟩ := Option.map_eq_some_iff.mp e
    cases e2
    exact ⟨_, pbW _, B.run hb rl fun σ' Hs' H' n => q _ _ _ _ _ n ⟨rfl, fun o => by cases o⟩ e1⟩
  · rename_i d' ρ hb
    obtain ⟨fs', e1, e2⟩ := Option.map_eq_some_iff.mp e
    cases e2
    exact ⟨_, pbW _, B.run hb rl fun v σ' Hs' H' n rv => q _ _ _ _ _ n rv e1⟩
  · cases e

/-! ### arguments all shared -/
theorem pad_get {n : Nat} {ds : List D} {i : Nat} {d : D} (h : (pad n ds)[i]? = some (some d)) : ds[i]? = some d := by
  unfold pad at h
  by_cases hi : i < ds.length
  · rw [List.getElem?_append_left (by simpa using hi), List.getElem?_map] at h
    rw [List.getElem?_eq_getElem hi] at h ⊢
    simpa using h
  · rw [List.getElem?_append_right (by simpa using hi), List.getElem?_replicate] at h
    split at h <;> cases h
theorem padV_get {n : Nat} {vs : List V} {i : Nat} {v : V} (h : vs[i]? = some v) : (padV n vs)[i]? = some (some v) := by
  unfold padV
  have hi : i < vs.length := (List.getElem?_eq_some_iff.mp h).1
  rw [List.getElem?_append_left (by simpa using hi), List.getElem?_map, h]
  rfl
theorem pad_len {n : Nat} {ds : List D} {vs : List V} (h : ds.length = vs.length) : (pad n ds).length = (padV n vs).length := by
  unfold pad padV
  simp [h]
theorem rel_sh {G : Gx} {S : Sc} {Hs H : Hp} {n : Nat} {ds : List D} {vs : List V} (s : Same Hs H) (r : RepL G Hs ds vs) : Rel G S ⟨H, padV n vs⟩ Hs H (pad n ds) (padV n vs) := by
  have own : ∀ {i : Nat} {d : D}, (pad n ds)[i]? = some (some d) → d.owned = false := fun h => by
    obtain ⟨v, _, rv⟩ := r.get (pad_get h)
    exact rv.owned
  refine ⟨s, pad_len r.length, fun i d h => ?_, fun i j d e a _ h1 _ o1 => ?_, fun i d a _ h1 o1 => ?_, fun i d _ h => own h, fun _ _ => rfl, fun _ h => h⟩
  · obtain ⟨v, ev, rv⟩ := r.get (pad_get h)
    exact ⟨v, padV_get ev, .of rv⟩
  · rw [own h1] at o1; cases o1
  · rw [own h1] at o1; cases o1
theorem noOwn_sh {G : Gx} {Hs : Hp} {n : Nat} {ds : List D} {vs : List V} {b : Addr} {σ : L2.St} (r : RepL G Hs ds vs) : ¬ Own (pad n ds) σ b := fun ⟨i, d, h, o, _⟩ => by
  obtain ⟨v, _, rv⟩ := r.get (pad_get h)
  rw [rv.owned] at o; cases o
def callF (f : Fn) (m : AM) : EM := fun ρ => (m ρ).bind fun ds ρ1 => match f ds with
  | some (d, _) => .ok d ρ1
  | none => .fail
section
variable {X : Cx} {S : Sc} {e : Expr} {es : List Expr} {mes : AM} {pos p : Pos} {x : Str}
theorem sim_call {k np n : Nat} {S' : Sc} {g : Addr} {gd : FuncData} {ps : List Str} {f : Fn} (G : FnOk X.prog X.w X.K X.mg X.base CX0 k g gd ps (spF (gx X) S' np n f)) (hr : Room k X.A) (hm : X.mg x = some (.ref g)) (hk : PySem.W.keepIn X.K (.ref g) = true) (hb : Binds X.K gd ps [])
    (hl : (e :: es).length = np) (hio : S'.io = []) (ha : SimA X S (e :: es) mes) (hg : Gl X x := by rfl) (hdb : (x == ("__debug__" : Str)) = false := by decide) (he : starEach (e :: es) X.env = (false, eval e X.env) :: starEach es X.env := by rfl) (hpl : (backTo pos (starEach es X.env)).any (·.1) = false := by rfl)
    (hla : ∀ {ρ ρ' : Rho} {ds : List D}, mes ρ = .ok ds ρ' → ds.length = (e :: es).length) : SimE X S (.Call (.Name x p) (e :: es) [] pos) (callF f mes) := by
  refine ⟨fun {ρ d ρ'} hm' {F σ Hs H} rl {Q} q => ?_⟩
  obtain ⟨ds, ρ1, e1, e2⟩ := Res.bind_ok hm'
  split at e2
  · rename_i d' fs hf
    cases e2
    refine ⟨_, pe_call G hr hg hm hk hb .nil pass0 (paW (e :: es)) hdb he hpl, ha.run e1 rl fun vs Hs1 H1 n1 r1 => ?_⟩
    show spF (gx X) S' np n f (vs ++ []) H1 Q E0
    rw [List.append_nil]
    refine ⟨by rw [← r1.length, hla e1, hl], ds, d, fs, Hs1, hf, rel_sh n1.rel.sub r1, fun v σ' Hs2 H2 ρ2 n2 rv _ => ?_⟩
    have g : Nxt (gx X) S F ρ' σ Hs1 H1 ρ' σ Hs2 H2 := by
      refine n1.rel.grow n2.same (fun b o h => n2.keep b o h (noOwn_sh r1)) n2.rel.sub fun b h => ?_
      rcases n2.grow b h with z | z | z
      · exact .inl z
      · exact absurd z (noOwn_sh r1)
      · exact .inr z
    refine q v Hs2 H2 (n1.trans g) rv.1 fun o a ea => ?_
    have h0 := (rv.2 o a ea).1
    exact ⟨n1.unn h0, n1.rel.notOwn h0⟩
  · cases e2
theorem lenA_nil : ∀ {ρ ρ' : Rho} {ds : List D}, nilA ρ = .ok ds ρ' → ds.length = 0 := fun h => by cases h; rfl
theorem lenA_cons {m : EM} {n : AM} {l : Nat} (h : ∀ {ρ ρ' : Rho} {ds : List D}, n ρ = .ok ds ρ' → ds.length = l) : ∀ {ρ ρ' : Rho} {ds : List D}, consA m n ρ = .ok ds ρ' → ds.length = l + 1 := fun e => by
  obtain ⟨d, ρ1, e1, e⟩ := Res.bind_ok e
  obtain ⟨ds, ρ2, e2, e⟩ := Res.bind_ok e
  cases e
  rw [List.length_cons, h e2]

/-! ### lists changed in place -/
def appM (i : Nat) (m : EM) : SM := fun ρ => match ρ[i]? with
  | some (some (.lst _ _)) => (m ρ).bind fun d ρ1 => match ρ1[i]? with
    | some (some (.lst .own ds)) => if ds.length < cap then .ok .nxt (ρ1.set i (some (.lst .own (ds ++ [d])))) else .fail
    | _ => .fail
  | _ => .fail
theorem sim_app (i : Nat) {me : EM} {px apos : Pos} (he : SimV X S e me) (hN : X.N[i]? = some x := by rfl) (hv : Vis X.env.scope x := by first | exact Or.inl rfl | exact Or.inr (Or.inl rfl) | exact Or.inr (Or.inr rfl))
    (hd : (x == ("__debug__" : Str)) = false := by decide) (hcd : (x == ("__classdict__" : Str)) = false := by decide)
    (hbase : attributeBase (.Name x px) "append" X.env (eval (.Name x px) X.env) = eval (.Name x px) X.env := by rfl)
    (hfew : ((backTo p (starEach [e] X.env)).all (fun x => !x.1) && (backToKw p (keywordEach [] X.env)).all (fun x => x.1.isSome)
      && decide ([e].length + ([] : List Keyword).length + (if ([] : List Keyword).isEmpty then 0 else 1) < 30)) = true := by rfl)
    (hline : (apos.endLine == p.line) = true := by rfl) (hs : starEach [e] X.env = (false, eval e X.env) :: starEach [] X.env := by rfl)
    (hsw : swapsWith (.Call (.Attribute (.Name x px) "append" apos) [e] [] p) none pos.line X.env = pure false := by rfl) : SimS X S (.Expr (.Call (.Attribute (.Name x px) "append" apos) [e] [] p) pos) (appM i me) := by
  refine ⟨fun {ρ f ρ'} hm {F σ Hs H} rl {E} q => ?_⟩
  unfold appM at hm
  split at hm
  · rename_i m0 ds0 h0
    obtain ⟨d, ρ1, e1, hm⟩ := Res.bind_ok hm
    split at hm
    · rename_i ds h1
      split at hm
      · rename_i hz
        cases hm
        obtain ⟨v, ev, sv⟩ := rl.slot i _ h0
        obtain ⟨a0, vs0, rfl, ha0, _⟩ := sv.lst rl.sub
        refine ⟨_, ps_expr (pe_bm PySem.F.plainAttrs_list PySem.F.slot_list_append PySem.F.type_list_append mt_append (pe_var hN hv hd hcd) (pa_cons (peW e) pa_nil hs) hbase hfew hline hs rfl) hsw, _, ev, .inl ⟨rfl, vs0, .of ha0⟩, he.run e1 rl fun w Hs1 H1 n1 r1 => ?_⟩
        obtain ⟨v', ev', sv'⟩ := n1.rel.slot i _ h1
        rw [ev] at ev'; cases ev'
        obtain ⟨a, vs, e, hn, ha, rs⟩ := sv'.own rfl
        cases e
        refine ⟨_, vs, w, rfl, rfl, ha, by rw [sizeCap, ← rs.length]; exact hz, ?_⟩
        refine q σ Hs1 _ (n1.trans (n1.rel.write h1 rfl ev _ rfl ⟨_, _, rfl, hn, upd_same, rs.append (.cons r1 .nil)⟩))
      · cases hm
    · cases hm
  · cases hm
/-- x[i] = e -/
def setIxD (ds : List D) (k : D) (d : D) : Option (List D) := match k with
  | .int k => (ixN ds.length k).map fun j => ds.set j d
  | _ => none
def putM (i : Nat) (mk me : EM) : SM := fun ρ => (me ρ).bind fun d ρ1 => match ρ1[i]? with
  | some (some _) => (mk ρ1).bind fun k ρ2 => match ρ2[i]? with
    | some (some (.lst .own ds)) => match setIxD ds k d with
      | some ds' => .ok .nxt (ρ2.set i (some (.lst .own ds')))
      | none => .fail
    | _ => .fail
  | _ => .fail
theorem sim_put (i : Nat) {ix : Expr} {mk me : EM} {px : Pos} (hk : SimV X S ix mk) (he : SimV X S e me) (hN : X.N[i]? = some x := by rfl) (hv : Vis X.env.scope x := by first | exact Or.inl rfl | exact Or.inr (Or.inl rfl) | exact Or.inr (Or.inr rfl))
    (hd : (x == ("__debug__" : Str)) = false := by decide) (hcd : (x == ("__classdict__" : Str)) = false := by decide)
    (hs : swapsWithSole [.Subscript (.Name x px) ix p] e pos.line X.env = pure false := by rfl) (hw : swappedStores [.Subscript (.Name x px) ix p] e X.env = pure none := by rfl)
    (h1 : (assignEach [.Subscript (.Name x px) ix p] X.env).map (·.2) = [assign (.Subscript (.Name x px) ix p) X.env] := by rfl)
    (ha : ∀ v, assign (.Subscript (.Name x px) ix p) X.env v = (do
      let ov ← holding [v] (eval (.Name x px) X.env)
      let iv ← holding [v, ov] (eval ix X.env)
      standAt p
      holding [v, ov, iv] (setItem ov iv v)
      release [v, ov, iv] []) := by intro _; rfl) : SimS X S (.Assign [.Subscript (.Name x px) ix p] e pos) (putM i mk me) := by
  refine ⟨fun {ρ f ρ'} hm {F σ Hs H} rl {E} q => ?_⟩
  obtain ⟨d, ρ1, e1, hm⟩ := Res.bind_ok hm
  split at hm
  · rename_i d1 h1'
    obtain ⟨k, ρ2, e2, hm⟩ := Res.bind_ok hm
    split at hm
    · rename_i ds h2
      split at hm
      · rename_i ds' h3
        cases hm
        unfold setIxD at h3
        split at h3
        · obtain ⟨j, ej, rfl⟩ := Option.map_eq_some_iff.mp h3
          refine ⟨_, ps_asg (peW e) (pg_sub (peW _) (peW ix) set_list ha) hs hw h1, he.run e1 rl fun w Hs1 H1 n1 r1 => ?_⟩
          obtain ⟨v, ev, _⟩ := n1.rel.slot i _ h1'
          refine ⟨_, pe_var hN hv hd hcd, v, ev, hk.run e2 n1.rel fun z Hs2 H2 n2 r2 => ?_⟩
          obtain ⟨v', ev', sv⟩ := n2.rel.slot i _ h2
          rw [ev] at ev'; cases ev'
          obtain ⟨a, vs, e, hn, ha', rs⟩ := sv.own rfl
          cases e
          refine ⟨a, vs, _, j, rfl, r2, ha', by rw [← rs.length]; exact ej, ?_⟩
          exact q σ Hs2 _ ((n1.trans n2).trans (n2.rel.write h2 rfl ev _ rfl ⟨_, _, rfl, hn, upd_same, rs.set (Rep.mono n2.same _ _ r1) j⟩))
        · cases h3
      · cases hm
    · cases hm
  · cases hm
end
end Sim

/-! Sim, part 7: list comprehensions. -/
namespace Sim
open PySem PySem.Spec PyProof.Rows L2

def wipeR (ρ : Rho) : List Nat → Rho
  | [] => ρ
  | v :: vs => (wipeR ρ vs).set v none
theorem wipeR_some {ρ : Rho} {i : Nat} {d : D} : ∀ {vs : List Nat}, (wipeR ρ vs)[i]? = some (some d) → ρ[i]? = some (some d) ∧ i ∉ vs
  | [], h => ⟨h, by simp⟩
  | v :: vs, h => by
    obtain ⟨hi, h⟩ := set_none_some h
    obtain ⟨h1, h2⟩ := wipeR_some h
    exact ⟨h1, by simp [hi, h2]⟩
theorem wipeR_length (ρ : Rho) : ∀ vs : List Nat, (wipeR ρ vs).length = ρ.length
  | [] => rfl
  | v :: vs => by unfold wipeR; rw [List.length_set, wipeR_length ρ vs]
theorem wipe_ne {σ : L2.St} {i : Nat} : ∀ {vs : List Nat}, i ∉ vs → (wipe σ vs)[i]? = σ[i]?
  | [], _ => rfl
  | v :: vs, h => by
    simp at h
    unfold wipe
    rw [List.getElem?_set_ne (Ne.symm h.1), wipe_ne h.2]
theorem wipe_in {σ : L2.St} {i : Nat} : ∀ {vs : List Nat}, i ∈ vs → i < σ.length → (wipe σ vs)[i]? = some none
  | v :: vs, h, hl => by
    unfold wipe
    by_cases e : v = i
    · subst e
      rw [List.getElem?_set_self (by rw [wipe_length]; exact hl)]
    · rw [List.getElem?_set_ne e]
      exact wipe_in (by simpa [Ne.symm e] using h) hl
theorem wipe_ext {σ σ' : L2.St} {vs : List Nat} (hl : σ'.length = σ.length) (h : ∀ i, i < σ.length → i ∈ vs ∨ σ'[i]? = (wipe σ vs)[i]?) : wipe σ' vs = wipe σ vs := by
  apply List.ext_getElem?
  intro i
  by_cases hi : i < σ.length
  · by_cases hv : i ∈ vs
    · rw [wipe_in hv hi, wipe_in hv (by omega)]
    · rw [wipe_ne hv]
      rcases h i hi with z | z
      · exact absurd z hv
      · exact z
  · rw [List.getElem?_eq_none (by rw [wipe_length]; omega), List.getElem?_eq_none (by rw [wipe_length]; omega)]
section
variable {G : Gx} {S S' : Sc} {F : Fm} {Hs H Hs' H' : Hp} {ρ ρ' : Rho} {σ : L2.St} {vs : List Nat}
theorem Rel.sc (r : Rel G S F Hs H ρ σ) (h1 : S'.os = S.os) (h2 : S'.io = S.io) : Rel G S' F Hs H ρ σ :=
  ⟨r.sub, r.len, r.slot, r.apart, fun i d a hi => r.fresh i d a (by rw [← h2]; exact hi), fun i d hi => r.vals i d (by rw [← h1]; exact hi), fun i hi => r.par i (by rw [← h2]; exact hi), r.dom0⟩
theorem own_wipe {b : Addr} (h : Own (wipeR ρ vs) (wipe σ vs) b) : Own ρ σ b := by
  obtain ⟨i, d, h1, o, s⟩ := h
  obtain ⟨h1, hv⟩ := wipeR_some h1
  rw [wipe_ne hv] at s
  exact ⟨i, d, h1, o, s⟩
theorem Rel.wipe (r : Rel G S F Hs H ρ σ) (hio : ∀ i ∈ vs, i ∉ S.io) : Rel G S F Hs H (wipeR ρ vs) (L2.wipe σ vs) := by
  refine ⟨r.sub, by rw [wipeR_length, wipe_length, r.len], fun i d h => ?_, fun i j d e a hij h1 h2 o1 o2 s1 s2 => ?_, fun i d a hi h1 o1 s1 => ?_, fun i d hi h => r.vals i d hi (wipeR_some h).1, fun i hi => ?_, r.dom0⟩
  · obtain ⟨h1, hv⟩ := wipeR_some h
    obtain ⟨v, ev, sv⟩ := r.slot i d h1
    exact ⟨v, by rw [wipe_ne hv]; exact ev, sv⟩
  · obtain ⟨h1, v1⟩ := wipeR_some h1
    obtain ⟨h2, v2⟩ := wipeR_some h2
    rw [wipe_ne v1] at s1
    rw [wipe_ne v2] at s2
    exact r.apart i j d e a hij h1 h2 o1 o2 s1 s2
  · obtain ⟨h1, v1⟩ := wipeR_some h1
    rw [wipe_ne v1] at s1
    exact r.fresh i d a hi h1 o1 s1
  · rw [wipe_ne (fun z => hio i z hi)]
    exact r.par i hi
/-- back to the slots as they are outside -/
theorem Rel.unwipe (r : Rel G S F Hs H ρ (L2.wipe σ vs)) (hio : ∀ i ∈ vs, i ∉ S.io) : Rel G S F Hs H (wipeR ρ vs) σ := by
  refine ⟨r.sub, by rw [wipeR_length, r.len, wipe_length], fun i d h => ?_, fun i j d e a hij h1 h2 o1 o2 s1 s2 => ?_, fun i d a hi h1 o1 s1 => ?_, fun i d hi h => r.vals i d hi (wipeR_some h).1, fun i hi => ?_, r.dom0⟩
  · obtain ⟨h1, hv⟩ := wipeR_some h
    obtain ⟨v, ev, sv⟩ := r.slot i d h1
    exact ⟨v, by rw [← wipe_ne hv]; exact ev, sv⟩
  · obtain ⟨h1, v1⟩ := wipeR_some h1
    obtain ⟨h2, v2⟩ := wipeR_some h2
    exact r.apart i j d e a hij h1 h2 o1 o2 (by rw [wipe_ne v1]; exact s1) (by rw [wipe_ne v2]; exact s2)
  · obtain ⟨h1, v1⟩ := wipeR_some h1
    exact r.fresh i d a hi h1 o1 (by rw [wipe_ne v1]; exact s1)
  · rw [← r.par i hi, wipe_ne (fun z => hio i z hi)]
theorem own_unwipe {b : Addr} (h : Own (wipeR ρ vs) σ b) : Own ρ (L2.wipe σ vs) b := by
  obtain ⟨i, d, h1, o, s⟩ := h
  obtain ⟨h1, hv⟩ := wipeR_some h1
  exact ⟨i, d, h1, o, by rw [wipe_ne hv]; exact s⟩
end

/-- a comprehension's tests -/
def WTs (X : Cx) (es : List Expr) : TT := fun σ H Q => ∃ t, PTs X es t ∧ t σ H Q
structure SimTs (X : Cx) (S : Sc) (es : List Expr) (m : TM) : Prop where
  run : ∀ {ρ : Rho} {b : Bool} {ρ' : Rho}, m ρ = .ok b ρ' → ∀ {F : Fm} {σ : L2.St} {Hs H : Hp}, Rel (gx X) S F Hs H ρ σ → ∀ {Q : Bool → Hp → Prop},
    (∀ Hs' H', Nxt (gx X) S F ρ σ Hs H ρ' σ Hs' H' → Q b H') → WTs X es σ H Q
def yesM : TM := fun ρ => .ok true ρ
theorem sim_ts0 {X : Cx} {S : Sc} : SimTs X S [] yesM := by
  refine ⟨fun {ρ b ρ'} hm {F σ Hs H} rl {Q} q => ?_⟩
  cases hm
  exact ⟨_, pts_nil, q Hs H (.refl rl)⟩
theorem sim_ts1 {X : Cx} {S : Sc} {c : Expr} {m : TM} (h : SimT X S c m) : SimTs X S [c] m := by
  refine ⟨fun {ρ b ρ'} hm {F σ Hs H} rl {Q} q => ?_⟩
  exact ⟨_, pts_one (ptW c), h.run hm rl q⟩

/-- the contexts of a comprehension's block -/
abbrev Blk (X : Cx) (scope : Scope) (p : Cx → Prop) : Prop := ∀ (s : Shared) (H : Hp) (C : Addr) (cl : List (Str × Addr)) (fp : List Addr), p (X.blk s H scope (compEnvC scope cl C X.env) fp)
def compGo (vs : List Nat) (g : GM) (c : TM) (e : EM) : List D → List D → Rho → Res (List D)
  | [], acc, ρ => .ok acc ρ
  | d :: ds, acc, ρ => (g d ρ).bind fun _ ρ1 => (c ρ1).bind fun b ρ2 => match b with
    | true => (e ρ2).bind fun y ρ3 => compGo vs g c e ds (acc ++ [y]) (wipeR ρ3 vs)
    | false => compGo vs g c e ds acc (wipeR ρ2 vs)
def compM (n : Nat) (vs : List Nat) (it : AM) (g : GM) (c : TM) (e : EM) : EM := fun ρ => (it ρ).bind fun ds ρ1 =>
  if ρ1.length = n ∧ ds.length ≤ cap then (compGo vs g c e ds [] (wipeR ρ1 vs)).bind fun acc ρ2 => .ok (.lst .own acc) (wipeR ρ2 vs) else .fail
section
variable {X : Cx} {S S' : Sc} {tg iter elt : Expr} {ifs : List Expr} {scope : Scope} {own : List (Str × Nat)} {mi : AM} {g : GM} {mc : TM} {me : EM} {n : Nat}
theorem lc_read (hi : SimI X S tg iter mi) (hg : Blk X scope fun Y => SimG Y S' tg g) (ht : Blk X scope fun Y => SimTs Y S' ifs mc) (he : Blk X scope fun Y => SimV Y S' elt me)
    (h1 : S'.os = S.os) (h2 : S'.io = S.io) (hio : ∀ i ∈ own.map (·.2), i ∉ S.io) (hfx : ∀ i, i < n → i ∈ own.map (·.2) ∨ i ∈ S'.fx)
    {ρ : Rho} {d : D} {ρ' : Rho} (hm : compM n (own.map (·.2)) mi g mc me ρ = .ok d ρ') {F : Fm} {σ : L2.St} {Hs H : Hp} (rl : Rel (gx X) S F Hs H ρ σ) {Q : VK}
    (q : ∀ v Hs' H', Nxt (gx X) S F ρ σ Hs H ρ' σ Hs' H' → SlotV (gx X) Hs' H' d v → (d.owned = true → ∀ a, v = .ref a → H a = none ∧ ¬ Own ρ' σ a) → Q v H') :
    tLc (WI X tg iter) (fun x σ H Q => Blk X scope fun Y => WG Y tg x σ H Q) (fun σ H Q => Blk X scope fun Y => WTs Y ifs σ H Q) (fun σ H Q => Blk X scope fun Y => WE Y elt σ H Q) (own.map (·.2)) σ H Q := by
  obtain ⟨ds, ρ1, e1, hm⟩ := Res.bind_ok hm
  split at hm
  · rename_i hn
    obtain ⟨acc, ρ2, e2, hm⟩ := Res.bind_ok hm
    cases hm
    generalize hvs : own.map (·.2) = vs at *
    refine hi.run e1 rl fun J Hs1 H1 n1 fd => fun A hA => ?_
    have hsA : Hs1 A = none := n1.rel.sub.free hA
    have nA := n1.rel.newOwn hA (.lst [])
    have nw : Nxt (gx X) S' F (wipeR ρ1 vs) (wipe σ vs) Hs1 H1 (wipeR ρ1 vs) (wipe σ vs) Hs1 (upd H1 A (.lst [])) := ((n1.rel.wipe hio).sc h1 h2).newOwn hA _
    have hlen : σ.length = n := by rw [← n1.rel.len]; exact hn.1
    refine ⟨fun i k Ht => ∃ ρt Hst ac av, i + k = ds.length ∧ compGo vs g mc me (ds.drop i) ac ρt = .ok acc ρ2 ∧ Same Hs1 Hst ∧ Nxt (gx X) S' F (wipeR ρ1 vs) (wipe σ vs) Hs1 H1 ρt (wipe σ vs) Hst Ht ∧
        Ht A = some (.lst av) ∧ Hst A = none ∧ ¬ Own ρt (wipe σ vs) A ∧ RepL (gx X) Hst ac av ∧ ac.length ≤ i, ⟨ds.length, wipeR ρ1 vs, Hs1, [], [], by simp, e2, .refl _, nw, upd_same, hsA, fun z => n1.rel.notOwn hA (own_wipe z), rfl, by simp⟩, ?_⟩
    rintro i k Ht ⟨ρt, Hst, ac, av, ek, e, sm, nt, htA, hstA, nOA, rac, hac⟩
    by_cases hi' : i < ds.length
    · rw [List.drop_eq_getElem_cons hi'] at e
      obtain ⟨_, ρ3, e3, e⟩ := Res.bind_ok e
      obtain ⟨b, ρ4, e4, e⟩ := Res.bind_ok e
      obtain ⟨go, yl⟩ := fd.1 i _ Hst Ht (List.getElem?_eq_getElem hi') sm nt.rel.sub
      refine .inr ⟨go, fun H' => ∃ ρt Hst ac av, i + 1 + (k - 1) = ds.length ∧ compGo vs g mc me (ds.drop (i + 1)) ac ρt = .ok acc ρ2 ∧ Same Hs1 Hst ∧ Nxt (gx X) S' F (wipeR ρ1 vs) (wipe σ vs) Hs1 H1 ρt (wipe σ vs) Hst H' ∧
        H' A = some (.lst av) ∧ Hst A = none ∧ ¬ Own ρt (wipe σ vs) A ∧ RepL (gx X) Hst ac av ∧ ac.length ≤ i + 1, fun H' h => ⟨k - 1, by omega, h⟩, fun x H3 y s0 H0 C cl fp => ?_⟩
      obtain ⟨Hs3, x3, r3⟩ := yl x H3 y
      have n3' := x3.nxt nt.rel
      have n3 := nt.trans n3'
      obtain ⟨a3, b3, c3⟩ := n3'.tmp htA hstA nOA
      refine (hg s0 H0 C cl fp).run e3 n3.rel r3 fun σ4 Hs4 H4 n4 => ?_
      obtain ⟨a4, b4, c4⟩ := n4.tmp a3 b3 c3
      have wl : σ4.length = (wipe σ vs).length := n4.slen
      have we : wipe σ4 vs = wipe σ vs := by
        refine wipe_ext (by rw [wl, wipe_length]) fun j hj => ?_
        rcases hfx j (by omega) with z | z
        · exact .inl z
        · exact .inr (n4.fix j z)
      refine ⟨we, fun s0 H0 C cl fp => (ht s0 H0 C cl fp).run e4 n4.rel fun Hs5 H5 n5 => ?_⟩
      obtain ⟨a5, b5, c5⟩ := n5.tmp a4 b4 c4
      -- back to the turn's slots
      have back : ∀ {ρ6 : Rho} {Hs6 H6 : Hp}, Nxt (gx X) S' F ρ3 σ4 Hs4 H4 ρ6 σ4 Hs6 H6 → ¬ Own ρ6 σ4 A → Nxt (gx X) S' F (wipeR ρ1 vs) (wipe σ vs) Hs1 H1 (wipeR ρ6 vs) (wipe σ vs) Hs6 H6 ∧ ¬ Own (wipeR ρ6 vs) (wipe σ vs) A := fun {ρ6 Hs6 H6} n6 c6 => by
        have n := (n3.trans n4).trans n6
        refine ⟨⟨by rw [← we]; exact n.rel.wipe (by rw [h2]; exact hio), n.same, n.keep, n.dom, fun b z => n.own b (by rw [← we] at z; exact own_wipe z), n.grow, fun _ _ => rfl, rfl⟩, fun z => c6 (by rw [← we] at z; exact own_wipe z)⟩
      cases b with
      | false =>
        rw [if_neg Bool.false_ne_true]
        obtain ⟨m1, m2⟩ := back n5 c5
        exact ⟨_, Hs5, ac, av, by omega, e, ((sm.trans x3.s).trans n4.same).trans n5.same, m1, a5, b5, m2, RepL.mono ((x3.s.trans n4.same).trans n5.same) _ _ rac, by omega⟩
      | true =>
        rw [if_pos rfl]
        obtain ⟨yd, ρ5, e5, e⟩ := Res.bind_ok e
        refine fun s0 H0 C cl fp => (he s0 H0 C cl fp).run e5 n5.rel fun yv Hs6 H6 n6 r6 => ?_
        obtain ⟨a6, b6, c6⟩ := n6.tmp a5 b5 c5
        obtain ⟨m1, m2⟩ := back (n5.trans n6) c6
        have sm6 : Same Hst Hs6 := ((x3.s.trans n4.same).trans n5.same).trans n6.same
        refine ⟨av, a6, by rw [← rac.length, sizeCap]; omega, _, Hs6, ac ++ [yd], av ++ [yv], by omega, e, sm.trans sm6, m1.tmpWrite hA b6 m2 _, upd_same, b6, m2, (RepL.mono sm6 _ _ rac).append (.cons r6 .nil), by rw [List.length_append, List.length_singleton]; omega⟩
    · have ei : i = ds.length := by omega
      subst ei
      rw [List.drop_length] at e
      cases e
      have nf : Nxt (gx X) S F ρ1 σ Hs1 H1 (wipeR ρ2 vs) σ Hst Ht := by
        refine ⟨(nt.rel.sc h1.symm h2.symm).unwipe hio, nt.same, fun b o h no => nt.keep b o h fun z => no (own_wipe z), nt.dom, fun b z => ?_, fun b h => ?_, fun _ _ => rfl, rfl⟩
        · rcases nt.own b (own_unwipe z) with y | y
          · exact .inl (own_wipe y)
          · exact .inr y
        · rcases nt.grow b h with y | y | y
          · exact .inl y
          · exact .inr (.inl (own_wipe y))
          · exact .inr (.inr y)
      refine .inl ⟨fd.2 Hst Ht sm nt.rel.sub, q _ Hst Ht (n1.trans nf) (.ofOwn ⟨A, av, rfl, hstA, htA, rac⟩ rfl) fun _ a ea => ?_⟩
      cases ea
      exact ⟨n1.unn hA, fun z => nOA (own_unwipe z)⟩
  · cases hm
theorem sim_lc {pos : Pos} (hc : X.calm = true) (hN : X.N.Nodup) (hi : SimI X S tg iter mi) (hg : Blk X scope fun Y => SimG Y S' tg g) (ht : Blk X scope fun Y => SimTs Y S' ifs mc) (he : Blk X scope fun Y => SimV Y S' elt me)
    (hio : ∀ i ∈ own.map (·.2), i ∉ S.io) (hfx : ∀ i, i < n → i ∈ own.map (·.2) ∨ i ∈ S'.fx) (ok : BlkOk X.N X.env.scope scope own) (h1 : S'.os = S.os := by rfl) (h2 : S'.io = S.io := by rfl)
    (hs : ∀ x, foldedSetIterable iter X.env x = pure x := by intro _; rfl) : SimE X S (.ListComp elt [⟨tg, iter, ifs, 0⟩] scope pos) (compM n (own.map (·.2)) mi g mc me) := by
  refine ⟨fun {ρ d ρ'} hm {F σ Hs H} rl {Q} q => ?_⟩
  refine ⟨_, pe_lc hc hN (piW tg iter) ok (fun s H C cl fp => ⟨fun pins s' σ H' v u Q I r h => ?_⟩) (fun s H C cl fp => ⟨fun pins s' σ H' Q I h => ?_⟩) (fun s H C cl fp => ⟨fun pins s' σ H' Q I h => ?_⟩) hs, lc_read hi hg ht he h1 h2 hio hfx hm rl q⟩
  · obtain ⟨t, h3, h4⟩ := h s H C cl fp
    exact h3.run pins s' σ H' v u Q I r h4
  · obtain ⟨t, h3, h4⟩ := h s H C cl fp
    exact h3.run pins s' σ H' Q I h4
  · obtain ⟨t, h3, h4⟩ := h s H C cl fp
    exact h3.run pins s' σ H' Q I h4
/-- y = [..] on one line -/
theorem sim_setLc (i : Nat) {y : Str} {py pos spos : Pos} (hc : X.calm = true) (hN : X.N.Nodup) (hi : SimI X S tg iter mi) (hg : Blk X scope fun Y => SimG Y S' tg g) (ht : Blk X scope fun Y => SimTs Y S' ifs mc) (he : Blk X scope fun Y => SimV Y S' elt me)
    (hio : ∀ i ∈ own.map (·.2), i ∉ S.io) (hfx : ∀ i, i < n → i ∈ own.map (·.2) ∨ i ∈ S'.fx) (ok : BlkOk X.N X.env.scope scope own) (hos : i ∈ S.os) (hyio : i ∉ S.io) (hyfx : i ∉ S.fx) (hy : X.N[i]? = some y) (hyl : X.env.scope.names.lookup y = some .local)
    (hsw : swapsWith (.ListComp elt [⟨tg, iter, ifs, 0⟩] scope pos) (some (.Name y py)) spos.line X.env = pure true) (h1 : S'.os = S.os := by rfl) (h2 : S'.io = S.io := by rfl)
    (hs : ∀ x, foldedSetIterable iter X.env x = pure x := by intro _; rfl) : SimS X S (.Assign [.Name y py] (.ListComp elt [⟨tg, iter, ifs, 0⟩] scope pos) spos) (setM i (compM n (own.map (·.2)) mi g mc me)) := by
  refine ⟨fun {ρ f ρ'} hm {F σ Hs H} rl {E} q => ?_⟩
  obtain ⟨d, ρ1, e1, e2⟩ := Res.bind_ok hm
  cases e2
  refine ⟨_, ps_setLc hc hN hy hyl hsw (piW tg iter) ok (fun s H C cl fp => ⟨fun pins s' σ H' v u Q I r h => ?_⟩) (fun s H C cl fp => ⟨fun pins s' σ H' Q I h => ?_⟩) (fun s H C cl fp => ⟨fun pins s' σ H' Q I h => ?_⟩) hs,
    lc_read hi hg ht he h1 h2 hio hfx e1 rl fun v Hs' H' n sv fr => q _ Hs' H' (n.assign rl hyio hyfx sv fun o => ⟨hos, fr o⟩)⟩
  · obtain ⟨t, h3, h4⟩ := h s H C cl fp
    exact h3.run pins s' σ H' v u Q I r h4
  · obtain ⟨t, h3, h4⟩ := h s H C cl fp
    exact h3.run pins s' σ H' Q I h4
  · obtain ⟨t, h3, h4⟩ := h s H C cl fp
    exact h3.run pins s' σ H' Q I h4
/-- .. shared at once -/
theorem sim_setLcV (i : Nat) {y : Str} {py pos spos : Pos} (hc : X.calm = true) (hN : X.N.Nodup) (hi : SimI X S tg iter mi) (hg : Blk X scope fun Y => SimG Y S' tg g) (ht : Blk X scope fun Y => SimTs Y S' ifs mc) (he : Blk X scope fun Y => SimV Y S' elt me)
    (hio : ∀ i ∈ own.map (·.2), i ∉ S.io) (hfx : ∀ i, i < n → i ∈ own.map (·.2) ∨ i ∈ S'.fx) (ok : BlkOk X.N X.env.scope scope own) (hyio : i ∉ S.io) (hyfx : i ∉ S.fx) (hy : X.N[i]? = some y) (hyl : X.env.scope.names.lookup y = some .local)
    (hsw : swapsWith (.ListComp elt [⟨tg, iter, ifs, 0⟩] scope pos) (some (.Name y py)) spos.line X.env = pure true) (h1 : S'.os = S.os := by rfl) (h2 : S'.io = S.io := by rfl)
    (hs : ∀ x, foldedSetIterable iter X.env x = pure x := by intro _; rfl) : SimS X S (.Assign [.Name y py] (.ListComp elt [⟨tg, iter, ifs, 0⟩] scope pos) spos) (setM i (shM (compM n (own.map (·.2)) mi g mc me))) := by
  refine ⟨fun {ρ f ρ'} hm {F σ Hs H} rl {E} q => ?_⟩
  obtain ⟨d, ρ1, e1, e2⟩ := Res.bind_ok hm
  cases e2
  obtain ⟨d0, ρ2, e0, e3⟩ := Res.bind_ok e1
  cases e3
  refine ⟨_, ps_setLc hc hN hy hyl hsw (piW tg iter) ok (fun s H C cl fp => ⟨fun pins s' σ H' v u Q I r h => ?_⟩) (fun s H C cl fp => ⟨fun pins s' σ H' Q I h => ?_⟩) (fun s H C cl fp => ⟨fun pins s' σ H' Q I h => ?_⟩) hs,
    lc_read hi hg ht he h1 h2 hio hfx e0 rl fun v Hs' H' n sv fr => ?_⟩
  · obtain ⟨t, h3, h4⟩ := h s H C cl fp
    exact h3.run pins s' σ H' v u Q I r h4
  · obtain ⟨t, h3, h4⟩ := h s H C cl fp
    exact h3.run pins s' σ H' Q I h4
  · obtain ⟨t, h3, h4⟩ := h s H C cl fp
    exact h3.run pins s' σ H' Q I h4
  · obtain ⟨Hs2, n2, r2⟩ := n.share sv fr
    exact q _ Hs2 H' (n2.assign rl hyio hyfx (.of r2) fun o => by rw [r2.owned] at o; cases o)
end
end Sim

/-! Sim, part 8: dicts; in; len. -/
namespace Sim
open PySem PySem.Spec PyProof.Rows L2

/-! ### keys -/
mutual
theorem rep_nested {X : Cx} {pins : List (Addr × Obj)} {σ : L2.St} {Hs H : Hp} {s : Shared} (I : Inv X pins σ H s) (sm : Same Hs H) : ∀ (d : D) (v : V) (k : NestedKey) (u : Value), Rep (gx X) Hs d v → keyOf d = some k → RelV v u → NestedIs s.heap k u
  | .non, _, _, _, h, e, r => by cases h; cases e; cases r; exact .none
  | .bl b, _, _, _, h, e, r => by cases h; cases e; cases r; exact .bool rfl
  | .int i, _, _, _, h, e, r => by cases h; cases e; obtain ⟨t, rfl⟩ := r; exact .int i t
  | .str x, _, _, _, h, e, r => by cases h; cases e; obtain ⟨t, rfl⟩ := r; exact .text x t
  | .tup ds, _, k, _, h, e, r => by
    obtain ⟨a, vs, rfl, q, t⟩ := h
    unfold keyOf at e
    split at e
    · rename_i ks hk
      cases e
      cases r
      obtain ⟨its, rv, ⟨o, h1, h2, n, h3⟩, _⟩ := I.tuple (Same.seqT sm q)
      exact .tup h1 h2 h3 (by simpa using reps_nested I sm ds vs ks its t hk rv)
    · cases e
  | .lst _ _, _, _, _, _, e, _ => by cases e
  | .dct _ _ _, _, _, _, _, e, _ => by cases e
  | .scr _, _, _, _, _, e, _ => by cases e
theorem reps_nested {X : Cx} {pins : List (Addr × Obj)} {σ : L2.St} {Hs H : Hp} {s : Shared} (I : Inv X pins σ H s) (sm : Same Hs H) : ∀ (ds : List D) (vs : List V) (ks : List NestedKey) (us : List Value), RepL (gx X) Hs ds vs → keysOf ds = some ks → Vals vs us → NestedAll s.heap ks us
  | [], _, _, _, h, e, r => by cases h; cases e; cases r; exact .nil
  | d :: ds, _, ks, us, h, e, r => by
    obtain ⟨v, w, rfl, h1, h2⟩ := h
    unfold keysOf at e
    split at e
    · rename_i k ks' hk hks
      cases e
      cases r with
      | cons r1 r2 => exact .cons (rep_nested I sm d v k _ h1 hk r1) (reps_nested I sm ds w ks' _ h2 hks r2)
    · cases e
end
theorem leaf_is {G : Gx} {H : Hp} {d : D} {v : V} {l : Leaf} {u : Value} (h : Rep G H d v) (e : leafOf d = some l) (r : RelV v u) : numIs l u = true := by
  cases d with
  | non => cases (show v = .non from h); cases e; cases r; rfl
  | bl b => cases e
  | int i => cases (show v = .int i from h); cases e; obtain ⟨t, rfl⟩ := (show ∃ t, u = Value.int i t from r); exact (Bool.and_true _).trans (decide_eq_true rfl)
  | str x => cases (show v = .str x from h); cases e; obtain ⟨t, rfl⟩ := (show ∃ t, u = Value.str x t from r); exact (Bool.and_true _).trans (keyIs_str x t)
  | tup _ => cases e
  | lst _ _ => cases e
  | dct _ _ _ => cases e
  | scr _ => cases e
theorem leaf_key {d : D} {l : Leaf} (e : leafOf d = some l) : keyOf d = some l.key := by
  cases d with
  | non => cases e; rfl
  | bl b => cases e
  | int i => cases e; rfl
  | str x => cases e; rfl
  | tup _ => cases e
  | lst _ _ => cases e
  | dct _ _ _ => cases e
  | scr _ => cases e
/-- where a key stands -/
def sameK (a b : D) : Bool := decide (keyOf a = keyOf b)
def lookD (k : D) : List D → List D → Option D
  | k' :: ks, d :: ds => if sameK k' k = true then some d else lookD k ks ds
  | _, _ => none
def replD (k d : D) : List D → List D → List D
  | k' :: ks, d' :: ds => (if sameK k' k = true then d else d') :: replD k d ks ds
  | _, ds => ds
/-- keys of one sort with k -/
def sort1 (k : D) (ks : List D) : Bool := match ks with
  | [] => true
  | k' :: _ => (leafOf k').isSome == (leafOf k).isSome
/-- k can be a key -/
def notBl : D → Bool
  | .bl _ => false
  | _ => true
def keyOk (k : D) : Bool := notBl k && match keyOf k with
  | some n => decide (n.depth ≤ 8)
  | none => false
def isTupD : D → Bool
  | .tup _ => true
  | _ => false

/-- what a dict is, in the heap -/
structure LeafAt (G : Gx) (Hs H : Hp) (a : Addr) (ks ds : List D) (kvs : List (Leaf × V)) : Prop where
  at_ : ∃ ep, H a = some (leafO G a ep kvs)
  keys : ks.map leafOf = kvs.map (fun p => some p.1)
  le : kvs.length ≤ sizeLine
  reps : RepL G Hs ds (kvs.map (·.2))
structure TupAt (G : Gx) (Hs H : Hp) (a : Addr) (ks ds : List D) (xs : List (NestedKey × Addr × V)) : Prop where
  at_ : ∃ ep, H a = some (tupO G a ep xs)
  keys : ks.map keyOf = xs.map (fun p => some p.1)
  le : xs.length ≤ sizeLine
  nd : (xs.map (·.1)).Nodup
  dep : ∀ p ∈ xs, p.1.depth ≤ 8
  refs : RepL G Hs ks (xs.map fun p => .ref p.2.1)
  reps : RepL G Hs ds (xs.map (·.2.2))
theorem SlotV.dct {G : Gx} {Hs H : Hp} {m : Md} {ks ds : List D} {v : V} (s : Same Hs H) (h : SlotV G Hs H (.dct m ks ds) v) :
    ∃ a, v = .ref a ∧ (a == sysModules) = false ∧ ((∃ kvs, LeafAt G Hs H a ks ds kvs) ∨ ∃ xs, TupAt G Hs H a ks ds xs) := by
  cases m with
  | sh =>
    obtain ⟨_, a, e, sm, q⟩ := h.rep rfl
    refine ⟨a, e, sm, ?_⟩
    rcases q with ⟨ep, kvs, q1, q2, q3, q5⟩ | ⟨ep, xs, q1, q2, q3, q4, q8, q5, q7⟩
    · exact .inl ⟨kvs, ⟨ep, s _ _ q1⟩, q2, q3, q5⟩
    · exact .inr ⟨xs, ⟨ep, s _ _ q1⟩, q2, q3, q4, q8, q5, q7⟩
  | own =>
    obtain ⟨a, e, _, sm, q⟩ := h.own rfl
    refine ⟨a, e, sm, ?_⟩
    rcases q with ⟨ep, kvs, q1, q2, q3, q5⟩ | ⟨ep, xs, q1, q2, q3, q4, q8, q5, q7⟩
    · exact .inl ⟨kvs, ⟨ep, q1⟩, q2, q3, q5⟩
    · exact .inr ⟨xs, ⟨ep, q1⟩, q2, q3, q4, q8, q5, q7⟩
  | brw =>
    obtain ⟨a, e, _, sm, q⟩ := h.own rfl
    refine ⟨a, e, sm, ?_⟩
    rcases q with ⟨ep, kvs, q1, q2, q3, q5⟩ | ⟨ep, xs, q1, q2, q3, q4, q8, q5, q7⟩
    · exact .inl ⟨kvs, ⟨ep, q1⟩, q2, q3, q5⟩
    · exact .inr ⟨xs, ⟨ep, q1⟩, q2, q3, q4, q8, q5, q7⟩
theorem LeafAt.own {G : Gx} {Hs H : Hp} {a : Addr} {ks ds : List D} {kvs : List (Leaf × V)} (h : LeafAt G Hs H a ks ds kvs) (n : Hs a = none) (sm : (a == sysModules) = false) : OwnV G Hs H (.dct .own ks ds) (.ref a) :=
  let ⟨ep, h1⟩ := h.1
  ⟨a, rfl, n, sm, .inl ⟨ep, kvs, h1, h.2, h.3, h.4⟩⟩
theorem TupAt.own {G : Gx} {Hs H : Hp} {a : Addr} {ks ds : List D} {xs : List (NestedKey × Addr × V)} (h : TupAt G Hs H a ks ds xs) (n : Hs a = none) (sm : (a == sysModules) = false) : OwnV G Hs H (.dct .own ks ds) (.ref a) :=
  let ⟨ep, h1⟩ := h.1
  ⟨a, rfl, n, sm, .inr ⟨ep, xs, h1, h.2, h.3, h.4, h.5, h.6, h.7⟩⟩

/-! ### looking up, by lists -/
theorem look_leaf {G : Gx} {Hs : Hp} {key : D} {l : Leaf} (hl : leafOf key = some l) : ∀ {ks ds : List D} {kvs : List (Leaf × V)}, ks.map leafOf = kvs.map (fun p => some p.1) → RepL G Hs ds (kvs.map (·.2)) →
    (lookD key ks ds).isSome = (valV kvs l).isSome ∧ ∀ d, lookD key ks ds = some d → ∃ v, valV kvs l = some v ∧ Rep G Hs d v
  | [], ds, [], _, hr => by
    cases ds <;> exact ⟨rfl, fun d e => by cases e⟩
  | k :: ks, ds, (l', v) :: kvs, hk, hr => by
    rw [List.map_cons, List.map_cons, List.cons.injEq] at hk
    cases ds with
    | nil => cases hr
    | cons d ds =>
      obtain ⟨v', w, e, h1, h2⟩ := hr
      cases e
      have ih := look_leaf (G := G) hl (ks := ks) (ds := ds) hk.2 h2
      have ek : keyOf k = some l'.key := leaf_key hk.1
      by_cases q : l' = l
      · subst q
        have es : sameK k key = true := by unfold sameK; rw [ek, leaf_key hl]; exact decide_eq_true rfl
        have e1 : lookD key (k :: ks) (d :: ds) = some d := by unfold lookD; rw [if_pos es]
        rw [e1, valV_pos rfl]
        exact ⟨rfl, fun d' e => by cases e; exact ⟨v, rfl, h1⟩⟩
      · have es : ¬ sameK k key = true := by
          unfold sameK; rw [ek, leaf_key hl]
          intro z
          exact q (Leaf.key_inj (Option.some.inj (of_decide_eq_true z)))
        have e1 : lookD key (k :: ks) (d :: ds) = lookD key ks ds := by
          show (if sameK k key = true then some d else lookD key ks ds) = _
          rw [if_neg es]
        rw [e1, valV_neg q]
        exact ih
/-- the entry of a key -/
def atV (xs : List (NestedKey × Addr × V)) (k : NestedKey) : Option V := (xs.find? fun x => decide (x.1 = k)).map (·.2.2)
theorem atV_pos {p : NestedKey × Addr × V} {xs : List (NestedKey × Addr × V)} {k : NestedKey} (h : p.1 = k) : atV (p :: xs) k = some p.2.2 := by simp [atV, List.find?_cons, h]
theorem atV_neg {p : NestedKey × Addr × V} {xs : List (NestedKey × Addr × V)} {k : NestedKey} (h : ¬ p.1 = k) : atV (p :: xs) k = atV xs k := by simp [atV, List.find?_cons, h]
theorem look_tup {G : Gx} {Hs : Hp} {key : D} {n : NestedKey} (hn : keyOf key = some n) : ∀ {ks ds : List D} {xs : List (NestedKey × Addr × V)}, ks.map keyOf = xs.map (fun p => some p.1) → RepL G Hs ds (xs.map (·.2.2)) →
    (lookD key ks ds).isSome = (atV xs n).isSome ∧ ∀ d, lookD key ks ds = some d → ∃ v, atV xs n = some v ∧ Rep G Hs d v
  | [], ds, [], _, hr => by
    cases ds <;> exact ⟨rfl, fun d e => by cases e⟩
  | k :: ks, ds, (n', b, v) :: xs, hk, hr => by
    rw [List.map_cons, List.map_cons, List.cons.injEq] at hk
    cases ds with
    | nil => cases hr
    | cons d ds =>
      obtain ⟨v', w, e, h1, h2⟩ := hr
      cases e
      have ih := look_tup (G := G) hn (ks := ks) (ds := ds) hk.2 h2
      by_cases q : n' = n
      · subst q
        have es : sameK k key = true := by unfold sameK; rw [hk.1, hn]; exact decide_eq_true rfl
        have e1 : lookD key (k :: ks) (d :: ds) = some d := by unfold lookD; rw [if_pos es]
        rw [e1, atV_pos rfl]
        exact ⟨rfl, fun d' e => by cases e; exact ⟨v, rfl, h1⟩⟩
      · have es : ¬ sameK k key = true := by
          unfold sameK; rw [hk.1, hn]
          intro z
          exact q (Option.some.inj (of_decide_eq_true z))
        have e1 : lookD key (k :: ks) (d :: ds) = lookD key ks ds := by
          show (if sameK k key = true then some d else lookD key ks ds) = _
          rw [if_neg es]
        rw [e1, atV_neg q]
        exact ih
theorem TupRel.at_ : ∀ {xs : List (NestedKey × Addr × V)} {ys : List (NestedKey × Addr × Value)}, TupRel xs ys → ∀ k, RelO (atV xs k) ((atKey ys k).map (·.2))
  | _, _, .nil, k => True.intro
  | (n, b, v) :: xs, (n', b', u) :: ys, .cons h t, k => by
    obtain ⟨e1, e2, r⟩ := h
    cases e1; cases e2
    have ih := TupRel.at_ t k
    by_cases q : n = k
    · subst q
      have e : atKey ((n, b, u) :: ys) n = some (b, u) := by simp [atKey, List.find?_cons]
      rw [atV_pos rfl, e]
      exact r
    · have e : atKey ((n, b, u) :: ys) k = atKey ys k := by simp [atKey, List.find?_cons, q]
      rw [atV_neg q, e]
      exact ih
theorem TupRel.fst : ∀ {xs : List (NestedKey × Addr × V)} {ys : List (NestedKey × Addr × Value)}, TupRel xs ys → xs.map (fun p => (p.1, p.2.1)) = ys.map (fun p => (p.1, p.2.1))
  | _, _, .nil => rfl
  | _ :: _, _ :: _, .cons h t => by rw [List.map_cons, List.map_cons, TupRel.fst t, h.1, h.2.1]
/-- the object behind, for a key of its sort -/
theorem leaf_obj {X : Cx} {pins : List (Addr × Obj)} {σ : L2.St} {H : Hp} {s : Shared} {a : Addr} {kvs : List (Leaf × V)} (I : Inv X pins σ H s) (h : ∃ ep, H a = some (leafO (gx X) a ep kvs)) : ∃ vs, KV kvs vs ∧ s.heap.DictOf (numKind X.prog X.w) a vs := by
  obtain ⟨ep, h⟩ := h
  obtain ⟨⟨vs, k, d⟩, _⟩ := I.hok a _ h
  exact ⟨vs, k, d.dictOf⟩
theorem tup_obj {X : Cx} {pins : List (Addr × Obj)} {σ : L2.St} {Hs H : Hp} {s : Shared} {a : Addr} {ks ds : List D} {xs : List (NestedKey × Addr × V)} (I : Inv X pins σ H s) (sm : Same Hs H) (h : TupAt (gx X) Hs H a ks ds xs) : ∃ ys, TupRel xs ys ∧ s.heap.DictOfH (nestedKind X.prog X.w) a ys := by
  obtain ⟨ep, hat⟩ := h.at_
  have h0 := I.hok a _ hat
  obtain ⟨⟨es, ys, ⟨o, ho, hc, hd⟩, he, hr⟩, _⟩ := h0
  have ef := hr.fst
  refine ⟨ys, hr, o, es, ep, ho, hc, hd, he, fun y hy => ?_, ?_⟩
  · obtain ⟨j, hj⟩ := List.mem_iff_getElem?.mp hy
    have ej : (xs.map fun p => (p.1, p.2.1))[j]? = some (y.1, y.2.1) := by rw [ef, List.getElem?_map, hj]; rfl
    rw [List.getElem?_map] at ej
    obtain ⟨x, ex, exy⟩ := Option.map_eq_some_iff.mp ej
    have kj : (ks.map keyOf)[j]? = some (some x.1) := by rw [h.keys, List.getElem?_map, ex]; rfl
    rw [List.getElem?_map] at kj
    obtain ⟨k, ek, kk⟩ := Option.map_eq_some_iff.mp kj
    obtain ⟨v, ev, rv⟩ := h.refs.get ek
    rw [List.getElem?_map, ex] at ev
    cases ev
    have e1 : x.1 = y.1 := congrArg Prod.fst exy
    have e2 : x.2.1 = y.2.1 := congrArg Prod.snd exy
    rw [← e1, ← e2]
    exact ⟨rep_nested I sm k _ _ _ rv kk rfl, h.dep x (List.mem_of_getElem? ex)⟩
  · have : xs.map (·.1) = ys.map (·.1) := by
      have := congrArg (List.map Prod.fst) ef
      simpa [Function.comp_def] using this
    rw [← this]
    exact h.nd
theorem keyTup {d : D} {n : NestedKey} (hb : notBl d = true) (h : keyOf d = some n) (hl : leafOf d = none) : ∃ ts, d = .tup ts := by
  cases d with
  | tup ts => exact ⟨ts, rfl⟩
  | non => cases hl
  | bl b => cases hb
  | int i => cases hl
  | str x => cases hl
  | lst _ _ => unfold keyOf at h; cases h
  | dct _ _ _ => unfold keyOf at h; cases h
  | scr _ => unfold keyOf at h; cases h
/-- an empty dict of either sort -/
theorem empty_leaf {P : Program} {w : World} {h : Heap} {a : Addr} (x : h.DictOf (numKind P w) a []) : ∃ es ep, h.DictRaw a es ep ∧ es.toList = [] := by
  obtain ⟨o, es, ep, ho, hc, hd, _, hp, _⟩ := x
  refine ⟨es, ep, ⟨o, ho, hc, hd⟩, ?_⟩
  cases q : es.toList with
  | nil => rfl
  | cons e r => rw [q] at hp; cases hp
theorem leaf_empty {P : Program} {w : World} {h : Heap} {a : Addr} {es : Array DictEntry} {ep : Nat} (x : h.DictRaw a es ep) (e : es.toList = []) : h.DictOf (numKind P w) a [] := by
  obtain ⟨o, ho, hc, hd⟩ := x
  have : es = #[] := by
    apply Array.ext'
    rw [e]
  subst this
  exact ⟨o, #[], ep, ho, hc, hd, fun e he => by simp at he, .nil, List.nodup_nil⟩

/-! ### k in d, d[k], len(d) -/
def inD (x y : D) : Option Bool := match y with
  | .dct _ ks ds => if keyOk x = true ∧ sort1 x ks = true then some (lookD x ks ds).isSome else none
  | .str z => match x with
    | .str c => some (!(Builtin.Str.occurrences z c 0 z.length 1).isEmpty)
    | _ => none
  | .tup ds => inL x ds
  | .lst _ ds => inL x ds
  | _ => none
where
  flat : D → Bool
    | .non => true
    | .bl _ => true
    | .int _ => true
    | .str _ => true
    | _ => false
  eqF : D → D → Bool
    | .non, .non => true
    | .bl a, .bl b => a == b
    | .bl a, .int b => (if a then 1 else 0) == b
    | .int a, .bl b => a == (if b then 1 else 0)
    | .int a, .int b => a == b
    | .str a, .str b => a == b
    | _, _ => false
  inL (x : D) (ds : List D) : Option Bool := if flat x = true ∧ ds.all flat = true then some (ds.any fun d => eqF d x) else none
theorem flat_of {G : Gx} {H : Hp} {d : D} {v : V} (h : Rep G H d v) (f : inD.flat d = true) : flatV v = true := by
  cases d with
  | non => cases (show v = .non from h); rfl
  | bl b => cases (show v = .bl b from h); rfl
  | int i => cases (show v = .int i from h); rfl
  | str x => cases (show v = .str x from h); rfl
  | tup _ => cases f
  | lst _ _ => cases f
  | dct _ _ _ => cases f
  | scr _ => cases f
/-- of a flat value, the value -/
def flV : D → V
  | .bl b => .bl b
  | .int i => .int i
  | .str x => .str x
  | _ => .non
theorem flat_v {G : Gx} {H : Hp} {d : D} {v : V} (h : Rep G H d v) (f : inD.flat d = true) : v = flV d := by
  cases d with
  | non => exact h
  | bl b => exact h
  | int i => exact h
  | str x => exact h
  | tup _ => cases f
  | lst _ _ => cases f
  | dct _ _ _ => cases f
  | scr _ => cases f
theorem eqF_of {G : Gx} {H : Hp} {d e : D} {v u : V} (h : Rep G H d v) (h' : Rep G H e u) (f : inD.flat d = true) (f' : inD.flat e = true) : eqV v u = inD.eqF d e := by
  rw [flat_v h f, flat_v h' f']
  cases d <;> cases e <;> first | rfl | exact absurd f Bool.false_ne_true | exact absurd f' Bool.false_ne_true
theorem flats_of {G : Gx} {H : Hp} : ∀ {ds : List D} {vs : List V}, RepL G H ds vs → ds.all inD.flat = true → vs.all flatV = true
  | [], _, h, _ => by cases h; rfl
  | d :: ds, _, h, f => by
    obtain ⟨v, w, rfl, h1, h2⟩ := h
    rw [List.all_cons, Bool.and_eq_true] at f ⊢
    exact ⟨flat_of h1 f.1, flats_of h2 f.2⟩
theorem any_of {G : Gx} {H : Hp} {x : D} {u : V} (hx : Rep G H x u) (fx : inD.flat x = true) : ∀ {ds : List D} {vs : List V}, RepL G H ds vs → ds.all inD.flat = true → inV u vs = ds.any fun d => inD.eqF d x
  | [], _, h, _ => by cases h; rfl
  | d :: ds, _, h, f => by
    obtain ⟨v, w, rfl, h1, h2⟩ := h
    rw [List.all_cons, Bool.and_eq_true] at f
    have ih := any_of hx fx h2 f.2
    unfold inV at ih ⊢
    rw [List.any_cons, List.any_cons, eqF_of h1 hx f.1 fx, ih]
section
variable {X : Cx}
/-- a dict for a key of its sort: by value, or by a tuple -/
structure ByLeaf (X : Cx) (Hs H : Hp) (x : D) (u : V) (a : Addr) (ks ds : List D) (l : Leaf) (kvs : List (Leaf × V)) : Prop where
  leaf : leafOf x = some l
  ob : ∀ (pins : List (Addr × Obj)) (σ : L2.St) (s : Shared), Inv X pins σ H s → ∃ vs, KV kvs vs ∧ s.heap.DictOf (numKind X.prog X.w) a vs
  keys : ks.map leafOf = kvs.map (fun p => some p.1)
  le : kvs.length ≤ sizeLine
  reps : RepL (gx X) Hs ds (kvs.map (·.2))
structure ByTup (X : Cx) (Hs H : Hp) (x : D) (u : V) (a : Addr) (ks ds : List D) (n : NestedKey) (b : Addr) (xs : List (NestedKey × Addr × V)) : Prop where
  key : keyOf x = some n
  dep : n.depth ≤ 8
  rep : Rep (gx X) Hs x u
  ref : u = .ref b
  leaf : leafOf x = none
  ob : ∀ (pins : List (Addr × Obj)) (σ : L2.St) (s : Shared), Inv X pins σ H s → ∃ ys, TupRel xs ys ∧ s.heap.DictOfH (nestedKind X.prog X.w) a ys
  keys : ks.map keyOf = xs.map (fun p => some p.1)
  le : xs.length ≤ sizeLine
  nd : (xs.map (·.1)).Nodup
  deps : ∀ p ∈ xs, p.1.depth ≤ 8
  refs : RepL (gx X) Hs ks (xs.map fun p => .ref p.2.1)
  reps : RepL (gx X) Hs ds (xs.map (·.2.2))
theorem dict_case {Hs H : Hp} {x : D} {u : V} {a : Addr} {ks ds : List D} (s : Same Hs H) (hx : Rep (gx X) Hs x u) (hk : keyOk x = true) (hs : sort1 x ks = true) (hd : (∃ kvs, LeafAt (gx X) Hs H a ks ds kvs) ∨ ∃ xs, TupAt (gx X) Hs H a ks ds xs) :
    (∃ l kvs, ByLeaf X Hs H x u a ks ds l kvs) ∨ ∃ n b xs, ByTup X Hs H x u a ks ds n b xs := by
  unfold keyOk at hk
  rw [Bool.and_eq_true] at hk
  obtain ⟨hbl, hk⟩ := hk
  split at hk
  · rename_i n hn
    have hdep : n.depth ≤ 8 := of_decide_eq_true hk
    cases hl : leafOf x with
    | some l =>
      left
      rcases hd with ⟨kvs, hd⟩ | ⟨xs, hd⟩
      · exact ⟨l, kvs, hl, fun _ _ _ I => leaf_obj I hd.at_, hd.keys, hd.le, hd.reps⟩
      · have e0 : ks = [] := by
          cases ks with
          | nil => rfl
          | cons k ks =>
            unfold sort1 at hs
            simp only [hl] at hs
            have hr := hd.refs
            cases xs with
            | nil => have := hd.keys; simp at this
            | cons p xs =>
              obtain ⟨v, w, e, r1, _⟩ := hr
              rw [List.map_cons] at e
              cases e
              cases k with
              | non => cases (show V.ref p.2.1 = .non from r1)
              | bl b => cases (show V.ref p.2.1 = .bl b from r1)
              | int i => cases (show V.ref p.2.1 = .int i from r1)
              | str x => cases (show V.ref p.2.1 = .str x from r1)
              | tup _ => exact absurd hs (by simp [leafOf])
              | lst _ _ => exact absurd hs (by simp [leafOf])
              | dct _ _ _ => exact absurd hs (by simp [leafOf])
              | scr _ => exact absurd hs (by simp [leafOf])
        subst e0
        have ex : xs = [] := by
          have := congrArg List.length hd.keys
          simpa using this.symm
        subst ex
        refine ⟨l, [], hl, fun _ _ _ I => ?_, rfl, Nat.zero_le _, hd.reps⟩
        obtain ⟨ep, hat⟩ := hd.at_
        obtain ⟨⟨es, ys, hr, he, hy⟩, _⟩ := I.hok a _ hat
        cases hy
        exact ⟨[], .nil, leaf_empty hr (by simpa using he)⟩
    | none =>
      right
      obtain ⟨ts, rfl⟩ := keyTup hbl hn hl
      obtain ⟨b, bs, rfl, _⟩ := id hx
      rcases hd with ⟨kvs, hd⟩ | ⟨xs, hd⟩
      · have e0 : ks = [] := by
          cases ks with
          | nil => rfl
          | cons k ks =>
            unfold sort1 at hs
            simp only [hl] at hs
            cases kvs with
            | nil => have := hd.keys; simp at this
            | cons p kvs =>
              have := hd.keys
              rw [List.map_cons, List.map_cons, List.cons.injEq] at this
              rw [this.1] at hs
              exact absurd hs (by simp)
        subst e0
        have ex : kvs = [] := by
          have := congrArg List.length hd.keys
          simpa using this.symm
        subst ex
        refine ⟨n, b, [], hn, hdep, hx, rfl, hl, fun _ _ _ I => ?_, rfl, Nat.zero_le _, List.nodup_nil, fun _ h => by simp at h, rfl, hd.reps⟩
        obtain ⟨vs, hv, hob⟩ := leaf_obj I hd.at_
        cases hv
        obtain ⟨es, ep, ⟨o, ho, hc, hdt⟩, he⟩ := empty_leaf hob
        exact ⟨[], .nil, o, es, ep, ho, hc, hdt, by simpa using he, fun _ h => by simp at h, List.nodup_nil⟩
      · exact ⟨n, b, xs, hn, hdep, hx, rfl, hl, fun _ _ _ I => tup_obj I s hd, hd.keys, hd.le, hd.nd, hd.dep, hd.refs, hd.reps⟩
  · cases hk
theorem keyOk_own {x : D} (h : keyOk x = true) : x.owned = false := by
  cases x with
  | lst m ds => unfold keyOk keyOf at h; rw [Bool.and_eq_true] at h; cases h.2
  | dct m ks ds => unfold keyOk keyOf at h; rw [Bool.and_eq_true] at h; cases h.2
  | _ => rfl
theorem in_both (hu : X.A.units + 16 < cLine) {x y : D} {b : Bool} (e : inD x y = some b) {Hs H : Hp} {u v : V} (s : Same Hs H) (rx : SlotV (gx X) Hs H x u) (ry : SlotV (gx X) Hs H y v) :
    (∃ r, OpR X (compareOp .In) r ∧ ∀ Q : VK, Q (.bl b) H → r u v H Q) ∧ (∃ r, OpR X (compareOp .NotIn) r ∧ ∀ Q : VK, Q (.bl (!b)) H → r u v H Q) := by
  have seq : ∀ {p : Addr} {ds : List D} {vs : List V}, inD.inL x ds = some b → v = .ref p → (SqL X.K H p vs ∨ SqT X.K H p vs) → RepL (gx X) Hs ds vs →
      (∃ r, OpR X (compareOp .In) r ∧ ∀ Q : VK, Q (.bl b) H → r u v H Q) ∧ (∃ r, OpR X (compareOp .NotIn) r ∧ ∀ Q : VK, Q (.bl (!b)) H → r u v H Q) := fun {p ds vs} e ep hq hr => by
    unfold inD.inL at e
    split at e
    · rename_i hf
      cases e
      have hx : Rep (gx X) Hs x u := rx.rep (by cases x <;> first | rfl | cases hf.1)
      have fx := flat_of hx hf.1
      have fs := flats_of hr hf.2
      have ea := any_of hx hf.1 hr hf.2
      exact ⟨⟨_, op_in_seq, fun Q q => ⟨p, vs, ep, hq, fx, fs, by rw [if_neg Bool.false_ne_true, ea]; exact q⟩⟩, ⟨_, op_notIn_seq, fun Q q => ⟨p, vs, ep, hq, fx, fs, by rw [if_pos rfl, ea]; exact q⟩⟩⟩
    · cases e
  unfold inD at e
  split at e
  · -- a dict
    split at e
    · rename_i m ks ds hk
      cases e
      obtain ⟨a, rfl, hsm, hd⟩ := ry.dct s
      have hx := rx.rep (keyOk_own hk.1)
      rcases dict_case s hx hk.1 hk.2 hd with ⟨l, kvs, B⟩ | ⟨n, b, xs, B⟩
      · have el := (look_leaf B.leaf B.keys B.reps).1
        refine ⟨⟨fun x' y' H' Q => x' = u ∧ y' = .ref a ∧ H' = H ∧ Q (.bl (valV kvs l).isSome) H, fun pins σ s H' x' y' v' u' Q I r1 r2 ⟨e1, e2, e3, q⟩ => ?_, fun Q q => ⟨rfl, rfl, rfl, by rw [← el]; exact q⟩⟩,
          ⟨fun x' y' H' Q => x' = u ∧ y' = .ref a ∧ H' = H ∧ Q (.bl (!(valV kvs l).isSome)) H, fun pins σ s H' x' y' v' u' Q I r1 r2 ⟨e1, e2, e3, q⟩ => ?_, fun Q q => ⟨rfl, rfl, rfl, by rw [← el]; exact q⟩⟩⟩
        · subst e1 e2 e3
          cases r2
          obtain ⟨vs, kv, ob⟩ := B.ob _ _ _ I
          exact wpAny_in_of (knd := numKind X.prog X.w) (leaf_is hx B.leaf r1) hsm ob.mapOf ⟨.bl _, H', I.tok _, by rw [← (kv.val l).isSome_eq]; rfl, q⟩
        · subst e1 e2 e3
          cases r2
          obtain ⟨vs, kv, ob⟩ := B.ob _ _ _ I
          exact wpAny_notIn_of (knd := numKind X.prog X.w) (leaf_is hx B.leaf r1) hsm ob.mapOf ⟨.bl _, H', I.tok _, by rw [← (kv.val l).isSome_eq]; rfl, q⟩
      · have el := (look_tup B.key B.keys B.reps).1
        have hroom : (nestedKind X.prog X.w).room X.A.in1 := by show X.A.units + 1 + 8 < cLine; omega
        have er := B.ref
        subst er
        refine ⟨⟨fun x' y' H' Q => x' = .ref b ∧ y' = .ref a ∧ H' = H ∧ Q (.bl (atV xs n).isSome) H, fun pins σ s' H' x' y' v' u' Q I r1 r2 ⟨e1, e2, e3, q⟩ => ?_, fun Q q => ⟨rfl, rfl, rfl, by rw [← el]; exact q⟩⟩,
          ⟨fun x' y' H' Q => x' = .ref b ∧ y' = .ref a ∧ H' = H ∧ Q (.bl (!(atV xs n).isSome)) H, fun pins σ s' H' x' y' v' u' Q I r1 r2 ⟨e1, e2, e3, q⟩ => ?_, fun Q q => ⟨rfl, rfl, rfl, by rw [← el]; exact q⟩⟩⟩
        · subst e1 e2 e3
          cases r1; cases r2
          obtain ⟨ys, rel, ob⟩ := B.ob _ _ _ I
          have ei := (rel.at_ n).isSome_eq
          rw [Option.isSome_map] at ei
          exact wpAny_in_heap (knd := nestedKind X.prog X.w) hroom ⟨rep_nested I s _ _ _ _ hx B.key rfl, B.dep⟩ hsm ob ⟨.bl _, H', I.tok _, by rw [← ei]; rfl, q⟩
        · subst e1 e2 e3
          cases r1; cases r2
          obtain ⟨ys, rel, ob⟩ := B.ob _ _ _ I
          have ei := (rel.at_ n).isSome_eq
          rw [Option.isSome_map] at ei
          exact wpAny_notIn_heap (knd := nestedKind X.prog X.w) hroom ⟨rep_nested I s _ _ _ _ hx B.key rfl, B.dep⟩ hsm ob ⟨.bl _, H', I.tok _, by rw [← ei]; rfl, q⟩
    · cases e
  · -- a text
    rename_i z
    split at e
    · cases e
      exact ⟨⟨_, op_in_str, fun Q q => ⟨_, _, rx.str, ry.str, q⟩⟩, ⟨_, op_notIn_str, fun Q q => ⟨_, _, rx.str, ry.str, q⟩⟩⟩
    · cases e
  · obtain ⟨a, vs, rfl, t, r⟩ := ry.tup
    exact seq e rfl (.inr (Same.seqT s t)) r
  · obtain ⟨a, vs, rfl, t, r⟩ := ry.lst s
    exact seq e rfl (.inl (.of t)) r
  · cases e
def inDD (x y : D) : Option D := (inD x y).map .bl
def notInDD (x y : D) : Option D := (inD x y).map fun b => .bl (!b)
theorem os_in (hu : X.A.units + 16 < cLine) : OpS X (compareOp .In) inDD := by
  intro x y d e Hs H u v Q s rx ry q
  obtain ⟨b, eb, rfl⟩ := Option.map_eq_some_iff.mp e
  obtain ⟨⟨r, hr, h⟩, _⟩ := in_both hu eb s rx ry
  exact ⟨r, hr, h Q (q _ Hs H (.refl s) rfl)⟩
theorem os_notIn (hu : X.A.units + 16 < cLine) : OpS X (compareOp .NotIn) notInDD := by
  intro x y d e Hs H u v Q s rx ry q
  obtain ⟨b, eb, rfl⟩ := Option.map_eq_some_iff.mp e
  obtain ⟨_, ⟨r, hr, h⟩⟩ := in_both hu eb s rx ry
  exact ⟨r, hr, h Q (q _ Hs H (.refl s) rfl)⟩
end
end Sim

/-! Sim, part 9: d[k], d[k] = v, displays of dicts, len, isinstance, list, tuple, min, max, abs. -/
namespace Sim
open PySem PySem.Spec PyProof.Rows L2

section
variable {X : Cx}
/-! ### d[k] -/
def ixDD (x y : D) : Option D := match x with
  | .dct _ ks ds => if keyOk y = true ∧ sort1 y ks = true then lookD y ks ds else none
  | x => ixD x y
theorem dict_sub {value slice : Expr} {pins : List (Addr × Obj)} {s : Shared} {σ : L2.St} {a : Addr} {u : Value} {Q : VK} (hT : s.TypeIs (.ref a) "dict") (hg : wpAny (model X.prog X.w) X.A (getItem (.ref a) u) (EP X pins σ Q) X.xe s) (hs : subscripted slice false (.ref a) u = operate [.ref a, u] (getItem (.ref a) u)) :
    wpAny (model X.prog X.w) X.A (subscriptTail value slice (.ref a) u) (EP X pins σ Q) X.xe s := tail_any hT PySem.F.slot_dict_getitem.lookup hg hs
theorem is_ixD (hu : X.A.units + 16 < cLine) : IxS X ixDD := by
  intro x y d e Hs H u v Q s rx ry q
  unfold ixDD at e
  split at e
  · split at e
    · rename_i m ks ds hk
      obtain ⟨a, rfl, hsm, hd⟩ := rx.dct s
      have hy := ry.rep (keyOk_own hk.1)
      rcases dict_case s hy hk.1 hk.2 hd with ⟨l, kvs, B⟩ | ⟨n, b, xs, B⟩
      · obtain ⟨w, ez, rw'⟩ := (look_leaf B.leaf B.keys B.reps).2 d e
        refine ⟨fun x' y' H' Q => x' = .ref a ∧ y' = v ∧ H' = H ∧ Q w H, fun value slice pins s' σ H' x' y' v' u' Q I r1 r2 ⟨e1, e2, e3, q⟩ hs => ?_, rfl, rfl, rfl, q w Hs H (.refl s) rw'⟩
        subst e1 e2 e3
        cases r1
        obtain ⟨vs, kv, ob⟩ := B.ob _ _ _ I
        obtain ⟨z, ev, rz⟩ := RelO.some_of (v := w) (o := valueAt vs l) (by rw [← ez]; exact kv.val l)
        exact dict_sub ob.typeIs (wpAny_getItem_of (knd := numKind X.prog X.w) (leaf_is hy B.leaf r2) ob.mapOf ev ⟨w, H', I.tok _, rz, q⟩) hs
      · obtain ⟨w, ez, rw'⟩ := (look_tup B.key B.keys B.reps).2 d e
        have er := B.ref
        subst er
        refine ⟨fun x' y' H' Q => x' = .ref a ∧ y' = .ref b ∧ H' = H ∧ Q w H, fun value slice pins s' σ H' x' y' v' u' Q I r1 r2 ⟨e1, e2, e3, q⟩ hs => ?_, rfl, rfl, rfl, q w Hs H (.refl s) rw'⟩
        subst e1 e2 e3
        cases r1; cases r2
        obtain ⟨ys, rel, ob⟩ := B.ob _ _ _ I
        obtain ⟨z, ev, rz⟩ := RelO.some_of (v := w) (o := (atKey ys n).map (·.2)) (by rw [← ez]; exact rel.at_ n)
        obtain ⟨p, hp, rfl⟩ := Option.map_eq_some_iff.mp ev
        have hroom : (nestedKind X.prog X.w).room X.A.in1 := by show X.A.units + 1 + 8 < cLine; omega
        exact dict_sub ob.typeIs (wpAny_getItem_heap (knd := nestedKind X.prog X.w) hroom ⟨rep_nested I s _ _ _ _ hy B.key rfl, B.dep⟩ ob hp ⟨w, H', I.tok _, rz, q⟩) hs
    · cases e
  · exact is_ix e s rx ry q

/-! ### d[k] = v -/
def storeD (k d : D) (ks ds : List D) : List D × List D := if (lookD k ks ds).isSome = true then (ks, replD k d ks ds) else (ks ++ [k], ds ++ [d])
theorem store_leaf {G : Gx} {Hs : Hp} {key d : D} {v : V} {l : Leaf} (hl : leafOf key = some l) (rd : Rep G Hs d v) : ∀ {ks ds : List D} {kvs : List (Leaf × V)}, ks.map leafOf = kvs.map (fun p => some p.1) → RepL G Hs ds (kvs.map (·.2)) →
    RepL G Hs (replD key d ks ds) ((kvs.map fun kv => if kv.1 = l then (kv.1, v) else kv).map (·.2))
  | [], ds, [], _, hr => by unfold replD; exact hr
  | k :: ks, ds, (l', z) :: kvs, hk, hr => by
    rw [List.map_cons, List.map_cons, List.cons.injEq] at hk
    cases ds with
    | nil => cases hr
    | cons d' ds =>
      obtain ⟨v', w', e, h1, h2⟩ := hr
      cases e
      have ih := store_leaf (G := G) hl rd (ks := ks) (ds := ds) hk.2 h2
      have ek : keyOf k = some l'.key := leaf_key hk.1
      unfold replD
      rw [List.map_cons, List.map_cons]
      by_cases q : l' = l
      · subst q
        have es : sameK k key = true := by unfold sameK; rw [ek, leaf_key hl]; exact decide_eq_true rfl
        rw [if_pos es, if_pos rfl]
        exact .cons rd ih
      · have es : ¬ sameK k key = true := by
          unfold sameK; rw [ek, leaf_key hl]
          intro z
          exact q (Leaf.key_inj (Option.some.inj (of_decide_eq_true z)))
        rw [if_neg es, if_neg q]
        exact .cons h1 ih
/-- the entries behind a store -/
def putX (k : NestedKey) (v : V) (x : NestedKey × Addr × V) : NestedKey × Addr × V := if x.1 = k then (x.1, x.2.1, v) else x
theorem putX_fst (k : NestedKey) (v : V) (x : NestedKey × Addr × V) : (putX k v x).1 = x.1 ∧ (putX k v x).2.1 = x.2.1 := by
  unfold putX
  split <;> exact ⟨rfl, rfl⟩
theorem store_tup {G : Gx} {Hs : Hp} {key d : D} {v : V} {n : NestedKey} (hn : keyOf key = some n) (rd : Rep G Hs d v) : ∀ {ks ds : List D} {xs : List (NestedKey × Addr × V)}, ks.map keyOf = xs.map (fun p => some p.1) → RepL G Hs ds (xs.map (·.2.2)) →
    RepL G Hs (replD key d ks ds) ((xs.map (putX n v)).map (·.2.2))
  | [], ds, [], _, hr => by unfold replD; exact hr
  | k :: ks, ds, (n', b, z) :: xs, hk, hr => by
    rw [List.map_cons, List.map_cons, List.cons.injEq] at hk
    cases ds with
    | nil => cases hr
    | cons d' ds =>
      obtain ⟨v', w', e, h1, h2⟩ := hr
      cases e
      have ih := store_tup (G := G) hn rd (ks := ks) (ds := ds) hk.2 h2
      unfold replD
      rw [List.map_cons, List.map_cons]
      by_cases q : n' = n
      · subst q
        have es : sameK k key = true := by unfold sameK; rw [hk.1, hn]; exact decide_eq_true rfl
        rw [if_pos es]
        refine .cons ?_ ih
        unfold putX
        rw [if_pos rfl]
        exact rd
      · have es : ¬ sameK k key = true := by
          unfold sameK; rw [hk.1, hn]
          intro z
          exact q (Option.some.inj (of_decide_eq_true z))
        rw [if_neg es]
        refine .cons ?_ ih
        unfold putX
        rw [if_neg q]
        exact h1
theorem TupRel.put {n : NestedKey} {v : V} {u : Value} (r : RelV v u) : ∀ {xs : List (NestedKey × Addr × V)} {ys : List (NestedKey × Addr × Value)}, TupRel xs ys → TupRel (xs.map (putX n v)) (ys.map (putAt n u))
  | _, _, .nil => .nil
  | (a, b, z) :: xs, (a', b', w) :: ys, .cons h t => by
    obtain ⟨e1, e2, h3⟩ := h
    cases e1; cases e2
    rw [List.map_cons, List.map_cons]
    refine .cons ?_ (TupRel.put r t)
    unfold putX putAt
    by_cases q : a = n
    · rw [if_pos q, if_pos q]; exact ⟨rfl, rfl, r⟩
    · rw [if_neg q, if_neg q]; exact ⟨rfl, rfl, h3⟩
theorem TupRel.snoc {n : NestedKey} {b : Addr} {v : V} {u : Value} (r : RelV v u) : ∀ {xs : List (NestedKey × Addr × V)} {ys : List (NestedKey × Addr × Value)}, TupRel xs ys → TupRel (xs ++ [(n, b, v)]) (ys ++ [(n, b, u)])
  | _, _, .nil => .cons ⟨rfl, rfl, r⟩ .nil
  | _ :: _, _ :: _, .cons h t => .cons h (TupRel.snoc r t)
theorem TupRel.length {xs : List (NestedKey × Addr × V)} {ys : List (NestedKey × Addr × Value)} (h : TupRel xs ys) : xs.length = ys.length := Paired.length h
/-- d[k] = v, by values: what stands at a afterwards -/
theorem dict_put (hu : X.A.units + 16 < cLine) {Hs H : Hp} {x d : D} {u v : V} {a : Addr} {ks ds : List D} (s : Same Hs H) (hx : Rep (gx X) Hs x u) (rd : Rep (gx X) Hs d v) (hk : keyOk x = true) (hs : sort1 x ks = true) (hz : ks.length < cap) (hsa : Hs a = none) (hsm : (a == sysModules) = false) (mu : Mut (H a))
    (hd : (∃ kvs, LeafAt (gx X) Hs H a ks ds kvs) ∨ ∃ xs, TupAt (gx X) Hs H a ks ds xs) :
    ∃ o : Nat → HO, (∀ n, OwnV (gx X) Hs (upd H a (o n)) (.dct .own (storeD x d ks ds).1 (storeD x d ks ds).2) (.ref a)) ∧
      ∀ (pins : List (Addr × Obj)) (σ : L2.St) (s' : Shared) (iv w : Value) (Q : Unit → Shared → Prop), Inv X pins σ H s' → RelV u iv → RelV v w → (∀ n s2, Inv X pins σ (upd H a (o n)) s2 → Q () s2) → wpAny (model X.prog X.w) X.A (setItem (.ref a) iv w) Q X.xe s' := by
  rcases dict_case s hx hk hs hd with ⟨l, kvs, B⟩ | ⟨n, b, xs, B⟩
  · have kl : ks.length = kvs.length := by simpa using congrArg List.length B.keys
    have el := (look_leaf B.leaf B.keys B.reps).1
    refine ⟨fun ep => leafO (gx X) a ep (putK kvs l v), fun ep => ?_, fun pins σ s' iv w Q I r1 r2 h => ?_⟩
    · have main : LeafAt (gx X) Hs (upd H a (leafO (gx X) a ep (putK kvs l v))) a (storeD x d ks ds).1 (storeD x d ks ds).2 (putK kvs l v) := by
        unfold storeD
        by_cases q : (lookD x ks ds).isSome = true
        · rw [if_pos q]
          rw [el] at q
          have ep2 : putK kvs l v = kvs.map fun kv => if kv.1 = l then (kv.1, v) else kv := by
            unfold putK; rw [valV_any, if_pos q]
          have ek : kvs.map (fun p => some p.1) = (putK kvs l v).map (fun p => some p.1) := by
            rw [ep2, List.map_map]
            refine List.map_congr_left fun p _ => ?_
            simp only [Function.comp_apply]
            split <;> rfl
          refine ⟨⟨ep, upd_same⟩, by rw [← ek]; exact B.keys, ?_, ?_⟩
          · rw [ep2, List.length_map, ← kl, sizeCap]; omega
          · rw [ep2]; exact store_leaf B.leaf rd B.keys B.reps
        · rw [if_neg q]
          rw [el] at q
          have hn : valV kvs l = none := by
            cases z : valV kvs l with
            | none => rfl
            | some y => rw [z] at q; exact absurd rfl q
          rw [putK_new v hn]
          refine ⟨⟨ep, upd_same⟩, ?_, ?_, ?_⟩
          · rw [List.map_append, List.map_append, B.keys]
            show _ ++ [leafOf x] = _
            rw [B.leaf]
            rfl
          · rw [List.length_append, ← kl, sizeCap]; show ks.length + 1 ≤ cap; omega
          · rw [List.map_append]; exact B.reps.append (.cons rd .nil)
      exact main.own hsa hsm
    · obtain ⟨vs, kv, ob⟩ := B.ob _ _ _ I
      have hl : vs.length ≤ sizeLine := by rw [← kv.length]; exact B.le
      refine wpAny_setItem_pairs (knd := numKind X.prog X.w) (hsz := hl) (leaf_is hx B.leaf r1) ob fun h' ob' hs' => ?_
      have he : ∃ q, h'.get? a = some q := let ⟨q, _, _, hq, _⟩ := ob'; ⟨q, hq⟩
      obtain ⟨ep, oa⟩ := ob'.dictAt
      exact h ep _ (d_write I mu hs' he ⟨⟨_, kv.put l r2, oa⟩, he, fun h1 h2 ⟨vs, k1, o, es, g1, g2⟩ st => ⟨vs, k1, o, es, st o g1, g2⟩⟩)
  · have kl : ks.length = xs.length := by simpa using congrArg List.length B.keys
    have el := (look_tup B.key B.keys B.reps).1
    have er := B.ref
    subst er
    have hroom : (nestedKind X.prog X.w).room X.A.in1 := by show X.A.units + 1 + 8 < cLine; omega
    by_cases q : (lookD x ks ds).isSome = true
    · refine ⟨fun ep => tupO (gx X) a ep (xs.map (putX n v)), fun ep => ?_, fun pins σ s' iv w Q I r1 r2 h => ?_⟩
      · have main : TupAt (gx X) Hs (upd H a (tupO (gx X) a ep (xs.map (putX n v)))) a (storeD x d ks ds).1 (storeD x d ks ds).2 (xs.map (putX n v)) := by
          unfold storeD
          rw [if_pos q]
          refine ⟨⟨ep, upd_same⟩, ?_, by rw [List.length_map]; exact B.le, ?_, ?_, ?_, store_tup B.key rd B.keys B.reps⟩
          · rw [List.map_map, B.keys]
            exact List.map_congr_left fun p _ => by simp only [Function.comp_apply, (putX_fst n v p).1]
          · rw [List.map_map]
            have : (fun p => p.1) ∘ putX n v = fun p : NestedKey × Addr × V => p.1 := funext fun p => (putX_fst n v p).1
            rw [this]; exact B.nd
          · intro p hp
            obtain ⟨p0, h0, rfl⟩ := List.mem_map.mp hp
            rw [(putX_fst n v p0).1]; exact B.deps p0 h0
          · rw [List.map_map]
            have : (fun p => V.ref p.2.1) ∘ putX n v = fun p : NestedKey × Addr × V => V.ref p.2.1 := funext fun p => by simp only [Function.comp_apply, (putX_fst n v p).2]
            rw [this]; exact B.refs
        exact main.own hsa hsm
      · cases r1
        obtain ⟨ys, rel, ob⟩ := B.ob _ _ _ I
        have hl : ys.length ≤ sizeLine := by rw [← rel.length]; exact B.le
        refine wpAny_setItem_heap (knd := nestedKind X.prog X.w) (hsz := hl) hroom ⟨rep_nested I s _ _ _ _ hx B.key rfl, B.dep⟩ ob fun h' ob' hs' => ?_
        have es : storedH ys n b w = ys.map (putAt n w) := by
          have ei := (rel.at_ n).isSome_eq
          rw [Option.isSome_map, ← el, q] at ei
          unfold storedH
          rw [if_pos ei.symm]
        rw [es] at ob'
        obtain ⟨o, es', ep, g1, g2, g3, g4, _⟩ := ob'
        exact h ep _ (d_write I mu hs' ⟨o, g1⟩ ⟨⟨es', _, ⟨o, g1, g2, g3⟩, g4, rel.put r2⟩, ⟨o, g1⟩, fun h1 h2 ⟨es, ys, ⟨o, k1, k2⟩, k3⟩ st => ⟨es, ys, ⟨o, st o k1, k2⟩, k3⟩⟩)
    · have hn : atV xs n = none := by
        cases z : atV xs n with
        | none => rfl
        | some y => rw [el, z] at q; exact absurd rfl q
      refine ⟨fun ep => tupO (gx X) a ep (xs ++ [(n, b, v)]), fun ep => ?_, fun pins σ s' iv w Q I r1 r2 h => ?_⟩
      · have nm : n ∉ xs.map (·.1) := fun m => by
          obtain ⟨p, hp, ep2⟩ := List.mem_map.mp m
          unfold atV at hn
          rw [Option.map_eq_none_iff, List.find?_eq_none] at hn
          exact hn p hp (decide_eq_true ep2)
        have main : TupAt (gx X) Hs (upd H a (tupO (gx X) a ep (xs ++ [(n, b, v)]))) a (storeD x d ks ds).1 (storeD x d ks ds).2 (xs ++ [(n, b, v)]) := by
          unfold storeD
          rw [if_neg q]
          refine ⟨⟨ep, upd_same⟩, ?_, ?_, ?_, ?_, ?_, ?_⟩
          · rw [List.map_append, List.map_append, B.keys]
            show _ ++ [keyOf x] = _
            rw [B.key]
            rfl
          · rw [List.length_append, ← kl, sizeCap]; show ks.length + 1 ≤ cap; omega
          · rw [List.map_append]; exact nd_snoc B.nd nm
          · intro p hp
            rcases List.mem_append.mp hp with z | z
            · exact B.deps p z
            · rw [List.mem_singleton.mp z]; exact B.dep
          · rw [List.map_append]; exact B.refs.append (.cons hx .nil)
          · rw [List.map_append]; exact B.reps.append (.cons rd .nil)
        exact main.own hsa hsm
      · cases r1
        obtain ⟨ys, rel, ob⟩ := B.ob _ _ _ I
        have hl : ys.length ≤ sizeLine := by rw [← rel.length]; exact B.le
        refine wpAny_setItem_heap (knd := nestedKind X.prog X.w) (hsz := hl) hroom ⟨rep_nested I s _ _ _ _ hx B.key rfl, B.dep⟩ ob fun h' ob' hs' => ?_
        have es : storedH ys n b w = ys ++ [(n, b, w)] := by
          have ei := (rel.at_ n).isSome_eq
          rw [Option.isSome_map, hn] at ei
          unfold storedH
          rw [if_neg (by rw [← ei]; exact Bool.false_ne_true)]
        rw [es] at ob'
        obtain ⟨o, es', ep, g1, g2, g3, g4, _⟩ := ob'
        exact h ep _ (d_write I mu hs' ⟨o, g1⟩ ⟨⟨es', _, ⟨o, g1, g2, g3⟩, g4, rel.snoc r2⟩, ⟨o, g1⟩, fun h1 h2 ⟨es, ys, ⟨o, k1, k2⟩, k3⟩ st => ⟨es, ys, ⟨o, st o k1, k2⟩, k3⟩⟩)
end
end Sim

/-! Sim, part 10: x[k] = v, displays of dicts, len, isinstance, list, tuple, min, max, abs. -/
namespace Sim
open PySem PySem.Spec PyProof.Rows L2

section
variable {X : Cx} {S : Sc} {e : Expr} {x : Str} {pos p : Pos}
def WSet (X : Cx) : TSet := fun o i v H Q => ∃ t, PSet X t ∧ t o i v H Q
theorem setW : PSet X (WSet X) := fun pins s σ H o i v ov iv u Q I ro ri rv ⟨_, h, q⟩ => h pins s σ H o i v ov iv u Q I ro ri rv q
def stored (c k d : D) : Option D := match c with
  | .lst .own ds => (setIxD ds k d).map fun ds' => .lst .own ds'
  | .dct .own ks ds => if keyOk k = true ∧ sort1 k ks = true ∧ ks.length < cap then some (.dct .own (storeD k d ks ds).1 (storeD k d ks ds).2) else none
  | _ => none
def putDM (i : Nat) (mk me : EM) : SM := fun ρ => (me ρ).bind fun d ρ1 => match ρ1[i]? with
  | some (some _) => (mk ρ1).bind fun k ρ2 => match ρ2[i]? with
    | some (some c) => match stored c k d with
      | some c' => .ok .nxt (ρ2.set i (some c'))
      | none => .fail
    | _ => .fail
  | _ => .fail
theorem mut_ext {G : Gx} {a : Addr} {ep : Nat} {kvs : List (Leaf × V)} : Mut (some (leafO G a ep kvs)) := True.intro
theorem sim_putD (i : Nat) {ix : Expr} {mk me : EM} {px : Pos} (hu : X.A.units + 16 < cLine) (hk : SimV X S ix mk) (he : SimV X S e me) (hN : X.N[i]? = some x := by rfl) (hv : Vis X.env.scope x := by first | exact Or.inl rfl | exact Or.inr (Or.inl rfl) | exact Or.inr (Or.inr rfl))
    (hd : (x == ("__debug__" : Str)) = false := by decide) (hcd : (x == ("__classdict__" : Str)) = false := by decide)
    (hs : swapsWithSole [.Subscript (.Name x px) ix p] e pos.line X.env = pure false := by rfl) (hw : swappedStores [.Subscript (.Name x px) ix p] e X.env = pure none := by rfl)
    (h1 : (assignEach [.Subscript (.Name x px) ix p] X.env).map (·.2) = [assign (.Subscript (.Name x px) ix p) X.env] := by rfl)
    (ha : ∀ v, assign (.Subscript (.Name x px) ix p) X.env v = (do
      let ov ← holding [v] (eval (.Name x px) X.env)
      let iv ← holding [v, ov] (eval ix X.env)
      standAt p
      holding [v, ov, iv] (setItem ov iv v)
      release [v, ov, iv] []) := by intro _; rfl) : SimS X S (.Assign [.Subscript (.Name x px) ix p] e pos) (putDM i mk me) := by
  refine ⟨fun {ρ f ρ'} hm {F σ Hs H} rl {E} q => ?_⟩
  obtain ⟨d, ρ1, e1, hm⟩ := Res.bind_ok hm
  split at hm
  · rename_i d1 h1'
    obtain ⟨k, ρ2, e2, hm⟩ := Res.bind_ok hm
    split at hm
    · rename_i c h2
      split at hm
      · rename_i c' h3
        cases hm
        refine ⟨_, ps_asg (peW e) (pg_sub (peW _) (peW ix) setW ha) hs hw h1, he.run e1 rl fun w Hs1 H1 n1 r1 => ?_⟩
        obtain ⟨v, ev, _⟩ := n1.rel.slot i _ h1'
        refine ⟨_, pe_var hN hv hd hcd, v, ev, hk.run e2 n1.rel fun z Hs2 H2 n2 r2 => ?_⟩
        obtain ⟨v', ev', sv⟩ := n2.rel.slot i _ h2
        rw [ev] at ev'; cases ev'
        have n12 := n1.trans n2
        have rd := Rep.mono n2.same _ _ r1
        unfold stored at h3
        split at h3
        · obtain ⟨ds', h4, rfl⟩ := Option.map_eq_some_iff.mp h3
          unfold setIxD at h4
          split at h4
          · obtain ⟨j, ej, rfl⟩ := Option.map_eq_some_iff.mp h4
            obtain ⟨a, vs, e, hn, ha', rs⟩ := sv.own rfl
            cases e
            refine ⟨_, set_list, a, vs, _, j, rfl, r2, ha', by rw [← rs.length]; exact ej, ?_⟩
            exact q σ Hs2 _ (n12.trans (n2.rel.write h2 rfl ev _ rfl ⟨_, _, rfl, hn, upd_same, rs.set rd j⟩))
          · cases h4
        · split at h3
          · rename_i ks ds hc
            cases h3
            obtain ⟨a, ea, hsm, hdd⟩ := sv.dct n2.rel.sub
            subst ea
            have hn : Hs2 a = none := by
              obtain ⟨b, o, eb, hn, _⟩ := (sv.own rfl).ref
              cases eb; exact hn
            have mu : Mut (H2 a) := by
              rcases hdd with ⟨kvs, h⟩ | ⟨xs, h⟩
              · obtain ⟨ep, h1⟩ := h.at_
                rw [h1]; exact True.intro
              · obtain ⟨ep, h1⟩ := h.at_
                rw [h1]; exact True.intro
            obtain ⟨o, own, put⟩ := dict_put hu n2.rel.sub r2 rd hc.1 hc.2.1 hc.2.2 hn hsm mu hdd
            refine ⟨fun o' i' v' H' Q => o' = .ref a ∧ i' = z ∧ v' = w ∧ H' = H2 ∧ ∀ n, Q (upd H2 a (o n)), fun pins s σ' H' o' i' v' ov iv u Q I ro ri rv ⟨g1, g2, g3, g4, g5⟩ => ?_, rfl, rfl, rfl, rfl, ?_⟩
            · subst g1 g2 g3 g4
              cases ro
              exact put pins σ' s iv u _ I ri rv fun n s2 I2 => ⟨_, I2, g5 n⟩
            · exact fun n => q σ Hs2 _ (n12.trans (n2.rel.write h2 rfl ev _ rfl (own n)))
          · cases h3
        · cases h3
      · cases hm
    · cases hm
  · cases hm

/-! ### {}, {k: v} -/
theorem leaf_ok {P : Program} {w : World} {K : PySem.W.Frag} {H : Hp} {h : Heap} {a : Addr} {kvs : List (Leaf × V)} {vs : List (Leaf × Value)} (k : KV kvs vs) (d : h.DictOf (numKind P w) a vs) : ∃ ep, ObjOk P w H h a (leafO ⟨P, w, K⟩ a ep kvs) := by
  have he : ∃ o, h.get? a = some o := let ⟨o, _, _, ho, _⟩ := d; ⟨o, ho⟩
  obtain ⟨ep, d⟩ := d.dictAt
  exact ⟨ep, ⟨vs, k, d⟩, he, fun h1 h2 ⟨vs, k1, o, es, g1, g2⟩ st => ⟨vs, k1, o, es, st o g1, g2⟩⟩
theorem tup_ok {P : Program} {w : World} {K : PySem.W.Frag} {H : Hp} {h : Heap} {a : Addr} {xs : List (NestedKey × Addr × V)} {ys : List (NestedKey × Addr × Value)} (k : TupRel xs ys) (d : h.DictOfH (nestedKind P w) a ys) : ∃ ep, ObjOk P w H h a (tupO ⟨P, w, K⟩ a ep xs) := by
  obtain ⟨o, es, ep, ho, hc, hd, he, _⟩ := d
  exact ⟨ep, ⟨es, ys, ⟨o, ho, hc, hd⟩, he, k⟩, ⟨o, ho⟩, fun h1 h2 ⟨es, ys, ⟨o, k1, k2⟩, k3⟩ st => ⟨es, ys, ⟨o, st o k1, k2⟩, k3⟩⟩
theorem pe_new : PE X (.Dict [] [] pos) (fun _ H Q => ∀ p, H p = none → (p == sysModules) = false → ∀ ep, Q (.ref p) (upd H p (leafO (gx X) p ep []))) := ⟨fun pins s σ H Q I h =>
  let ⟨ep, ok⟩ := leaf_ok (H := upd H s.heap.objs.size (.lst [])) (K := X.K) .nil (Heap.DictOf.new s.heap)
  wpAny_Dict_empty ⟨.ref s.heap.objs.size, _, I.laid (a := s.heap.objs.size) (o := leafO (gx X) s.heap.objs.size ep []) (t' := s.toks) (fun _ _ q => Heap.get?_push_of_some _ q) (Nat.le_refl _) ok, rfl,
    h _ (I.hok.fresh (Nat.le_refl _)) (beq_eq_false_iff_ne.mpr (Ne.symm (Nat.ne_of_lt I.big))) ep⟩⟩
def newD : EM := fun ρ => .ok (.dct .own [] []) ρ
theorem sim_newD : SimE X S (.Dict [] [] pos) newD := by
  refine ⟨fun {ρ d ρ'} hm {F σ Hs H} rl {Q} q => ?_⟩
  cases hm
  refine ⟨_, pe_new, fun a ha hsm ep => q _ _ _ (rl.newOwn ha _) (.ofOwn ⟨a, rfl, rl.sub.free ha, hsm, .inl ⟨ep, [], upd_same, rfl, Nat.zero_le _, rfl⟩⟩ rfl) fun _ b e => ?_⟩
  cases e
  exact ⟨ha, rl.notOwn ha⟩
/-- one pair, its key carried by value -/
theorem pe_dispL {k v : Expr} {tk tv : TE} (hk : PE X k tk) (hv : PE X v tv) : PE X (.Dict [some k] [v] pos) (fun σ H Q => ∀ p ep0, H p = none → (p == sysModules) = false → tk σ (upd H p (leafO (gx X) p ep0 [])) fun x H1 => tv σ H1 fun y H2 =>
    H2 p = some (leafO (gx X) p ep0 []) ∧ ∃ l, (∀ u, RelV x u → numIs l u = true) ∧ ∀ ep, Q (.ref p) (upd H2 p (leafO (gx X) p ep [(l, y)]))) := by
  refine ⟨fun pins s σ H Q I q => ?_⟩
  have hn := I.hok.fresh (Nat.le_refl s.heap.objs.size)
  obtain ⟨ep0, ok0⟩ := leaf_ok (H := upd H s.heap.objs.size (.lst [])) (K := X.K) .nil (Heap.DictOf.new (knd := numKind X.prog X.w) s.heap)
  have I1 := I.laid (a := s.heap.objs.size) (o := leafO (gx X) s.heap.objs.size ep0 []) (h' := s.heap.push { cls := .type "dict", data := .dict #[] }) (t' := s.toks) (fun _ _ q => Heap.get?_push_of_some _ q) (Nat.le_refl _) ok0
  refine wpAny_Dict_walk (knd := numKind X.prog X.w) rfl rfl (fun z => by cases z) (show 1 ≤ 15 by decide) (pairTrees_cons_walk (thn (hk.run pins _ σ _ _ I1 (q _ ep0 hn (beq_eq_false_iff_ne.mpr (Ne.symm (Nat.ne_of_lt I.big))))) fun u s1 ⟨x, H1, J1, rx, q1⟩ => thn (hv.run pins s1 σ H1 _ J1 q1) fun w2 s2 ⟨y, H2, J2, ry, hp, l, hl, q2⟩ => pairTrees_nil_walk ?_))
  obtain ⟨vs, kv, ob⟩ := leaf_obj J2 ⟨ep0, hp⟩
  cases kv
  refine ⟨[(l, w2)], by exact ⟨hl u rx, rfl, True.intro⟩, ob, fun h' ob' hs' => ?_⟩
  obtain ⟨ep2, ok⟩ := leaf_ok (K := X.K) (H := H2) (kvs := [(l, y)]) (.cons ⟨rfl, ry⟩ .nil) ob'
  exact ⟨.ref s.heap.objs.size, _, d_write J2 (by rw [hp]; exact True.intro) hs' (let ⟨q, _, _, hq, _⟩ := ob'; ⟨q, hq⟩) (show ObjOk X.prog X.w (upd H2 _ (leafO (gx X) _ ep2 [(l, y)])) h' _ (leafO (gx X) _ ep2 [(l, y)]) from ok), rfl, q2 ep2⟩
/-- .. a tuple -/
theorem pe_dispT {k v : Expr} {tk tv : TE} (hu : X.A.units + 16 < cLine) (hk : PE X k tk) (hv : PE X v tv) : PE X (.Dict [some k] [v] pos) (fun σ H Q => ∀ p ep0, H p = none → (p == sysModules) = false → tk σ (upd H p (leafO (gx X) p ep0 [])) fun x H1 => tv σ H1 fun y H2 =>
    H2 p = some (leafO (gx X) p ep0 []) ∧ ∃ n b, x = .ref b ∧ n.depth ≤ 8 ∧ (∀ pins σ s, Inv X pins σ H2 s → NestedIs s.heap n (.ref b)) ∧ ∀ ep, Q (.ref p) (upd H2 p (tupO (gx X) p ep [(n, b, y)]))) := by
  refine ⟨fun pins s σ H Q I q => ?_⟩
  have hn := I.hok.fresh (Nat.le_refl s.heap.objs.size)
  obtain ⟨ep0, ok0⟩ := leaf_ok (H := upd H s.heap.objs.size (.lst [])) (K := X.K) .nil (Heap.DictOf.new (knd := numKind X.prog X.w) s.heap)
  have I1 := I.laid (a := s.heap.objs.size) (o := leafO (gx X) s.heap.objs.size ep0 []) (h' := s.heap.push { cls := .type "dict", data := .dict #[] }) (t' := s.toks) (fun _ _ q => Heap.get?_push_of_some _ q) (Nat.le_refl _) ok0
  have hroom : (nestedKind X.prog X.w).room X.A := by show X.A.units + 8 < cLine; omega
  rw [arm_eval_Dict, zip_pairTrees [some k] [v] X.env pos rfl rfl, dictDisplay_pairs _ (by simp [pairTrees]) (by simp [pairTrees])]
  refine wpAny_bind (wpAny_standAt (wpAny_bind (wpAny_subDictH (knd := nestedKind X.prog X.w) (Q := fun d s' => wpAny (model X.prog X.w) X.A (pure (Value.ref d)) (EP X pins σ Q) X.xe s') hroom (by simp [pairTrees])
    (pairTrees_cons_walk (thn (hk.run pins _ σ _ _ I1 (q _ ep0 hn (beq_eq_false_iff_ne.mpr (Ne.symm (Nat.ne_of_lt I.big))))) fun u s1 ⟨x, H1, J1, rx, q1⟩ => thn (hv.run pins s1 σ H1 _ J1 q1) fun w2 s2 ⟨y, H2, J2, ry, hp, n, b, eb, hdep, hnest, q2⟩ => pairTrees_nil_walk ?_)))))
  subst eb
  cases rx
  obtain ⟨vs, kv, ob⟩ := leaf_obj J2 ⟨ep0, hp⟩
  cases kv
  obtain ⟨es, ep, ⟨o, ho, hc, hd⟩, he⟩ := empty_leaf ob
  refine ⟨[(n, b, w2)], ⟨rfl, rfl, ⟨hnest _ _ _ J2, hdep⟩, True.intro⟩, ⟨o, es, ep, ho, hc, hd, by simpa using he, fun _ h => by simp at h, List.nodup_nil⟩, fun h' tk ob' hs' => wpAny_pure ?_⟩
  obtain ⟨ep2, ok⟩ := tup_ok (K := X.K) (H := H2) (xs := [(n, b, y)]) (.cons ⟨rfl, rfl, ry⟩ .nil) ob'
  exact ⟨.ref s.heap.objs.size, _, d_write J2 (by rw [hp]; exact True.intro) hs' (let ⟨q, _, _, hq, _⟩ := ob'; ⟨q, hq⟩) (show ObjOk X.prog X.w (upd H2 _ (tupO (gx X) _ ep2 [(n, b, y)])) h' _ (tupO (gx X) _ ep2 [(n, b, y)]) from ok), rfl, q2 ep2⟩
def dispM (mk mv : EM) : EM := fun ρ => (mk ρ).bind fun k ρ1 => (mv ρ1).bind fun d ρ2 => if keyOk k = true then .ok (.dct .own [k] [d]) ρ2 else .fail
theorem sim_disp {k v : Expr} {mk mv : EM} (hu : X.A.units + 16 < cLine) (hk : SimV X S k mk) (hv : SimV X S v mv) : SimE X S (.Dict [some k] [v] pos) (dispM mk mv) := by
  refine ⟨fun {ρ d ρ'} hm {F σ Hs H} rl {Q} q => ?_⟩
  obtain ⟨kd, ρ1, e1, hm⟩ := Res.bind_ok hm
  obtain ⟨vd, ρ2, e2, hm⟩ := Res.bind_ok hm
  split at hm
  · rename_i ok
    cases hm
    unfold keyOk at ok
    rw [Bool.and_eq_true] at ok
    obtain ⟨hbl, ok⟩ := ok
    split at ok
    · rename_i n hn
      have hdep : n.depth ≤ 8 := of_decide_eq_true ok
      -- the new dict stands while key and value are reckoned
      have step : ∀ {a : Addr} {ep0 : Nat}, H a = none → (a == sysModules) = false → ∀ {R : V → V → Hp → Prop}, (∀ x y Hs2 H2, Nxt (gx X) S F ρ σ Hs H ρ' σ Hs2 H2 → H2 a = some (leafO (gx X) a ep0 []) → Hs2 a = none → ¬ Own ρ' σ a → Rep (gx X) Hs2 kd x → Rep (gx X) Hs2 vd y → R x y H2) →
          WE X k σ (upd H a (leafO (gx X) a ep0 [])) fun x H1 => WE X v σ H1 fun y H2 => R x y H2 := fun {a ep0} ha hsm {R} h => by
        have n0 := rl.newOwn ha (leafO (gx X) a ep0 [])
        refine hk.run e1 n0.rel fun x Hs1 H1 n1 r1 => hv.run e2 n1.rel fun y Hs2 H2 n2 r2 => ?_
        have t1 := n1.tmp (o := leafO (gx X) a ep0 []) upd_same (rl.sub.free ha) (rl.notOwn ha)
        have t2 := n2.tmp t1.1 t1.2.1 t1.2.2
        exact h x y Hs2 H2 ((n0.trans n1).trans n2) t2.1 t2.2.1 t2.2.2 (Rep.mono n2.same _ _ r1) r2
      cases hl : leafOf kd with
      | some l =>
        refine ⟨_, pe_dispL (peW k) (peW v), fun a ep0 ha hsm => step ha hsm fun x y Hs2 H2 n2 hp h0 hno r1 r2 => ⟨hp, l, fun u ru => leaf_is r1 hl ru, ?_⟩⟩
        intro ep3
        refine q _ Hs2 _ (n2.tmpWrite ha h0 hno _) (.ofOwn ⟨a, rfl, h0, hsm, .inl ⟨ep3, _, upd_same, ?_, by rw [sizeCap]; show 1 ≤ cap; decide, .cons r2 .nil⟩⟩ rfl) fun _ b e => ?_
        · show [leafOf kd] = [some l]
          rw [hl]
        · cases e; exact ⟨ha, hno⟩
      | none =>
        obtain ⟨ts, rfl⟩ := keyTup hbl hn hl
        refine ⟨_, pe_dispT hu (peW k) (peW v), fun a ep0 ha hsm => step ha hsm fun x y Hs2 H2 n2 hp h0 hno r1 r2 => ?_⟩
        obtain ⟨b, bs, rfl, _⟩ := id r1
        refine ⟨hp, n, b, rfl, hdep, fun pins σ s I => rep_nested I n2.rel.sub _ _ _ _ r1 hn rfl, ?_⟩
        intro ep3
        refine q _ Hs2 _ (n2.tmpWrite ha h0 hno _) (.ofOwn ⟨a, rfl, h0, hsm, .inr ⟨ep3, _, upd_same, ?_, by rw [sizeCap]; show 1 ≤ cap; decide, by simp, fun p hp => ?_, .cons r1 .nil, .cons r2 .nil⟩⟩ rfl) fun _ c e => ?_
        · show [keyOf (.tup ts)] = [some n]
          rw [hn]
        · rw [List.mem_singleton.mp hp]; exact hdep
        · cases e; exact ⟨ha, hno⟩
    · cases ok
  · cases hm
end
end Sim

/-! Sim, part 11: built-ins by data; the end of a law. -/
namespace Sim
open PySem PySem.Spec PyProof.Rows L2

section
variable {X : Cx}
/-! ### len -/
def lenD : List D → Option D
  | [.str z] => if z.length ≤ cap then some (.int z.length) else none
  | [.tup ds] => some (.int ds.length)
  | [.lst _ ds] => some (.int ds.length)
  | [.scr ns] => some (.int ns.length)
  | [.dct _ ks _] => some (.int ks.length)
  | _ => none
theorem cv_len : CallV X (.builtin "len") lenD := by
  intro ds d e Hs H vs Q s r q
  unfold lenD at e
  split at e
  · split at e
    · rename_i z hz
      cases e
      cases r with
      | cons r1 rs =>
        cases rs
        exact ⟨_, call_len_str, _, by rw [r1.str], by rw [sizeCap]; exact hz, q _ Hs H (.refl s) rfl⟩
    · cases e
  · cases e
    cases r with
    | cons r1 rs =>
      cases rs
      obtain ⟨a, ws, rfl, t, rw'⟩ := r1.tup
      exact ⟨_, call_len_seq, a, ws, rfl, .inr (Same.seqT s t), q _ Hs H (.refl s) (by rw [← rw'.length]; rfl)⟩
  · cases e
    cases r with
    | cons r1 rs =>
      cases rs
      obtain ⟨a, ws, rfl, t, rw'⟩ := r1.lst s
      exact ⟨_, call_len_seq, a, ws, rfl, .inl (.of t), q _ Hs H (.refl s) (by rw [← rw'.length]; rfl)⟩
  · cases e
    cases r with
    | cons r1 rs =>
      cases rs
      obtain ⟨a, rfl, t⟩ := r1
      exact ⟨_, call_len_seq, a, _, rfl, .inl (s.seq t), q _ Hs H (.refl s) (by rw [List.length_map]; rfl)⟩
  · cases e
    cases r with
    | cons r1 rs =>
      cases rs
      obtain ⟨a, rfl, hsm, hd⟩ := r1.dct s
      rcases hd with ⟨kvs, hd⟩ | ⟨xs, hd⟩
      · refine ⟨fun xs H' Q => xs = [.ref a] ∧ H' = H ∧ Q (.int kvs.length) H, fun pins s' σ H' xs us Q I r2 ⟨g1, g2, g3⟩ => ?_, rfl, rfl, q _ Hs H (.refl s) ?_⟩
        · subst g1 g2
          obtain ⟨u, rfl, ru⟩ := vals1 r2
          cases ru
          obtain ⟨vs, kv, ob⟩ := leaf_obj I hd.at_
          have hl := kv.length
          have hz := hd.le
          refine call_len_dict hsm ob (by rw [← hl]; rw [sizeLine_eq] at hz; omega) ?_
          rw [← hl]
          exact ⟨.int kvs.length, H', I.tok _, ⟨_, rfl⟩, g3⟩
        · have := congrArg List.length hd.keys
          simp only [List.length_map] at this
          rw [this]; rfl
      · refine ⟨fun ys H' Q => ys = [.ref a] ∧ H' = H ∧ Q (.int xs.length) H, fun pins s' σ H' ys us Q I r2 ⟨g1, g2, g3⟩ => ?_, rfl, rfl, q _ Hs H (.refl s) ?_⟩
        · subst g1 g2
          obtain ⟨u, rfl, ru⟩ := vals1 r2
          cases ru
          obtain ⟨vs, rel, ob⟩ := tup_obj I s hd
          have hl := rel.length
          have hz := hd.le
          refine call_len_dictH hsm ob (by rw [← hl]; rw [sizeLine_eq] at hz; omega) ?_
          rw [← hl]
          exact ⟨.int xs.length, H', I.tok _, ⟨_, rfl⟩, g3⟩
        · have := congrArg List.length hd.keys
          simp only [List.length_map] at this
          rw [this]; rfl
  · cases e

/-! ### tuple(x), list(x) -/
def tupleD : List D → Option D
  | [.tup ds] => some (.tup ds)
  | [.lst _ ds] => some (.tup ds)
  | _ => none
theorem cv_tuple : CallV X (.type "tuple") tupleD := by
  intro ds d e Hs H vs Q s r q
  unfold tupleD at e
  split at e
  · cases e
    cases r with
    | cons r1 rs =>
      cases rs
      obtain ⟨a, ws, rfl, t, rw'⟩ := r1.tup
      exact ⟨_, call_tuple_of, a, ws, rfl, .inr ⟨Same.seqT s t, q _ Hs H (.refl s) ⟨a, ws, rfl, t, rw'⟩⟩⟩
  · cases e
    cases r with
    | cons r1 rs =>
      cases rs
      obtain ⟨a, ws, rfl, t, rw'⟩ := r1.lst s
      exact ⟨_, call_tuple_of, a, ws, rfl, .inl ⟨.of t, fun p hp => q _ _ _ (.new s hp _) ⟨p, ws, rfl, .inl (.inl upd_same), RepL.mono (same_new (s.free hp)) _ _ rw'⟩⟩⟩
  · cases e
theorem Ext.newOwn {Hs H : Hp} {a : Addr} (s : Same Hs H) (hn : H a = none) (o : HO) : Ext Hs H Hs (upd H a o) := by
  refine ⟨.refl _, same_new hn, fun b u q => ?_, fun b h => .inl h⟩
  rw [upd_ne (ne_of_none (s b u q) hn)]; exact s b u q
def listD : List D → Option D
  | [.tup ds] => some (.lst .own ds)
  | [.lst _ ds] => some (.lst .own ds)
  | [.scr ns] => some (.lst .own (ns.map .int))
  | _ => none
theorem cs_list : CallS X (.type "list") listD := by
  intro ds d e Hs H vs Q s r q
  have fin : ∀ {a : Addr} {ws : List V} {es : List D}, (SqL X.K H a ws ∨ SqT X.K H a ws) → RepL (gx X) Hs es ws → d = .lst .own es → vs = [.ref a] → WCall X (.type "list") vs H Q := fun {a ws es} t rw' ed ev => by
    subst ed ev
    refine ⟨_, call_list_of, a, ws, rfl, t, fun p hp => q _ _ _ (.newOwn s hp _) (.ofOwn ⟨p, ws, rfl, s.free hp, upd_same, rw'⟩ rfl) fun _ b eb => ?_⟩
    cases eb; exact hp
  unfold listD at e
  split at e
  · cases e
    cases r with
    | cons r1 rs =>
      cases rs
      obtain ⟨a, ws, rfl, t, rw'⟩ := r1.tup
      exact fin (.inr (Same.seqT s t)) rw' rfl rfl
  · cases e
    cases r with
    | cons r1 rs =>
      cases rs
      obtain ⟨a, ws, rfl, t, rw'⟩ := r1.lst s
      exact fin (.inl (.of t)) rw' rfl rfl
  · cases e
    cases r with
    | cons r1 rs =>
      cases rs
      obtain ⟨a, rfl, t⟩ := r1
      exact fin (.inl (s.seq t)) (RepL.ints _) rfl rfl
  · cases e

/-! ### max, min, abs, int -/
def maxD : List D → Option D
  | [.int i, .int j] => some (.int (if j > i then j else i))
  | _ => none
def minD : List D → Option D
  | [.int i, .int j] => some (.int (if j < i then j else i))
  | _ => none
def absD : List D → Option D
  | [.int i] => some (.int (if i < 0 then -i else i))
  | _ => none
def intD : List D → Option D
  | [.int i] => some (.int i)
  | [.bl b] => some (.int (if b then 1 else 0))
  | _ => none
theorem cv_max (hc : X.calm = true) : CallV X (.builtin "max") maxD := by
  intro ds d e Hs H vs Q s r q
  unfold maxD at e
  split at e
  · cases e
    cases r with
    | cons r1 rs =>
      cases rs with
      | cons r2 rs =>
        cases rs
        exact ⟨_, call_max2 hc, _, _, by rw [r1.int, r2.int], q _ Hs H (.refl s) rfl⟩
  · cases e
theorem cv_min (hc : X.calm = true) : CallV X (.builtin "min") minD := by
  intro ds d e Hs H vs Q s r q
  unfold minD at e
  split at e
  · cases e
    cases r with
    | cons r1 rs =>
      cases rs with
      | cons r2 rs =>
        cases rs
        exact ⟨_, call_min2 hc, _, _, by rw [r1.int, r2.int], q _ Hs H (.refl s) rfl⟩
  · cases e
theorem cv_abs : CallV X (.builtin "abs") absD := by
  intro ds d e Hs H vs Q s r q
  unfold absD at e
  split at e
  · cases e
    cases r with
    | cons r1 rs =>
      cases rs
      exact ⟨_, call_abs, _, by rw [r1.int], q _ Hs H (.refl s) rfl⟩
  · cases e
theorem cv_int : CallV X (.type "int") intD := by
  intro ds d e Hs H vs Q s r q
  unfold intD at e
  split at e
  · cases e
    cases r with
    | cons r1 rs =>
      cases rs
      exact ⟨_, call_int1, .inl ⟨_, by rw [r1.int], q _ Hs H (.refl s) rfl⟩⟩
  · cases e
    cases r with
    | cons r1 rs =>
      cases rs
      exact ⟨_, call_int1, .inr ⟨_, by rw [r1.bl], q _ Hs H (.refl s) rfl⟩⟩
  · cases e

/-! ### isinstance(x, T), T a built-in class -/
def tyD : D → String
  | .non => "NoneType"
  | .bl _ => "bool"
  | .int _ => "int"
  | .str _ => "str"
  | .tup _ => "tuple"
  | .lst _ _ => "list"
  | .scr _ => "list"
  | .dct _ _ _ => "dict"
inductive Ty5 where
  | bool | int | str | tuple | list
def Ty5.name : Ty5 → String
  | .bool => "bool" | .int => "int" | .str => "str" | .tuple => "tuple" | .list => "list"
def isiD (T : Ty5) : D → Option Bool
  | .non => some false
  | .bl _ => some (match T with | .bool => true | .int => true | _ => false)
  | .int _ => some (match T with | .int => true | _ => false)
  | .str _ => some (match T with | .str => true | _ => false)
  | .tup _ => some (match T with | .tuple => true | _ => false)
  | .lst _ _ => some (match T with | .list => true | _ => false)
  | .scr _ => some (match T with | .list => true | _ => false)
  | .dct _ _ _ => none
theorem isi_kit (T : Ty5) (d : D) (b : Bool) (h : isiD T d = some b) : kitB (tyD d) T.name = some b := by
  have k1 : ∀ T : Ty5, kitB "NoneType" T.name = some false := fun T => by cases T <;> decide +kernel
  have k2 : ∀ T : Ty5, kitB "bool" T.name = some (match T with | .bool => true | .int => true | _ => false) := fun T => by cases T <;> decide +kernel
  have k3 : ∀ T : Ty5, kitB "int" T.name = some (match T with | .int => true | _ => false) := fun T => by cases T <;> decide +kernel
  have k4 : ∀ T : Ty5, kitB "str" T.name = some (match T with | .str => true | _ => false) := fun T => by cases T <;> decide +kernel
  have k5 : ∀ T : Ty5, kitB "tuple" T.name = some (match T with | .tuple => true | _ => false) := fun T => by cases T <;> decide +kernel
  have k6 : ∀ T : Ty5, kitB "list" T.name = some (match T with | .list => true | _ => false) := fun T => by cases T <;> decide +kernel
  cases d with
  | non => cases h; exact k1 T
  | bl _ => rw [← h]; exact k2 T
  | int _ => rw [← h]; exact k3 T
  | str _ => rw [← h]; exact k4 T
  | tup _ => rw [← h]; exact k5 T
  | lst _ _ => rw [← h]; exact k6 T
  | scr _ => rw [← h]; exact k6 T
  | dct _ _ _ => cases h
theorem isi_ty {Hs H : Hp} {d : D} {v : V} {b : Bool} {T : Ty5} (s : Same Hs H) (h : SlotV (gx X) Hs H d v) (hb : isiD T d = some b) : TyX X.K H v (.type (tyD d)) := by
  have tup : ∀ {a : Addr} {vs : List V}, SqT X.K H a vs → TyX X.K H (.ref a) (.type "tuple") := fun t => by
    rcases t with (t | ⟨o, t⟩) | ⟨o, its, n, t, hc, _⟩
    · exact .base (.tup t)
    · exact .fTuple t
    · exact .kTuple t hc
  cases d with
  | non => cases h.non; exact .base .non
  | bl b => cases h.bl; exact .base (.bl _)
  | int b => cases h.int; exact .base (.int _)
  | str b => cases h.str; exact .base (.str _)
  | tup ds => obtain ⟨a, vs, rfl, t, _⟩ := h.tup; exact tup (Same.seqT s t)
  | lst m ds => obtain ⟨a, vs, rfl, t, _⟩ := h.lst s; exact .base (.lst t)
  | scr ns =>
    obtain ⟨a, rfl, t⟩ := h
    rcases s.seq t with (t | ⟨o, t⟩) | ⟨o, its, n, t, hc, _⟩
    · exact .base (.lst t)
    · exact .base (.frz t)
    · exact .kList t hc
  | dct m ks ds => cases hb
variable {S : Sc} {e : Expr} {pos p p' : Pos}
def isiM (T : Ty5) (m : PM) : EM := fun ρ => (m ρ).bind fun q ρ1 => match res q ρ1 with
  | some d => match isiD T d with
    | some b => .ok (.bl b) ρ1
    | none => .fail
  | none => .fail
theorem sim_isi (T : Ty5) {me : PM} {y : Str} (he : SimP X S e me) (hm : X.mg "isinstance" = none) (hmy : X.mg y = none) (hy : bootBuiltins y = some (.type T.name)) (hg : Gl X "isinstance" := by rfl) (hgy : Gl X y := by rfl) (hny : y ≠ "__name__" := by decide) (hdy : (y == ("__debug__" : Str)) = false := by decide)
    (h1 : starEach [e, .Name y p'] X.env = (false, eval e X.env) :: starEach [.Name y p'] X.env := by rfl) (h2 : starEach [.Name y p'] X.env = (false, eval (.Name y p') X.env) :: starEach [] X.env := by rfl) (hpl : (backTo pos (starEach [.Name y p'] X.env)).any (·.1) = false := by rfl) :
    SimV X S (.Call (.Name "isinstance" p) [e, .Name y p'] [] pos) (isiM T me) := by
  refine ⟨fun {ρ d ρ'} h {F σ Hs H} rl {Q} q => ?_⟩
  obtain ⟨pd, ρ1, e1, h⟩ := Res.bind_ok h
  split at h
  · rename_i d0 hd
    split at h
    · rename_i b hb
      cases h
      refine ⟨_, pe_callB call_isi hg hm (by decide +kernel) (pa_cons (peW e) (pa_cons (pe_bltn (v := .ty T.name) hgy hmy hy rfl hny hdy) pa_nil h2) h1) (by decide) (by decide) h1 hpl, he.run e1 rl fun v Hs' H' n r => ?_⟩
      have sv := r.look n.rel hd
      exact ⟨v, .ty T.name, _, _, b, rfl, .ty _, isi_ty n.rel.sub sv hb, kit_ty (isi_kit T d0 b hb), q _ Hs' H' n rfl⟩
    · cases h
  · cases h
end

/-! ### the end of a law -/
/-- the promise that walk_of wants of the law's def, from what its mirror gives for every script -/
theorem law_end {P : Program} {w : World} {K : PySem.W.Frag} {S : Sc} {n : Nat} {f : Fn} (hio : S.io = []) (h : ∀ ns : List Int, ns.length ≤ 63 → ∃ fs, f [.scr ns] = some (.bl true, fs)) (H : Hp) (a : Addr) (ns : List Int) (hl : ns.length ≤ 63) (hS : SqL K H a (ns.map V.int)) :
    spF ⟨P, w, K⟩ S 1 n f [.ref a] H (fun v _ => v = .bl true) fun _ _ _ => False := by
  obtain ⟨fs, e⟩ := h ns hl
  refine ⟨rfl, [.scr ns], .bl true, fs, H, e, rel_sh (.refl _) (.cons ⟨a, rfl, hS⟩ .nil), fun v σ' Hs' H' ρ' n rv _ => ?_⟩
  exact rv.1.bl
end Sim

/-! Sim, part 12: what the printed walks lean on. -/
namespace Sim
open PySem PySem.Spec PyProof.Rows L2
/-- the bound of every while of the mirrors -/
def wf : Nat := 100000
theorem hu16 {k : Nat} {A : Around} (h : Room k A) : A.units + 16 < cLine := by have := h.units; omega
theorem none_ok {P : Program} {w : World} {K : PySem.W.Frag} {mg : Str → Option Value} {base : Heap} {f : Addr} {fd : FuncData} {ps : List Str} {G : Gx} {S : Sc} {np n : Nat} :
    FnOk P w K mg base CX0 0 f fd ps (spF G S np n (fun _ => none)) := by
  refine ⟨fun vs H Q E h => ?_, fun A outer s H args us vs Q E hr h0 hb hv h => ?_⟩
  · obtain ⟨_, _, _, _, _, e, _⟩ := h
    cases e
  · obtain ⟨_, _, _, _, _, e, _⟩ := h
    cases e
end Sim

/-! Sim, part 13: reading the mirrors; no program in sight. -/
namespace Sim
open PySem PySem.Spec PyProof.Rows L2
/-- it ends well, and then Q -/
def T {α : Type} (r : Res α) (Q : α → Rho → Prop) : Prop := match r with
  | .ok a ρ => Q a ρ
  | _ => False
/-- f answers, and then Q -/
def FT (f : Fn) (ds : List D) (Q : D → List D → Prop) : Prop := ∃ d fs, f ds = some (d, fs) ∧ Q d fs
section
variable {α β : Type} {Q : α → Rho → Prop} {ρ : Rho}
@[simp] theorem T_ok (a : α) : T (.ok a ρ) Q = Q a ρ := propext Iff.rfl
@[simp] theorem T_fail : T (.fail : Res α) Q = False := propext Iff.rfl
@[simp] theorem T_bind {r : Res β} {f : β → Rho → Res α} : T (r.bind f) Q = T r (fun b ρ1 => T (f b ρ1) Q) := by cases r <;> rfl
theorem T_if {c : Prop} [Decidable c] {a : Res α} : T (if c then a else .fail) Q = (c ∧ T a Q) := by
  by_cases h : c
  · rw [if_pos h]; exact propext ⟨fun x => ⟨h, x⟩, fun x => x.2⟩
  · rw [if_neg h]; exact propext ⟨fun x => x.elim, fun x => absurd x.1 h⟩
@[simp] theorem T_pureO {o : Option α} : T (pureO o ρ) Q = ∃ a, o = some a ∧ Q a ρ := by
  cases o with
  | none => exact propext ⟨fun x => x.elim, fun ⟨_, h, _⟩ => by cases h⟩
  | some a => exact propext ⟨fun x => ⟨a, rfl, x⟩, fun ⟨_, h, q⟩ => by cases h; exact q⟩
theorem T_mono {r : Res α} {Q' : α → Rho → Prop} (h : T r Q) (k : ∀ a ρ, Q a ρ → Q' a ρ) : T r Q' := by
  cases r with
  | ok a ρ => exact k _ _ h
  | fail => exact h
  | ex _ _ => exact h
theorem T_and {r : Res α} {Q' : α → Rho → Prop} (h : T r Q) (h' : T r Q') : T r (fun a ρ => Q a ρ ∧ Q' a ρ) := by
  cases r with
  | ok a ρ => exact ⟨h, h'⟩
  | fail => exact h
  | ex _ _ => exact h
end
theorem FT_mono {f : Fn} {ds : List D} {Q Q' : D → List D → Prop} (h : FT f ds Q) (k : ∀ a ρ, Q a ρ → Q' a ρ) : FT f ds Q' := by
  obtain ⟨d, fs, e, q⟩ := h
  exact ⟨d, fs, e, k _ _ q⟩
/-- for a def: what is asked of its body's end -/
def EndQ (io : List Nat) (Q : D → List D → Prop) : Flow → Rho → Prop := fun fl ρ => match fl with
  | .nxt => ∃ fs, lasts io ρ = some fs ∧ Q .non fs
  | .ret d => ∃ fs, lasts io ρ = some fs ∧ Q d fs
  | _ => False
theorem FT_def {n : Nat} {io : List Nat} {b : SM} {ds : List D} {Q : D → List D → Prop} (h : T (b (pad n ds)) (EndQ io Q)) : FT (defF n io b) ds Q := by
  unfold FT defF
  cases hb : b (pad n ds) with
  | fail => rw [hb] at h; exact h.elim
  | ex _ _ => rw [hb] at h; exact h.elim
  | ok f ρ =>
    rw [hb] at h
    cases f with
    | nxt => obtain ⟨fs, e, q⟩ := h; exact ⟨.non, fs, by simp [e], q⟩
    | ret d => obtain ⟨fs, e, q⟩ := h; exact ⟨d, fs, by simp [e], q⟩
    | exc x => exact h.elim
    | brk => exact h.elim
    | cnt => exact h.elim
@[simp] theorem EndQ_nxt {io : List Nat} {Q : D → List D → Prop} {ρ : Rho} : EndQ io Q .nxt ρ = ∃ fs, lasts io ρ = some fs ∧ Q .non fs := propext Iff.rfl
@[simp] theorem EndQ_ret {io : List Nat} {Q : D → List D → Prop} {ρ : Rho} {d : D} : EndQ io Q (.ret d) ρ = ∃ fs, lasts io ρ = some fs ∧ Q d fs := propext Iff.rfl
@[simp] theorem lasts_nil {ρ : Rho} {P : List D → Prop} : (∃ fs, lasts [] ρ = some fs ∧ P fs) = P [] := propext ⟨fun ⟨_, h, q⟩ => by cases h; exact q, fun q => ⟨_, rfl, q⟩⟩
section
variable {Q : D → Rho → Prop} {QB : Bool → Rho → Prop} {QS : Flow → Rho → Prop} {QL : List D → Rho → Prop} {ρ : Rho}
@[simp] theorem T_call {f : Fn} {m : AM} : T (callF f m ρ) Q = T (m ρ) (fun ds ρ1 => FT f ds (fun d _ => Q d ρ1)) := by
  unfold callF
  rw [T_bind]
  congr 1
  funext ds ρ1
  unfold FT
  cases h : f ds with
  | none => exact propext ⟨fun x => x.elim, fun ⟨_, _, h, _⟩ => by cases h⟩
  | some p => exact propext ⟨fun x => ⟨p.1, p.2, rfl, x⟩, fun ⟨_, _, h, q⟩ => by cases h; exact q⟩
@[simp] theorem T_name {i : Nat} : T (nameM i ρ) Q = ∃ d, ρ[i]? = some (some d) ∧ Q d ρ := by
  unfold nameM
  rcases h : ρ[i]? with _ | _ | d
  · exact propext ⟨fun x => x.elim, fun ⟨_, h, _⟩ => by cases h⟩
  · exact propext ⟨fun x => x.elim, fun ⟨_, h, _⟩ => by cases h⟩
  · exact propext ⟨fun x => ⟨d, rfl, x⟩, fun ⟨_, h, q⟩ => by cases h; exact q⟩
@[simp] theorem T_frz {i : Nat} : T (frzM i ρ) Q = ∃ d, ρ[i]? = some (some d) ∧ Q d.frz (ρ.set i (some d.frz)) := by
  unfold frzM
  rcases h : ρ[i]? with _ | _ | d
  · exact propext ⟨fun x => x.elim, fun ⟨_, h, _⟩ => by cases h⟩
  · exact propext ⟨fun x => x.elim, fun ⟨_, h, _⟩ => by cases h⟩
  · exact propext ⟨fun x => ⟨d, rfl, x⟩, fun ⟨_, h, q⟩ => by cases h; exact q⟩
@[simp] theorem T_const {d : D} : T (constM d ρ) Q = Q d ρ := propext Iff.rfl
@[simp] theorem T_sh {m : EM} : T (shM m ρ) Q = T (m ρ) (fun d ρ1 => Q d.frz ρ1) := by unfold shM; rw [T_bind]; rfl
@[simp] theorem T_op2 {f : D → D → Option D} {a b : EM} : T (op2 f a b ρ) Q = T (a ρ) (fun x ρ1 => T (b ρ1) (fun y ρ2 => ∃ d, f x y = some d ∧ Q d ρ2)) := by
  unfold op2; simp only [T_bind, T_pureO]
@[simp] theorem T_op1 {f : D → Option D} {a : EM} : T (op1 f a ρ) Q = T (a ρ) (fun x ρ1 => ∃ d, f x = some d ∧ Q d ρ1) := by
  unfold op1; simp only [T_bind, T_pureO]
@[simp] theorem T_test {m : EM} : T (testM m ρ) QB = T (m ρ) (fun d ρ1 => ∃ c, d = .bl c ∧ QB c ρ1) := by
  unfold testM; rw [T_bind]; congr 1; funext d ρ1
  cases d <;> first | exact propext ⟨fun x => x.elim, fun ⟨_, h, _⟩ => by cases h⟩ | exact propext ⟨fun x => ⟨_, rfl, x⟩, fun ⟨_, h, q⟩ => by cases h; exact q⟩
theorem T_bif {α : Type} {Q : α → Rho → Prop} {b : Bool} {x y : Res α} : T (match b with | true => x | false => y) Q = ((b = true → T x Q) ∧ (b = false → T y Q)) := by
  cases b
  · exact propext ⟨fun h => ⟨fun e => (by cases e), fun _ => h⟩, fun h => h.2 rfl⟩
  · exact propext ⟨fun h => ⟨fun _ => h, fun e => (by cases e)⟩, fun h => h.1 rfl⟩
@[simp] theorem T_not {m : TM} : T (notM m ρ) QB = T (m ρ) (fun c ρ1 => QB (!c) ρ1) := by unfold notM; rw [T_bind]; rfl
@[simp] theorem T_andM {m n : TM} : T (andM m n ρ) QB = T (m ρ) (fun c ρ1 => (c = true → T (n ρ1) QB) ∧ (c = false → QB false ρ1)) := by
  unfold andM; rw [T_bind]; congr 1; funext c ρ1; exact T_bif
@[simp] theorem T_orM {m n : TM} : T (orM m n ρ) QB = T (m ρ) (fun c ρ1 => (c = true → QB true ρ1) ∧ (c = false → T (n ρ1) QB)) := by
  unfold orM; rw [T_bind]; congr 1; funext c ρ1; exact T_bif
@[simp] theorem T_ifM {c : TM} {m n : EM} : T (ifM c m n ρ) Q = T (c ρ) (fun c ρ1 => (c = true → T (m ρ1) Q) ∧ (c = false → T (n ρ1) Q)) := by
  unfold ifM; rw [T_bind]; congr 1; funext c ρ1; exact T_bif
@[simp] theorem T_bl {m : TM} : T (blM m ρ) Q = T (m ρ) (fun c ρ1 => Q (.bl c) ρ1) := by unfold blM; rw [T_bind]; rfl
@[simp] theorem T_andV {m n : EM} : T (andV m n ρ) Q = T (testM m ρ) (fun c ρ1 => (c = true → T (n ρ1) Q) ∧ (c = false → Q (.bl false) ρ1)) := by
  unfold andV; rw [T_bind]; congr 1; funext c ρ1; exact T_bif
@[simp] theorem T_orV {m n : EM} : T (orV m n ρ) Q = T (testM m ρ) (fun c ρ1 => (c = true → Q (.bl true) ρ1) ∧ (c = false → T (n ρ1) Q)) := by
  unfold orV; rw [T_bind]; congr 1; funext c ρ1; exact T_bif
@[simp] theorem T_notV {m : EM} : T (notV m ρ) Q = T (testM m ρ) (fun c ρ1 => Q (.bl (!c)) ρ1) := by unfold notV; rw [T_bind]; rfl
@[simp] theorem T_peek {QP : PD → Rho → Prop} {i : Nat} : T (peekM i ρ) QP = ∃ d, ρ[i]? = some (some d) ∧ QP (.inr i) ρ := by
  unfold peekM
  rcases h : ρ[i]? with _ | _ | d
  · exact propext ⟨fun x => x.elim, fun ⟨_, h, _⟩ => by cases h⟩
  · exact propext ⟨fun x => x.elim, fun ⟨_, h, _⟩ => by cases h⟩
  · exact propext ⟨fun x => ⟨d, rfl, x⟩, fun ⟨_, h, q⟩ => by cases h; exact q⟩
@[simp] theorem T_vP {QP : PD → Rho → Prop} {m : EM} : T (vP m ρ) QP = T (m ρ) (fun d ρ1 => QP (.inl d) ρ1) := by unfold vP; rw [T_bind]; rfl
@[simp] theorem res_inl {d : D} : res (.inl d) ρ = some d := rfl
@[simp] theorem res_inr {i : Nat} {d : D} : (res (.inr i) ρ = some d) = (ρ[i]? = some (some d)) := by
  unfold res
  rcases h : ρ[i]? with _ | _ | d' <;> simp_all
@[simp] theorem T_opP {f : D → D → Option D} {a b : PM} : T (opP f a b ρ) Q = T (a ρ) (fun p ρ1 => T (b ρ1) (fun q ρ2 => ∃ x, res p ρ2 = some x ∧ ∃ y, res q ρ2 = some y ∧ ∃ d, f x y = some d ∧ Q d ρ2)) := by
  unfold opP; simp only [T_bind]; congr 1; funext p ρ1; congr 1; funext q ρ2
  rcases res p ρ2 with _ | x
  · exact propext ⟨fun x => x.elim, fun ⟨_, h, _⟩ => by cases h⟩
  · rcases res q ρ2 with _ | y
    · exact propext ⟨fun x => x.elim, fun ⟨_, _, _, h, _⟩ => by cases h⟩
    · simp only [T_pureO]
      exact propext ⟨fun x => ⟨_, rfl, _, rfl, x⟩, fun ⟨_, h1, _, h2, q⟩ => by cases h1; cases h2; exact q⟩
@[simp] theorem T_nilA : T (nilA ρ) QL = QL [] ρ := propext Iff.rfl
@[simp] theorem T_consA {m : EM} {n : AM} : T (consA m n ρ) QL = T (m ρ) (fun d ρ1 => T (n ρ1) (fun ds ρ2 => QL (d :: ds) ρ2)) := by unfold consA; simp only [T_bind, T_ok]
@[simp] theorem T_nilP {QP : List PD → Rho → Prop} : T (nilP ρ) QP = QP [] ρ := propext Iff.rfl
@[simp] theorem T_consP {QP : List PD → Rho → Prop} {m : PM} {n : Rho → Res (List PD)} : T (consP m n ρ) QP = T (m ρ) (fun d ρ1 => T (n ρ1) (fun ds ρ2 => QP (d :: ds) ρ2)) := by unfold consP; simp only [T_bind, T_ok]
@[simp] theorem T_tup {m : AM} : T (tupM m ρ) Q = T (m ρ) (fun ds ρ1 => ds.length ≤ cap ∧ Q (.tup ds) ρ1) := by unfold tupM; simp only [T_bind, T_if, T_ok]
@[simp] theorem T_lst {m : AM} : T (lstM m ρ) Q = T (m ρ) (fun ds ρ1 => ds.length ≤ cap ∧ Q (.lst .own ds) ρ1) := by unfold lstM; simp only [T_bind, T_if, T_ok]
@[simp] theorem T_noO {QO : Option Int → Rho → Prop} : T (noO ρ) QO = QO none ρ := propext Iff.rfl
@[simp] theorem T_someO {QO : Option Int → Rho → Prop} {m : EM} : T (someO m ρ) QO = T (m ρ) (fun d ρ1 => ∃ i, d = .int i ∧ QO (some i) ρ1) := by
  unfold someO; rw [T_bind]; congr 1; funext d ρ1
  cases d <;> first | exact propext ⟨fun x => x.elim, fun ⟨_, h, _⟩ => by cases h⟩ | exact propext ⟨fun x => ⟨_, rfl, x⟩, fun ⟨_, h, q⟩ => by cases h; exact q⟩
@[simp] theorem T_slice {m : PM} {ml mh : Rho → Res (Option Int)} : T (sliceM m ml mh ρ) Q = T (m ρ) (fun p ρ1 => T (ml ρ1) (fun lo ρ2 => T (mh ρ2) (fun hi ρ3 => ∃ x, res p ρ3 = some x ∧ ∃ d, sliceD x lo hi = some d ∧ Q d ρ3))) := by
  unfold sliceM; simp only [T_bind]; congr 1; funext p ρ1; congr 1; funext lo ρ2; congr 1; funext hi ρ3
  rcases res p ρ3 with _ | x
  · exact propext ⟨fun x => x.elim, fun ⟨_, h, _⟩ => by cases h⟩
  · simp only [T_pureO]
    exact propext ⟨fun x => ⟨_, rfl, x⟩, fun ⟨_, h1, q⟩ => by cases h1; exact q⟩
@[simp] theorem T_callM {f : List D → Option D} {m : Rho → Res (List PD)} : T (callM f m ρ) Q = T (m ρ) (fun ps ρ1 => ∃ ds, resL ps ρ1 = some ds ∧ ∃ d, f ds = some d ∧ Q d ρ1) := by
  unfold callM; simp only [T_bind]; congr 1; funext ps ρ1
  rcases resL ps ρ1 with _ | x
  · exact propext ⟨fun x => x.elim, fun ⟨_, h, _⟩ => by cases h⟩
  · simp only [T_pureO]
    exact propext ⟨fun x => ⟨_, rfl, x⟩, fun ⟨_, h1, q⟩ => by cases h1; exact q⟩
@[simp] theorem resL_nil : resL [] ρ = some [] := rfl
@[simp] theorem resL_cons {p : PD} {ps : List PD} {R : List D → Prop} : (∃ ds, resL (p :: ps) ρ = some ds ∧ R ds) = ∃ d, res p ρ = some d ∧ ∃ ds, resL ps ρ = some ds ∧ R (d :: ds) := by
  have e : resL (p :: ps) ρ = (match res p ρ, resL ps ρ with
    | some d, some ds => some (d :: ds)
    | _, _ => none) := rfl
  rw [e]
  rcases res p ρ with _ | x
  · exact propext ⟨fun ⟨_, h, _⟩ => (by cases h), fun ⟨_, h, _⟩ => by cases h⟩
  · rcases resL ps ρ with _ | y
    · exact propext ⟨fun ⟨_, h, _⟩ => (by cases h), fun ⟨_, _, _, h, _⟩ => by cases h⟩
    · exact propext ⟨fun ⟨_, h, q⟩ => (by cases h; exact ⟨_, rfl, _, rfl, q⟩), fun ⟨_, h1, _, h2, q⟩ => by cases h1; cases h2; exact ⟨_, rfl, q⟩⟩
@[simp] theorem resL_nil' {R : List D → Prop} : (∃ ds, resL [] ρ = some ds ∧ R ds) = R [] := propext ⟨fun ⟨_, h, q⟩ => (by cases h; exact q), fun q => ⟨_, rfl, q⟩⟩
@[simp] theorem T_isi {t : Ty5} {m : PM} : T (isiM t m ρ) Q = T (m ρ) (fun p ρ1 => ∃ x, res p ρ1 = some x ∧ ∃ b, isiD t x = some b ∧ Q (.bl b) ρ1) := by
  unfold isiM; simp only [T_bind]; congr 1; funext p ρ1
  rcases res p ρ1 with _ | x
  · exact propext ⟨fun x => x.elim, fun ⟨_, h, _⟩ => by cases h⟩
  · show T (match isiD t x with | some b => Res.ok (.bl b) ρ1 | none => .fail) Q = _
    rcases h : isiD t x with _ | b
    · exact propext ⟨fun x => x.elim, fun ⟨_, h1, _, h2, _⟩ => by cases h1; rw [h] at h2; cases h2⟩
    · exact propext ⟨fun x => ⟨_, rfl, b, h, x⟩, fun ⟨_, h1, _, h2, q⟩ => by cases h1; rw [h] at h2; cases h2; exact q⟩
/-! statements -/
@[simp] theorem T_nil : T (nilM ρ) QS = QS .nxt ρ := propext Iff.rfl
@[simp] theorem T_brk : T (brkM ρ) QS = QS .brk ρ := propext Iff.rfl
@[simp] theorem T_cnt : T (cntM ρ) QS = QS .cnt ρ := propext Iff.rfl
/-- after a statement: on with the next, or out -/
def SeqQ (n : SM) (Q : Flow → Rho → Prop) : Flow → Rho → Prop := fun f ρ => match f with
  | .nxt => T (n ρ) Q
  | f => Q f ρ
@[simp] theorem SeqQ_nxt {n : SM} : SeqQ n QS .nxt ρ = T (n ρ) QS := propext Iff.rfl
@[simp] theorem SeqQ_brk {n : SM} : SeqQ n QS .brk ρ = QS .brk ρ := propext Iff.rfl
@[simp] theorem SeqQ_cnt {n : SM} : SeqQ n QS .cnt ρ = QS .cnt ρ := propext Iff.rfl
@[simp] theorem SeqQ_ret {n : SM} {d : D} : SeqQ n QS (.ret d) ρ = QS (.ret d) ρ := propext Iff.rfl
@[simp] theorem T_seq {m n : SM} : T (seqM m n ρ) QS = T (m ρ) (SeqQ n QS) := by
  unfold seqM; rw [T_bind]; congr 1; funext f ρ1; cases f <;> rfl
@[simp] theorem T_set {i : Nat} {m : EM} : T (setM i m ρ) QS = T (m ρ) (fun d ρ1 => QS .nxt (ρ1.set i (some d))) := by unfold setM; rw [T_bind]; rfl
@[simp] theorem T_drop {m : EM} : T (dropM m ρ) QS = T (m ρ) (fun d ρ1 => QS .nxt ρ1) := by unfold dropM; rw [T_bind]; rfl
@[simp] theorem T_ret {m : EM} : T (retM m ρ) QS = T (m ρ) (fun d ρ1 => QS (.ret d) ρ1) := by unfold retM; rw [T_bind]; rfl
@[simp] theorem T_retN : T (retN ρ) QS = QS (.ret .non) ρ := propext Iff.rfl
@[simp] theorem T_retS {i : Nat} : T (retS i ρ) QS = ∃ d, ρ[i]? = some (some d) ∧ QS (.ret d) (ρ.set i none) := by
  unfold retS
  rcases h : ρ[i]? with _ | _ | d
  · exact propext ⟨fun x => x.elim, fun ⟨_, h, _⟩ => by cases h⟩
  · exact propext ⟨fun x => x.elim, fun ⟨_, h, _⟩ => by cases h⟩
  · exact propext ⟨fun x => ⟨d, rfl, x⟩, fun ⟨_, h, q⟩ => by cases h; exact q⟩
@[simp] theorem T_ite {c : TM} {m n : SM} : T (iteM c m n ρ) QS = T (c ρ) (fun b ρ1 => (b = true → T (m ρ1) QS) ∧ (b = false → T (n ρ1) QS)) := by
  unfold iteM; rw [T_bind]; congr 1; funext c ρ1; exact T_bif
@[simp] theorem T_asg {g : GM} {m : EM} : T (asgM g m ρ) QS = T (m ρ) (fun d ρ1 => T (g d ρ1) (fun _ ρ2 => QS .nxt ρ2)) := by unfold asgM; simp only [T_bind, T_ok]
@[simp] theorem T_nameG {i : Nat} {d : D} {QG : Unit → Rho → Prop} : T (nameG i d ρ) QG = QG () (ρ.set i (some d)) := propext Iff.rfl
@[simp] theorem T_tupG {n : Nat} {gs : List D → Rho → Res Unit} {ds : List D} {QG : Unit → Rho → Prop} : T (tupG n gs (.tup ds) ρ) QG = (ds.length = n ∧ T (gs ds ρ) QG) := by unfold tupG; simp only [T_if]
@[simp] theorem T_nilG {QG : Unit → Rho → Prop} : T (nilG [] ρ) QG = QG () ρ := propext Iff.rfl
@[simp] theorem T_consG {g : GM} {gs : List D → Rho → Res Unit} {d : D} {ds : List D} {QG : Unit → Rho → Prop} : T (consG g gs (d :: ds) ρ) QG = T (g d ρ) (fun _ ρ1 => T (gs ds ρ1) QG) := by unfold consG; simp only [T_bind]
@[simp] theorem T_aug {i : Nat} {f : D → D → Option D} {m : EM} : T (augM i f m ρ) QS = ∃ x, ρ[i]? = some (some x) ∧ T (m ρ) (fun y ρ1 => ∃ d, f x y = some d ∧ QS .nxt (ρ1.set i (some d))) := by
  unfold augM
  rcases h : ρ[i]? with _ | _ | x
  · exact propext ⟨fun x => x.elim, fun ⟨_, h, _⟩ => by cases h⟩
  · exact propext ⟨fun x => x.elim, fun ⟨_, h, _⟩ => by cases h⟩
  · show T ((m ρ).bind _) QS = _
    rw [T_bind]
    have e : ∀ (y : D) (ρ1 : Rho), T (match f x y with | some d => Res.ok Flow.nxt (ρ1.set i (some d)) | none => .fail) QS = ∃ d, f x y = some d ∧ QS .nxt (ρ1.set i (some d)) := fun y ρ1 => by
      rcases f x y with _ | d
      · exact propext ⟨fun x => x.elim, fun ⟨_, h, _⟩ => by cases h⟩
      · exact propext ⟨fun x => ⟨_, rfl, x⟩, fun ⟨_, h1, q⟩ => by cases h1; exact q⟩
    exact propext ⟨fun h => ⟨x, rfl, T_mono h fun y ρ1 q => (e y ρ1).mp q⟩, fun ⟨_, h1, q⟩ => by cases h1; exact T_mono q fun y ρ1 q => (e y ρ1).mpr q⟩
@[simp] theorem T_app {i : Nat} {m : EM} : T (appM i m ρ) QS = ∃ md0 ds0, ρ[i]? = some (some (.lst md0 ds0)) ∧ T (m ρ) (fun d ρ1 => ∃ ds, ρ1[i]? = some (some (.lst .own ds)) ∧ ds.length < cap ∧ QS .nxt (ρ1.set i (some (.lst .own (ds ++ [d]))))) := by
  unfold appM
  rcases h : ρ[i]? with _ | _ | x
  · exact propext ⟨fun x => x.elim, fun ⟨_, _, h, _⟩ => by cases h⟩
  · exact propext ⟨fun x => x.elim, fun ⟨_, _, h, _⟩ => by cases h⟩
  · cases x
    case lst md0 ds0 =>
      show T ((m ρ).bind _) QS = _
      rw [T_bind]
      refine propext ⟨fun q => ⟨_, _, rfl, T_mono q ?_⟩, fun ⟨_, _, _, q⟩ => T_mono q ?_⟩
      · intro d ρ1 q
        split at q
        · rename_i ds e
          rw [T_if] at q
          exact ⟨ds, e, q⟩
        · exact q.elim
      · intro d ρ1 ⟨ds, e, q⟩
        rw [e]
        show T (if _ then _ else _) QS
        rw [T_if]
        exact q
    all_goals exact propext ⟨fun x => x.elim, fun ⟨_, _, h, _⟩ => by cases h⟩
@[simp] theorem T_putD {i : Nat} {mk me : EM} : T (putDM i mk me ρ) QS = T (me ρ) (fun d ρ1 => ∃ x, ρ1[i]? = some (some x) ∧ T (mk ρ1) (fun k ρ2 => ∃ c, ρ2[i]? = some (some c) ∧ ∃ c', stored c k d = some c' ∧ QS .nxt (ρ2.set i (some c')))) := by
  unfold putDM; rw [T_bind]; congr 1; funext d ρ1
  rcases h : ρ1[i]? with _ | _ | x
  · exact propext ⟨fun x => x.elim, fun ⟨_, h, _⟩ => by cases h⟩
  · exact propext ⟨fun x => x.elim, fun ⟨_, h, _⟩ => by cases h⟩
  · show T ((mk ρ1).bind _) QS = _
    rw [T_bind]
    refine propext ⟨fun q => ⟨_, rfl, T_mono q ?_⟩, fun ⟨_, _, q⟩ => T_mono q ?_⟩
    · intro d ρ1 q
      split at q
      · rename_i c e
        split at q
        · rename_i c' e'
          exact ⟨c, e, c', e', q⟩
        · exact q.elim
      · exact q.elim
    · intro d ρ1 ⟨c, e, c', e', q⟩
      rw [e]
      show T (match stored c _ _ with | some c' => _ | none => .fail) QS
      rw [e']
      exact q
@[simp] theorem T_newD : T (newD ρ) Q = Q (.dct .own [] []) ρ := propext Iff.rfl
@[simp] theorem T_disp {mk mv : EM} : T (dispM mk mv ρ) Q = T (mk ρ) (fun k ρ1 => T (mv ρ1) (fun d ρ2 => keyOk k = true ∧ Q (.dct .own [k] [d]) ρ2)) := by unfold dispM; simp only [T_bind, T_if, T_ok]
@[simp] theorem T_iter {m : EM} : T (iterM m ρ) QL = T (m ρ) (fun d ρ1 => ∃ ds, itemsD d = some ds ∧ QL ds ρ1) := by unfold iterM; simp only [T_bind, T_pureO]
@[simp] theorem T_range1 {m : EM} : T (range1 (consA m nilA) ρ) QL = T (m ρ) (fun d ρ1 => ∃ j, d = .int j ∧ (-1000000000000 ≤ j ∧ j ≤ 1000000000000) ∧ QL (rangeL 0 j.toNat) ρ1) := by
  unfold range1; simp only [T_bind, T_consA, T_nilA]; congr 1; funext d ρ1
  cases d <;> first | exact propext ⟨fun x => x.elim, fun ⟨_, h, _⟩ => by cases h⟩ | skip
  show T (if _ then _ else _) QL = _
  rw [T_if]
  exact propext ⟨fun x => ⟨_, rfl, x⟩, fun ⟨_, h, q⟩ => by cases h; exact q⟩
@[simp] theorem T_range2 {m n : EM} : T (range2 (consA m (consA n nilA)) ρ) QL = T (m ρ) (fun d ρ1 => T (n ρ1) (fun e ρ2 => ∃ i, d = .int i ∧ ∃ j, e = .int j ∧ (-1000000000000 ≤ i ∧ i ≤ 1000000000000 ∧ -1000000000000 ≤ j ∧ j ≤ 1000000000000) ∧ QL (rangeL i (j - i).toNat) ρ2)) := by
  unfold range2; simp only [T_bind, T_consA, T_nilA]; congr 1; funext d ρ1; congr 1; funext e ρ2
  cases d <;> first | exact propext ⟨fun x => x.elim, fun ⟨_, h, _⟩ => by cases h⟩ | skip
  cases e <;> first | exact propext ⟨fun x => x.elim, fun ⟨_, _, _, h, _⟩ => by cases h⟩ | skip
  show T (if _ then _ else _) QL = _
  rw [T_if]
  exact propext ⟨fun x => ⟨_, rfl, _, rfl, x⟩, fun ⟨_, h, _, h', q⟩ => by cases h; cases h'; exact q⟩
end

/-! ### loops -/
/-- what a loop's body must leave: I, or the loop's own end -/
def LoopQ (I : Rho → Prop) (Q : Flow → Rho → Prop) : Flow → Rho → Prop := fun f ρ => match f with
  | .nxt => I ρ
  | .cnt => I ρ
  | .brk => Q .nxt ρ
  | .ret d => Q (.ret d) ρ
  | .exc x => Q (.exc x) ρ
@[simp] theorem LoopQ_nxt {I : Rho → Prop} {Q : Flow → Rho → Prop} {ρ : Rho} : LoopQ I Q .nxt ρ = I ρ := propext Iff.rfl
@[simp] theorem LoopQ_cnt {I : Rho → Prop} {Q : Flow → Rho → Prop} {ρ : Rho} : LoopQ I Q .cnt ρ = I ρ := propext Iff.rfl
@[simp] theorem LoopQ_brk {I : Rho → Prop} {Q : Flow → Rho → Prop} {ρ : Rho} : LoopQ I Q .brk ρ = Q .nxt ρ := propext Iff.rfl
@[simp] theorem LoopQ_ret {I : Rho → Prop} {Q : Flow → Rho → Prop} {ρ : Rho} {d : D} : LoopQ I Q (.ret d) ρ = Q (.ret d) ρ := propext Iff.rfl
/-- a for by an invariant over the items still to come -/
theorem T_go {g : GM} {b : SM} {Q : Flow → Rho → Prop} (I : List D → Rho → Prop) (hs : ∀ d ds ρ, I (d :: ds) ρ → T (g d ρ) fun _ ρ1 => T (b ρ1) (LoopQ (I ds) Q)) (hq : ∀ ρ, I [] ρ → Q .nxt ρ) : ∀ (ds : List D) (ρ : Rho), I ds ρ → T (forGo g b ds ρ) Q
  | [], ρ, h => hq ρ h
  | d :: ds, ρ, h => by
    unfold forGo
    rw [T_bind]
    refine T_mono (hs d ds ρ h) fun _ ρ1 q => ?_
    rw [T_bind]
    refine T_mono q fun f ρ2 q => ?_
    cases f with
    | nxt => exact T_go I hs hq ds ρ2 q
    | cnt => exact T_go I hs hq ds ρ2 q
    | brk => exact q
    | ret d => exact q
    | exc x => exact q
@[simp] theorem T_for {it : AM} {g : GM} {b : SM} {ρ : Rho} {Q : Flow → Rho → Prop} : T (forM it g b ρ) Q = T (it ρ) (fun ds ρ1 => T (forGo g b ds ρ1) Q) := by unfold forM; rw [T_bind]
/-- a for by an invariant over the number of items done -/
theorem T_goIx {g : GM} {b : SM} {Q : Flow → Rho → Prop} {ds : List D} {ρ : Rho} (I : Nat → Rho → Prop) (h0 : I 0 ρ) (hs : ∀ (k : Nat) (d : D) (ρ : Rho), ds[k]? = some d → I k ρ → T (g d ρ) fun _ ρ1 => T (b ρ1) (LoopQ (I (k + 1)) Q)) (hq : ∀ ρ, I ds.length ρ → Q .nxt ρ) :
    T (forGo g b ds ρ) Q := by
  refine T_go (fun r ρ => ∃ k, r = ds.drop k ∧ k ≤ ds.length ∧ I k ρ) (fun d r ρ h => ?_) (fun ρ h => ?_) ds ρ ⟨0, rfl, Nat.zero_le _, h0⟩
  · obtain ⟨k, e, hk, hI⟩ := h
    have e0 : ds[k]? = some d := by
      have := congrArg (·[0]?) e
      simpa using this.symm
    have e1 : r = ds.drop (k + 1) := by
      have := congrArg List.tail e
      simpa using this
    have hl : k < ds.length := (List.getElem?_eq_some_iff.mp e0).1
    refine T_mono (hs k d ρ e0 hI) fun _ ρ1 q => T_mono q fun f ρ2 q => ?_
    cases f with
    | nxt => exact ⟨k + 1, e1, hl, q⟩
    | cnt => exact ⟨k + 1, e1, hl, q⟩
    | brk => exact q
    | ret d => exact q
    | exc x => exact q
  · obtain ⟨k, e, hk, hI⟩ := h
    have : ds.length = k := by
      have := congrArg List.length e
      simp at this
      omega
    exact hq ρ (this ▸ hI)
@[simp] theorem rangeL_len (lo : Int) (n : Nat) : (rangeL lo n).length = n := by unfold rangeL; simp
theorem rangeL_get {lo : Int} {n k : Nat} {d : D} (h : (rangeL lo n)[k]? = some d) : k < n ∧ d = .int (lo + k) := by
  unfold rangeL at h
  rw [List.getElem?_map] at h
  by_cases hk : k < n
  · rw [List.getElem?_range hk] at h
    exact ⟨hk, by simpa using h.symm⟩
  · rw [List.getElem?_eq_none (by simpa using Nat.le_of_not_lt hk)] at h
    cases h
theorem T_goR {g : GM} {b : SM} {Q : Flow → Rho → Prop} {lo : Int} {n : Nat} {ρ : Rho} (I : Nat → Rho → Prop) (h0 : I 0 ρ) (hs : ∀ (k : Nat) (ρ : Rho), k < n → I k ρ → T (g (.int (lo + k)) ρ) fun _ ρ1 => T (b ρ1) (LoopQ (I (k + 1)) Q)) (hq : ∀ ρ, I n ρ → Q .nxt ρ) :
    T (forGo g b (rangeL lo n) ρ) Q := by
  refine T_goIx I h0 (fun k d ρ hd h => ?_) (fun ρ h => hq ρ (by rwa [rangeL_len] at h))
  obtain ⟨hk, rfl⟩ := rangeL_get hd
  exact hs k ρ hk h
/-- a while by an invariant and a number that falls -/
theorem T_while {c : TM} {b : SM} {Q : Flow → Rho → Prop} (I : Nat → Rho → Prop)
    (hs : ∀ m ρ, I m ρ → T (c ρ) fun t ρ1 => (t = false → Q .nxt ρ1) ∧ (t = true → T (b ρ1) (LoopQ (fun ρ2 => ∃ m', m' < m ∧ I m' ρ2) Q))) : ∀ (n m : Nat) (ρ : Rho), m < n → I m ρ → T (whileM c b n ρ) Q
  | 0, _, _, h, _ => absurd h (Nat.not_lt_zero _)
  | n + 1, m, ρ, h, hI => by
    unfold whileM
    rw [T_bind]
    refine T_mono (hs m ρ hI) fun t ρ1 q => ?_
    cases t with
    | false => exact q.1 rfl
    | true =>
      show T ((b ρ1).bind _) Q
      rw [T_bind]
      refine T_mono (q.2 rfl) fun f ρ2 q => ?_
      cases f with
      | nxt => obtain ⟨m', l, hI'⟩ := q; exact T_while I hs n m' ρ2 (by omega) hI'
      | cnt => obtain ⟨m', l, hI'⟩ := q; exact T_while I hs n m' ρ2 (by omega) hI'
      | brk => exact q
      | ret d => exact q
      | exc x => exact q
/-- a comprehension whose parts leave the places as they were -/
theorem T_compGo {vs : List Nat} {g : GM} {c : TM} {e : EM} {ρ : Rho} {Q : List D → Rho → Prop} (h : D → Option D) :
    ∀ (ds acc : List D), (∀ d ∈ ds, T (g d ρ) fun _ ρ1 => T (c ρ1) fun b ρ2 => (b = true → T (e ρ2) fun y ρ3 => wipeR ρ3 vs = ρ ∧ h d = some y) ∧ (b = false → wipeR ρ2 vs = ρ ∧ h d = none)) → Q (acc ++ ds.filterMap h) ρ → T (compGo vs g c e ds acc ρ) Q
  | [], acc, _, q => by unfold compGo; simpa [T_ok] using q
  | d :: ds, acc, hs, q => by
    unfold compGo
    rw [T_bind]
    refine T_mono (hs d (.head _)) fun _ ρ1 h1 => ?_
    rw [T_bind]
    refine T_mono h1 fun b ρ2 h2 => ?_
    cases b with
    | true =>
      show T ((e ρ2).bind _) Q
      rw [T_bind]
      refine T_mono (h2.1 rfl) fun y ρ3 h3 => ?_
      rw [h3.1]
      refine T_compGo h ds _ (fun d' hd => hs d' (.tail _ hd)) ?_
      rw [List.filterMap_cons_some h3.2] at q
      simpa using q
    | false =>
      show T (compGo vs g c e ds acc (wipeR ρ2 vs)) Q
      rw [(h2.2 rfl).1]
      refine T_compGo h ds _ (fun d' hd => hs d' (.tail _ hd)) ?_
      rw [List.filterMap_cons_none (h2.2 rfl).2] at q
      exact q
@[simp] theorem T_comp {n : Nat} {vs : List Nat} {it : AM} {g : GM} {c : TM} {e : EM} {ρ : Rho} {Q : D → Rho → Prop} :
    T (compM n vs it g c e ρ) Q = T (it ρ) (fun ds ρ1 => (ρ1.length = n ∧ ds.length ≤ cap) ∧ T (compGo vs g c e ds [] (wipeR ρ1 vs)) (fun acc ρ2 => Q (.lst .own acc) (wipeR ρ2 vs))) := by
  unfold compM; simp only [T_bind, T_if, T_ok]
@[simp] theorem T_yes {ρ : Rho} {Q : Bool → Rho → Prop} : T (yesM ρ) Q = Q true ρ := propext Iff.rfl
end Sim

/-! Sim, part 14: small facts for reading the mirrors. -/
namespace Sim
open PySem PySem.Spec PyProof.Rows L2
@[simp] theorem atI_nat {α : Type} (xs : List α) (k : Nat) : atI xs (k : Int) = xs[k]? := by
  unfold atI ixN
  rw [if_pos (by omega)]
  by_cases h : k < xs.length
  · rw [if_pos (by omega)]; simp
  · rw [if_neg (by omega)]; simp [List.getElem?_eq_none (Nat.le_of_not_lt h)]
theorem atI_pos {α : Type} (xs : List α) {i : Int} (h : 0 ≤ i) : atI xs i = xs[i.toNat]? := by
  obtain ⟨k, rfl⟩ := Int.eq_ofNat_of_zero_le h
  simpa using atI_nat xs k
@[simp] theorem atI_lit {α : Type} (xs : List α) (n : Nat) : atI xs (no_index (@OfNat.ofNat Int n instOfNat)) = xs[n]? := atI_nat xs n
@[simp] theorem ixDD_tup (ds : List D) (i : Int) : ixDD (.tup ds) (.int i) = atI ds i := rfl
@[simp] theorem ixDD_lst (m : Md) (ds : List D) (i : Int) : ixDD (.lst m ds) (.int i) = atI ds i := rfl
@[simp] theorem ixDD_scr (ns : List Int) (i : Int) : ixDD (.scr ns) (.int i) = (atI ns i).map .int := rfl
@[simp] theorem ixDD_dct (m : Md) (ks ds : List D) (k : D) : ixDD (.dct m ks ds) k = if keyOk k = true ∧ sort1 k ks = true then lookD k ks ds else none := rfl
@[simp] theorem lenD_tup (ds : List D) : lenD [.tup ds] = some (.int ds.length) := rfl
@[simp] theorem lenD_lst (m : Md) (ds : List D) : lenD [.lst m ds] = some (.int ds.length) := rfl
@[simp] theorem lenD_scr (ns : List Int) : lenD [.scr ns] = some (.int ns.length) := rfl
@[simp] theorem lenD_dct (m : Md) (ks ds : List D) : lenD [.dct m ks ds] = some (.int ks.length) := rfl
@[simp] theorem addD_int (i j : Int) : addD (.int i) (.int j) = some (.int (i + j)) := rfl
@[simp] theorem iaddD_int (i j : Int) : iaddD (.int i) (.int j) = some (.int (i + j)) := rfl
@[simp] theorem subD_int (i j : Int) : subD (.int i) (.int j) = some (.int (i - j)) := rfl
@[simp] theorem mulD_int (i j : Int) : mulD (.int i) (.int j) = if (-18446744073709551616 < i ∧ i < 18446744073709551616) ∨ (-18446744073709551616 < j ∧ j < 18446744073709551616) then some (.int (i * j)) else none := rfl
@[simp] theorem mulD_lst (m : Md) (xs : List D) (k : Int) : mulD (.lst m xs) (.int k) = if -1000000000 < k ∧ k < 1000000000 ∧ xs.length * k.toNat ≤ cap then some (.lst .sh (List.replicate k.toNat xs).flatten) else none := rfl
@[simp] theorem fdivD_int (i j : Int) : fdivD (.int i) (.int j) = if 0 < j ∧ j < 1073741824 then some (.int (i / j)) else none := rfl
@[simp] theorem modD_int (i j : Int) : modD (.int i) (.int j) = if 0 < j then some (.int (i % j)) else none := rfl
@[simp] theorem powD_int (i j : Int) : powD (.int i) (.int j) = if 0 ≤ j ∧ j ≤ 1000 ∧ i.natAbs < 18446744073709551616 then some (.int (i ^ j.toNat)) else none := rfl
@[simp] theorem addD_tup (xs ys : List D) : addD (.tup xs) (.tup ys) = if xs.length + ys.length ≤ cap then some (.tup (xs ++ ys)) else none := rfl
@[simp] theorem addD_lst (m n : Md) (xs ys : List D) : addD (.lst m xs) (.lst n ys) = if xs.length + ys.length ≤ cap then some (.lst .sh (xs ++ ys)) else none := rfl
@[simp] theorem negD_int (i : Int) : negD (.int i) = some (.int (-i)) := rfl
@[simp] theorem ltD_int (i j : Int) : ltD (.int i) (.int j) = some (.bl (decide (i < j))) := rfl
@[simp] theorem leD_int (i j : Int) : leD (.int i) (.int j) = some (.bl (decide (i ≤ j))) := rfl
@[simp] theorem gtD_int (i j : Int) : gtD (.int i) (.int j) = some (.bl (decide (j < i))) := rfl
@[simp] theorem geD_int (i j : Int) : geD (.int i) (.int j) = some (.bl (decide (j ≤ i))) := rfl
@[simp] theorem eqB_int (i j : Int) : eqB (.int i) (.int j) = some (decide (i = j)) := rfl
@[simp] theorem eqB_str (x y : Str) : eqB (.str x) (.str y) = some (decide (x = y)) := rfl
@[simp] theorem eqB_bl (a b : Bool) : eqB (.bl a) (.bl b) = some (decide (a = b)) := rfl
@[simp] theorem eqB_non : eqB .non .non = some true := rfl
@[simp] theorem eqD_of (x y : D) : eqD x y = (eqB x y).map .bl := rfl
@[simp] theorem neD_of (x y : D) : neD x y = (eqB x y).map fun b => .bl (!b) := rfl
@[simp] theorem isD_non (x : D) : isD x .non = some (.bl (isN x)) := rfl
@[simp] theorem isNotD_non (x : D) : isNotD x .non = some (.bl (!isN x)) := rfl
@[simp] theorem isN_non : isN .non = true := rfl
@[simp] theorem isN_bl (b : Bool) : isN (.bl b) = false := rfl
@[simp] theorem isN_int (b : Int) : isN (.int b) = false := rfl
@[simp] theorem isN_str (b : Str) : isN (.str b) = false := rfl
@[simp] theorem isN_tup (b : List D) : isN (.tup b) = false := rfl
@[simp] theorem isN_lst (m : Md) (b : List D) : isN (.lst m b) = false := rfl
@[simp] theorem frz_non : D.frz .non = .non := rfl
@[simp] theorem frz_bl (b : Bool) : D.frz (.bl b) = .bl b := rfl
@[simp] theorem frz_int (b : Int) : D.frz (.int b) = .int b := rfl
@[simp] theorem frz_str (b : Str) : D.frz (.str b) = .str b := rfl
@[simp] theorem frz_tup (b : List D) : D.frz (.tup b) = .tup b := rfl
@[simp] theorem frz_lst (m : Md) (b : List D) : D.frz (.lst m b) = .lst .sh b := rfl
@[simp] theorem frz_dct (m : Md) (ks b : List D) : D.frz (.dct m ks b) = .dct .sh ks b := rfl
@[simp] theorem frz_scr (b : List Int) : D.frz (.scr b) = .scr b := rfl
@[simp] theorem maxD_int (i j : Int) : maxD [.int i, .int j] = some (.int (if j > i then j else i)) := rfl
@[simp] theorem minD_int (i j : Int) : minD [.int i, .int j] = some (.int (if j < i then j else i)) := rfl
@[simp] theorem absD_int (i : Int) : absD [.int i] = some (.int (if i < 0 then -i else i)) := rfl
@[simp] theorem intD_int (i : Int) : intD [.int i] = some (.int i) := rfl
@[simp] theorem tupleD_tup (ds : List D) : tupleD [.tup ds] = some (.tup ds) := rfl
@[simp] theorem tupleD_lst (m : Md) (ds : List D) : tupleD [.lst m ds] = some (.tup ds) := rfl
@[simp] theorem listD_tup (ds : List D) : listD [.tup ds] = some (.lst .own ds) := rfl
@[simp] theorem listD_lst (m : Md) (ds : List D) : listD [.lst m ds] = some (.lst .own ds) := rfl
@[simp] theorem listD_scr (ns : List Int) : listD [.scr ns] = some (.lst .own (ns.map .int)) := rfl
@[simp] theorem itemsD_sh (ds : List D) : itemsD (.lst .sh ds) = some ds := rfl
@[simp] theorem itemsD_tup (ds : List D) : itemsD (.tup ds) = some ds := rfl
@[simp] theorem itemsD_scr (ns : List Int) : itemsD (.scr ns) = some (ns.map .int) := rfl
@[simp] theorem isi_non (t : Ty5) : isiD t .non = some false := rfl
@[simp] theorem isi_bl (t : Ty5) (b : Bool) : isiD t (.bl b) = some (match t with | .bool => true | .int => true | _ => false) := rfl
@[simp] theorem isi_int (t : Ty5) (b : Int) : isiD t (.int b) = some (match t with | .int => true | _ => false) := rfl
@[simp] theorem isi_str (t : Ty5) (b : Str) : isiD t (.str b) = some (match t with | .str => true | _ => false) := rfl
@[simp] theorem isi_tup (t : Ty5) (b : List D) : isiD t (.tup b) = some (match t with | .tuple => true | _ => false) := rfl
@[simp] theorem isi_lst (t : Ty5) (m : Md) (b : List D) : isiD t (.lst m b) = some (match t with | .list => true | _ => false) := rfl
@[simp] theorem slice_tup (ds : List D) (lo hi : Option Int) : sliceD (.tup ds) lo hi = some (.tup (cutG ds lo hi)) := rfl
@[simp] theorem slice_lst (m : Md) (ds : List D) (lo hi : Option Int) : sliceD (.lst m ds) lo hi = some (.lst .sh (cutG ds lo hi)) := rfl
@[simp] theorem inDD_of (x y : D) : inDD x y = (inD x y).map .bl := rfl
@[simp] theorem notInDD_of (x y : D) : notInDD x y = (inD x y).map fun b => .bl (!b) := rfl
@[simp] theorem inD_tup (x : D) (ds : List D) : inD x (.tup ds) = inD.inL x ds := rfl
@[simp] theorem inD_lst (x : D) (m : Md) (ds : List D) : inD x (.lst m ds) = inD.inL x ds := rfl
@[simp] theorem inD_dct (x : D) (m : Md) (ks ds : List D) : inD x (.dct m ks ds) = if keyOk x = true ∧ sort1 x ks = true then some (lookD x ks ds).isSome else none := rfl
/-- ints are in a list of ints -/
theorem inL_int (x : Int) (ds : List Int) : inD.inL (.int x) (ds.map .int) = some (decide (x ∈ ds)) := by
  have h1 : ∀ l : List Int, (l.map D.int).all inD.flat = true := fun l => by
    induction l with
    | nil => rfl
    | cons a l ih => simp [ih, inD.flat]
  have h2 : ∀ l : List Int, (l.map D.int).any (fun d => inD.eqF d (.int x)) = decide (x ∈ l) := fun l => by
    induction l with
    | nil => rfl
    | cons a l ih =>
      simp only [List.map_cons, List.any_cons, ih]
      by_cases h : a = x
      · subst h; simp [inD.eqF]
      · have : ¬ x = a := fun e => h e.symm
        simp [inD.eqF, h, this]
  unfold inD.inL
  rw [if_pos ⟨rfl, h1 ds⟩, h2]
theorem keyOk_int (i : Int) : keyOk (.int i) = true := by simp [keyOk, notBl, keyOf, NestedKey.depth]
theorem sameK_int (i j : Int) : sameK (.int i) (.int j) = decide (i = j) := by simp [sameK, keyOf]
theorem sort1_int (i : Int) (ks : List Int) : sort1 (.int i) (ks.map .int) = true := by cases ks <;> simp [sort1, leafOf]
/-- a dict over ints -/
theorem look_int (i : Int) : ∀ (ks : List Int) (ds : List D), ks.length = ds.length → (lookD (.int i) (ks.map .int) ds).isSome = decide (i ∈ ks)
  | [], _, _ => by simp [lookD]
  | k :: ks, d :: ds, h => by
    simp only [List.map_cons, lookD, sameK_int]
    by_cases e : k = i
    · subst e; simp
    · have : ¬ i = k := fun x => e x.symm
      simp [e, this, look_int i ks ds (by simpa using h)]
theorem store_new (k : Int) (d : D) (ks : List Int) (ds : List D) (h : ks.length = ds.length) (hk : k ∉ ks) : storeD (.int k) d (ks.map .int) ds = ((ks ++ [k]).map .int, ds ++ [d]) := by
  unfold storeD
  rw [look_int k ks ds h, if_neg (by simpa using hk)]
  simp
end Sim

/-! Sim, part 15: normal forms of what must be shown. -/
namespace Sim
open PySem PySem.Spec PyProof.Rows L2
section
variable {α β : Type} {x : α} {Q : α → Prop}
theorem ex_some : (∃ d, some x = some d ∧ Q d) = Q x := propext ⟨fun ⟨_, h, q⟩ => (by cases h; exact q), fun q => ⟨_, rfl, q⟩⟩
theorem ex_some2 : (∃ d, some (some x) = some (some d) ∧ Q d) = Q x := propext ⟨fun ⟨_, h, q⟩ => (by cases h; exact q), fun q => ⟨_, rfl, q⟩⟩
theorem ex_if {c : Prop} [Decidable c] : (∃ d, (if c then some x else none) = some d ∧ Q d) = (c ∧ Q x) := by
  by_cases h : c
  · simp only [if_pos h]; exact propext ⟨fun ⟨_, e, q⟩ => (by cases e; exact ⟨h, q⟩), fun q => ⟨_, rfl, q.2⟩⟩
  · simp only [if_neg h]; exact propext ⟨fun ⟨_, e, q⟩ => (by cases e), fun q => absurd q.1 h⟩
theorem ex_map {o : Option β} {f : β → α} : (∃ d, o.map f = some d ∧ Q d) = ∃ a, o = some a ∧ Q (f a) := by
  cases o with
  | none => exact propext ⟨fun ⟨_, h, _⟩ => (by cases h), fun ⟨_, h, _⟩ => by cases h⟩
  | some b => exact propext ⟨fun ⟨_, h, q⟩ => (by cases h; exact ⟨b, rfl, q⟩), fun ⟨_, h, q⟩ => (by cases h; exact ⟨_, rfl, q⟩)⟩
theorem ex_eq : (∃ d, x = d ∧ Q d) = Q x := propext ⟨fun ⟨_, h, q⟩ => (by cases h; exact q), fun q => ⟨_, rfl, q⟩⟩
end
theorem ex_bl {b : Bool} {Q : Bool → Prop} : (∃ c, D.bl b = .bl c ∧ Q c) = Q b := propext ⟨fun ⟨_, h, q⟩ => (by cases h; exact q), fun q => ⟨_, rfl, q⟩⟩
theorem ex_int {b : Int} {Q : Int → Prop} : (∃ c, D.int b = .int c ∧ Q c) = Q b := propext ⟨fun ⟨_, h, q⟩ => (by cases h; exact q), fun q => ⟨_, rfl, q⟩⟩
theorem ex_own {ds : List D} {Q : List D → Prop} : (∃ c, some (some (D.lst .own ds)) = some (some (.lst .own c)) ∧ Q c) = Q ds := propext ⟨fun ⟨_, h, q⟩ => (by cases h; exact q), fun q => ⟨_, rfl, q⟩⟩
theorem ex_lst {m : Md} {ds : List D} {Q : Prop} : (∃ n c, some (some (D.lst m ds)) = some (some (.lst n c)) ∧ Q) = Q := propext ⟨fun ⟨_, _, h, q⟩ => q, fun q => ⟨_, _, rfl, q⟩⟩
theorem inr_at {i : Nat} {ρ : Rho} {Q : D → Prop} : (∃ d, res (.inr i) ρ = some d ∧ Q d) = ∃ d, ρ[i]? = some (some d) ∧ Q d := by simp only [res_inr]
theorem inl_at {d0 : D} {ρ : Rho} {Q : D → Prop} : (∃ d, res (.inl d0) ρ = some d ∧ Q d) = Q d0 := by simp only [res_inl]; exact ex_some
theorem tt_c {P Q : Prop} : ((true = true → P) ∧ (true = false → Q)) = P := propext ⟨fun h => h.1 rfl, fun h => ⟨fun _ => h, fun e => (by cases e)⟩⟩
theorem ff_c {P Q : Prop} : ((false = true → P) ∧ (false = false → Q)) = Q := propext ⟨fun h => h.2 rfl, fun h => ⟨fun e => (by cases e), fun _ => h⟩⟩
theorem pad_nil {ds : List D} : pad 0 ds = ds.map some := List.append_nil _
theorem pad_of {n : Nat} {ds : List D} : pad n ds = ds.map some ++ List.replicate n none := rfl
/-- ints of a drawn list -/
def below (m : Int) (d : D) : Prop := ∃ i : Int, d = .int i ∧ 0 ≤ i ∧ i < m
theorem get_ex {ds : List D} {k : Nat} (h : k < ds.length) {Q : D → Prop} (q : ∀ d, ds[k]? = some d → Q d) : ∃ d, ds[k]? = some d ∧ Q d := ⟨ds[k], List.getElem?_eq_getElem h, q _ (List.getElem?_eq_getElem h)⟩
def nones : Nat → Rho
  | 0 => []
  | n + 1 => none :: nones n
theorem nones_0 : nones 0 = [] := rfl
theorem nones_s {n : Nat} : nones (n + 1) = none :: nones n := rfl
theorem pad_n : ∀ {n : Nat} {ds : List D}, pad n ds = ds.map some ++ nones n := fun {n ds} => by
  have : ∀ n : Nat, List.replicate n (none : Option D) = nones n := fun n => by
    induction n with
    | zero => rfl
    | succ n ih => rw [List.replicate_succ, ih]; rfl
  rw [pad_of, this]
theorem mulD_one (m : Md) (x : D) (k : Int) : mulD (.lst m [x]) (.int k) = if -1000000000 < k ∧ k < 1000000000 ∧ k.toNat ≤ cap then some (.lst .sh (List.replicate k.toNat x)) else none := by
  rw [mulD_lst]
  simp
theorem at_ex {α : Type} {xs : List α} {i : Int} {Q : α → Prop} (h0 : 0 ≤ i) (h1 : i < xs.length) (q : ∀ d, d ∈ xs → xs[i.toNat]? = some d → Q d) : ∃ d, atI xs i = some d ∧ Q d := by
  have hl : i.toNat < xs.length := by omega
  have e : xs[i.toNat]? = some xs[i.toNat] := List.getElem?_eq_getElem hl
  exact ⟨_, (atI_pos xs h0).trans e, q _ (List.getElem_mem hl) e⟩
theorem at_map {α β : Type} {f : α → β} {xs : List α} {i : Int} {Q : β → Prop} (h0 : 0 ≤ i) (h1 : i < xs.length) (q : ∀ x, x ∈ xs → xs[i.toNat]? = some x → Q (f x)) : ∃ d, atI (xs.map f) i = some d ∧ Q d := by
  have hl : i.toNat < xs.length := by omega
  have e : xs[i.toNat]? = some xs[i.toNat] := List.getElem?_eq_getElem hl
  exact ⟨f xs[i.toNat], by rw [atI_pos _ h0, List.getElem?_map, e]; rfl, q _ (List.getElem_mem hl) e⟩
theorem pow10_18 : (10 : Int) ^ (18 : Int).toNat = 1000000000000000000 := by decide +kernel
theorem nat10 : (Int.natAbs 10 < 18446744073709551616) = True := eq_true (by decide)
theorem nat2 : (Int.natAbs 2 < 18446744073709551616) = True := eq_true (by decide)
theorem T_cut {m n : SM} {ρ : Rho} {Q : Flow → Rho → Prop} (I : Rho → Prop) (h : T (m ρ) fun f ρ1 => f = .nxt ∧ I ρ1) (k : ∀ ρ1, I ρ1 → T (n ρ1) Q) : T (m ρ) (SeqQ n Q) := by
  refine T_mono h fun f ρ1 q => ?_
  obtain ⟨rfl, q⟩ := q
  exact k ρ1 q
end Sim

/-! Sim, part 16: plain data. -/
namespace Sim
open PySem PySem.Spec PyProof.Rows L2
mutual
def rank : D → Nat
  | .tup ds => ranks ds + 1
  | .lst _ ds => ranks ds + 1
  | _ => 0
def ranks : List D → Nat
  | [] => 0
  | d :: ds => max (rank d) (ranks ds)
end
mutual
def plain : D → Bool
  | .tup ds => plains ds
  | .lst .sh ds => plains ds
  | .lst _ _ => false
  | .dct _ _ _ => false
  | .scr _ => false
  | _ => true
def plains : List D → Bool
  | [] => true
  | d :: ds => plain d && plains ds
end
theorem plains_get : ∀ {ds : List D}, plains ds = true → ∀ d ∈ ds, plain d = true
  | d :: ds, h, _, .head _ => by rw [plains, Bool.and_eq_true] at h; exact h.1
  | d :: ds, h, _, .tail _ m => by rw [plains, Bool.and_eq_true] at h; exact plains_get h.2 _ m
theorem ranks_get : ∀ {ds : List D}, ∀ d ∈ ds, rank d ≤ ranks ds
  | d :: ds, _, .head _ => by rw [ranks]; exact Nat.le_max_left _ _
  | d :: ds, _, .tail _ m => by rw [ranks]; exact Nat.le_trans (ranks_get _ m) (Nat.le_max_right _ _)
theorem plains_of : ∀ {ds : List D}, (∀ d ∈ ds, plain d = true) → plains ds = true
  | [], _ => rfl
  | d :: ds, h => by rw [plains, h d (.head _), plains_of fun e he => h e (.tail _ he)]; rfl
theorem ranks_of {n : Nat} : ∀ {ds : List D}, (∀ d ∈ ds, rank d ≤ n) → ranks ds ≤ n
  | [], _ => Nat.zero_le _
  | d :: ds, h => by rw [ranks]; exact Nat.max_le.mpr ⟨h d (.head _), ranks_of fun e he => h e (.tail _ he)⟩
mutual
def short : D → Bool
  | .tup ds => decide (ds.length ≤ 1000000) && shorts ds
  | .lst _ ds => decide (ds.length ≤ 1000000) && shorts ds
  | _ => true
def shorts : List D → Bool
  | [] => true
  | d :: ds => short d && shorts ds
end
theorem shorts_mem : ∀ {ds : List D}, shorts ds = true → ∀ d ∈ ds, short d = true
  | d :: ds, h, _, .head _ => by rw [shorts, Bool.and_eq_true] at h; exact h.1
  | d :: ds, h, _, .tail _ m => by rw [shorts, Bool.and_eq_true] at h; exact shorts_mem h.2 _ m
theorem shorts_get {ds : List D} (h : (decide (ds.length ≤ 1000000) && shorts ds) = true) : ds.length ≤ 1000000 ∧ ∀ d ∈ ds, short d = true := by
  rw [Bool.and_eq_true] at h
  exact ⟨of_decide_eq_true h.1, shorts_mem h.2⟩
theorem shorts_of : ∀ {ds : List D}, (∀ d ∈ ds, short d = true) → shorts ds = true
  | [], _ => rfl
  | d :: ds, h => by rw [shorts, h d (.head _), shorts_of fun e he => h e (.tail _ he)]; rfl
/-- all the items of lists and tuples within are few -/
theorem FT_of {f : Fn} {ds : List D} {d : D} {fs : List D} {Q : D → List D → Prop} (h : f ds = some (d, fs)) (q : Q d fs) : FT f ds Q := ⟨d, fs, h, q⟩
theorem FT_eq {f : Fn} {ds : List D} {d : D} (h : FT f ds fun d' fs => fs = [] ∧ d' = d) : f ds = some (d, []) := by
  obtain ⟨_, _, e, rfl, rfl⟩ := h
  exact e
theorem stored_dct (ks ds : List D) (k d : D) : Sim.stored (.dct .own ks ds) k d = if keyOk k = true ∧ sort1 k ks = true ∧ ks.length < cap then some (.dct .own (storeD k d ks ds).1 (storeD k d ks ds).2) else none := rfl
theorem stored_lst (ds : List D) (k d : D) : Sim.stored (.lst .own ds) k d = (setIxD ds k d).map fun ds' => .lst .own ds' := rfl
/-- a comprehension over F's of a list, by a test p -/
theorem T_compF {α : Type} {vs : List Nat} {g : GM} {c : TM} {e : EM} {ρ : Rho} {Q : List D → Rho → Prop} (F : α → D) (p : α → Bool) (G : α → D) : ∀ (r : List α) (acc : List D),
    (∀ x ∈ r, T (g (F x) ρ) fun _ ρ1 => T (c ρ1) fun b ρ2 => b = p x ∧ (p x = true → T (e ρ2) fun y ρ3 => wipeR ρ3 vs = ρ ∧ y = G x) ∧ (p x = false → wipeR ρ2 vs = ρ)) → Q (acc ++ (r.filter p).map G) ρ → T (compGo vs g c e (r.map F) acc ρ) Q
  | [], acc, _, q => by rw [List.map_nil]; unfold compGo; simpa [T_ok] using q
  | x :: r, acc, hs, q => by
    rw [List.map_cons]
    unfold compGo
    rw [T_bind]
    refine T_mono (hs x (.head _)) fun _ ρ1 h1 => ?_
    rw [T_bind]
    refine T_mono h1 fun b ρ2 h2 => ?_
    obtain ⟨rfl, h2, h3⟩ := h2
    cases hp : p x with
    | true =>
      show T ((e ρ2).bind _) Q
      rw [T_bind]
      refine T_mono (h2 hp) fun y ρ3 h3 => ?_
      rw [h3.1, h3.2]
      refine T_compF F p G r _ (fun d' hd => hs d' (.tail _ hd)) ?_
      rw [List.filter_cons_of_pos hp, List.map_cons] at q
      simpa using q
    | false =>
      show T (compGo vs g c e (r.map F) acc (wipeR ρ2 vs)) Q
      rw [h3 hp]
      refine T_compF F p G r _ (fun d' hd => hs d' (.tail _ hd)) ?_
      rwa [List.filter_cons_of_neg (by simp [hp])] at q
theorem T_iteTo {c : TM} {m n : SM} {ρ : Rho} {Q : Flow → Rho → Prop} (C : Bool → Prop) (hc : T (c ρ) fun b ρ1 => ρ1 = ρ ∧ C b) (h1 : C true → T (m ρ) Q) (h2 : C false → T (n ρ) Q) : T (iteM c m n ρ) Q := by
  rw [T_ite]
  refine T_mono hc fun b ρ1 h => ?_
  obtain ⟨rfl, h⟩ := h
  exact ⟨fun e => by subst e; exact h1 h, fun e => by subst e; exact h2 h⟩
theorem cutG_take {α : Type} (xs : List α) (k : Nat) : cutG xs none (some (k : Int)) = xs.take k := by
  unfold cutG
  rw [HT.sIx_none, HT.sIx_nat, List.drop_zero, Nat.sub_zero]
  by_cases h : k ≤ xs.length
  · rw [Nat.min_eq_left h]
  · rw [Nat.min_eq_right (by omega), List.take_of_length_le (Nat.le_refl _), List.take_of_length_le (by omega)]
theorem get_map {α β : Type} {f : α → β} {xs : List α} {k : Nat} {Q : β → Prop} (d : α) (h : k < xs.length) (q : Q (f (xs.getD k d))) : ∃ a, (xs.map f)[k]? = some a ∧ Q a := by
  refine ⟨f (xs.getD k d), ?_, q⟩
  rw [List.getElem?_map, List.getElem?_eq_getElem h, List.getD_eq_getElem?_getD, List.getElem?_eq_getElem h]
  rfl
end Sim

/-! Sim, part 17: == over data. -/
namespace Sim
open PySem PySem.Spec PyProof.Rows L2
mutual
def laid : D → Bool
  | .str x => PyData.strOk x
  | .tup ds => laids ds
  | .lst _ ds => laids ds
  | .dct _ _ _ => false
  | .scr _ => false
  | _ => true
def laids : List D → Bool
  | [] => true
  | d :: ds => laid d && laids ds
end
theorem laids_of : ∀ {ds : List D}, (∀ d ∈ ds, laid d = true) → laids ds = true
  | [], _ => rfl
  | d :: ds, h => by rw [laids, h d (.head _), laids_of fun e he => h e (.tail _ he)]; rfl
mutual
theorem toPy_laid : ∀ (d : D), laid d = true → ∃ p, toPy d = some p ∧ p.canLay0 = true ∧ p.depth = rank d
  | .non, _ => ⟨_, rfl, rfl, rfl⟩
  | .bl _, _ => ⟨_, rfl, rfl, rfl⟩
  | .int _, _ => ⟨_, rfl, rfl, rfl⟩
  | .str x, h => ⟨_, rfl, h, rfl⟩
  | .tup ds, h => by
    obtain ⟨ps, e, c, r⟩ := toPys_laid ds h
    exact ⟨.tuple ps, by simp only [toPy, e], c, by simp only [PyData.depth, rank, r]⟩
  | .lst m ds, h => by
    obtain ⟨ps, e, c, r⟩ := toPys_laid ds h
    exact ⟨.list ps, by simp only [toPy, e], c, by simp only [PyData.depth, rank, r]⟩
  | .dct _ _ _, h => by cases h
  | .scr _, h => by cases h
theorem toPys_laid : ∀ (ds : List D), laids ds = true → ∃ ps, toPys ds = some ps ∧ PyData.canLayAll0 ps = true ∧ PyData.depthAll ps = ranks ds
  | [], _ => ⟨_, rfl, rfl, rfl⟩
  | d :: ds, h => by
    rw [laids, Bool.and_eq_true] at h
    obtain ⟨p, e1, c1, r1⟩ := toPy_laid d h.1
    obtain ⟨ps, e2, c2, r2⟩ := toPys_laid ds h.2
    exact ⟨p :: ps, by simp only [toPys, e1, e2], by simp only [PyData.canLayAll0, c1, c2, Bool.and_self], by simp only [PyData.depthAll, ranks, r1, r2]⟩
end
mutual
/-- as Python's == over data -/
def eqv : D → D → Bool
  | .non, .non => true
  | .bl a, .bl b => a == b
  | .bl a, .int j => (if a then 1 else 0) == j
  | .int i, .bl b => i == (if b then 1 else 0)
  | .int i, .int j => i == j
  | .str x, .str y => x == y
  | .tup xs, .tup ys => eqvs xs ys
  | .lst _ xs, .lst _ ys => eqvs xs ys
  | _, _ => false
def eqvs : List D → List D → Bool
  | [], [] => true
  | x :: xs, y :: ys => eqv x y && eqvs xs ys
  | _, _ => false
end
mutual
theorem eqv_py : ∀ (x y : D) (p q : PyData), toPy x = some p → toPy y = some q → PyData.eqv p q = eqv x y
  | x, y, p, q, hx, hy => by
    cases x with
    | dct _ _ _ => cases hx
    | scr _ => cases hx
    | non => cases hx; cases y with
      | dct _ _ _ => cases hy
      | scr _ => cases hy
      | tup ys => rw [toPy] at hy; split at hy <;> cases hy; simp [PyData.eqv, eqv]
      | lst m ys => rw [toPy] at hy; split at hy <;> cases hy; simp [PyData.eqv, eqv]
      | _ => cases hy; simp [PyData.eqv, eqv]
    | bl a => cases hx; cases y with
      | dct _ _ _ => cases hy
      | scr _ => cases hy
      | tup ys => rw [toPy] at hy; split at hy <;> cases hy; simp [PyData.eqv, eqv]
      | lst m ys => rw [toPy] at hy; split at hy <;> cases hy; simp [PyData.eqv, eqv]
      | _ => cases hy; simp [PyData.eqv, eqv]
    | int a => cases hx; cases y with
      | dct _ _ _ => cases hy
      | scr _ => cases hy
      | tup ys => rw [toPy] at hy; split at hy <;> cases hy; simp [PyData.eqv, eqv]
      | lst m ys => rw [toPy] at hy; split at hy <;> cases hy; simp [PyData.eqv, eqv]
      | _ => cases hy; simp [PyData.eqv, eqv]
    | str a => cases hx; cases y with
      | dct _ _ _ => cases hy
      | scr _ => cases hy
      | tup ys => rw [toPy] at hy; split at hy <;> cases hy; simp [PyData.eqv, eqv]
      | lst m ys => rw [toPy] at hy; split at hy <;> cases hy; simp [PyData.eqv, eqv]
      | _ => cases hy; simp [PyData.eqv, eqv]
    | tup xs =>
      rw [toPy] at hx
      split at hx
      · rename_i ps hps
        cases hx
        cases y with
        | dct _ _ _ => cases hy
        | scr _ => cases hy
        | tup ys =>
          rw [toPy] at hy
          split at hy
          · rename_i qs hqs
            cases hy
            rw [PyData.eqv, eqv]
            exact eqvs_py xs ys ps qs hps hqs
          · cases hy
        | lst m ys => rw [toPy] at hy; split at hy <;> cases hy; simp [PyData.eqv, eqv]
        | _ => cases hy; simp [PyData.eqv, eqv]
      · cases hx
    | lst m xs =>
      rw [toPy] at hx
      split at hx
      · rename_i ps hps
        cases hx
        cases y with
        | dct _ _ _ => cases hy
        | scr _ => cases hy
        | lst m ys =>
          rw [toPy] at hy
          split at hy
          · rename_i qs hqs
            cases hy
            rw [PyData.eqv, eqv]
            exact eqvs_py xs ys ps qs hps hqs
          · cases hy
        | tup ys => rw [toPy] at hy; split at hy <;> cases hy; simp [PyData.eqv, eqv]
        | _ => cases hy; simp [PyData.eqv, eqv]
      · cases hx
theorem eqvs_py : ∀ (xs ys : List D) (ps qs : List PyData), toPys xs = some ps → toPys ys = some qs → PyData.eqvAll ps qs = eqvs xs ys
  | [], [], _, _, hx, hy => by cases hx; cases hy; rfl
  | [], y :: ys, _, _, hx, hy => by
    cases hx
    rw [toPys] at hy
    split at hy <;> cases hy
    rfl
  | x :: xs, [], _, _, hx, hy => by
    cases hy
    rw [toPys] at hx
    split at hx <;> cases hx
    rfl
  | x :: xs, y :: ys, _, _, hx, hy => by
    rw [toPys] at hx hy
    split at hx
    · rename_i p ps h1 h2
      split at hy
      · rename_i q qs h3 h4
        cases hx
        cases hy
        rw [PyData.eqvAll, eqvs, eqv_py x y p q h1 h3, eqvs_py xs ys ps qs h2 h4]
      · cases hy
    · cases hx
end
theorem eqB_data (x y : D) (hx : laid x = true) (hy : laid y = true) (rx : rank x ≤ 64) (ry : rank y ≤ 64) : eqB x y = some (eqv x y) := by
  obtain ⟨p, e1, c1, r1⟩ := toPy_laid x hx
  obtain ⟨q, e2, c2, r2⟩ := toPy_laid y hy
  have s1 : SeqAt.shaped p = true := by unfold SeqAt.shaped; rw [c1, Bool.true_and]; exact decide_eq_true (by omega)
  have s2 : SeqAt.shaped q = true := by unfold SeqAt.shaped; rw [c2, Bool.true_and]; exact decide_eq_true (by omega)
  have g : (match toPy x, toPy y with
    | some p, some q => if SeqAt.shaped p = true ∧ SeqAt.shaped q = true then some (PyData.eqv p q) else none
    | _, _ => none) = some (eqv x y) := by
    rw [e1, e2]
    show (if _ then _ else _) = _
    rw [if_pos ⟨s1, s2⟩, eqv_py x y p q e1 e2]
  have b : ∀ {α : Type} [BEq α] [DecidableEq α] [LawfulBEq α] (a b : α), (a == b) = decide (a = b) := fun a b => by
    by_cases h : a = b
    · subst h; simp
    · simp [h]
  cases x <;> cases y <;> first | exact g | (simp [eqB, eqv, b])
end Sim

/-! Sim, part 18: sum, str, xs[::-1], reversed(..), list(range(..)). -/
namespace Sim
open PySem PySem.Spec PyProof.Rows L2
def intsOf : List D → Option (List Int)
  | [] => some []
  | .int i :: ds => match intsOf ds with
    | some is => some (i :: is)
    | none => none
  | _ => none
theorem intsOf_eq : ∀ {ds : List D} {is : List Int}, intsOf ds = some is → ds = is.map .int
  | [], _, h => by cases h; rfl
  | .int i :: ds, is, h => by
    unfold intsOf at h
    split at h
    · rename_i js hj
      cases h
      rw [intsOf_eq hj]; rfl
    · cases h
  | .non :: ds, _, h => by cases h
  | .bl _ :: ds, _, h => by cases h
  | .str _ :: ds, _, h => by cases h
  | .tup _ :: ds, _, h => by cases h
  | .lst _ _ :: ds, _, h => by cases h
  | .dct _ _ _ :: ds, _, h => by cases h
  | .scr _ :: ds, _, h => by cases h
theorem intsOf_map : ∀ is : List Int, intsOf (is.map .int) = some is
  | [] => rfl
  | i :: is => by rw [List.map_cons, intsOf, intsOf_map is]
theorem reps_ints {G : Gx} {H : Hp} {is : List Int} {vs : List V} (r : RepL G H (is.map .int) vs) : vs = is.map V.int := by
  induction is generalizing vs with
  | nil => exact r
  | cons i is ih =>
    obtain ⟨v, w, rfl, h1, h2⟩ := r
    rw [ih h2, show v = .int i from h1]; rfl
def sumD : List D → Option D
  | [.lst _ ds] => match intsOf ds with
    | some is => some (.int is.sum)
    | none => none
  | _ => none
def strD : List D → Option D
  | [.int i] => if i.natAbs.log2 < 1920 then some (.str (toString i)) else none
  | [.str x] => some (.str x)
  | _ => none
section
variable {X : Cx}
theorem cv_sum (hc : X.calm = true) : CallV X (.builtin "sum") sumD := by
  intro ds d e Hs H vs Q s r q
  unfold sumD at e
  split at e
  · rename_i m es
    split at e
    · rename_i is hi
      cases e
      cases r with
      | cons r1 rs =>
        cases rs
        obtain ⟨a, ws, rfl, t, rw'⟩ := r1.lst s
        rw [intsOf_eq hi] at rw'
        have := reps_ints rw'
        subst this
        exact ⟨_, cr_sum hc, a, is, rfl, .of t, q _ Hs H (.refl s) rfl⟩
    · cases e
  · cases e
theorem cv_str : CallV X (.type "str") strD := by
  intro ds d e Hs H vs Q s r q
  unfold strD at e
  split at e
  · split at e
    · rename_i hz
      cases e
      cases r with
      | cons r1 rs =>
        cases rs
        exact ⟨_, call_str_int, _, by rw [r1.int], hz, q _ Hs H (.refl s) rfl⟩
    · cases e
  · cases e
    cases r with
    | cons r1 rs =>
      cases rs
      exact ⟨_, SkE.call_str_str, _, by rw [r1.str], q _ Hs H (.refl s) rfl⟩
  · cases e
end
/-! xs[::-1] -/
def revD : D → Option D
  | .lst _ ds => some (.lst .sh ds.reverse)
  | _ => none
def revM (m : PM) : EM := fun ρ => (m ρ).bind fun p ρ1 => match res p ρ1 with
  | some x => pureO (revD x) ρ1
  | none => .fail
section
variable {X : Cx} {S : Sc} {a : Expr} {ma : PM} {pos : Pos}
theorem sim_rev {k : Nat} {p1 p2 p3 : Pos} (ha : SimP X S a ma) : SimV X S (.Subscript a (.Slice none none (some (.UnaryOp .USub (.Constant (.int 1) k p1) p2)) p3) pos) (revM ma) := by
  refine ⟨fun {ρ d ρ'} h {F σ Hs H} rl {Q} q => ?_⟩
  obtain ⟨p, ρ1, e1, h⟩ := Res.bind_ok h
  split at h
  · rename_i x hx
    obtain ⟨e4, rfl⟩ := pureO_ok h
    refine ⟨_, pe_revL (peW a), ha.run e1 rl fun v Hs1 H1 n r1 => ?_⟩
    have sx := r1.look n.rel hx
    unfold revD at e4
    split at e4
    · cases e4
      obtain ⟨b, vs, rfl, t, r⟩ := sx.lst n.rel.sub
      refine ⟨b, vs, rfl, .of t, fun p hp => ?_⟩
      exact q _ _ _ (n.trans (n.rel.newSh hp _)) ⟨rfl, p, _, rfl, upd_same, RepL.mono (same_new (n.rel.sub.free hp)) _ _ r.reverse⟩
    · cases e4
  · cases h
end
/-! reversed(..) as what is walked -/
def revI (m : EM) : AM := fun ρ => (m ρ).bind fun d ρ1 => match d with
  | .lst .sh ds => .ok ds.reverse ρ1
  | .tup ds => .ok ds.reverse ρ1
  | _ => .fail
theorem rev_at {α : Type} {xs : List α} {i : Nat} {x : α} (h : xs.reverse[i]? = some x) : xs[xs.length - 1 - i]? = some x := by
  have hl := (List.getElem?_eq_some_iff.mp h).1
  rw [List.length_reverse] at hl
  rwa [List.getElem?_reverse hl] at h
theorem feeds_rev {G : Gx} {a : Addr} {vs : List V} {ds : List D} {Hs0 : Hp} (t : SqL G.K Hs0 a vs) (r : RepL G Hs0 ds vs) : Feeds G (Itv G.K a vs.length) ds.reverse Hs0 := by
  refine ⟨fun i d Hs H e s1 s2 => ?_, fun Hs H s1 s2 => by rw [List.length_reverse, r.length]; exact Nat.le_refl _⟩
  have hl := (List.getElem?_eq_some_iff.mp e).1
  rw [List.length_reverse, r.length] at hl
  obtain ⟨v, ev, rv⟩ := r.get (rev_at e)
  rw [r.length] at ev
  refine ⟨⟨hl, vs, v, (s1.trans s2).seq t, ev⟩, fun x H' y => ?_⟩
  obtain ⟨rfl, y⟩ := y
  have := y vs ((s1.trans s2).seq t)
  rw [ev] at this; cases this
  exact ⟨Hs, .refl s2, Rep.mono s1 _ _ rv⟩
theorem feeds_revT {G : Gx} {a : Addr} {vs : List V} {ds : List D} {Hs0 : Hp} (t : SqT G.K Hs0 a vs) (r : RepL G Hs0 ds vs) : Feeds G (RT.ItvT G.K a vs.length) ds.reverse Hs0 := by
  refine ⟨fun i d Hs H e s1 s2 => ?_, fun Hs H s1 s2 => by rw [List.length_reverse, r.length]; exact Nat.le_refl _⟩
  have hl := (List.getElem?_eq_some_iff.mp e).1
  rw [List.length_reverse, r.length] at hl
  obtain ⟨v, ev, rv⟩ := r.get (rev_at e)
  rw [r.length] at ev
  refine ⟨⟨hl, vs, v, Same.seqT (s1.trans s2) t, ev⟩, fun x H' y => ?_⟩
  obtain ⟨rfl, y⟩ := y
  have := y vs (Same.seqT (s1.trans s2) t)
  rw [ev] at this; cases this
  exact ⟨Hs, .refl s2, Rep.mono s1 _ _ rv⟩
section
variable {X : Cx} {S : Sc} {e e2 : Expr} {pos p p2 pos2 : Pos} {tg : Expr}
theorem sim_revI {me : EM} (hm : X.mg "reversed" = none) (he : SimV X S e me) (hg : Gl X "reversed" := by rfl) (hs : starEach [e] X.env = (false, eval e X.env) :: starEach [] X.env := by rfl) : SimI X S tg (.Call (.Name "reversed" p) [e] [] pos) (revI me) := by
  refine ⟨fun {ρ ds ρ'} hm' {F σ Hs H} rl {R} q => ?_⟩
  obtain ⟨d, ρ1, e1, e2⟩ := Res.bind_ok hm'
  refine ⟨_, RT.pi_revA hg hm (peW e) hs, he.run e1 rl fun v Hs' H' n r => ?_⟩
  split at e2
  · cases e2
    obtain ⟨_, a, vs, rfl, t, rs⟩ := r
    exact ⟨a, vs, rfl, .inl ⟨.of (n.rel.sub _ _ t), q _ Hs' H' n (feeds_rev (G := gx X) (.of t) rs)⟩⟩
  · cases e2
    obtain ⟨a, vs, rfl, t, rs⟩ := r
    exact ⟨a, vs, rfl, .inr ⟨Same.seqT n.rel.sub t, q _ Hs' H' n (feeds_revT (G := gx X) t rs)⟩⟩
  · cases e2
/-- reversed(range(n)), reversed(range(a, b)) -/
def revR1 (m : EM) : AM := fun ρ => (m ρ).bind fun d ρ1 => match d with
  | .int j => if -1000000000000 ≤ j ∧ j ≤ 1000000000000 then .ok (rangeL 0 j.toNat).reverse ρ1 else .fail
  | _ => .fail
def revR2 (m n : EM) : AM := fun ρ => (m ρ).bind fun d ρ1 => (n ρ1).bind fun d2 ρ2 => match d, d2 with
  | .int i, .int j => if -1000000000000 ≤ i ∧ i ≤ 1000000000000 ∧ -1000000000000 ≤ j ∧ j ≤ 1000000000000 then .ok (rangeL i (j - i).toNat).reverse ρ2 else .fail
  | _, _ => .fail
theorem feeds_rc {G : Gx} {lo : Int} {n : Nat} {Hs0 : Hp} : Feeds G (Itc (lo + ((n : Nat) : Int) - 1) (-1) n) (rangeL lo n).reverse Hs0 := by
  refine ⟨fun i d Hs H e s1 s2 => ?_, fun Hs H s1 s2 => by unfold rangeL; simp [Itc]⟩
  have hl := (List.getElem?_eq_some_iff.mp e).1
  have h := rev_at e
  unfold rangeL at h hl
  rw [List.length_reverse, List.length_map, List.length_range] at hl
  rw [List.length_map, List.length_range, List.getElem?_map, List.getElem?_range (by omega)] at h
  cases h
  refine ⟨hl, fun x H' y => ?_⟩
  obtain ⟨rfl, rfl⟩ := y
  exact ⟨Hs, .refl s2, by show V.int _ = V.int _; congr 1; omega⟩
theorem sim_revR1 {me : EM} (hm : X.mg "reversed" = none) (hm2 : X.mg "range" = none) (he : SimV X S e me) (hg : Gl X "reversed" := by rfl) (hg2 : Gl X "range" := by rfl) (hs2 : starEach [e] X.env = (false, eval e X.env) :: starEach [] X.env := by rfl)
    (hs : starEach [.Call (.Name "range" p2) [e] [] pos2] X.env = (false, eval (.Call (.Name "range" p2) [e] [] pos2) X.env) :: starEach [] X.env := by rfl) : SimI X S tg (.Call (.Name "reversed" p) [.Call (.Name "range" p2) [e] [] pos2] [] pos) (revR1 me) := by
  refine ⟨fun {ρ ds ρ'} hm' {F σ Hs H} rl {R} q => ?_⟩
  obtain ⟨d, ρ1, e1, e2⟩ := Res.bind_ok hm'
  split at e2
  · split at e2
    · rename_i hj
      cases e2
      refine ⟨_, pi_revR hg hm (prg_1 hg2 hm2 (peW e) hs2) hs, he.run e1 rl fun v Hs' H' n r => ?_⟩
      rw [show v = _ from r]
      refine ⟨_, rfl, by omega, by omega, by omega, by omega, ?_⟩
      have := q _ Hs' H' n (feeds_rc (G := gx X) (lo := 0))
      rw [Int.sub_zero]
      exact this
    · cases e2
  · cases e2
end
end Sim

/-! Sim, part 19: list(range(..)), tuple(range(..)), x[k] += e. -/
namespace Sim
open PySem PySem.Spec PyProof.Rows L2
def rgM1 (m : EM) : Rho → Res (Int × Int) := fun ρ => (m ρ).bind fun d ρ1 => match d with
  | .int j => .ok (0, j) ρ1
  | _ => .fail
def rgM2 (m n : EM) : Rho → Res (Int × Int) := fun ρ => (m ρ).bind fun d ρ1 => (n ρ1).bind fun e ρ2 => match d, e with
  | .int i, .int j => .ok (i, j) ρ2
  | _, _ => .fail
def rgOk (i j : Int) : Prop := -1000000000000 ≤ i ∧ i ≤ 1000000000000 ∧ -1000000000000 ≤ j ∧ j ≤ 1000000000000 ∧ (j - i).toNat ≤ cap
instance (i j : Int) : Decidable (rgOk i j) := by unfold rgOk; infer_instance
def lstRgM (m : Rho → Res (Int × Int)) : EM := fun ρ => (m ρ).bind fun p ρ1 => if rgOk p.1 p.2 then .ok (.lst .own (rangeL p.1 (p.2 - p.1).toNat)) ρ1 else .fail
def tupRgM (m : Rho → Res (Int × Int)) : EM := fun ρ => (m ρ).bind fun p ρ1 => if rgOk p.1 p.2 then .ok (.tup (rangeL p.1 (p.2 - p.1).toNat)) ρ1 else .fail
section
variable {X : Cx} {S : Sc} {e e2 : Expr} {pos p p2 pos2 : Pos}
def WR (X : Cx) (e : Expr) : L2.St → Hp → (Int → Int → Hp → Prop) → Prop := fun σ H Q => ∃ t, PRg X e t ∧ t σ H Q
theorem rgW (e : Expr) : PRg X e (WR X e) := fun pins s σ H Q I ⟨t, h, q⟩ => h pins s σ H Q I q
structure SimR (X : Cx) (S : Sc) (e : Expr) (m : Rho → Res (Int × Int)) : Prop where
  run : ∀ {ρ : Rho} {a : Int × Int} {ρ' : Rho}, m ρ = .ok a ρ' → ∀ {F : Fm} {σ : L2.St} {Hs H : Hp}, Rel (gx X) S F Hs H ρ σ → ∀ {Q : Int → Int → Hp → Prop},
    (∀ Hs' H', Nxt (gx X) S F ρ σ Hs H ρ' σ Hs' H' → Q a.1 a.2 H') → WR X e σ H Q
theorem sim_rg1 {ma : EM} (hm : X.mg "range" = none) (ha : SimV X S e ma) (hg : Gl X "range" := by rfl) (na : starEach [e] X.env = (false, eval e X.env) :: starEach [] X.env := by rfl) : SimR X S (.Call (.Name "range" p) [e] [] pos) (rgM1 ma) := by
  refine ⟨fun {ρ a ρ'} h {F σ Hs H} rl {Q} q => ?_⟩
  obtain ⟨d, ρ1, e1, h⟩ := Res.bind_ok h
  split at h
  · cases h
    exact ⟨_, prg_1 hg hm (peW e) na, ha.run e1 rl fun v Hs' H' n r => ⟨_, r, q Hs' H' n⟩⟩
  · cases h
theorem sim_rg2 {ma mb : EM} (hm : X.mg "range" = none) (ha : SimV X S e ma) (hb : SimV X S e2 mb) (hg : Gl X "range" := by rfl) (na : starEach [e, e2] X.env = (false, eval e X.env) :: starEach [e2] X.env := by rfl) (nb : starEach [e2] X.env = (false, eval e2 X.env) :: starEach [] X.env := by rfl)
    (hp : (backTo pos (starEach [e2] X.env)).any (·.1) = false := by rfl) : SimR X S (.Call (.Name "range" p) [e, e2] [] pos) (rgM2 ma mb) := by
  refine ⟨fun {ρ a ρ'} h {F σ Hs H} rl {Q} q => ?_⟩
  obtain ⟨d, ρ1, e1, h⟩ := Res.bind_ok h
  obtain ⟨d2, ρ2, e3, h⟩ := Res.bind_ok h
  split at h
  · cases h
    exact ⟨_, prg_2 hg hm (peW e) (peW e2) na nb hp, ha.run e1 rl fun v Hs' H' n r => hb.run e3 n.rel fun u Hs2 H2 n2 r2 => ⟨_, _, r, r2, q Hs2 H2 (n.trans n2)⟩⟩
  · cases h
theorem rg_ok {i j : Int} (h : rgOk i j) : RgOk i j := by
  obtain ⟨h1, h2, h3, h4, h5⟩ := h
  have h5 : (j - i).toNat ≤ 16777216 := h5
  exact ⟨by omega, by omega, by omega, by omega, by omega⟩
theorem rep_rg {G : Gx} {Hs : Hp} (i j : Int) : RepL G Hs (rangeL i (j - i).toNat) (rgV i j) := by
  unfold rangeL rgV
  generalize List.range (j - i).toNat = l
  induction l with
  | nil => rfl
  | cons a l ih => exact .cons rfl ih
theorem sim_lstRg {m : Rho → Res (Int × Int)} (hc : X.calm = true) (hm : X.mg "list" = none) (he : SimR X S e m) (hg : Gl X "list" := by rfl) (na : starEach [e] X.env = (false, eval e X.env) :: starEach [] X.env := by rfl) : SimE X S (.Call (.Name "list" p) [e] [] pos) (lstRgM m) := by
  refine ⟨fun {ρ d ρ'} h {F σ Hs H} rl {Q} q => ?_⟩
  obtain ⟨a, ρ1, e1, h⟩ := Res.bind_ok h
  split at h
  · rename_i ok
    cases h
    refine ⟨_, pe_listRg hc hg hm (rgW e) na, he.run e1 rl fun Hs' H' n => ⟨rg_ok ok, fun b hb => ?_⟩⟩
    refine q _ Hs' _ (n.trans (n.rel.newOwn hb _)) (.ofOwn ⟨b, _, rfl, n.rel.sub.free hb, upd_same, rep_rg _ _⟩ rfl) fun _ c ec => ?_
    cases ec
    exact ⟨n.unn hb, n.rel.notOwn hb⟩
  · cases h
theorem sim_tupRg {m : Rho → Res (Int × Int)} (hc : X.calm = true) (hm : X.mg "tuple" = none) (he : SimR X S e m) (hg : Gl X "tuple" := by rfl) (na : starEach [e] X.env = (false, eval e X.env) :: starEach [] X.env := by rfl) : SimV X S (.Call (.Name "tuple" p) [e] [] pos) (tupRgM m) := by
  refine ⟨fun {ρ d ρ'} h {F σ Hs H} rl {Q} q => ?_⟩
  obtain ⟨a, ρ1, e1, h⟩ := Res.bind_ok h
  split at h
  · rename_i ok
    cases h
    refine ⟨_, pe_tupRg hc hg hm (rgW e) na, he.run e1 rl fun Hs' H' n => ⟨rg_ok ok, fun b hb => ?_⟩⟩
    exact q _ _ _ (n.trans (n.rel.newSh hb _)) ⟨b, _, rfl, .inl (.inl upd_same), rep_rg _ _⟩
  · cases h
end
end Sim

/-! Sim, part 20: x[k] op= e for a list that only this place holds. -/
namespace Sim
open PySem PySem.Spec PyProof.Rows L2
section
variable {X : Cx} {S : Sc} {e ix : Expr} {pos p : Pos} {x : Str}
theorem get_lst : PGet X (fun o i H Q => ∃ a xs k z, o = .ref a ∧ i = .int k ∧ 0 ≤ k ∧ H a = some (.lst xs) ∧ xs[k.toNat]? = some z ∧ Q z H) := by
  intro pins s σ H o i ov iv Q I ro ri h
  obtain ⟨a, xs, k, z, rfl, rfl, h0, ha, hz, q⟩ := h
  cases ro
  obtain ⟨t, rfl⟩ := ri
  obtain ⟨its, r, pl, hsz⟩ := I.list (.of ha)
  obtain ⟨w, ew, rw'⟩ := r.get hz
  have hl := r.length
  have hk := (List.getElem?_eq_some_iff.mp hz).1
  have hn := line63
  exact getItem_listL pl.isList h0 (by omega) ew ⟨z, H, I, rw', q⟩
def augIxM (i : Nat) (f : D → D → Option D) (mk me : EM) : SM := fun ρ => match ρ[i]? with
  | some (some (.lst .own _)) => (mk ρ).bind fun k ρ1 => match k, ρ1[i]? with
    | .int k, some (some (.lst .own ds)) => if 0 ≤ k then match ds[k.toNat]? with
      | some d => (me ρ1).bind fun y ρ2 => match f d y, ρ2[i]? with
        | some z, some (some (.lst .own ds2)) => if k.toNat < ds2.length then .ok .nxt (ρ2.set i (some (.lst .own (ds2.set k.toNat z)))) else .fail
        | _, _ => .fail
      | none => .fail
      else .fail
    | _, _ => .fail
  | _ => .fail
theorem sim_augIx (i : Nat) {op : Operator} {f : D → D → Option D} {mk me : EM} {px : Pos} (ho : IpS X op f) (hk : SimV X S ix mk) (he : SimV X S e me) (hN : X.N[i]? = some x := by rfl) (hv : Vis X.env.scope x := by first | exact Or.inl rfl | exact Or.inr (Or.inl rfl) | exact Or.inr (Or.inr rfl))
    (hd : (x == ("__debug__" : Str)) = false := by decide) (hcd : (x == ("__classdict__" : Str)) = false := by decide)
    (ha : ∀ ov iv new, augStore ix ov iv new = (do holding [new, ov, iv] (setItem ov iv new); release [new, ov, iv] []; pure .next) := by intros; rfl) : SimS X S (.AugAssign (.Subscript (.Name x px) ix p) op e pos) (augIxM i f mk me) := by
  refine ⟨fun {ρ f' ρ'} hm {F σ Hs H} rl {E} q => ?_⟩
  unfold augIxM at hm
  split at hm
  · rename_i ds0 h0
    obtain ⟨k, ρ1, e1, hm⟩ := Res.bind_ok hm
    split at hm
    · rename_i k ds h1
      split at hm
      · rename_i hk0
        split at hm
        · rename_i d hd1
          obtain ⟨y, ρ2, e2, hm⟩ := Res.bind_ok hm
          split at hm
          · rename_i z ds2 hz h2
            split at hm
            · rename_i hlt
              cases hm
              obtain ⟨v, ev, _⟩ := rl.slot i _ h0
              refine ⟨_, ps_augS (pe_var hN hv hd hcd) (peW ix) get_lst (peW e) (ipW op) set_list ha, _, ev, hk.run e1 rl fun kv Hs1 H1 n1 r1 => ?_⟩
              obtain ⟨v1, ev1, sv1⟩ := n1.rel.slot i _ h1
              rw [ev] at ev1; cases ev1
              obtain ⟨a, vs, ea, hn1, ha1, rs1⟩ := sv1.own rfl
              cases ea
              obtain ⟨w, ew, rw'⟩ := rs1.get hd1
              refine ⟨a, vs, k, w, rfl, r1, hk0, ha1, ew, he.run e2 n1.rel fun yv Hs2 H2 n2 r2 => ?_⟩
              refine ho hz n2.rel.sub (Rep.mono n2.same _ _ rw') r2 fun zv Hs3 H3 ex r3 => ?_
              have n3 := ex.nxt n2.rel
              have nn := (n1.trans n2).trans n3
              obtain ⟨v2, ev2, sv2⟩ := n3.rel.slot i _ h2
              rw [ev] at ev2; cases ev2
              obtain ⟨a2, vs2, ea2, hn2, ha2, rs2⟩ := sv2.own rfl
              cases ea2
              have hj : ixN vs2.length k = some k.toNat := by
                unfold ixN
                rw [if_pos hk0, if_pos (by rw [← rs2.length]; omega)]
              refine ⟨a, vs2, k, k.toNat, rfl, r1, ha2, hj, ?_⟩
              exact q σ Hs3 _ (nn.trans (n3.rel.write h2 rfl ev _ rfl ⟨_, _, rfl, hn2, upd_same, rs2.set r3 _⟩))
            · cases hm
          · cases hm
        · cases hm
      · cases hm
    · cases hm
  · cases hm
end
end Sim

/-! Sim, part 21: reading the mirrors of parts 18 to 20. -/
namespace Sim
open PySem PySem.Spec PyProof.Rows L2
section
variable {Q : D → Rho → Prop} {QL : List D → Rho → Prop} {ρ : Rho}
theorem T_rev {m : PM} : T (revM m ρ) Q = T (m ρ) (fun p ρ1 => ∃ x, res p ρ1 = some x ∧ ∃ d, revD x = some d ∧ Q d ρ1) := by
  unfold revM; simp only [T_bind]; congr 1; funext p ρ1
  rcases res p ρ1 with _ | x
  · exact propext ⟨fun x => x.elim, fun ⟨_, h, _⟩ => by cases h⟩
  · simp only [T_pureO]
    exact propext ⟨fun x => ⟨_, rfl, x⟩, fun ⟨_, h1, q⟩ => by cases h1; exact q⟩
theorem revD_lst (m : Md) (ds : List D) : revD (.lst m ds) = some (.lst .sh ds.reverse) := rfl
theorem addD_str (a b : Str) (h : a.length + b.length ≤ cap) : addD (.str a) (.str b) = some (.str (a ++ b)) := if_pos h
theorem sumD_ints (m : Md) (is : List Int) : sumD [.lst m (is.map .int)] = some (.int is.sum) := by
  show (match intsOf (is.map .int) with | some is => some (D.int is.sum) | none => none) = _
  rw [intsOf_map]
theorem T_revI {m : EM} : T (revI m ρ) QL = T (m ρ) (fun d ρ1 => ∃ ds, (d = .lst .sh ds ∨ d = .tup ds) ∧ QL ds.reverse ρ1) := by
  unfold revI; rw [T_bind]; congr 1; funext d ρ1
  cases d with
  | lst md ds => cases md with
    | sh => exact propext ⟨fun q => ⟨ds, .inl rfl, q⟩, fun ⟨_, h, q⟩ => by rcases h with h | h <;> cases h; exact q⟩
    | own => exact propext ⟨fun q => q.elim, fun ⟨_, h, q⟩ => by rcases h with h | h <;> cases h⟩
    | brw => exact propext ⟨fun q => q.elim, fun ⟨_, h, q⟩ => by rcases h with h | h <;> cases h⟩
  | tup ds => exact propext ⟨fun q => ⟨ds, .inr rfl, q⟩, fun ⟨_, h, q⟩ => by rcases h with h | h <;> cases h; exact q⟩
  | non => exact propext ⟨fun q => q.elim, fun ⟨_, h, q⟩ => by rcases h with h | h <;> cases h⟩
  | bl _ => exact propext ⟨fun q => q.elim, fun ⟨_, h, q⟩ => by rcases h with h | h <;> cases h⟩
  | int _ => exact propext ⟨fun q => q.elim, fun ⟨_, h, q⟩ => by rcases h with h | h <;> cases h⟩
  | str _ => exact propext ⟨fun q => q.elim, fun ⟨_, h, q⟩ => by rcases h with h | h <;> cases h⟩
  | dct _ _ _ => exact propext ⟨fun q => q.elim, fun ⟨_, h, q⟩ => by rcases h with h | h <;> cases h⟩
  | scr _ => exact propext ⟨fun q => q.elim, fun ⟨_, h, q⟩ => by rcases h with h | h <;> cases h⟩
theorem T_revR1 {m : EM} : T (revR1 m ρ) QL = T (m ρ) (fun d ρ1 => ∃ j, d = .int j ∧ (-1000000000000 ≤ j ∧ j ≤ 1000000000000) ∧ QL (rangeL 0 j.toNat).reverse ρ1) := by
  unfold revR1; simp only [T_bind]; congr 1; funext d ρ1
  cases d <;> first | exact propext ⟨fun x => x.elim, fun ⟨_, h, _⟩ => by cases h⟩ | skip
  show T (if _ then _ else _) QL = _
  rw [T_if]
  exact propext ⟨fun x => ⟨_, rfl, x⟩, fun ⟨_, h, q⟩ => by cases h; exact q⟩
theorem T_rg1 {QR : Int × Int → Rho → Prop} {m : EM} : T (rgM1 m ρ) QR = T (m ρ) (fun d ρ1 => ∃ j, d = .int j ∧ QR (0, j) ρ1) := by
  unfold rgM1; rw [T_bind]; congr 1; funext d ρ1
  cases d <;> first | exact propext ⟨fun x => x.elim, fun ⟨_, h, _⟩ => by cases h⟩ | exact propext ⟨fun x => ⟨_, rfl, x⟩, fun ⟨_, h, q⟩ => by cases h; exact q⟩
theorem T_rg2 {QR : Int × Int → Rho → Prop} {m n : EM} : T (rgM2 m n ρ) QR = T (m ρ) (fun d ρ1 => T (n ρ1) (fun e ρ2 => ∃ i, d = .int i ∧ ∃ j, e = .int j ∧ QR (i, j) ρ2)) := by
  unfold rgM2; simp only [T_bind]; congr 1; funext d ρ1; congr 1; funext e ρ2
  cases d <;> first | exact propext ⟨fun x => x.elim, fun ⟨_, h, _⟩ => by cases h⟩ | skip
  cases e <;> first | exact propext ⟨fun x => x.elim, fun ⟨_, _, _, h, _⟩ => by cases h⟩ | exact propext ⟨fun x => ⟨_, rfl, _, rfl, x⟩, fun ⟨_, h, _, h', q⟩ => by cases h; cases h'; exact q⟩
theorem T_augIx {i : Nat} {f : D → D → Option D} {mk me : EM} {QS : Flow → Rho → Prop} : (∃ ds0, ρ[i]? = some (some (.lst .own ds0)) ∧ T (mk ρ) fun k ρ1 => ∃ j : Nat, k = .int j ∧ ∃ ds, ρ1[i]? = some (some (.lst .own ds)) ∧ ∃ d, ds[j]? = some d ∧ T (me ρ1) fun y ρ2 => ∃ z, f d y = some z ∧ ∃ ds2, ρ2[i]? = some (some (.lst .own ds2)) ∧ j < ds2.length ∧ QS .nxt (ρ2.set i (some (.lst .own (ds2.set j z))))) → T (augIxM i f mk me ρ) QS := by
  rintro ⟨ds0, e0, h⟩
  unfold augIxM
  rw [e0]
  show T ((mk ρ).bind _) QS
  rw [T_bind]
  refine T_mono h ?_
  rintro _ ρ1 ⟨j, rfl, ds, e1, d, e2, h⟩
  show T (match (D.int j), ρ1[i]? with | .int k, some (some (.lst .own ds)) => _ | _, _ => _) QS
  rw [e1]
  show T (if (0 : Int) ≤ (j : Int) then _ else _) QS
  rw [if_pos (Int.natCast_nonneg j)]
  have e2' : ds[((j : Int)).toNat]? = some d := by rw [Int.toNat_natCast]; exact e2
  show T (match ds[((j : Int)).toNat]? with | some d => _ | none => _) QS
  rw [e2']
  show T ((me ρ1).bind _) QS
  rw [T_bind]
  refine T_mono h ?_
  rintro y ρ2 ⟨z, e3, ds2, e4, h5, q⟩
  show T (match f d y, ρ2[i]? with | some z, some (some (.lst .own ds2)) => _ | _, _ => _) QS
  rw [e3, e4]
  show T (if ((j : Int)).toNat < ds2.length then _ else _) QS
  rw [Int.toNat_natCast, if_pos h5]
  exact q
theorem setIx_nat (ds : List D) (j : Nat) (d : D) (h : j < ds.length) : setIxD ds (.int j) d = some (ds.set j d) := by
  unfold setIxD ixN
  show Option.map _ (if (0 : Int) ≤ (j : Int) then _ else _) = _
  rw [if_pos (Int.natCast_nonneg j), if_pos (by omega)]
  rfl
theorem T_lstRg {m : Rho → Res (Int × Int)} : T (lstRgM m ρ) Q = T (m ρ) (fun p ρ1 => rgOk p.1 p.2 ∧ Q (.lst .own (rangeL p.1 (p.2 - p.1).toNat)) ρ1) := by unfold lstRgM; simp only [T_bind, T_if, T_ok]
theorem T_tupRg {m : Rho → Res (Int × Int)} : T (tupRgM m ρ) Q = T (m ρ) (fun p ρ1 => rgOk p.1 p.2 ∧ Q (.tup (rangeL p.1 (p.2 - p.1).toNat)) ρ1) := by unfold tupRgM; simp only [T_bind, T_if, T_ok]
end
end Sim

/-! Sim, part 22: x in l where the items are data of any depth. -/
namespace Sim
open PySem PySem.Spec PyProof.Rows L2
theorem hu65 {k : Nat} {A : Around} (h : Room k A) : A.units + 65 < cLine := by have := h.un; omega
/-- as inD, and over lists of data too -/
def inX (x y : D) : Option Bool := match inD x y with
  | some b => some b
  | none => match y with
    | .lst _ ds => match toPy x, toPys ds with
      | some p, some ps => if SeqAt.shaped p = true ∧ SeqAt.shaped (.list ps) = true then some (ps.any fun z => PyData.eqv z p) else none
      | _, _ => none
    | _ => none
def inXD (x y : D) : Option D := (inX x y).map .bl
def notInXD (x y : D) : Option D := (inX x y).map fun b => .bl (!b)
section
variable {X : Cx}
theorem inX_both (hu : X.A.units + 65 < cLine) {x y : D} {b : Bool} (e : inX x y = some b) {Hs H : Hp} {u v : V} (s : Same Hs H) (rx : SlotV (gx X) Hs H x u) (ry : SlotV (gx X) Hs H y v) :
    (∃ r, OpR X (compareOp .In) r ∧ ∀ Q : VK, Q (.bl b) H → r u v H Q) ∧ (∃ r, OpR X (compareOp .NotIn) r ∧ ∀ Q : VK, Q (.bl (!b)) H → r u v H Q) := by
  unfold inX at e
  split at e
  · rename_i b' h
    cases e
    exact in_both (by omega) h s rx ry
  · split at e
    · rename_i m ds
      split at e
      · rename_i p ps hp hps
        split at e
        · rename_i hs
          cases e
          have hd : Dp X.K H v (.list ps) := slot_dp s ry (by unfold toPy; rw [hps])
          exact ⟨⟨_, op_inD hu, fun Q q => ⟨p, ps, slot_dp s rx hp, hd, hs.1, hs.2, q⟩⟩, ⟨_, op_notInD hu, fun Q q => ⟨p, ps, slot_dp s rx hp, hd, hs.1, hs.2, q⟩⟩⟩
        · cases e
      · cases e
    · cases e
theorem os_inX (hu : X.A.units + 65 < cLine) : OpS X (compareOp .In) inXD := by
  intro x y d e Hs H u v Q s rx ry q
  obtain ⟨b, eb, rfl⟩ := Option.map_eq_some_iff.mp e
  obtain ⟨⟨r, hr, h⟩, _⟩ := inX_both hu eb s rx ry
  exact ⟨r, hr, h Q (q _ Hs H (.refl s) rfl)⟩
theorem os_notInX (hu : X.A.units + 65 < cLine) : OpS X (compareOp .NotIn) notInXD := by
  intro x y d e Hs H u v Q s rx ry q
  obtain ⟨b, eb, rfl⟩ := Option.map_eq_some_iff.mp e
  obtain ⟨_, ⟨r, hr, h⟩⟩ := inX_both hu eb s rx ry
  exact ⟨r, hr, h Q (q _ Hs H (.refl s) rfl)⟩
end
theorem inXD_of (x y : D) : inXD x y = (inX x y).map .bl := rfl
theorem notInXD_of (x y : D) : notInXD x y = (inX x y).map fun b => .bl (!b) := rfl
theorem inX_dct (x : D) (m : Md) (ks ds : List D) : inX x (.dct m ks ds) = if keyOk x = true ∧ sort1 x ks = true then some (lookD x ks ds).isSome else none := by
  unfold inX
  rw [inD_dct]
  by_cases h : keyOk x = true ∧ sort1 x ks = true
  · rw [if_pos h]
  · rw [if_neg h]
theorem inX_tup (x : D) (ds : List D) : inX x (.tup ds) = inD.inL x ds := by
  unfold inX
  rw [inD_tup]
  cases inD.inL x ds <;> rfl
theorem inX_some {x y : D} {b : Bool} (h : inD x y = some b) : inX x y = some b := by
  unfold inX
  rw [h]
/-- data in a list of data -/
theorem inX_data (x : D) (m : Md) (ds : List D) (hx : laid x = true) (hds : laids ds = true) (rx : rank x ≤ 64) (rds : ranks ds ≤ 63) (h : inD x (.lst m ds) = none) : inX x (.lst m ds) = some (ds.any fun z => eqv z x) := by
  obtain ⟨p, e1, c1, r1⟩ := toPy_laid x hx
  obtain ⟨ps, e2, c2, r2⟩ := toPys_laid ds hds
  have s1 : SeqAt.shaped p = true := by unfold SeqAt.shaped; rw [c1, Bool.true_and]; exact decide_eq_true (by omega)
  have s2 : SeqAt.shaped (.list ps) = true := by
    unfold SeqAt.shaped
    rw [show (PyData.list ps).canLay0 = true from c2, Bool.true_and]
    exact decide_eq_true (by simp only [PyData.depth, r2]; omega)
  unfold inX
  rw [h]
  show (match toPy x, toPys ds with
    | some p, some ps => if SeqAt.shaped p = true ∧ SeqAt.shaped (.list ps) = true then some (ps.any fun z => PyData.eqv z p) else none
    | _, _ => none) = _
  rw [e1, e2]
  show (if _ then _ else none) = _
  rw [if_pos ⟨s1, s2⟩]
  congr 1
  have go : ∀ (ds : List D) (ps : List PyData), toPys ds = some ps → ps.any (fun z => PyData.eqv z p) = ds.any fun z => eqv z x := by
    intro ds
    induction ds with
    | nil => intro ps e; cases e; rfl
    | cons d ds ih =>
      intro ps e
      rw [toPys] at e
      split at e
      · rename_i q qs h1 h2
        cases e
        rw [List.any_cons, List.any_cons, ih qs h2, eqv_py d x q p h1 e1]
      · cases e
  exact go ds ps e2
end Sim

/-! Sim, part 23: calls that change own things of the caller; a comprehension of two fors. -/
namespace Sim
open PySem PySem.Spec PyProof.Rows L2

theorem paired_get {α β : Type} {R : α → β → Prop} : ∀ {xs : List α} {ys : List β}, Paired R xs ys → ∀ {q : Nat} {x : α}, xs[q]? = some x → ∃ y, ys[q]? = some y ∧ R x y
  | _, _, .nil, q, x, h => by simp at h
  | _, _, .cons h t, 0, x, e => by simp at e; subst e; exact ⟨_, rfl, h⟩
  | _, _, .cons h t, q + 1, x, e => by simp at e; simpa using paired_get t e

/-- the slots handed out stand at the def's changed parameters, in order -/
def ioAt (tgt : List (Nat × Nat)) (n : Nat) (d : D) : PD → Bool
  | .inl _ => (tgt.lookup n).isNone
  | .inr i => tgt.lookup n == some i && d.owned
def ioOk (tgt : List (Nat × Nat)) : Nat → List PD → List D → Bool
  | _, [], [] => true
  | n, p :: ps, d :: ds => ioAt tgt n d p && ioOk tgt (n + 1) ps ds
  | _, _, _ => false
def putL (ρ : Rho) : List Nat → List D → Rho
  | i :: is, d :: fs => putL (ρ.set i (some d)) is fs
  | _, _ => ρ
def callIO (f : Fn) (tgt : List (Nat × Nat)) (m : Rho → Res (List PD)) : EM := fun ρ => (m ρ).bind fun ps ρ1 => match resL ps ρ1 with
  | some ds => if ioOk tgt 0 ps ds = true then match f ds with
    | some (d, fs) => .ok d (putL ρ1 (tgt.map (·.2)) fs)
    | none => .fail
    else .fail
  | none => .fail
theorem ioOk_get {tgt : List (Nat × Nat)} {ρ : Rho} : ∀ {n : Nat} {ps : List PD} {ds : List D}, ioOk tgt n ps ds = true → resL ps ρ = some ds → ∀ {q : Nat} {d : D}, ds[q]? = some d → ∃ p, ps[q]? = some p ∧ res p ρ = some d ∧
      ((∃ d', p = .inl d' ∧ tgt.lookup (n + q) = none) ∨ ∃ i, p = .inr i ∧ tgt.lookup (n + q) = some i ∧ d.owned = true)
  | n, [], [], _, _, q, d, e => by simp at e
  | n, [], _ :: _, h, _, _, _, _ => by simp [ioOk] at h
  | n, _ :: _, [], h, _, _, _, _ => by simp [ioOk] at h
  | n, p :: ps, d0 :: ds, h, hr, q, d, e => by
    have h : (ioAt tgt n d0 p && ioOk tgt (n + 1) ps ds) = true := h
    rw [Bool.and_eq_true] at h
    unfold resL at hr
    split at hr
    · rename_i x xs hx hxs
      cases hr
      cases q with
      | zero =>
        simp at e
        subst e
        refine ⟨p, rfl, hx, ?_⟩
        cases p with
        | inl d' =>
          refine .inl ⟨d', rfl, ?_⟩
          have := h.1
          simpa [ioAt] using this
        | inr i =>
          refine .inr ⟨i, rfl, ?_⟩
          have := h.1
          simp only [ioAt, Bool.and_eq_true] at this
          exact ⟨by simpa using this.1, this.2⟩
      | succ q =>
        simp at e
        obtain ⟨p', h1, h2, h3⟩ := ioOk_get h.2 hxs e
        refine ⟨p', by simpa using h1, h2, ?_⟩
        rw [show n + (q + 1) = n + 1 + q by omega]
        exact h3
    · cases hr
theorem resL_len {ρ : Rho} : ∀ {ps : List PD} {ds : List D}, resL ps ρ = some ds → ps.length = ds.length
  | [], ds, h => by cases h; rfl
  | p :: ps, ds, h => by
    unfold resL at h
    split at h
    · rename_i x xs hx hxs
      cases h
      simp [resL_len hxs]
    · cases h
theorem putL_length : ∀ (is : List Nat) (fs : List D) (ρ : Rho), (putL ρ is fs).length = ρ.length
  | [], _, _ => rfl
  | _ :: _, [], _ => rfl
  | i :: is, d :: fs, ρ => by unfold putL; rw [putL_length is fs, List.length_set]
theorem putL_get : ∀ (is : List Nat) (fs : List D) (ρ : Rho) {j : Nat} {e : D}, is.length = fs.length → (putL ρ is fs)[j]? = some (some e) → (∃ q : Nat, is[q]? = some j ∧ fs[q]? = some e) ∨ (j ∉ is ∧ ρ[j]? = some (some e))
  | [], _, _, _, _, _, h => .inr ⟨by simp, h⟩
  | _ :: _, [], _, _, _, l, _ => by simp at l
  | i :: is, d :: fs, ρ, j, e, l, h => by
    rcases putL_get is fs _ (by simpa using l) h with ⟨q, h1, h2⟩ | ⟨h1, h2⟩
    · exact .inl ⟨q + 1, by simpa using h1, by simpa using h2⟩
    · rcases get_set_some h2 with ⟨rfl, z, _⟩ | ⟨hj, h2⟩
      · cases z; exact .inl ⟨0, rfl, rfl⟩
      · exact .inr ⟨by simp [hj, h1], h2⟩
theorem lasts_get {ρ : Rho} : ∀ {io : List Nat} {fs : List D}, lasts io ρ = some fs → io.length = fs.length ∧ ∀ {q : Nat} {e : D}, fs[q]? = some e → ∃ p, io[q]? = some p ∧ ρ[p]? = some (some e)
  | [], fs, h => by cases h; exact ⟨rfl, fun h => by simp at h⟩
  | i :: io, fs, h => by
    unfold lasts at h
    split at h
    · rename_i d ds h1 h2
      cases h
      obtain ⟨l, g⟩ := lasts_get h2
      refine ⟨by simp [l], fun {q e} hq => ?_⟩
      cases q with
      | zero => simp at hq; subst hq; exact ⟨i, rfl, h1⟩
      | succ q => simp at hq; obtain ⟨p, e1, e2⟩ := g hq; exact ⟨p, by simpa using e1, e2⟩
    · cases h
theorem lookup_get : ∀ {tgt : List (Nat × Nat)} {p i : Nat}, tgt.lookup p = some i → (p, i) ∈ tgt
  | (a, b) :: tgt, p, i, h => by
    rw [List.lookup_cons] at h
    split at h
    · rename_i e
      cases h
      have := eq_of_beq e
      subst this
      exact .head _
    · exact .tail _ (lookup_get h)
theorem lookup_at : ∀ {tgt : List (Nat × Nat)} {p i : Nat}, (tgt.map (·.1)).Nodup → (p, i) ∈ tgt → tgt.lookup p = some i
  | (a, b) :: tgt, p, i, hn, h => by
    simp only [List.map_cons, List.nodup_cons] at hn
    rw [List.lookup_cons]
    rcases List.mem_cons.mp h with e | h
    · cases e; simp
    · have : p ≠ a := fun z => hn.1 (z ▸ List.mem_map.mpr ⟨(p, i), h, rfl⟩)
      rw [show (p == a) = false from by simpa using this]
      exact lookup_at hn.2 h
theorem res_inr' {ρ : Rho} {i : Nat} {d : D} (h : res (.inr i) ρ = some d) : ρ[i]? = some (some d) := by
  rcases z : ρ[i]? with _ | _ | d' <;> simp [res, z] at h
  rw [h]
section
variable {G : Gx} {S S' : Sc} {F : Fm} {Hs H : Hp} {ρ : Rho} {σ : L2.St} {tgt : List (Nat × Nat)} {ps : List PD} {ds : List D} {vs : List V}
/-- what stands at place q of the arguments -/
theorem io_at (rl : Rel G S F Hs H ρ σ) (hp : PVals G Hs σ ps vs) (hr : resL ps ρ = some ds) (ok : ioOk tgt 0 ps ds = true) {q : Nat} {d : D} (e : ds[q]? = some d) :
    ∃ v, vs[q]? = some v ∧ SlotV G Hs H d v ∧ ((d.owned = false ∧ tgt.lookup q = none) ∨ ∃ i, tgt.lookup q = some i ∧ d.owned = true ∧ ρ[i]? = some (some d) ∧ σ[i]? = some (some v)) := by
  obtain ⟨p, h1, h2, h3⟩ := ioOk_get ok hr e
  rw [Nat.zero_add] at h3
  obtain ⟨v, ev, pv⟩ := paired_get hp h1
  refine ⟨v, ev, pv.look rl h2, ?_⟩
  rcases h3 with ⟨d', rfl, hl⟩ | ⟨i, rfl, hl, ho⟩
  · refine .inl ⟨?_, hl⟩
    have : d' = d := by simpa [res] using h2
    subst this
    exact Rep.owned (show Rep G Hs d' v from pv)
  · exact .inr ⟨i, hl, ho, res_inr' h2, pv⟩
theorem pad_get' {n : Nat} {ds : List D} {i : Nat} {d : D} (h : ds[i]? = some d) : (pad n ds)[i]? = some (some d) := by
  unfold pad
  have hi : i < ds.length := (List.getElem?_eq_some_iff.mp h).1
  rw [List.getElem?_append_left (by simpa using hi), List.getElem?_map, h]
  rfl
theorem rel_io {n : Nat} (rl : Rel G S F Hs H ρ σ) (hp : PVals G Hs σ ps vs) (hr : resL ps ρ = some ds) (ok : ioOk tgt 0 ps ds = true) (hio : S'.io = tgt.map (·.1)) (hos : ∀ i ∈ S'.io, i ∈ S'.os) (hnd : (tgt.map (·.2)).Nodup) :
    Rel G S' ⟨H, padV n vs⟩ Hs H (pad n ds) (padV n vs) := by
  have hl : ds.length = vs.length := by rw [← resL_len hr]; exact hp.length
  have at_ : ∀ {i : Nat} {d : D} {v : V}, (pad n ds)[i]? = some (some d) → d.owned = true → (padV n vs)[i]? = some (some v) → ∃ j, (i, j) ∈ tgt ∧ ρ[j]? = some (some d) ∧ σ[j]? = some (some v) := fun {i d v} h o hv => by
    obtain ⟨v', e1, _, h3⟩ := io_at rl hp hr ok (pad_get h)
    rw [padV_get e1] at hv
    cases hv
    rcases h3 with ⟨z, _⟩ | ⟨j, h4, _, h5, h6⟩
    · rw [o] at z; cases z
    · exact ⟨j, lookup_get h4, h5, h6⟩
  have inj : ∀ {i j k : Nat}, (i, k) ∈ tgt → (j, k) ∈ tgt → i = j := by
    clear at_ ok hio
    induction tgt with
    | nil => intro i j k h; cases h
    | cons t tgt ih =>
      intro i j k h1 h2
      simp only [List.map_cons, List.nodup_cons] at hnd
      rcases List.mem_cons.mp h1 with e1 | g1
      · rcases List.mem_cons.mp h2 with e2 | g2
        · rw [← e2] at e1; cases e1; rfl
        · exact absurd (List.mem_map.mpr ⟨(j, k), g2, by rw [← e1]⟩ : t.2 ∈ tgt.map (·.2)) hnd.1
      · rcases List.mem_cons.mp h2 with e2 | g2
        · exact absurd (List.mem_map.mpr ⟨(i, k), g1, by rw [← e2]⟩ : t.2 ∈ tgt.map (·.2)) hnd.1
        · exact ih hnd.2 g1 g2
  refine ⟨rl.sub, pad_len hl, fun i d h => ?_, fun i j d e a hij h1 h2 o1 o2 s1 s2 => ?_, fun i d a hi h1 o1 s1 => ?_, fun i d hi h => ?_, fun _ _ => rfl, fun _ h => h⟩
  · obtain ⟨v, e1, sv, _⟩ := io_at rl hp hr ok (pad_get h)
    exact ⟨v, padV_get e1, sv⟩
  · obtain ⟨k, m1, r1, t1⟩ := at_ h1 o1 s1
    obtain ⟨l, m2, r2, t2⟩ := at_ h2 o2 s2
    exact rl.apart k l d e a (fun z => hij (inj m1 (z ▸ m2))) r1 r2 o1 o2 t1 t2
  · obtain ⟨k, m1, r1, t1⟩ := at_ h1 o1 s1
    exact absurd (hio ▸ List.mem_map.mpr ⟨_, m1, rfl⟩) hi
  · obtain ⟨v, e1, _, h3⟩ := io_at rl hp hr ok (pad_get h)
    rcases h3 with ⟨z, _⟩ | ⟨j, h4, _⟩
    · exact z
    · exact absurd (hos i (hio ▸ List.mem_map.mpr ⟨_, lookup_get h4, rfl⟩)) hi
/-- behind the call -/
theorem Nxt.io {n : Nat} {σ' : L2.St} {Hs' H' : Hp} {ρ' : Rho} {fs : List D} (rl : Rel G S F Hs H ρ σ) (hp : PVals G Hs σ ps vs) (hr : resL ps ρ = some ds) (ok : ioOk tgt 0 ps ds = true) (hio : S'.io = tgt.map (·.1)) (hnd1 : (tgt.map (·.1)).Nodup) (hnd : (tgt.map (·.2)).Nodup) (hso : ∀ i ∈ tgt.map (·.2), i ∈ S.os) (hlen : ∀ i ∈ tgt.map (·.1), i < ds.length)
    (nx : Nxt G S' ⟨H, padV n vs⟩ (pad n ds) (padV n vs) Hs H ρ' σ' Hs' H') (hl : lasts S'.io ρ' = some fs) :
    Nxt G S F ρ σ Hs H (putL ρ (tgt.map (·.2)) fs) σ Hs' H' ∧ ∀ b, Own (putL ρ (tgt.map (·.2)) fs) σ b → Own ρ σ b := by
  rw [hio] at hl
  obtain ⟨l1, l2⟩ := lasts_get hl
  have ll : (tgt.map (·.2)).length = fs.length := by rw [← l1]; simp
  -- what the def held of its own stands in a slot here
  have down : ∀ b, Own (pad n ds) (padV n vs) b → ∃ p j d, (p, j) ∈ tgt ∧ ρ[j]? = some (some d) ∧ d.owned = true ∧ σ[j]? = some (some (V.ref b)) := fun b ⟨i, d, h1, o1, s1⟩ => by
    obtain ⟨v, e1, _, h3⟩ := io_at rl hp hr ok (pad_get h1)
    rw [padV_get e1] at s1
    cases s1
    rcases h3 with ⟨z, _⟩ | ⟨j, h4, _, h5, h6⟩
    · rw [o1] at z; cases z
    · exact ⟨i, j, d, lookup_get h4, h5, o1, h6⟩
  have downO : ∀ b, Own (pad n ds) (padV n vs) b → Own ρ σ b := fun b h => by
    obtain ⟨_, j, d, _, h1, h2, h3⟩ := down b h
    exact ⟨j, d, h1, h2, h3⟩
  -- a handed slot: what it was, what it is
  have tg : ∀ {p j : Nat}, (p, j) ∈ tgt → ∃ d v, ds[p]? = some d ∧ vs[p]? = some v ∧ d.owned = true ∧ ρ[j]? = some (some d) ∧ σ[j]? = some (some v) := fun {p j} h => by
    have hpl := hlen p (List.mem_map.mpr ⟨_, h, rfl⟩)
    obtain ⟨v, e1, _, h3⟩ := io_at rl hp hr ok (List.getElem?_eq_getElem hpl)
    rcases h3 with ⟨_, z⟩ | ⟨i, z, h4, h5, h6⟩
    · rw [lookup_at hnd1 h] at z; cases z
    · rw [lookup_at hnd1 h] at z
      cases z
      exact ⟨_, v, List.getElem?_eq_getElem hpl, e1, h4, h5, h6⟩
  have new : ∀ {j : Nat} {e : D}, (putL ρ (tgt.map (·.2)) fs)[j]? = some (some e) → (∃ p, (p, j) ∈ tgt ∧ ρ'[p]? = some (some e)) ∨ ((∀ p, (p, j) ∉ tgt) ∧ ρ[j]? = some (some e)) := fun {j e} h => by
    rcases putL_get _ _ _ ll h with ⟨q, h1, h2⟩ | ⟨h1, h2⟩
    · obtain ⟨p, e1, e2⟩ := l2 h2
      refine .inl ⟨p, ?_, e2⟩
      rw [List.getElem?_map] at h1 e1
      obtain ⟨t, t1, t2⟩ := Option.map_eq_some_iff.mp h1
      rw [t1] at e1
      cases e1
      subst t2
      exact List.mem_of_getElem? t1
    · exact .inr ⟨fun p hm => h1 (List.mem_map.mpr ⟨_, hm, rfl⟩), h2⟩
  have pars : ∀ {p j : Nat}, (p, j) ∈ tgt → ∃ v, σ'[p]? = some (some v) ∧ σ[j]? = some (some v) := fun {p j} h => by
    obtain ⟨d, v, _, e2, _, _, e5⟩ := tg h
    refine ⟨v, ?_, e5⟩
    rw [nx.rel.par p (by rw [hio]; exact List.mem_map.mpr ⟨_, h, rfl⟩)]
    exact padV_get e2
  have notOwn : ∀ {j : Nat} {e : D} {a : Addr}, (∀ p, (p, j) ∉ tgt) → ρ[j]? = some (some e) → e.owned = true → σ[j]? = some (some (V.ref a)) → ¬ Own (pad n ds) (padV n vs) a := fun {j e a} h1 h2 h3 h4 h5 => by
    obtain ⟨p, k, d, m, r1, o1, s1⟩ := down a h5
    have : j ≠ k := fun z => h1 p (z ▸ m)
    exact rl.apart j k e d a this h2 r1 h3 o1 h4 s1
  have stays : ∀ {j : Nat} {e : D} {v : V}, (∀ p, (p, j) ∉ tgt) → ρ[j]? = some (some e) → σ[j]? = some (some v) → SlotV G Hs H e v → SlotV G Hs' H' e v := fun {j e v} h1 h2 h3 sv => by
    by_cases oe : e.owned = true
    · refine .ofOwn ((sv.own oe).stay nx.same (fun b z => ?_) fun b o z q => ?_) oe
      · subst z
        obtain ⟨n0, o, hb⟩ := rl.ownAt ⟨j, e, h2, oe, h3⟩
        cases z : Hs' b with
        | none => rfl
        | some u =>
          rcases nx.grow b (by rw [z]; exact fun z => by cases z) with y | y | y
          · exact absurd n0 y
          · exact absurd y (notOwn h1 h2 oe h3)
          · rw [hb] at y; cases y
      · subst z
        exact nx.keep b o q (notOwn h1 h2 oe h3)
    · exact .of (Rep.mono nx.same _ _ (sv.rep (by simpa using oe)))
  have ownUp : ∀ b, Own (putL ρ (tgt.map (·.2)) fs) σ b → Own ρ σ b := fun b ⟨j, e, h1, h2, h3⟩ => by
    rcases new h1 with ⟨p, m, _⟩ | ⟨_, h4⟩
    · obtain ⟨d, v, _, _, o, r, s⟩ := tg m
      exact ⟨j, d, r, o, h3⟩
    · exact ⟨j, e, h4, h2, h3⟩
  refine ⟨⟨⟨nx.rel.sub, by rw [putL_length]; exact rl.len, fun j e h => ?_, fun i j d e a hij h1 h2 o1 o2 s1 s2 => ?_, fun j e a hj h1 o1 s1 => ?_, fun j e hj h1 => ?_, rl.par, fun b h => nx.dom b (rl.dom0 b h)⟩,
    nx.same, fun b o h no => nx.keep b o h fun z => no (downO b z), nx.dom, fun b h => .inl (ownUp b h), fun b h => ?_, fun _ _ => rfl, rfl⟩, ownUp⟩
  · rcases new h with ⟨p, m, h1⟩ | ⟨h1, h2⟩
    · obtain ⟨v, e1, e2⟩ := pars m
      obtain ⟨v', e3, sv⟩ := nx.rel.slot p e h1
      rw [e1] at e3
      cases e3
      exact ⟨v, e2, sv⟩
    · obtain ⟨v, ev, sv⟩ := rl.slot j e h2
      exact ⟨v, ev, stays h1 h2 ev sv⟩
  · rcases new h1 with ⟨p, m, _⟩ | ⟨_, g1⟩
    · obtain ⟨d', v, _, _, o, r, s⟩ := tg m
      rcases new h2 with ⟨p2, m2, _⟩ | ⟨_, g2⟩
      · obtain ⟨d2, v2, _, _, o', r', s'⟩ := tg m2
        exact rl.apart i j d' d2 a hij r r' o o' s1 s2
      · exact rl.apart i j d' e a hij r g2 o o2 s1 s2
    · rcases new h2 with ⟨p2, m2, _⟩ | ⟨_, g2⟩
      · obtain ⟨d2, v2, _, _, o', r', s'⟩ := tg m2
        exact rl.apart i j d d2 a hij g1 r' o1 o' s1 s2
      · exact rl.apart i j d e a hij g1 g2 o1 o2 s1 s2
  · rcases new h1 with ⟨p, m, _⟩ | ⟨_, g1⟩
    · obtain ⟨d', v, _, _, o, r, s⟩ := tg m
      exact rl.fresh j d' a hj r o s1
    · exact rl.fresh j e a hj g1 o1 s1
  · rcases new h1 with ⟨p, m, _⟩ | ⟨_, g1⟩
    · exact absurd (hso j (List.mem_map.mpr ⟨_, m, rfl⟩)) hj
    · exact rl.vals j e hj g1
  · rcases nx.grow b h with y | y | y
    · exact .inl y
    · exact .inr (.inl (downO b y))
    · exact .inr (.inr y)
end
section
variable {X : Cx} {S : Sc} {e : Expr} {es : List Expr} {mes : Rho → Res (List PD)} {pos p : Pos} {x : Str}
theorem sim_callIO {k np n : Nat} {S' : Sc} {g : Addr} {gd : FuncData} {ps : List Str} {f : Fn} (tgt : List (Nat × Nat)) (G : FnOk X.prog X.w X.K X.mg X.base CX0 k g gd ps (spF (gx X) S' np n f)) (hr : Room k X.A) (hm : X.mg x = some (.ref g)) (hk : PySem.W.keepIn X.K (.ref g) = true) (hb : Binds X.K gd ps [])
    (hl : (e :: es).length = np) (ha : SimPA X S (e :: es) mes) (hio : S'.io = tgt.map (·.1) := by rfl) (hio2 : ∀ i ∈ S'.io, i ∈ S'.os := by first | decide | exact of_decide_eq_true rfl) (hnd1 : (tgt.map (·.1)).Nodup := by decide) (hnd : (tgt.map (·.2)).Nodup := by decide) (hso : ∀ i ∈ tgt.map (·.2), i ∈ S.os := by first | decide | exact of_decide_eq_true rfl) (hlen : ∀ i ∈ tgt.map (·.1), i < (e :: es).length := by decide)
    (hg : Gl X x := by rfl) (hdb : (x == ("__debug__" : Str)) = false := by decide) (he : starEach (e :: es) X.env = (false, eval e X.env) :: starEach es X.env := by rfl) (hpl : (backTo pos (starEach es X.env)).any (·.1) = false := by rfl)
    (hla : ∀ {ρ ρ' : Rho} {ds : List PD}, mes ρ = .ok ds ρ' → ds.length = (e :: es).length) : SimE X S (.Call (.Name x p) (e :: es) [] pos) (callIO f tgt mes) := by
  refine ⟨fun {ρ d ρ'} hm' {F σ Hs H} rl {Q} q => ?_⟩
  obtain ⟨psd, ρ1, e1, e2⟩ := Res.bind_ok hm'
  split at e2
  · rename_i ds hds
    split at e2
    · rename_i ok
      split at e2
      · rename_i d' fs hf
        cases e2
        refine ⟨_, pe_call G hr hg hm hk hb .nil pass0 (paW (e :: es)) hdb he hpl, ha.run e1 rl fun vs Hs1 H1 n1 r1 => ?_⟩
        show spF (gx X) S' np n f (vs ++ []) H1 Q E0
        rw [List.append_nil]
        have hdl : ds.length = (e :: es).length := by rw [← resL_len hds, hla e1]
        refine ⟨by rw [← Paired.length r1, hla e1, hl], ds, d, fs, Hs1, hf, rel_io n1.rel r1 hds ok hio hio2 hnd, fun v σ' Hs2 H2 ρ2 n2 rv hlf => ?_⟩
        obtain ⟨g1, g2⟩ := Nxt.io n1.rel r1 hds ok hio hnd1 hnd hso (by rw [hdl]; exact hlen) n2 hlf
        refine q v Hs2 H2 (n1.trans g1) rv.1 fun o a ea => ?_
        have h0 := (rv.2 o a ea).1
        exact ⟨n1.unn h0, fun z => n1.rel.notOwn h0 (g2 a z)⟩
      · cases e2
    · cases e2
  · cases e2
theorem lenP_nil : ∀ {ρ ρ' : Rho} {ds : List PD}, nilP ρ = .ok ds ρ' → ds.length = 0 := fun h => by cases h; rfl
theorem lenP_cons {m : PM} {n : Rho → Res (List PD)} {l : Nat} (h : ∀ {ρ ρ' : Rho} {ds : List PD}, n ρ = .ok ds ρ' → ds.length = l) : ∀ {ρ ρ' : Rho} {ds : List PD}, consP m n ρ = .ok ds ρ' → ds.length = l + 1 := fun e => by
  obtain ⟨d, ρ1, e1, e⟩ := Res.bind_ok e
  obtain ⟨ds, ρ2, e2, e⟩ := Res.bind_ok e
  cases e
  rw [List.length_cons, h e2]
end
@[simp] theorem T_callIO {Q : D → Rho → Prop} {ρ : Rho} {f : Fn} {tgt : List (Nat × Nat)} {m : Rho → Res (List PD)} : T (callIO f tgt m ρ) Q = T (m ρ) (fun ps ρ1 => ∃ ds, resL ps ρ1 = some ds ∧ ioOk tgt 0 ps ds = true ∧ FT f ds (fun d fs => Q d (putL ρ1 (tgt.map (·.2)) fs))) := by
  unfold callIO
  rw [T_bind]
  congr 1
  funext ps ρ1
  cases h : resL ps ρ1 with
  | none => exact propext ⟨fun x => x.elim, fun ⟨_, h, _⟩ => by cases h⟩
  | some ds =>
    show T (if ioOk tgt 0 ps ds = true then _ else .fail) Q = _
    rw [T_if]
    unfold FT
    refine propext ⟨fun ⟨h1, h2⟩ => ⟨ds, rfl, h1, ?_⟩, fun ⟨_, h0, h1, h2⟩ => ?_⟩
    · cases hf : f ds with
      | none => rw [hf] at h2; exact h2.elim
      | some p => rw [hf] at h2; exact ⟨p.1, p.2, rfl, h2⟩
    · cases h0
      obtain ⟨d, fs, hf, q⟩ := h2
      refine ⟨h1, ?_⟩
      rw [hf]
      exact q
end Sim

/-! Sim, part 24: a list comprehension of two fors. -/
namespace Sim
open PySem PySem.Spec PyProof.Rows L2

theorem compGo_len {vs : List Nat} {g : GM} {c : TM} {e : EM} : ∀ {ds acc : List D} {ρ ρ' : Rho} {acc' : List D}, compGo vs g c e ds acc ρ = .ok acc' ρ' → acc.length ≤ acc'.length
  | [], acc, ρ, ρ', acc', h => by cases h; exact Nat.le_refl _
  | d :: ds, acc, ρ, ρ', acc', h => by
    obtain ⟨_, ρ1, e1, h⟩ := Res.bind_ok h
    obtain ⟨b, ρ2, e2, h⟩ := Res.bind_ok h
    cases b with
    | true =>
      obtain ⟨y, ρ3, e3, h⟩ := Res.bind_ok h
      have := compGo_len h
      rw [List.length_append, List.length_singleton] at this
      omega
    | false => exact compGo_len h
/-- the loop's body: outer item by outer item -/
def compGo2 (vs vs1 : List Nat) (g : GM) (c : TM) (it1 : AM) (g1 : GM) (c1 : TM) (e : EM) : List D → List D → Rho → Res (List D)
  | [], acc, ρ => .ok acc ρ
  | d :: ds, acc, ρ => (g d ρ).bind fun _ ρ1 => (c ρ1).bind fun b ρ2 => match b with
    | true => (it1 ρ2).bind fun ds1 ρ3 => (compGo vs1 g1 c1 e ds1 acc (wipeR ρ3 vs1)).bind fun acc' ρ4 => compGo2 vs vs1 g c it1 g1 c1 e ds acc' (wipeR ρ4 vs)
    | false => compGo2 vs vs1 g c it1 g1 c1 e ds acc (wipeR ρ2 vs)
theorem compGo2_len {vs vs1 : List Nat} {g : GM} {c : TM} {it1 : AM} {g1 : GM} {c1 : TM} {e : EM} : ∀ {ds acc : List D} {ρ ρ' : Rho} {acc' : List D}, compGo2 vs vs1 g c it1 g1 c1 e ds acc ρ = .ok acc' ρ' → acc.length ≤ acc'.length
  | [], acc, ρ, ρ', acc', h => by cases h; exact Nat.le_refl _
  | d :: ds, acc, ρ, ρ', acc', h => by
    obtain ⟨_, ρ1, e1, h⟩ := Res.bind_ok h
    obtain ⟨b, ρ2, e2, h⟩ := Res.bind_ok h
    cases b with
    | true =>
      obtain ⟨y, ρ3, e3, h⟩ := Res.bind_ok h
      obtain ⟨a2, ρ4, e4, h⟩ := Res.bind_ok h
      exact Nat.le_trans (compGo_len e4) (compGo2_len h)
    | false => exact compGo2_len h
def compM2 (n : Nat) (vs vs1 : List Nat) (it : AM) (g : GM) (c : TM) (it1 : AM) (g1 : GM) (c1 : TM) (e : EM) : EM := fun ρ => (it ρ).bind fun ds ρ1 =>
  if ρ1.length = n then (compGo2 vs vs1 g c it1 g1 c1 e ds [] (wipeR ρ1 vs)).bind fun acc ρ2 => if acc.length ≤ cap then .ok (.lst .own acc) (wipeR ρ2 vs) else .fail else .fail
theorem Nxt.sc {G : Gx} {S S' : Sc} {F : Fm} {ρ ρ' : Rho} {σ σ' : L2.St} {Hs H Hs' H' : Hp} (n : Nxt G S F ρ σ Hs H ρ' σ' Hs' H') (h1 : S'.os = S.os) (h2 : S'.io = S.io) (h3 : ∀ i ∈ S'.fx, i ∈ S.fx) : Nxt G S' F ρ σ Hs H ρ' σ' Hs' H' :=
  ⟨n.rel.sc h1 h2, n.same, n.keep, n.dom, n.own, n.grow, fun i hi => n.fix i (h3 i hi), n.slen⟩
section
variable {X : Cx} {S S' S1 : Sc} {tg iter tg1 iter1 elt : Expr} {ifs ifs1 : List Expr} {scope : Scope} {own : List (Str × Nat)} {mi mi1 : AM} {g g1 : GM} {mc mc1 : TM} {me : EM} {n : Nat}
/-- the loop of a block, from any state -/
theorem lc_loop {vs : List Nat} {σc σb : L2.St} {J : It} {ds ac0 acc : List D} {av0 : List V} {Hsb Hb Hsc Hc : Hp} {ρb ρ0 ρ2 : Rho} {F : Fm} {A : Addr} (fd : Feeds (gx X) J ds Hsc)
    (hg : Blk X scope fun Y => SimG Y S' tg g) (ht : Blk X scope fun Y => SimTs Y S' ifs mc) (he : Blk X scope fun Y => SimV Y S' elt me)
    (h1 : S'.os = S.os) (h2 : S'.io = S.io) (h3 : ∀ i ∈ S.fx, i ∈ S'.fx) (hio : ∀ i ∈ vs, i ∉ S.io)
    (hwp : ∀ σ4 : L2.St, σ4.length = σc.length → (∀ j ∈ S'.fx, σ4[j]? = σc[j]?) → wipe σ4 vs = σc)
    (base : Nxt (gx X) S F ρb σb Hsb Hb ρ0 σc Hsc Hc) (hA : Hb A = none) (hcA : Hc A = some (.lst av0)) (hsA : Hsc A = none) (hO : ¬ Own ρ0 σc A) (rp : RepL (gx X) Hsc ac0 av0)
    (hm : compGo vs g mc me ds ac0 ρ0 = .ok acc ρ2) (hcap : acc.length ≤ cap) :
    ∃ W : Nat → Nat → Hp → Prop, (∃ m, W 0 m Hc) ∧ ∀ i k Ht, W i k Ht →
      (J.stop i Ht ∧ ∃ Hst av, Nxt (gx X) S F ρb σb Hsb Hb ρ2 σc Hst Ht ∧ Same Hsc Hst ∧ Ht A = some (.lst av) ∧ Hst A = none ∧ ¬ Own ρ2 σc A ∧ RepL (gx X) Hst acc av) ∨
      (J.go i Ht ∧ ∃ Nx : Hp → Prop, (∀ H', Nx H' → ∃ m', m' < k ∧ W (i + 1) m' H') ∧ ∀ x H', J.yld i Ht x H' → (Blk X scope fun Y => WG Y tg x σc H' fun σ4 H4 => wipe σ4 vs = σc ∧ Blk X scope fun Y => WTs Y ifs σ4 H4 fun b H5 =>
        if b = true then Blk X scope fun Y => WE Y elt σ4 H5 fun y H6 => ∃ acc, H6 A = some (.lst acc) ∧ acc.length < sizeLine ∧ Nx (upd H6 A (.lst (acc ++ [y]))) else Nx H5)) := by
  refine ⟨fun i k Ht => ∃ ρt Hst ac av, i + k = ds.length ∧ compGo vs g mc me (ds.drop i) ac ρt = .ok acc ρ2 ∧ Same Hsc Hst ∧ Nxt (gx X) S F ρb σb Hsb Hb ρt σc Hst Ht ∧
        Ht A = some (.lst av) ∧ Hst A = none ∧ ¬ Own ρt σc A ∧ RepL (gx X) Hst ac av, ⟨ds.length, ρ0, Hsc, ac0, av0, by simp, hm, .refl _, base, hcA, hsA, hO, rp⟩, ?_⟩
  rintro i k Ht ⟨ρt, Hst, ac, av, ek, e, sm, nt, htA, hstA, nOA, rac⟩
  by_cases hi' : i < ds.length
  · right
    rw [List.drop_eq_getElem_cons hi'] at e
    obtain ⟨_, ρ3, e3, e⟩ := Res.bind_ok e
    obtain ⟨b, ρ4, e4, e⟩ := Res.bind_ok e
    obtain ⟨go, yl⟩ := fd.1 i _ Hst Ht (List.getElem?_eq_getElem hi') sm nt.rel.sub
    refine ⟨go, fun H' => ∃ ρt Hst ac av, i + 1 + (k - 1) = ds.length ∧ compGo vs g mc me (ds.drop (i + 1)) ac ρt = .ok acc ρ2 ∧ Same Hsc Hst ∧ Nxt (gx X) S F ρb σb Hsb Hb ρt σc Hst H' ∧
      H' A = some (.lst av) ∧ Hst A = none ∧ ¬ Own ρt σc A ∧ RepL (gx X) Hst ac av, fun H' h => ⟨k - 1, by omega, h⟩, fun x H3 y s0 H0 C cl fp => ?_⟩
    obtain ⟨Hs3, x3, r3⟩ := yl x H3 y
    have n3' := x3.nxt nt.rel
    have n3 := nt.trans n3'
    obtain ⟨a3, b3, c3⟩ := n3'.tmp htA hstA nOA
    refine (hg s0 H0 C cl fp).run e3 (n3.rel.sc h1 h2) r3 fun σ4 Hs4 H4 n4 => ?_
    obtain ⟨a4, b4, c4⟩ := n4.tmp a3 b3 c3
    have we : wipe σ4 vs = σc := hwp σ4 n4.slen fun j hj => n4.fix j hj
    have n4S := n4.sc h1.symm h2.symm h3
    refine ⟨we, fun s0 H0 C cl fp => (ht s0 H0 C cl fp).run e4 n4.rel fun Hs5 H5 n5 => ?_⟩
    obtain ⟨a5, b5, c5⟩ := n5.tmp a4 b4 c4
    have back : ∀ {ρ6 : Rho} {Hs6 H6 : Hp}, Nxt (gx X) S' F ρ3 σ4 Hs4 H4 ρ6 σ4 Hs6 H6 → ¬ Own ρ6 σ4 A → Nxt (gx X) S F ρb σb Hsb Hb (wipeR ρ6 vs) σc Hs6 H6 ∧ ¬ Own (wipeR ρ6 vs) σc A := fun {ρ6 Hs6 H6} n6 c6 => by
      have n := (n3.trans n4S).trans (n6.sc h1.symm h2.symm h3)
      refine ⟨⟨by rw [← we]; exact n.rel.wipe hio, n.same, n.keep, n.dom, fun b z => n.own b (by rw [← we] at z; exact own_wipe z), n.grow, fun j hj => base.fix j hj, base.slen⟩, fun z => c6 (by rw [← we] at z; exact own_wipe z)⟩
    cases b with
    | false =>
      rw [if_neg Bool.false_ne_true]
      obtain ⟨m1, m2⟩ := back n5 c5
      exact ⟨_, Hs5, ac, av, by omega, e, ((sm.trans x3.s).trans n4.same).trans n5.same, m1, a5, b5, m2, RepL.mono ((x3.s.trans n4.same).trans n5.same) _ _ rac⟩
    | true =>
      rw [if_pos rfl]
      obtain ⟨yd, ρ5, e5, e⟩ := Res.bind_ok e
      refine fun s0 H0 C cl fp => (he s0 H0 C cl fp).run e5 n5.rel fun yv Hs6 H6 n6 r6 => ?_
      obtain ⟨a6, b6, c6⟩ := n6.tmp a5 b5 c5
      obtain ⟨m1, m2⟩ := back (n5.trans n6) c6
      have sm6 : Same Hst Hs6 := ((x3.s.trans n4.same).trans n5.same).trans n6.same
      have hl := compGo_len e
      rw [List.length_append, List.length_singleton] at hl
      refine ⟨av, a6, by rw [← rac.length, sizeCap]; omega, _, Hs6, ac ++ [yd], av ++ [yv], by omega, e, sm.trans sm6, m1.tmpWrite hA b6 m2 _, upd_same, b6, m2, (RepL.mono sm6 _ _ rac).append (.cons r6 .nil)⟩
  · have ei : i = ds.length := by omega
    subst ei
    rw [List.drop_length] at e
    cases e
    exact .inl ⟨fd.2 Hst Ht sm nt.rel.sub, Hst, av, nt, sm, htA, hstA, nOA, rac⟩
theorem lc2_read {vs1 : List Nat} (hi : SimI X S tg iter mi) (hg : Blk X scope fun Y => SimG Y S' tg g) (ht : Blk X scope fun Y => SimTs Y S' ifs mc)
    (hi1 : Blk X scope fun Y => SimI Y S' tg1 iter1 mi1) (hg1 : Blk X scope fun Y => SimG Y S1 tg1 g1) (ht1 : Blk X scope fun Y => SimTs Y S1 ifs1 mc1) (he : Blk X scope fun Y => SimV Y S1 elt me)
    (h1 : S'.os = S.os) (h2 : S'.io = S.io) (k1 : S1.os = S'.os) (k2 : S1.io = S'.io) (k3 : ∀ i ∈ S'.fx, i ∈ S1.fx) (hv : ∀ i ∈ vs1, i ∈ own.map (·.2)) (hio : ∀ i ∈ own.map (·.2), i ∉ S.io) (hfx : ∀ i, i < n → i ∈ own.map (·.2) ∨ i ∈ S'.fx) (hfx1 : ∀ i, i < n → i ∈ vs1 ∨ i ∈ S1.fx)
    {ρ : Rho} {d : D} {ρ' : Rho} (hm : compM2 n (own.map (·.2)) vs1 mi g mc mi1 g1 mc1 me ρ = .ok d ρ') {F : Fm} {σ : L2.St} {Hs H : Hp} (rl : Rel (gx X) S F Hs H ρ σ) {Q : VK}
    (q : ∀ v Hs' H', Nxt (gx X) S F ρ σ Hs H ρ' σ Hs' H' → SlotV (gx X) Hs' H' d v → (d.owned = true → ∀ a, v = .ref a → H a = none ∧ ¬ Own ρ' σ a) → Q v H') :
    tLc2 (WI X tg iter) (fun x σ H Q => Blk X scope fun Y => WG Y tg x σ H Q) (fun σ H Q => Blk X scope fun Y => WTs Y ifs σ H Q) (fun σ H R => Blk X scope fun Y => WI Y tg1 iter1 σ H R)
      (fun x σ H Q => Blk X scope fun Y => WG Y tg1 x σ H Q) (fun σ H Q => Blk X scope fun Y => WTs Y ifs1 σ H Q) (fun σ H Q => Blk X scope fun Y => WE Y elt σ H Q) (own.map (·.2)) vs1 σ H Q := by
  obtain ⟨ds, ρ1, e1, hm⟩ := Res.bind_ok hm
  split at hm
  · rename_i hn
    obtain ⟨acc, ρ2, e2, hm⟩ := Res.bind_ok hm
    split at hm
    · rename_i hcap
      cases hm
      generalize hvs : own.map (·.2) = vs at *
      refine hi.run e1 rl fun J Hs1 H1 n1 fd => fun A hA => ?_
      have hsA : Hs1 A = none := n1.rel.sub.free hA
      have nw : Nxt (gx X) S' F (wipeR ρ1 vs) (wipe σ vs) Hs1 H1 (wipeR ρ1 vs) (wipe σ vs) Hs1 (upd H1 A (.lst [])) := ((n1.rel.wipe hio).sc h1 h2).newOwn hA _
      have hlen : σ.length = n := by rw [← n1.rel.len]; exact hn
      refine ⟨fun i k Ht => ∃ ρt Hst ac av, i + k = ds.length ∧ compGo2 vs vs1 g mc mi1 g1 mc1 me (ds.drop i) ac ρt = .ok acc ρ2 ∧ Same Hs1 Hst ∧ Nxt (gx X) S' F (wipeR ρ1 vs) (wipe σ vs) Hs1 H1 ρt (wipe σ vs) Hst Ht ∧
          Ht A = some (.lst av) ∧ Hst A = none ∧ ¬ Own ρt (wipe σ vs) A ∧ RepL (gx X) Hst ac av, ⟨ds.length, wipeR ρ1 vs, Hs1, [], [], by simp, e2, .refl _, nw, upd_same, hsA, fun z => n1.rel.notOwn hA (own_wipe z), rfl⟩, ?_⟩
      rintro i k Ht ⟨ρt, Hst, ac, av, ek, e, sm, nt, htA, hstA, nOA, rac⟩
      by_cases hi' : i < ds.length
      · rw [List.drop_eq_getElem_cons hi'] at e
        obtain ⟨_, ρ3, e3, e⟩ := Res.bind_ok e
        obtain ⟨b, ρ4, e4, e⟩ := Res.bind_ok e
        obtain ⟨go, yl⟩ := fd.1 i _ Hst Ht (List.getElem?_eq_getElem hi') sm nt.rel.sub
        refine .inr ⟨go, fun H' => ∃ ρt Hst ac av, i + 1 + (k - 1) = ds.length ∧ compGo2 vs vs1 g mc mi1 g1 mc1 me (ds.drop (i + 1)) ac ρt = .ok acc ρ2 ∧ Same Hs1 Hst ∧ Nxt (gx X) S' F (wipeR ρ1 vs) (wipe σ vs) Hs1 H1 ρt (wipe σ vs) Hst H' ∧
          H' A = some (.lst av) ∧ Hst A = none ∧ ¬ Own ρt (wipe σ vs) A ∧ RepL (gx X) Hst ac av, fun H' h => ⟨k - 1, by omega, h⟩, fun x H3 y s0 H0 C cl fp => ?_⟩
        obtain ⟨Hs3, x3, r3⟩ := yl x H3 y
        have n3' := x3.nxt nt.rel
        have n3 := nt.trans n3'
        obtain ⟨a3, b3, c3⟩ := n3'.tmp htA hstA nOA
        refine (hg s0 H0 C cl fp).run e3 n3.rel r3 fun σ4 Hs4 H4 n4 => ?_
        obtain ⟨a4, b4, c4⟩ := n4.tmp a3 b3 c3
        have wl : σ4.length = (wipe σ vs).length := n4.slen
        have we : wipe σ4 vs = wipe σ vs := by
          refine wipe_ext (by rw [wl, wipe_length]) fun j hj => ?_
          rcases hfx j (by omega) with z | z
          · exact .inl z
          · exact .inr (n4.fix j z)
        have hlen4 : σ4.length = n := by rw [wl, wipe_length, hlen]
        refine ⟨we, fun s0 H0 C cl fp => (ht s0 H0 C cl fp).run e4 n4.rel fun Hs5 H5 n5 => ?_⟩
        obtain ⟨a5, b5, c5⟩ := n5.tmp a4 b4 c4
        have back : ∀ {ρ6 : Rho} {σ6 : L2.St} {Hs6 H6 : Hp}, wipe σ6 vs = wipe σ vs → Nxt (gx X) S' F (wipeR ρ1 vs) (wipe σ vs) Hs1 H1 ρ6 σ6 Hs6 H6 → ¬ Own ρ6 σ6 A → Nxt (gx X) S' F (wipeR ρ1 vs) (wipe σ vs) Hs1 H1 (wipeR ρ6 vs) (wipe σ vs) Hs6 H6 ∧ ¬ Own (wipeR ρ6 vs) (wipe σ vs) A := fun {ρ6 σ6 Hs6 H6} we n c6 => by
          refine ⟨⟨by rw [← we]; exact n.rel.wipe (by rw [h2]; exact hio), n.same, n.keep, n.dom, fun b z => n.own b (by rw [← we] at z; exact own_wipe z), n.grow, fun _ _ => rfl, rfl⟩, fun z => c6 (by rw [← we] at z; exact own_wipe z)⟩
        cases b with
        | false =>
          rw [if_neg Bool.false_ne_true]
          obtain ⟨m1, m2⟩ := back we ((n3.trans n4).trans n5) c5
          exact ⟨_, Hs5, ac, av, by omega, e, ((sm.trans x3.s).trans n4.same).trans n5.same, m1, a5, b5, m2, RepL.mono ((x3.s.trans n4.same).trans n5.same) _ _ rac⟩
        | true =>
          rw [if_pos rfl]
          obtain ⟨ds1, ρ5, e5, e⟩ := Res.bind_ok e
          obtain ⟨acc1, ρ6, e6, e⟩ := Res.bind_ok e
          refine fun s0 H0 C cl fp => (hi1 s0 H0 C cl fp).run e5 n5.rel fun J1 Hs6 H6 n6 fd1 => ?_
          obtain ⟨a6, b6, c6⟩ := n6.tmp a5 b5 c5
          have n36 := ((n3.trans n4).trans n5).trans n6
          have hio1 : ∀ i ∈ vs1, i ∉ S'.io := fun i hi => by rw [h2]; exact hio i (hv i hi)
          have nb : Nxt (gx X) S' F (wipeR ρ1 vs) (wipe σ vs) Hs1 H1 (wipeR ρ5 vs1) (wipe σ4 vs1) Hs6 H6 := by
            refine ⟨n36.rel.wipe hio1, n36.same, n36.keep, n36.dom, fun b z => n36.own b (own_wipe z), n36.grow, fun j hj => ?_, by rw [wipe_length]; exact n36.slen⟩
            by_cases hj1 : j ∈ vs1
            · have hjn : j ∈ vs := hv j hj1
              by_cases hjl : j < σ.length
              · rw [wipe_in hj1 (by rw [wl, wipe_length]; exact hjl), wipe_in hjn hjl]
              · rw [List.getElem?_eq_none (by rw [wipe_length, wl, wipe_length]; omega), List.getElem?_eq_none (by rw [wipe_length]; omega)]
            · rw [wipe_ne hj1]
              exact n36.fix j hj
          have smI : Same Hst Hs6 := ((x3.s.trans n4.same).trans n5.same).trans n6.same
          have hcap1 : acc1.length ≤ cap := Nat.le_trans (compGo2_len e) hcap
          obtain ⟨W1, w0, turn⟩ := lc_loop (X := X) (tg := tg1) (ifs := ifs1) (elt := elt) (scope := scope) (σc := wipe σ4 vs1) (Hb := H1) (S := S') (S' := S1) fd1 hg1 ht1 he k1 k2 k3 hio1 (fun σ5 hl hf => by
            refine wipe_ext (by rw [hl, wipe_length]) fun j hj => ?_
            rcases hfx1 j (by omega) with z | z
            · exact .inl z
            · exact .inr (hf j z)) nb hA a6 b6 (fun z => c6 (own_wipe z)) (RepL.mono smI _ _ rac) e6 hcap1
          refine ⟨W1, w0, fun j k2 Hj wj => ?_⟩
          rcases turn j k2 Hj wj with ⟨st, Hst2, av2, p1, p2, p3, p4, p5, p6⟩ | ⟨go1, Nx1, p1, p2⟩
          · refine .inl ⟨st, ?_⟩
            have ww : wipe (wipe σ4 vs1) vs = wipe σ vs := by
              rw [← we]
              refine wipe_ext (by rw [wipe_length]) fun j hj => ?_
              by_cases hj1 : j ∈ vs
              · exact .inl hj1
              · right
                rw [wipe_ne hj1, wipe_ne fun z => hj1 (hv j z)]
            obtain ⟨m1, m2⟩ := back ww p1 p5
            exact ⟨_, Hst2, acc1, av2, by omega, e, (sm.trans smI).trans p2, m1, p3, p4, m2, p6⟩
          · exact .inr ⟨go1, Nx1, p1, p2⟩
      · have ei : i = ds.length := by omega
        subst ei
        rw [List.drop_length] at e
        cases e
        have nf : Nxt (gx X) S F ρ1 σ Hs1 H1 (wipeR ρ2 vs) σ Hst Ht := by
          refine ⟨(nt.rel.sc h1.symm h2.symm).unwipe hio, nt.same, fun b o h no => nt.keep b o h fun z => no (own_wipe z), nt.dom, fun b z => ?_, fun b h => ?_, fun _ _ => rfl, rfl⟩
          · rcases nt.own b (own_unwipe z) with y | y
            · exact .inl (own_wipe y)
            · exact .inr y
          · rcases nt.grow b h with y | y | y
            · exact .inl y
            · exact .inr (.inl (own_wipe y))
            · exact .inr (.inr y)
        refine .inl ⟨fd.2 Hst Ht sm nt.rel.sub, q _ Hst Ht (n1.trans nf) (.ofOwn ⟨A, av, rfl, hstA, htA, rac⟩ rfl) fun _ a ea => ?_⟩
        cases ea
        exact ⟨n1.unn hA, fun z => nOA (own_unwipe z)⟩
    · cases hm
  · cases hm
section
variable {pos : Pos} {vs1 : List Nat}
theorem sim_lc2 (hc : X.calm = true) (hN : X.N.Nodup) (hi : SimI X S tg iter mi) (hg : Blk X scope fun Y => SimG Y S' tg g) (ht : Blk X scope fun Y => SimTs Y S' ifs mc)
    (hi1 : Blk X scope fun Y => SimI Y S' tg1 iter1 mi1) (hg1 : Blk X scope fun Y => SimG Y S1 tg1 g1) (ht1 : Blk X scope fun Y => SimTs Y S1 ifs1 mc1) (he : Blk X scope fun Y => SimV Y S1 elt me)
    (k3 : ∀ i ∈ S'.fx, i ∈ S1.fx) (hv : ∀ i ∈ vs1, i ∈ own.map (·.2)) (hio : ∀ i ∈ own.map (·.2), i ∉ S.io) (hfx : ∀ i, i < n → i ∈ own.map (·.2) ∨ i ∈ S'.fx) (hfx1 : ∀ i, i < n → i ∈ vs1 ∨ i ∈ S1.fx) (ok : BlkOk X.N X.env.scope scope own)
    (h1 : S'.os = S.os := by rfl) (h2 : S'.io = S.io := by rfl) (k1 : S1.os = S'.os := by rfl) (k2 : S1.io = S'.io := by rfl)
    (hs : ∀ x, foldedSetIterable iter X.env x = pure x := by intro _; rfl) (hs1 : ∀ env x, foldedSetIterable iter1 env x = pure x := by intro _ _; rfl) : SimE X S (.ListComp elt [⟨tg, iter, ifs, 0⟩, ⟨tg1, iter1, ifs1, 0⟩] scope pos) (compM2 n (own.map (·.2)) vs1 mi g mc mi1 g1 mc1 me) := by
  refine ⟨fun {ρ d ρ'} hm {F σ Hs H} rl {Q} q => ?_⟩
  refine ⟨_, pe_lc2 hc hN (piW tg iter) ok hv (fun s H C cl fp => ⟨fun pins s' σ H' v u Q I r h => ?_⟩) (fun s H C cl fp => ⟨fun pins s' σ H' Q I h => ?_⟩) (fun s H C cl fp => ⟨fun pins s' σ H' R I h => ?_⟩) (fun s H C cl fp => ⟨fun pins s' σ H' v u Q I r h => ?_⟩) (fun s H C cl fp => ⟨fun pins s' σ H' Q I h => ?_⟩) (fun s H C cl fp => ⟨fun pins s' σ H' Q I h => ?_⟩) hs hs1,
    lc2_read hi hg ht hi1 hg1 ht1 he h1 h2 k1 k2 k3 hv hio hfx hfx1 hm rl q⟩
  · obtain ⟨t, h3, h4⟩ := h s H C cl fp
    exact h3.run pins s' σ H' v u Q I r h4
  · obtain ⟨t, h3, h4⟩ := h s H C cl fp
    exact h3.run pins s' σ H' Q I h4
  · obtain ⟨t, h3, h4⟩ := h s H C cl fp
    exact h3.run pins s' σ H' R I h4
  · obtain ⟨t, h3, h4⟩ := h s H C cl fp
    exact h3.run pins s' σ H' v u Q I r h4
  · obtain ⟨t, h3, h4⟩ := h s H C cl fp
    exact h3.run pins s' σ H' Q I h4
  · obtain ⟨t, h3, h4⟩ := h s H C cl fp
    exact h3.run pins s' σ H' Q I h4
/-- y = [..] on one line -/
theorem sim_setLc2 (i : Nat) {y : Str} {py spos : Pos} (hc : X.calm = true) (hN : X.N.Nodup) (hi : SimI X S tg iter mi) (hg : Blk X scope fun Y => SimG Y S' tg g) (ht : Blk X scope fun Y => SimTs Y S' ifs mc)
    (hi1 : Blk X scope fun Y => SimI Y S' tg1 iter1 mi1) (hg1 : Blk X scope fun Y => SimG Y S1 tg1 g1) (ht1 : Blk X scope fun Y => SimTs Y S1 ifs1 mc1) (he : Blk X scope fun Y => SimV Y S1 elt me)
    (k3 : ∀ i ∈ S'.fx, i ∈ S1.fx) (hv : ∀ i ∈ vs1, i ∈ own.map (·.2)) (hio : ∀ i ∈ own.map (·.2), i ∉ S.io) (hfx : ∀ i, i < n → i ∈ own.map (·.2) ∨ i ∈ S'.fx) (hfx1 : ∀ i, i < n → i ∈ vs1 ∨ i ∈ S1.fx) (ok : BlkOk X.N X.env.scope scope own)
    (hos : i ∈ S.os) (hyio : i ∉ S.io) (hyfx : i ∉ S.fx) (hy : X.N[i]? = some y) (hyl : X.env.scope.names.lookup y = some .local)
    (hsw : swapsWith (.ListComp elt [⟨tg, iter, ifs, 0⟩, ⟨tg1, iter1, ifs1, 0⟩] scope pos) (some (.Name y py)) spos.line X.env = pure true)
    (h1 : S'.os = S.os := by rfl) (h2 : S'.io = S.io := by rfl) (k1 : S1.os = S'.os := by rfl) (k2 : S1.io = S'.io := by rfl)
    (hs : ∀ x, foldedSetIterable iter X.env x = pure x := by intro _; rfl) (hs1 : ∀ env x, foldedSetIterable iter1 env x = pure x := by intro _ _; rfl) :
    SimS X S (.Assign [.Name y py] (.ListComp elt [⟨tg, iter, ifs, 0⟩, ⟨tg1, iter1, ifs1, 0⟩] scope pos) spos) (setM i (compM2 n (own.map (·.2)) vs1 mi g mc mi1 g1 mc1 me)) := by
  refine ⟨fun {ρ f ρ'} hm {F σ Hs H} rl {E} q => ?_⟩
  obtain ⟨d, ρ1, e1, e2⟩ := Res.bind_ok hm
  cases e2
  refine ⟨_, ps_setLc2 hc hN hy hyl hsw (piW tg iter) ok hv (fun s H C cl fp => ⟨fun pins s' σ H' v u Q I r h => ?_⟩) (fun s H C cl fp => ⟨fun pins s' σ H' Q I h => ?_⟩) (fun s H C cl fp => ⟨fun pins s' σ H' R I h => ?_⟩) (fun s H C cl fp => ⟨fun pins s' σ H' v u Q I r h => ?_⟩) (fun s H C cl fp => ⟨fun pins s' σ H' Q I h => ?_⟩) (fun s H C cl fp => ⟨fun pins s' σ H' Q I h => ?_⟩) hs hs1,
    lc2_read hi hg ht hi1 hg1 ht1 he h1 h2 k1 k2 k3 hv hio hfx hfx1 e1 rl fun v Hs' H' n sv fr => q _ Hs' H' (n.assign rl hyio hyfx sv fun o => ⟨hos, fr o⟩)⟩
  · obtain ⟨t, h3, h4⟩ := h s H C cl fp
    exact h3.run pins s' σ H' v u Q I r h4
  · obtain ⟨t, h3, h4⟩ := h s H C cl fp
    exact h3.run pins s' σ H' Q I h4
  · obtain ⟨t, h3, h4⟩ := h s H C cl fp
    exact h3.run pins s' σ H' R I h4
  · obtain ⟨t, h3, h4⟩ := h s H C cl fp
    exact h3.run pins s' σ H' v u Q I r h4
  · obtain ⟨t, h3, h4⟩ := h s H C cl fp
    exact h3.run pins s' σ H' Q I h4
  · obtain ⟨t, h3, h4⟩ := h s H C cl fp
    exact h3.run pins s' σ H' Q I h4
/-- .. shared at once -/
theorem sim_setLc2V (i : Nat) {y : Str} {py spos : Pos} (hc : X.calm = true) (hN : X.N.Nodup) (hi : SimI X S tg iter mi) (hg : Blk X scope fun Y => SimG Y S' tg g) (ht : Blk X scope fun Y => SimTs Y S' ifs mc)
    (hi1 : Blk X scope fun Y => SimI Y S' tg1 iter1 mi1) (hg1 : Blk X scope fun Y => SimG Y S1 tg1 g1) (ht1 : Blk X scope fun Y => SimTs Y S1 ifs1 mc1) (he : Blk X scope fun Y => SimV Y S1 elt me)
    (k3 : ∀ i ∈ S'.fx, i ∈ S1.fx) (hv : ∀ i ∈ vs1, i ∈ own.map (·.2)) (hio : ∀ i ∈ own.map (·.2), i ∉ S.io) (hfx : ∀ i, i < n → i ∈ own.map (·.2) ∨ i ∈ S'.fx) (hfx1 : ∀ i, i < n → i ∈ vs1 ∨ i ∈ S1.fx) (ok : BlkOk X.N X.env.scope scope own)
    (hyio : i ∉ S.io) (hyfx : i ∉ S.fx) (hy : X.N[i]? = some y) (hyl : X.env.scope.names.lookup y = some .local)
    (hsw : swapsWith (.ListComp elt [⟨tg, iter, ifs, 0⟩, ⟨tg1, iter1, ifs1, 0⟩] scope pos) (some (.Name y py)) spos.line X.env = pure true)
    (h1 : S'.os = S.os := by rfl) (h2 : S'.io = S.io := by rfl) (k1 : S1.os = S'.os := by rfl) (k2 : S1.io = S'.io := by rfl)
    (hs : ∀ x, foldedSetIterable iter X.env x = pure x := by intro _; rfl) (hs1 : ∀ env x, foldedSetIterable iter1 env x = pure x := by intro _ _; rfl) :
    SimS X S (.Assign [.Name y py] (.ListComp elt [⟨tg, iter, ifs, 0⟩, ⟨tg1, iter1, ifs1, 0⟩] scope pos) spos) (setM i (shM (compM2 n (own.map (·.2)) vs1 mi g mc mi1 g1 mc1 me))) := by
  refine ⟨fun {ρ f ρ'} hm {F σ Hs H} rl {E} q => ?_⟩
  obtain ⟨d, ρ1, e1, e2⟩ := Res.bind_ok hm
  cases e2
  obtain ⟨d0, ρ2, e0, e3⟩ := Res.bind_ok e1
  cases e3
  refine ⟨_, ps_setLc2 hc hN hy hyl hsw (piW tg iter) ok hv (fun s H C cl fp => ⟨fun pins s' σ H' v u Q I r h => ?_⟩) (fun s H C cl fp => ⟨fun pins s' σ H' Q I h => ?_⟩) (fun s H C cl fp => ⟨fun pins s' σ H' R I h => ?_⟩) (fun s H C cl fp => ⟨fun pins s' σ H' v u Q I r h => ?_⟩) (fun s H C cl fp => ⟨fun pins s' σ H' Q I h => ?_⟩) (fun s H C cl fp => ⟨fun pins s' σ H' Q I h => ?_⟩) hs hs1,
    lc2_read hi hg ht hi1 hg1 ht1 he h1 h2 k1 k2 k3 hv hio hfx hfx1 e0 rl fun v Hs' H' n sv fr => ?_⟩
  · obtain ⟨t, h3, h4⟩ := h s H C cl fp
    exact h3.run pins s' σ H' v u Q I r h4
  · obtain ⟨t, h3, h4⟩ := h s H C cl fp
    exact h3.run pins s' σ H' Q I h4
  · obtain ⟨t, h3, h4⟩ := h s H C cl fp
    exact h3.run pins s' σ H' R I h4
  · obtain ⟨t, h3, h4⟩ := h s H C cl fp
    exact h3.run pins s' σ H' v u Q I r h4
  · obtain ⟨t, h3, h4⟩ := h s H C cl fp
    exact h3.run pins s' σ H' Q I h4
  · obtain ⟨t, h3, h4⟩ := h s H C cl fp
    exact h3.run pins s' σ H' Q I h4
  · obtain ⟨Hs2, n2, r2⟩ := n.share sv fr
    exact q _ Hs2 H' (n2.assign rl hyio hyfx (.of r2) fun o => by rw [r2.owned] at o; cases o)
end
end
/-! ### reading it -/
@[simp] theorem T_comp2 {n : Nat} {vs vs1 : List Nat} {it it1 : AM} {g g1 : GM} {c c1 : TM} {e : EM} {ρ : Rho} {Q : D → Rho → Prop} :
    T (compM2 n vs vs1 it g c it1 g1 c1 e ρ) Q = T (it ρ) (fun ds ρ1 => ρ1.length = n ∧ T (compGo2 vs vs1 g c it1 g1 c1 e ds [] (wipeR ρ1 vs)) (fun acc ρ2 => acc.length ≤ cap ∧ Q (.lst .own acc) (wipeR ρ2 vs))) := by
  unfold compM2; simp only [T_bind, T_if, T_ok]
/-- every part leaves the places as they were -/
theorem T_compGo2 {vs vs1 : List Nat} {g : GM} {c : TM} {it1 : AM} {g1 : GM} {c1 : TM} {e : EM} {ρ : Rho} {Q : List D → Rho → Prop} (h : D → List D) :
    ∀ (ds acc : List D), (∀ d ∈ ds, T (g d ρ) fun _ ρ1 => T (c ρ1) fun b ρ2 => (b = true → T (it1 ρ2) fun ds1 ρ3 => ∀ (acc : List D) (Q' : List D → Rho → Prop), (∀ ρ4, wipeR ρ4 vs = ρ → Q' (acc ++ h d) ρ4) → T (compGo vs1 g1 c1 e ds1 acc (wipeR ρ3 vs1)) Q') ∧ (b = false → wipeR ρ2 vs = ρ ∧ h d = [])) →
      Q (acc ++ ds.flatMap h) ρ → T (compGo2 vs vs1 g c it1 g1 c1 e ds acc ρ) Q
  | [], acc, _, q => by unfold compGo2; simpa [T_ok] using q
  | d :: ds, acc, hs, q => by
    unfold compGo2
    rw [T_bind]
    refine T_mono (hs d (.head _)) fun _ ρ1 h1 => ?_
    rw [T_bind]
    refine T_mono h1 fun b ρ2 h2 => ?_
    rw [List.flatMap_cons] at q
    cases b with
    | true =>
      show T ((it1 ρ2).bind _) Q
      rw [T_bind]
      refine T_mono (h2.1 rfl) fun ds1 ρ3 h3 => ?_
      rw [T_bind]
      refine h3 acc _ fun ρ4 e4 => ?_
      rw [e4]
      refine T_compGo2 h ds _ (fun d' hd => hs d' (.tail _ hd)) ?_
      simpa using q
    | false =>
      show T (compGo2 vs vs1 g c it1 g1 c1 e ds acc (wipeR ρ2 vs)) Q
      obtain ⟨w, hn⟩ := h2.2 rfl
      rw [w]
      refine T_compGo2 h ds _ (fun d' hd => hs d' (.tail _ hd)) ?_
      rw [hn] at q
      simpa using q
end Sim

/-! Sim, part 25: x.pop(). -/
namespace Sim
open PySem PySem.Spec PyProof.Rows L2
def popM (i : Nat) : SM := fun ρ => match ρ[i]? with
  | some (some (.lst .own ds)) => match ds with
    | [] => .fail
    | _ :: _ => .ok .nxt (ρ.set i (some (.lst .own ds.dropLast)))
  | _ => .fail
theorem RepL.dropLast {G : Gx} {H : Hp} {ds : List D} {vs : List V} (h : RepL G H ds vs) : RepL G H ds.dropLast vs.dropLast := by
  rw [List.dropLast_eq_take, List.dropLast_eq_take, h.length]
  exact h.take _
theorem sim_pop {X : Cx} {S : Sc} {pos p : Pos} {x : Str} (i : Nat) {px apos : Pos} (hN : X.N[i]? = some x := by rfl) (hv : Vis X.env.scope x := by first | exact Or.inl rfl | exact Or.inr (Or.inl rfl) | exact Or.inr (Or.inr rfl))
    (hd : (x == ("__debug__" : Str)) = false := by decide) (hcd : (x == ("__classdict__" : Str)) = false := by decide)
    (hbase : attributeBase (.Name x px) "pop" X.env (eval (.Name x px) X.env) = eval (.Name x px) X.env := by rfl)
    (hline : (apos.endLine == p.line) = true := by rfl)
    (hsw : swapsWith (.Call (.Attribute (.Name x px) "pop" apos) [] [] p) none pos.line X.env = pure false := by rfl) : SimS X S (.Expr (.Call (.Attribute (.Name x px) "pop" apos) [] [] p) pos) (popM i) := by
  refine ⟨fun {ρ f ρ'} hm {F σ Hs H} rl {E} q => ?_⟩
  unfold popM at hm
  split at hm
  · rename_i ds h0
    split at hm
    · cases hm
    · rename_i d0 ds' 
      cases hm
      obtain ⟨v, ev, sv⟩ := rl.slot i _ h0
      obtain ⟨a, vs, rfl, hn, ha, rs⟩ := sv.own rfl
      refine ⟨_, ps_expr (pe_bm0 PySem.F.plainAttrs_list PySem.F.slot_list_pop PySem.F.type_list_pop mt_pop (pe_var hN hv hd hcd) hbase hline) hsw, _, ev, .inl ⟨rfl, vs, .of ha⟩, ?_⟩
      have hl : vs.length - 1 < vs.length := by have := rs.length; simp at this; omega
      refine ⟨a, vs, vs[vs.length - 1], rfl, rfl, ha, List.getElem?_eq_getElem hl, ?_⟩
      exact q σ Hs _ (rl.write h0 rfl ev _ rfl ⟨_, _, rfl, hn, upd_same, rs.dropLast⟩)
  · cases hm
@[simp] theorem T_pop {i : Nat} {ρ : Rho} {QS : Flow → Rho → Prop} : T (popM i ρ) QS = ∃ ds, ρ[i]? = some (some (.lst .own ds)) ∧ ds ≠ [] ∧ QS .nxt (ρ.set i (some (.lst .own ds.dropLast))) := by
  unfold popM
  refine propext ⟨fun h => ?_, fun ⟨ds, e, hn, q⟩ => ?_⟩
  · split at h
    · rename_i ds e
      split at h
      · exact h.elim
      · exact ⟨_, e, by simp, h⟩
    · exact h.elim
  · rw [e]
    cases ds with
    | nil => exact absurd rfl hn
    | cons d ds => exact q
end Sim

/-! Sim, part 26: the rules for reading, by short names. -/
namespace Sim
open PySem PySem.Spec PyProof.Rows L2
theorem Z0 : type_of% @Sim.T_ok := @Sim.T_ok
theorem Z1 : type_of% @Sim.T_fail := @Sim.T_fail
theorem Z2 : type_of% @Sim.T_bind := @Sim.T_bind
theorem Z3 : type_of% @Sim.T_pureO := @Sim.T_pureO
theorem Z4 : type_of% @Sim.EndQ_nxt := @Sim.EndQ_nxt
theorem Z5 : type_of% @Sim.EndQ_ret := @Sim.EndQ_ret
theorem Z6 : type_of% @Sim.lasts_nil := @Sim.lasts_nil
theorem Z7 : type_of% @Sim.T_call := @Sim.T_call
theorem Z8 : type_of% @Sim.T_name := @Sim.T_name
theorem Z9 : type_of% @Sim.T_frz := @Sim.T_frz
theorem Z10 : type_of% @Sim.T_const := @Sim.T_const
theorem Z11 : type_of% @Sim.T_sh := @Sim.T_sh
theorem Z12 : type_of% @Sim.T_op2 := @Sim.T_op2
theorem Z13 : type_of% @Sim.T_op1 := @Sim.T_op1
theorem Z14 : type_of% @Sim.T_test := @Sim.T_test
theorem Z15 : type_of% @Sim.T_not := @Sim.T_not
theorem Z16 : type_of% @Sim.T_andM := @Sim.T_andM
theorem Z17 : type_of% @Sim.T_orM := @Sim.T_orM
theorem Z18 : type_of% @Sim.T_ifM := @Sim.T_ifM
theorem Z19 : type_of% @Sim.T_bl := @Sim.T_bl
theorem Z20 : type_of% @Sim.T_andV := @Sim.T_andV
theorem Z21 : type_of% @Sim.T_orV := @Sim.T_orV
theorem Z22 : type_of% @Sim.T_notV := @Sim.T_notV
theorem Z23 : type_of% @Sim.T_peek := @Sim.T_peek
theorem Z24 : type_of% @Sim.T_vP := @Sim.T_vP
theorem Z25 : type_of% @Sim.T_opP := @Sim.T_opP
theorem Z26 : type_of% @Sim.T_nilA := @Sim.T_nilA
theorem Z27 : type_of% @Sim.T_consA := @Sim.T_consA
theorem Z28 : type_of% @Sim.T_nilP := @Sim.T_nilP
theorem Z29 : type_of% @Sim.T_consP := @Sim.T_consP
theorem Z30 : type_of% @Sim.T_tup := @Sim.T_tup
theorem Z31 : type_of% @Sim.T_lst := @Sim.T_lst
theorem Z32 : type_of% @Sim.T_noO := @Sim.T_noO
theorem Z33 : type_of% @Sim.T_someO := @Sim.T_someO
theorem Z34 : type_of% @Sim.T_slice := @Sim.T_slice
theorem Z35 : type_of% @Sim.T_callM := @Sim.T_callM
theorem Z36 : type_of% @Sim.resL_cons := @Sim.resL_cons
theorem Z37 : type_of% @Sim.resL_nil' := @Sim.resL_nil'
theorem Z38 : type_of% @Sim.T_isi := @Sim.T_isi
theorem Z39 : type_of% @Sim.T_nil := @Sim.T_nil
theorem Z40 : type_of% @Sim.T_brk := @Sim.T_brk
theorem Z41 : type_of% @Sim.T_cnt := @Sim.T_cnt
theorem Z42 : type_of% @Sim.SeqQ_nxt := @Sim.SeqQ_nxt
theorem Z43 : type_of% @Sim.SeqQ_brk := @Sim.SeqQ_brk
theorem Z44 : type_of% @Sim.SeqQ_cnt := @Sim.SeqQ_cnt
theorem Z45 : type_of% @Sim.SeqQ_ret := @Sim.SeqQ_ret
theorem Z46 : type_of% @Sim.T_seq := @Sim.T_seq
theorem Z47 : type_of% @Sim.T_set := @Sim.T_set
theorem Z48 : type_of% @Sim.T_drop := @Sim.T_drop
theorem Z49 : type_of% @Sim.T_ret := @Sim.T_ret
theorem Z50 : type_of% @Sim.T_retN := @Sim.T_retN
theorem Z51 : type_of% @Sim.T_retS := @Sim.T_retS
theorem Z52 : type_of% @Sim.T_asg := @Sim.T_asg
theorem Z53 : type_of% @Sim.T_nameG := @Sim.T_nameG
theorem Z54 : type_of% @Sim.T_tupG := @Sim.T_tupG
theorem Z55 : type_of% @Sim.T_nilG := @Sim.T_nilG
theorem Z56 : type_of% @Sim.T_consG := @Sim.T_consG
theorem Z57 : type_of% @Sim.T_aug := @Sim.T_aug
theorem Z58 : type_of% @Sim.T_app := @Sim.T_app
theorem Z59 : type_of% @Sim.T_putD := @Sim.T_putD
theorem Z60 : type_of% @Sim.T_newD := @Sim.T_newD
theorem Z61 : type_of% @Sim.T_disp := @Sim.T_disp
theorem Z62 : type_of% @Sim.T_iter := @Sim.T_iter
theorem Z63 : type_of% @Sim.T_range1 := @Sim.T_range1
theorem Z64 : type_of% @Sim.T_range2 := @Sim.T_range2
theorem Z65 : type_of% @Sim.LoopQ_nxt := @Sim.LoopQ_nxt
theorem Z66 : type_of% @Sim.LoopQ_cnt := @Sim.LoopQ_cnt
theorem Z67 : type_of% @Sim.LoopQ_brk := @Sim.LoopQ_brk
theorem Z68 : type_of% @Sim.LoopQ_ret := @Sim.LoopQ_ret
theorem Z69 : type_of% @Sim.T_for := @Sim.T_for
theorem Z70 : type_of% @Sim.T_comp := @Sim.T_comp
theorem Z71 : type_of% @Sim.T_comp2 := @Sim.T_comp2
theorem Z72 : type_of% @Sim.T_callIO := @Sim.T_callIO
theorem Z73 : type_of% @Sim.T_pop := @Sim.T_pop
theorem Z74 : type_of% @Sim.T_yes := @Sim.T_yes
theorem Z75 : type_of% @Sim.T_rev := @Sim.T_rev
theorem Z76 : type_of% @Sim.revD_lst := @Sim.revD_lst
theorem Z77 : type_of% @Sim.T_revR1 := @Sim.T_revR1
theorem Z78 : type_of% @Sim.T_rg1 := @Sim.T_rg1
theorem Z79 : type_of% @Sim.T_rg2 := @Sim.T_rg2
theorem Z80 : type_of% @Sim.T_lstRg := @Sim.T_lstRg
theorem Z81 : type_of% @Sim.T_tupRg := @Sim.T_tupRg
theorem Z82 : type_of% @Sim.sumD_ints := @Sim.sumD_ints
theorem Z83 : type_of% @Sim.ixDD_tup := @Sim.ixDD_tup
theorem Z84 : type_of% @Sim.ixDD_lst := @Sim.ixDD_lst
theorem Z85 : type_of% @Sim.ixDD_scr := @Sim.ixDD_scr
theorem Z86 : type_of% @Sim.ixDD_dct := @Sim.ixDD_dct
theorem Z87 : type_of% @Sim.atI_nat := @Sim.atI_nat
theorem Z88 : type_of% @Sim.atI_lit := @Sim.atI_lit
theorem Z89 : type_of% @Sim.lenD_tup := @Sim.lenD_tup
theorem Z90 : type_of% @Sim.lenD_lst := @Sim.lenD_lst
theorem Z91 : type_of% @Sim.lenD_scr := @Sim.lenD_scr
theorem Z92 : type_of% @Sim.lenD_dct := @Sim.lenD_dct
theorem Z93 : type_of% @Sim.addD_int := @Sim.addD_int
theorem Z94 : type_of% @Sim.iaddD_int := @Sim.iaddD_int
theorem Z95 : type_of% @Sim.subD_int := @Sim.subD_int
theorem Z96 : type_of% @Sim.mulD_int := @Sim.mulD_int
theorem Z97 : type_of% @Sim.mulD_one := @Sim.mulD_one
theorem Z98 : type_of% @Sim.fdivD_int := @Sim.fdivD_int
theorem Z99 : type_of% @Sim.modD_int := @Sim.modD_int
theorem Z100 : type_of% @Sim.powD_int := @Sim.powD_int
theorem Z101 : type_of% @Sim.addD_tup := @Sim.addD_tup
theorem Z102 : type_of% @Sim.addD_lst := @Sim.addD_lst
theorem Z103 : type_of% @Sim.negD_int := @Sim.negD_int
theorem Z104 : type_of% @Sim.ltD_int := @Sim.ltD_int
theorem Z105 : type_of% @Sim.leD_int := @Sim.leD_int
theorem Z106 : type_of% @Sim.gtD_int := @Sim.gtD_int
theorem Z107 : type_of% @Sim.geD_int := @Sim.geD_int
theorem Z108 : type_of% @Sim.eqB_int := @Sim.eqB_int
theorem Z109 : type_of% @Sim.eqB_str := @Sim.eqB_str
theorem Z110 : type_of% @Sim.eqB_bl := @Sim.eqB_bl
theorem Z111 : type_of% @Sim.eqB_non := @Sim.eqB_non
theorem Z112 : type_of% @Sim.eqD_of := @Sim.eqD_of
theorem Z113 : type_of% @Sim.neD_of := @Sim.neD_of
theorem Z114 : type_of% @Sim.isD_non := @Sim.isD_non
theorem Z115 : type_of% @Sim.isNotD_non := @Sim.isNotD_non
theorem Z116 : type_of% @Sim.isN_non := @Sim.isN_non
theorem Z117 : type_of% @Sim.isN_bl := @Sim.isN_bl
theorem Z118 : type_of% @Sim.isN_int := @Sim.isN_int
theorem Z119 : type_of% @Sim.isN_str := @Sim.isN_str
theorem Z120 : type_of% @Sim.isN_tup := @Sim.isN_tup
theorem Z121 : type_of% @Sim.isN_lst := @Sim.isN_lst
theorem Z122 : type_of% @Sim.frz_non := @Sim.frz_non
theorem Z123 : type_of% @Sim.frz_bl := @Sim.frz_bl
theorem Z124 : type_of% @Sim.frz_int := @Sim.frz_int
theorem Z125 : type_of% @Sim.frz_str := @Sim.frz_str
theorem Z126 : type_of% @Sim.frz_tup := @Sim.frz_tup
theorem Z127 : type_of% @Sim.frz_lst := @Sim.frz_lst
theorem Z128 : type_of% @Sim.frz_dct := @Sim.frz_dct
theorem Z129 : type_of% @Sim.frz_scr := @Sim.frz_scr
theorem Z130 : type_of% @Sim.maxD_int := @Sim.maxD_int
theorem Z131 : type_of% @Sim.minD_int := @Sim.minD_int
theorem Z132 : type_of% @Sim.absD_int := @Sim.absD_int
theorem Z133 : type_of% @Sim.intD_int := @Sim.intD_int
theorem Z134 : type_of% @Sim.tupleD_tup := @Sim.tupleD_tup
theorem Z135 : type_of% @Sim.tupleD_lst := @Sim.tupleD_lst
theorem Z136 : type_of% @Sim.listD_tup := @Sim.listD_tup
theorem Z137 : type_of% @Sim.listD_lst := @Sim.listD_lst
theorem Z138 : type_of% @Sim.listD_scr := @Sim.listD_scr
theorem Z139 : type_of% @Sim.itemsD_sh := @Sim.itemsD_sh
theorem Z140 : type_of% @Sim.itemsD_tup := @Sim.itemsD_tup
theorem Z141 : type_of% @Sim.itemsD_scr := @Sim.itemsD_scr
theorem Z142 : type_of% @Sim.isi_non := @Sim.isi_non
theorem Z143 : type_of% @Sim.isi_bl := @Sim.isi_bl
theorem Z144 : type_of% @Sim.isi_int := @Sim.isi_int
theorem Z145 : type_of% @Sim.isi_str := @Sim.isi_str
theorem Z146 : type_of% @Sim.isi_tup := @Sim.isi_tup
theorem Z147 : type_of% @Sim.isi_lst := @Sim.isi_lst
theorem Z148 : type_of% @Sim.slice_tup := @Sim.slice_tup
theorem Z149 : type_of% @Sim.slice_lst := @Sim.slice_lst
theorem Z150 : type_of% @Sim.inDD_of := @Sim.inDD_of
theorem Z151 : type_of% @Sim.notInDD_of := @Sim.notInDD_of
theorem Z152 : type_of% @Sim.inD_tup := @Sim.inD_tup
theorem Z153 : type_of% @Sim.inD_lst := @Sim.inD_lst
theorem Z154 : type_of% @Sim.inD_dct := @Sim.inD_dct
theorem Z155 : type_of% @Sim.inXD_of := @Sim.inXD_of
theorem Z156 : type_of% @Sim.notInXD_of := @Sim.notInXD_of
theorem Z157 : type_of% @Sim.inX_dct := @Sim.inX_dct
theorem Z158 : type_of% @Sim.inX_tup := @Sim.inX_tup
theorem Z159 : type_of% @Sim.nat10 := @Sim.nat10
theorem Z160 : type_of% @Sim.nat2 := @Sim.nat2
theorem Z161 : type_of% @Sim.ex_some := @Sim.ex_some
theorem Z162 : type_of% @Sim.ex_some2 := @Sim.ex_some2
theorem Z163 : type_of% @Sim.ex_if := @Sim.ex_if
theorem Z164 : type_of% @Sim.ex_map := @Sim.ex_map
theorem Z165 : type_of% @Sim.ex_eq := @Sim.ex_eq
theorem Z166 : type_of% @Sim.ex_bl := @Sim.ex_bl
theorem Z167 : type_of% @Sim.ex_int := @Sim.ex_int
theorem Z168 : type_of% @Sim.ex_own := @Sim.ex_own
theorem Z169 : type_of% @Sim.ex_lst := @Sim.ex_lst
theorem Z170 : type_of% @Sim.inr_at := @Sim.inr_at
theorem Z171 : type_of% @Sim.inl_at := @Sim.inl_at
theorem Z172 : type_of% @Sim.tt_c := @Sim.tt_c
theorem Z173 : type_of% @Sim.ff_c := @Sim.ff_c
theorem Z174 : type_of% @Sim.pad_nil := @Sim.pad_nil
theorem Z175 : type_of% @Sim.pad_n := @Sim.pad_n
theorem Z176 : type_of% @Sim.nones_0 := @Sim.nones_0
theorem Z177 : type_of% @Sim.nones_s := @Sim.nones_s
end Sim

/-! Sim, part 27: a for over an own list that stays own. -/
namespace Sim
open PySem PySem.Spec PyProof.Rows L2
def forOGo (i : Nat) (g : GM) (b : SM) : Nat → Nat → SM
  | 0, _ => fun _ => .fail
  | n + 1, j => fun ρ => match ρ[i]? with
    | some (some (.lst _ ds)) => match ds[j]? with
      | none => .ok .nxt ρ
      | some d => (g d ρ).bind fun _ ρ1 => (b ρ1).bind fun f ρ2 => match f with
        | .nxt => forOGo i g b n (j + 1) ρ2
        | .cnt => forOGo i g b n (j + 1) ρ2
        | .brk => .ok .nxt ρ2
        | .ret d => .ok (.ret d) ρ2
        | .exc x => .ok (.exc x) ρ2
    | _ => .fail
def forOM (i : Nat) (g : GM) (b : SM) : SM := forOGo i g b wf 0
theorem sim_forO {X : Cx} {S S' : Sc} {tg : Expr} {x : Str} {p pos : Pos} {b : List Stmt} {g : GM} {m : SM} (i : Nat) (hp : PassesOwn (model X.prog X.w) X.A X.env X.xe) (hc : X.calm = true) (hg : SimG X S' tg g) (hb : SimB X S' b m)
    (h1 : S'.os = S.os := by rfl) (h2 : S'.io = S.io := by rfl) (h3 : ∀ j ∈ S.fx, j ∈ S'.fx := by first | decide | exact of_decide_eq_true rfl) (h4 : i ∈ S'.fx := by first | decide | exact of_decide_eq_true rfl) (h6 : S'.xw = S.xw := by rfl)
    (hN : X.N[i]? = some x := by rfl) (hv : Vis X.env.scope x := by first | exact Or.inl rfl | exact Or.inr (Or.inl rfl) | exact Or.inr (Or.inr rfl))
    (hd : (x == ("__debug__" : Str)) = false := by decide) (hcd : (x == ("__classdict__" : Str)) = false := by decide) (hs : ∀ y, foldedSetIterable (.Name x p) X.env y = pure y := by intro _; rfl) :
    SimS X S (.For tg (.Name x p) b [] pos) (forOM i g m) := by
  refine ⟨fun {ρ f ρ'} hm {F σ Hs H} rl {E} q => ?_⟩
  unfold forOM at hm
  have h0 : ∃ m0 ds0, ρ[i]? = some (some (.lst m0 ds0)) := by
    unfold wf forOGo at hm
    split at hm
    · rename_i ds0 e
      exact ⟨_, _, e⟩
    · cases hm
  obtain ⟨m0, ds0, e0⟩ := h0
  obtain ⟨v, ev, sv⟩ := rl.slot i _ e0
  obtain ⟨a, vs, rfl, ha, rs⟩ := sv.lst rl.sub
  refine ⟨_, ps_for hp hc (piW tg (.Name x p)) (pgW tg) (pbW b) hs, ?_⟩
  refine ⟨_, pi_seq (pe_var hN hv hd hcd), _, ev, a, rfl, .inl ⟨⟨vs, .of ha⟩, ?_⟩⟩
  refine ⟨fun j k σ' H' => ∃ ρ2 Hs2 n, k = n ∧ forOGo i g m n j ρ2 = .ok f ρ' ∧ Nxt (gx X) S F ρ σ Hs H ρ2 σ' Hs2 H' ∧ σ'[i]? = some (some (V.ref a)), ⟨wf, ρ, Hs, wf, rfl, hm, .refl rl, ev⟩, ?_⟩
  rintro j k σ2 H2 ⟨ρ2, Hs2, n, rfl, e, n2, es⟩
  cases k with
  | zero => cases e
  | succ k =>
    unfold forOGo at e
    split at e
    · rename_i md ds ei
      obtain ⟨v', ev', sv'⟩ := n2.rel.slot i _ ei
      rw [es] at ev'
      cases ev'
      obtain ⟨a', vs', ea', ha', rs'⟩ := sv'.lst n2.rel.sub
      cases ea'
      split at e
      · rename_i hj
        cases e
        refine .inl ⟨⟨vs', .of ha', ?_⟩, q _ _ _ n2⟩
        have := List.getElem?_eq_none_iff.mp hj
        rw [← rs'.length]; exact this
      · rename_i d hj
        obtain ⟨_, ρ3, e3, e⟩ := Res.bind_ok e
        obtain ⟨f1, ρ4, e4, e⟩ := Res.bind_ok e
        obtain ⟨u, hu, ru⟩ := rs'.get hj
        refine .inr ⟨⟨vs', u, .of ha', hu⟩, fun σ' H' => ∃ ρ2 Hs2 n, k = n ∧ forOGo i g m n (j + 1) ρ2 = .ok f ρ' ∧ Nxt (gx X) S F ρ σ Hs H ρ2 σ' Hs2 H' ∧ σ'[i]? = some (some (V.ref a)), fun σ' H' ⟨r, t, n, e1, e2⟩ => ⟨k, Nat.lt_succ_self k, r, t, n, e1, e2⟩, fun y H3 hy => ?_⟩
        obtain ⟨rfl, hy⟩ := hy
        have := hy vs' (.of ha')
        rw [hu] at this
        cases this
        refine hg.run e3 (n2.rel.sc h1 h2) ru fun σ4 Hs4 H4 n4 => ?_
        have n34 := n2.trans (n4.sc h1.symm h2.symm h3)
        have es4 : σ4[i]? = some (some (V.ref a)) := by rw [n4.fix i h4]; exact es
        refine hb.run e4 n4.rel ?_
        cases f1 with
        | nxt => exact fun σ5 Hs5 H5 n5 => ⟨ρ4, Hs5, k, rfl, e, n34.trans (n5.sc h1.symm h2.symm h3), by rw [n5.fix i h4]; exact es4⟩
        | cnt => exact fun σ5 Hs5 H5 n5 => ⟨ρ4, Hs5, k, rfl, e, n34.trans (n5.sc h1.symm h2.symm h3), by rw [n5.fix i h4]; exact es4⟩
        | brk => cases e; exact fun σ5 Hs5 H5 n5 => q _ _ _ (n34.trans (n5.sc h1.symm h2.symm h3))
        | ret d => cases e; exact fun v σ5 Hs5 H5 n5 rv => q v _ _ _ (n34.trans (n5.sc h1.symm h2.symm h3)) rv
        | exc x => cases e; intro σ5 Hs5 H5 n5; show S'.xw x σ5 H5; rw [h6]; exact q _ _ _ (n34.trans (n5.sc h1.symm h2.symm h3))
    · cases e
/-- read by an invariant while the list stays ds -/
theorem T_forO {i : Nat} {g : GM} {b : SM} {Q : Flow → Rho → Prop} {ds : List D} {ρ : Rho} (I : Nat → Rho → Prop) (hds : ds.length < wf) (h0 : I 0 ρ) (hI : ∀ j ρ, I j ρ → ∃ md, ρ[i]? = some (some (.lst md ds)))
    (hs : ∀ (k : Nat) (d : D) (ρ : Rho), ds[k]? = some d → I k ρ → T (g d ρ) fun _ ρ1 => T (b ρ1) (LoopQ (I (k + 1)) Q)) (hq : ∀ ρ, I ds.length ρ → Q .nxt ρ) : T (forOM i g b ρ) Q := by
  unfold forOM
  have go : ∀ (n j : Nat) (ρ : Rho), j ≤ ds.length → ds.length < n + j → I j ρ → T (forOGo i g b n j ρ) Q := by
    intro n
    induction n with
    | zero => intro j ρ h1 h2 _; omega
    | succ n ih =>
      intro j ρ h1 h2 h3
      obtain ⟨md, e⟩ := hI j ρ h3
      unfold forOGo
      rw [e]
      by_cases hj : j < ds.length
      · have ej : ds[j]? = some ds[j] := List.getElem?_eq_getElem hj
        simp only [ej]
        rw [T_bind]
        refine T_mono (hs j _ ρ ej h3) fun _ ρ1 q => ?_
        rw [T_bind]
        refine T_mono q fun f ρ2 q => ?_
        cases f with
        | nxt => exact ih (j + 1) ρ2 hj (by omega) q
        | cnt => exact ih (j + 1) ρ2 hj (by omega) q
        | brk => exact q
        | ret d => exact q
        | exc x => exact q
      · have ej : ds[j]? = none := List.getElem?_eq_none (by omega)
        simp only [ej]
        have : j = ds.length := by omega
        subst this
        exact hq ρ h3
  exact go wf 0 ρ (Nat.zero_le _) (by omega) h0
end Sim

/-! Sim, part 28: a slice of a list as an own list. -/
namespace Sim
open PySem PySem.Spec PyProof.Rows L2
def sliceOD : D → Option Int → Option Int → Option D
  | .tup ds, lo, hi => some (.tup (cutG ds lo hi))
  | .lst _ ds, lo, hi => some (.lst .own (cutG ds lo hi))
  | _, _, _ => none
def sliceOM (m : PM) (ml mh : Rho → Res (Option Int)) : EM := fun ρ => (m ρ).bind fun p ρ1 => (ml ρ1).bind fun lo ρ2 => (mh ρ2).bind fun hi ρ3 => match res p ρ3 with
  | some x => pureO (sliceOD x lo hi) ρ3
  | none => .fail
theorem sim_sliceO {X : Cx} {S : Sc} {a : Expr} {ma : PM} {pos : Pos} {lo hi : Option Expr} {ml mh : Rho → Res (Option Int)} {p2 : Pos} (ha : SimP X S a ma) (hl : SimO X S lo ml) (hh : SimO X S hi mh) : SimE X S (.Subscript a (.Slice lo hi none p2) pos) (sliceOM ma ml mh) := by
  refine ⟨fun {ρ d ρ'} h {F σ Hs H} rl {Q} q => ?_⟩
  obtain ⟨p, ρ1, e1, h⟩ := Res.bind_ok h
  obtain ⟨l, ρ2, e2, h⟩ := Res.bind_ok h
  obtain ⟨u, ρ3, e3, h⟩ := Res.bind_ok h
  split at h
  · rename_i x hx
    obtain ⟨e4, rfl⟩ := pureO_ok h
    refine ⟨_, pe_slice slW (peW a) (poW lo) (poW hi), ha.run e1 rl fun v Hs1 H1 n1 r1 => hl.run e2 n1.rel fun Hs2 H2 n2 => hh.run e3 n2.rel fun Hs3 H3 n3 => ?_⟩
    have n := (n1.trans n2).trans n3
    have sx := (r1.mono (n2.same.trans n3.same)).look n3.rel hx
    unfold sliceOD at e4
    split at e4
    · cases e4
      obtain ⟨b, vs, rfl, t, r⟩ := sx.tup
      refine ⟨_, sl_tupA, b, vs, rfl, Same.seqT n.rel.sub t, fun z => ?_, fun _ p hp => ?_⟩
      · exact q _ _ _ n (.of ⟨b, vs, rfl, t, by have := r.cut l u; rwa [cutV_whole z] at this⟩) fun o => by cases o
      · exact q _ _ _ (n.trans (n.rel.newSh hp _)) (.of ⟨p, _, rfl, .inl (.inl upd_same), RepL.mono (same_new (n.rel.sub.free hp)) _ _ (r.cut l u)⟩) fun o => by cases o
    · cases e4
      obtain ⟨b, vs, rfl, t, r⟩ := sx.lst n.rel.sub
      refine ⟨_, sl_list, b, vs, rfl, .of t, fun p hp => ?_⟩
      refine q _ _ _ (n.trans (n.rel.newOwn hp _)) (.ofOwn ⟨p, _, rfl, n.rel.sub.free hp, upd_same, r.cut l u⟩ rfl) fun _ b' e => ?_
      cases e
      exact ⟨n.unn hp, n.rel.notOwn hp⟩
    · cases e4
  · cases h
theorem T_sliceO {Q : D → Rho → Prop} {ρ : Rho} {m : PM} {ml mh : Rho → Res (Option Int)} : T (sliceOM m ml mh ρ) Q = T (m ρ) (fun p ρ1 => T (ml ρ1) (fun lo ρ2 => T (mh ρ2) (fun hi ρ3 => ∃ x, res p ρ3 = some x ∧ ∃ d, sliceOD x lo hi = some d ∧ Q d ρ3))) := by
  unfold sliceOM; simp only [T_bind]; congr 1; funext p ρ1; congr 1; funext lo ρ2; congr 1; funext hi ρ3
  rcases res p ρ3 with _ | x
  · exact propext ⟨fun x => x.elim, fun ⟨_, h, _⟩ => by cases h⟩
  · simp only [T_pureO]
    exact propext ⟨fun x => ⟨_, rfl, x⟩, fun ⟨_, h1, q⟩ => by cases h1; exact q⟩
theorem sliceO_lst (m : Md) (ds : List D) (lo hi : Option Int) : sliceOD (.lst m ds) lo hi = some (.lst .own (cutG ds lo hi)) := rfl
end Sim

/-! Sim, part 29: a slice of a text. -/
namespace Sim
open PySem PySem.Spec PyProof.Rows L2
def sliceSD : D → Option Int → Option Int → Option D
  | .str x, lo, hi => if x.length ≤ sizeLine then some (.str (cutS x lo hi)) else none
  | _, _, _ => none
def sliceSM (m : PM) (ml mh : Rho → Res (Option Int)) : EM := fun ρ => (m ρ).bind fun p ρ1 => (ml ρ1).bind fun lo ρ2 => (mh ρ2).bind fun hi ρ3 => match res p ρ3 with
  | some x => pureO (sliceSD x lo hi) ρ3
  | none => .fail
theorem sim_sliceS {X : Cx} {S : Sc} {a : Expr} {ma : PM} {pos : Pos} {lo hi : Option Expr} {ml mh : Rho → Res (Option Int)} {p2 : Pos} (ha : SimP X S a ma) (hl : SimO X S lo ml) (hh : SimO X S hi mh) : SimV X S (.Subscript a (.Slice lo hi none p2) pos) (sliceSM ma ml mh) := by
  refine ⟨fun {ρ d ρ'} h {F σ Hs H} rl {Q} q => ?_⟩
  obtain ⟨p, ρ1, e1, h⟩ := Res.bind_ok h
  obtain ⟨l, ρ2, e2, h⟩ := Res.bind_ok h
  obtain ⟨u, ρ3, e3, h⟩ := Res.bind_ok h
  split at h
  · rename_i x hx
    obtain ⟨e4, rfl⟩ := pureO_ok h
    refine ⟨_, pe_slice slW (peW a) (poW lo) (poW hi), ha.run e1 rl fun v Hs1 H1 n1 r1 => hl.run e2 n1.rel fun Hs2 H2 n2 => hh.run e3 n2.rel fun Hs3 H3 n3 => ?_⟩
    have n := (n1.trans n2).trans n3
    have sx := (r1.mono (n2.same.trans n3.same)).look n3.rel hx
    unfold sliceSD at e4
    split at e4
    · split at e4
      · rename_i hlen
        cases e4
        obtain rfl := sx.str
        refine ⟨_, sl_str, _, rfl, hlen, ?_⟩
        exact q _ _ _ n rfl
      · cases e4
    · cases e4
  · cases h
theorem T_sliceS {Q : D → Rho → Prop} {ρ : Rho} {m : PM} {ml mh : Rho → Res (Option Int)} : T (sliceSM m ml mh ρ) Q = T (m ρ) (fun p ρ1 => T (ml ρ1) (fun lo ρ2 => T (mh ρ2) (fun hi ρ3 => ∃ x, res p ρ3 = some x ∧ ∃ d, sliceSD x lo hi = some d ∧ Q d ρ3))) := by
  unfold sliceSM; simp only [T_bind]; congr 1; funext p ρ1; congr 1; funext lo ρ2; congr 1; funext hi ρ3
  rcases res p ρ3 with _ | x
  · exact propext ⟨fun x => x.elim, fun ⟨_, h, _⟩ => by cases h⟩
  · simp only [T_pureO]
    exact propext ⟨fun x => ⟨_, rfl, x⟩, fun ⟨_, h1, q⟩ => by cases h1; exact q⟩
theorem slice_str (x : Str) (lo hi : Option Int) (h : x.length ≤ sizeLine) : sliceSD (.str x) lo hi = some (.str (cutS x lo hi)) := by
  show (if x.length ≤ sizeLine then some (D.str (cutS x lo hi)) else none) = _
  rw [if_pos h]
end Sim

/-! Sim, part 30: defs that raise, calls of them, raise, try. -/
namespace Sim
open PySem PySem.Spec PyProof.Rows L2

/-- the law's classes of exceptions: by name, where it stands, its field -/
abbrev CM := Str → Option (Addr × Option Str)
/-- the exception x, of the class cls with the dict d -/
def ExcRep (cm : CM) (x : D) (cls : Value) (d : Option Addr) (H : Hp) : Prop := match x with
  | .tup [.str n] => ∃ C, cm n = some (C, none) ∧ cls = .ref C ∧ d = none
  | .tup [.str n, v] => ∃ C f dd, cm n = some (C, some f) ∧ cls = .ref C ∧ d = some dd ∧ H dd = some (.xd [(f, flV v)]) ∧ inD.flat v = true
  | _ => False
abbrev XW := D → L2.St → Hp → Prop
def wOf (cm : CM) (xw : XW) : WX := fun cls d σ H => ∃ x, ExcRep cm x cls d H ∧ xw x σ H
theorem takes_none {X : Cx} {cm : CM} : L2N.Takes X (wOf cm fun _ _ _ => False) := fun _ _ x => by
  obtain ⟨_, _, _, _, _, _, _, _, _, _, _, _, _, _, _, _, _, _, z⟩ := x
  exact z.elim

/-! ### a def that may raise -/
inductive RX where
  | ok (d : D) | ex (x : D)
abbrev FnX := List D → Option RX
def defX (n : Nat) (body : SM) : FnX := fun ds => match body (pad n ds) with
  | .ok .nxt _ => some (.ok .non)
  | .ok (.ret d) _ => some (.ok d)
  | .ok (.exc x) _ => some (.ex x)
  | _ => none
def spX (cm : CM) (G : Gx) (S : Sc) (np n : Nat) (f : FnX) : Sp := fun vs H Q E => vs.length = np ∧ ∃ (ds : List D) (r : RX) (Hs : Hp), f ds = some r ∧
  Rel G S ⟨H, padV n vs⟩ Hs H (pad n ds) (padV n vs) ∧ match r with
  | .ok d => ∀ v σ' Hs' H' ρ', Nxt G S ⟨H, padV n vs⟩ (pad n ds) (padV n vs) Hs H ρ' σ' Hs' H' → RetV G ⟨H, padV n vs⟩ Hs' H' ρ' σ' d v → Q v H'
  | .ex x => ∀ σ' Hs' H' ρ', Nxt G S ⟨H, padV n vs⟩ (pad n ds) (padV n vs) Hs H ρ' σ' Hs' H' → ∀ cls d, ExcRep cm x cls d H' → E cls d H'
abbrev Sc.wx (S : Sc) (xw : XW) : Sc := { S with xw := xw }
theorem Rel.wx {G : Gx} {S : Sc} {F : Fm} {Hs H : Hp} {ρ : Rho} {σ : L2.St} (r : Rel G S F Hs H ρ σ) (xw : XW) : Rel G (S.wx xw) F Hs H ρ σ := r.sc rfl rfl
theorem Nxt.unwx {G : Gx} {S : Sc} {xw : XW} {F : Fm} {Hs H Hs' H' : Hp} {ρ ρ' : Rho} {σ σ' : L2.St} (n : Nxt G (S.wx xw) F ρ σ Hs H ρ' σ' Hs' H') : Nxt G S F ρ σ Hs H ρ' σ' Hs' H' := n.sc rfl rfl fun _ h => h
theorem Nxt.wx {G : Gx} {S : Sc} {F : Fm} {Hs H Hs' H' : Hp} {ρ ρ' : Rho} {σ σ' : L2.St} (n : Nxt G S F ρ σ Hs H ρ' σ' Hs' H') (xw : XW) : Nxt G (S.wx xw) F ρ σ Hs H ρ' σ' Hs' H' := n.sc rfl rfl fun _ h => h
theorem def_okX {cm : CM} {P : Program} {w : World} {K : PySem.W.Frag} {mg : Str → Option Value} {base : Heap} {x qual : Str} {st : Stmt} {f : Addr} {fd : FuncData} {N ps : List Str} {k np n : Nat} {S : Sc} {body : SM} (F : Fun K x qual st f fd) (SC : FnScope N ps (defScope st)) (hp : ps.length = np) (hn : N.length = np + n)
    (hbody : ∀ (cdv : Value) (A : Around) (outer : List Env) (s : Shared) (H : Hp) (E : XK) (xw : XW), Room k (A.deeper (envOfC qual (defScope st) s.heap.objs.size f cdv)) →
      PassesOwn (model P w) (A.deeper (envOfC qual (defScope st) s.heap.objs.size f cdv)) (envOfC qual (defScope st) s.heap.objs.size f cdv) (cxOf (L2N.CX P w) P w K mg base N qual (defScope st) f cdv A outer s H E).xe →
      L2N.Takes (cxOf (L2N.CX P w) P w K mg base N qual (defScope st) f cdv A outer s H E) (wOf cm xw) →
      SimB (cxOf (L2N.CX P w) P w K mg base N qual (defScope st) f cdv A outer s H E) (S.wx xw) (defBody st) body) :
    FnOk P w K mg base (L2N.CX P w) (k + 1) f fd ps (spX cm ⟨P, w, K⟩ S np n (defX n body)) := by
  obtain ⟨oc, od, kV, doc, pm, an, cdv, ct, osl, rfl, lk, hcd⟩ := F.ex
  refine fn_of lk hcd SC (fun vs H Q E h => by rw [h.1, hp]) (fun A outer s H vs Q E hr h => ?_)
  obtain ⟨hl, ds, r, Hs, e, rl, q⟩ := h
  rw [start_pad (by rw [hn, hl])]
  unfold defX at e
  have tk : L2N.Takes (cxOf (L2N.CX P w) P w K mg base N qual (defScope st) f cdv A outer s H E) (wOf cm fun x _ H' => ∀ cls d, ExcRep cm x cls d H' → E cls d H') :=
    L2N.Takes.imp (L2N.takes_of (E := E) rfl rfl rfl rfl) fun c d σ H ⟨x, e, h⟩ => h _ _ e
  have B := hbody cdv A outer s H E (fun x _ H' => ∀ cls d, ExcRep cm x cls d H' → E cls d H') hr (passes_of (X := cxOf (L2N.CX P w) P w K mg base N qual (defScope st) f cdv A outer s H E) rfl) tk
  split at e
  · rename_i ρ hb
    cases e
    exact ⟨_, pbW _, B.run hb (rl.wx _) fun σ' Hs' H' n => q _ _ _ _ _ n.unwx ⟨rfl, fun o => by cases o⟩⟩
  · rename_i d' ρ hb
    cases e
    exact ⟨_, pbW _, B.run hb (rl.wx _) fun v σ' Hs' H' n rv => q _ _ _ _ _ n.unwx rv⟩
  · rename_i x ρ hb
    cases e
    exact ⟨_, pbW _, B.run hb (rl.wx _) fun σ' Hs' H' n cls d er => q _ _ _ _ n.unwx cls d er⟩
  · cases e
theorem none_okX {P : Program} {w : World} {K : PySem.W.Frag} {mg : Str → Option Value} {base : Heap} {f : Addr} {fd : FuncData} {ps : List Str} {cm : CM} {G : Gx} {S : Sc} {np n : Nat} :
    FnOk P w K mg base (L2N.CX P w) 0 f fd ps (spX cm G S np n (fun _ => none)) := by
  refine ⟨fun vs H Q E h => ?_, fun A outer s H args us vs Q E hr h0 hb hv h => ?_⟩
  · obtain ⟨_, _, _, _, e, _⟩ := h
    cases e
  · obtain ⟨_, _, _, _, e, _⟩ := h
    cases e

/-! ### its call -/
def callX (f : FnX) (m : AM) : Rho → Res RX := fun ρ => (m ρ).bind fun ds ρ1 => match f ds with
  | some r => .ok r ρ1
  | none => .fail
structure SimX (X : Cx) (S : Sc) (e : Expr) (m : Rho → Res RX) : Prop where
  run : ∀ {ρ : Rho} {r : RX} {ρ' : Rho}, m ρ = .ok r ρ' → ∀ {F : Fm} {σ : L2.St} {Hs H : Hp}, Rel (gx X) S F Hs H ρ σ → ∀ {Q : VK},
    (match r with
      | .ok d => ∀ v Hs' H', Nxt (gx X) S F ρ σ Hs H ρ' σ Hs' H' → SlotV (gx X) Hs' H' d v → (d.owned = true → ∀ a, v = .ref a → H a = none ∧ ¬ Own ρ' σ a) → Q v H'
      | .ex x => ∀ Hs' H', Nxt (gx X) S F ρ σ Hs H ρ' σ Hs' H' → S.xw x σ H') → WE X e σ H Q
def okM (m : Rho → Res RX) : EM := fun ρ => (m ρ).bind fun r ρ1 => match r with
  | .ok d => .ok d ρ1
  | .ex _ => .fail
def setX (i : Nat) (m : Rho → Res RX) : SM := fun ρ => (m ρ).bind fun r ρ1 => match r with
  | .ok d => .ok .nxt (ρ1.set i (some d))
  | .ex x => .ok (.exc x) ρ1
def setXV (i : Nat) (m : Rho → Res RX) : SM := fun ρ => (m ρ).bind fun r ρ1 => match r with
  | .ok d => .ok .nxt (ρ1.set i (some d.frz))
  | .ex x => .ok (.exc x) ρ1
def retX (m : Rho → Res RX) : SM := fun ρ => (m ρ).bind fun r ρ1 => match r with
  | .ok d => .ok (.ret d) ρ1
  | .ex x => .ok (.exc x) ρ1
def dropX (m : Rho → Res RX) : SM := fun ρ => (m ρ).bind fun r ρ1 => match r with
  | .ok _ => .ok .nxt ρ1
  | .ex x => .ok (.exc x) ρ1
section
variable {X : Cx} {S : Sc} {e : Expr} {es : List Expr} {mes : AM} {pos p px : Pos} {x : Str} {mx : Rho → Res RX}
theorem sim_callX {cm : CM} {k np n : Nat} {S' : Sc} {g : Addr} {gd : FuncData} {ps : List Str} {f : FnX} (G : FnOk X.prog X.w X.K X.mg X.base (L2N.CX X.prog X.w) k g gd ps (spX cm (gx X) S' np n f)) (tk : L2N.Takes X (wOf cm S.xw)) (hr : Room k X.A) (hm : X.mg x = some (.ref g)) (hk : PySem.W.keepIn X.K (.ref g) = true) (hb : Binds X.K gd ps [])
    (hl : (e :: es).length = np) (ha : SimA X S (e :: es) mes) (hg : Gl X x := by rfl) (hdb : (x == ("__debug__" : Str)) = false := by decide) (he : starEach (e :: es) X.env = (false, eval e X.env) :: starEach es X.env := by rfl) (hpl : (backTo pos (starEach es X.env)).any (·.1) = false := by rfl)
    (hla : ∀ {ρ ρ' : Rho} {ds : List D}, mes ρ = .ok ds ρ' → ds.length = (e :: es).length) : SimX X S (.Call (.Name x p) (e :: es) [] pos) (callX f mes) := by
  refine ⟨fun {ρ r ρ'} hm' {F σ Hs H} rl {Q} q => ?_⟩
  obtain ⟨ds, ρ1, e1, e2⟩ := Res.bind_ok hm'
  split at e2
  · rename_i r' hf
    cases e2
    refine ⟨_, pe_callS (E := L2.WE (wOf cm S.xw)) G hr hg hm hk hb (fun σ => L2N.passAt tk σ) (paW (e :: es)) hdb he hpl, ha.run e1 rl fun vs Hs1 H1 n1 r1 => ?_⟩
    have g : ∀ {ρ2 : Rho} {σ' : L2.St} {Hs2 H2 : Hp}, Nxt (gx X) S' ⟨H1, padV n vs⟩ (pad n ds) (padV n vs) Hs1 H1 ρ2 σ' Hs2 H2 → Nxt (gx X) S F ρ' σ Hs1 H1 ρ' σ Hs2 H2 := fun n2 => by
      refine n1.rel.grow n2.same (fun b o h => n2.keep b o h (noOwn_sh r1)) n2.rel.sub fun b h => ?_
      rcases n2.grow b h with z | z | z
      · exact .inl z
      · exact absurd z (noOwn_sh r1)
      · exact .inr z
    refine ⟨by rw [← r1.length, hla e1, hl], ds, r, Hs1, hf, rel_sh n1.rel.sub r1, ?_⟩
    cases r with
    | ok d =>
      intro v σ' Hs2 H2 ρ2 n2 rv
      refine q v Hs2 H2 (n1.trans (g n2)) rv.1 fun o a ea => ?_
      have h0 := (rv.2 o a ea).1
      exact ⟨n1.unn h0, n1.rel.notOwn h0⟩
    | ex x =>
      intro σ' Hs2 H2 ρ2 n2 cls d er
      exact ⟨x, er, q Hs2 H2 (n1.trans (g n2))⟩
  · cases e2
/-- in the midst of an expression: it must not raise there -/
theorem SimX.toE (h : SimX X S e mx) : SimE X S e (okM mx) := by
  refine ⟨fun {ρ d ρ'} hm {F σ Hs H} rl {Q} q => ?_⟩
  obtain ⟨r, ρ1, e1, e2⟩ := Res.bind_ok hm
  cases r with
  | ok d' => cases e2; exact h.run e1 rl q
  | ex x => cases e2
theorem sim_setX (i : Nat) (hN : X.N.Nodup) (he : SimX X S e mx) (hos : i ∈ S.os := by first | decide | exact of_decide_eq_true rfl) (hio : i ∉ S.io := by first | decide | exact of_decide_eq_true rfl) (hfx : i ∉ S.fx := by first | decide | exact of_decide_eq_true rfl) (hi : X.N[i]? = some x := by rfl) (hx : Loc X.env.scope x := by first | exact Or.inl rfl | exact Or.inr rfl)
    (hs : swapsWith e (some (.Name x px)) pos.line X.env = pure false := by rfl) (hf : X.fn x = true ∨ X.env.scope.names.lookup x = some .local := by first | exact .inl rfl | exact .inr rfl) : SimS X S (.Assign [.Name x px] e pos) (setX i mx) := by
  refine ⟨fun {ρ f ρ'} hm {F σ Hs H} rl {E} q => ?_⟩
  obtain ⟨r, ρ1, e1, e2⟩ := Res.bind_ok hm
  refine ⟨_, ps_set hN hi hx (peW e) hs hf, he.run e1 rl ?_⟩
  cases r with
  | ok d => cases e2; exact fun v Hs' H' n sv fr => q _ Hs' H' (n.assign rl hio hfx sv fun o => ⟨hos, fr o⟩)
  | ex y => cases e2; exact fun Hs' H' n => q σ Hs' H' n
theorem sim_setXV (i : Nat) (hN : X.N.Nodup) (he : SimX X S e mx) (hio : i ∉ S.io := by first | decide | exact of_decide_eq_true rfl) (hfx : i ∉ S.fx := by first | decide | exact of_decide_eq_true rfl) (hi : X.N[i]? = some x := by rfl) (hx : Loc X.env.scope x := by first | exact Or.inl rfl | exact Or.inr rfl)
    (hs : swapsWith e (some (.Name x px)) pos.line X.env = pure false := by rfl) (hf : X.fn x = true ∨ X.env.scope.names.lookup x = some .local := by first | exact .inl rfl | exact .inr rfl) : SimS X S (.Assign [.Name x px] e pos) (setXV i mx) := by
  refine ⟨fun {ρ f ρ'} hm {F σ Hs H} rl {E} q => ?_⟩
  obtain ⟨r, ρ1, e1, e2⟩ := Res.bind_ok hm
  refine ⟨_, ps_set hN hi hx (peW e) hs hf, he.run e1 rl ?_⟩
  cases r with
  | ok d =>
    cases e2
    intro v Hs' H' n sv fr
    obtain ⟨Hs2, n2, r2⟩ := n.share sv fr
    exact q _ Hs2 H' (n2.assign rl hio hfx (.of r2) fun o => by rw [r2.owned] at o; cases o)
  | ex y => cases e2; exact fun Hs' H' n => q σ Hs' H' n
theorem sim_retX (he : SimX X S e mx) : SimS X S (.Return (some e) pos) (retX mx) := by
  refine ⟨fun {ρ f ρ'} hm {F σ Hs H} rl {E} q => ?_⟩
  obtain ⟨r, ρ1, e1, e2⟩ := Res.bind_ok hm
  refine ⟨_, ps_ret (peW e), he.run e1 rl ?_⟩
  cases r with
  | ok d =>
    cases e2
    refine fun v Hs' H' n sv fr => q v σ Hs' H' n ⟨sv, fun o a ea => ⟨?_, (fr o a ea).2⟩⟩
    cases z : F.H0 a with
    | none => rfl
    | some u => exact absurd (fr o a ea).1 (rl.dom0 a (by rw [z]; exact fun z => by cases z))
  | ex y => cases e2; exact fun Hs' H' n => q σ Hs' H' n
theorem sim_dropX (he : SimX X S e mx) (hs : swapsWith e none pos.line X.env = pure false := by rfl) : SimS X S (.Expr e pos) (dropX mx) := by
  refine ⟨fun {ρ f ρ'} hm {F σ Hs H} rl {E} q => ?_⟩
  obtain ⟨r, ρ1, e1, e2⟩ := Res.bind_ok hm
  refine ⟨_, ps_expr (peW e) hs, he.run e1 rl ?_⟩
  cases r with
  | ok d => cases e2; exact fun v Hs' H' n sv fr => q σ Hs' H' n
  | ex y => cases e2; exact fun Hs' H' n => q σ Hs' H' n

/-! ### raise -/
def raise0 (n : Str) : SM := fun ρ => .ok (.exc (.tup [.str n])) ρ
def raise1 (n : Str) (v : D) : SM := fun ρ => .ok (.exc (.tup [.str n, v])) ρ
theorem sim_raise0 {cm : CM} {n : Str} {C : Addr} (tk : L2N.Takes X (wOf cm S.xw)) (hc : X.calm = true) (hm : cm n = some (C, none)) (he : L2N.PMk X e (fun _ H Q => Q (.ref C) none H)) : SimS X S (.Raise (some e) none pos) (raise0 n) := by
  refine ⟨fun {ρ f ρ'} h {F σ Hs H} rl {E} q => ?_⟩
  cases h
  exact ⟨_, L2N.ps_raise hc tk he, .tup [.str n], ⟨C, hm, rfl, rfl⟩, q σ Hs H (.refl rl)⟩
theorem sim_raise1 {cm : CM} {n f : Str} {C : Addr} {v : D} (tk : L2N.Takes X (wOf cm S.xw)) (hc : X.calm = true) (hm : cm n = some (C, some f)) (hv : inD.flat v = true) (he : L2N.PMk X e (fun _ H Q => ∀ d, H d = none → Q (.ref C) (some d) (upd H d (.xd [(f, flV v)])))) : SimS X S (.Raise (some e) none pos) (raise1 n v) := by
  refine ⟨fun {ρ f ρ'} h {F σ Hs H} rl {E} q => ?_⟩
  cases h
  exact ⟨_, L2N.ps_raise hc tk he, fun d hd => ⟨.tup [.str n, v], ⟨C, _, d, hm, rfl, rfl, upd_same, hv⟩, q σ _ _ ((Ext.newOwn rl.sub hd _).nxt rl)⟩⟩

/-! ### try -/
/-- is it one of these classes? -/
def isOf (ns : List Str) (x : D) : Bool := match x with
  | .tup (.str n :: _) => ns.contains n
  | _ => false
/-- try: body; except C: suite -/
def tryM (ns : List Str) (b s : SM) : SM := fun ρ => match b ρ with
  | .ok (.exc x) ρ1 => if isOf ns x = true then s ρ1 else .ok (.exc x) ρ1
  | r => r
/-- what is known of the classes: which of them `except c` catches -/
def Catches (cm : CM) (K : PySem.W.Frag) (c : Addr) (ns : List Str) : Prop := ∀ n C f, cm n = some (C, f) → PySem.W.exmOne K (.ref C) (.ref c) = some (ns.contains n)
theorem ExcRep.cls {cm : CM} {K : PySem.W.Frag} {c : Addr} {ns : List Str} (hc : Catches cm K c ns) {x : D} {cls : Value} {d : Option Addr} {H : Hp} (h : ExcRep cm x cls d H) : PySem.W.exmOne K cls (.ref c) = some (isOf ns x) := by
  unfold ExcRep at h
  split at h
  · obtain ⟨C, h1, rfl, _⟩ := h
    exact hc _ _ _ h1
  · obtain ⟨C, f, dd, h1, rfl, _⟩ := h
    exact hc _ _ _ h1
  · exact h.elim
theorem EndOk.wx {G : Gx} {S : Sc} {F : Fm} {ρ ρ' : Rho} {σ : L2.St} {Hs H : Hp} {f : Flow} {E : Ends} (hf : ∀ x, f ≠ .exc x) (xw : XW) (q : EndOk G S F ρ σ Hs H f ρ' E) : EndOk G (S.wx xw) F ρ σ Hs H f ρ' E := by
  cases f with
  | nxt => exact fun σ' Hs' H' n => q σ' Hs' H' n.unwx
  | brk => exact fun σ' Hs' H' n => q σ' Hs' H' n.unwx
  | cnt => exact fun σ' Hs' H' n => q σ' Hs' H' n.unwx
  | ret d => exact fun v σ' Hs' H' n rv => q v σ' Hs' H' n.unwx rv
  | exc x => exact absurd rfl (hf x)
theorem EndOk.pre' {G : Gx} {S : Sc} {F : Fm} {ρ ρ1 ρ' : Rho} {σ σ1 : L2.St} {Hs H Hs1 H1 : Hp} {f : Flow} {E : Ends} (q : EndOk G S F ρ σ Hs H f ρ' E) (n : Nxt G S F ρ σ Hs H ρ1 σ1 Hs1 H1) : EndOk G S F ρ1 σ1 Hs1 H1 f ρ' E := q.pre n
/-- what an except suite may lean on -/
theorem hot_suite {X : Cx} {a : Addr} {oe : Obj} {cls : Value} {d : Option Addr} {pn : List (Addr × Obj)} (hz : L2N.Zn cls d oe) (hf : ∃ vs, oe.data = .fields vs) : L2H.HotC (X.suite a ((a, oe) :: pn)) := by
  obtain ⟨vs, e⟩ := hf
  exact ⟨(a, oe), ⟨rfl, vs, e, hz.2.2 vs e⟩, List.mem_cons_self⟩
theorem sim_try {cm : CM} {c : Addr} {cn : Str} {ns : List Str} {body suite : List Stmt} {b₀ : Stmt} {np pos' : Pos} {mb ms : SM} (tk : L2N.Takes X (wOf cm S.xw)) (hs : X.stack = X.env :: X.outer) (hf : X.env.frame = some X.env.locals) (hn : Names X cn (.ref c)) (hc : Catches cm X.K c ns)
    (hb : ∀ (xw : XW) (pn : List (Addr × Obj)) (xe : Value → Shared → Prop), L2N.Takes (X.tr pn xe) (wOf cm xw) → PassesOwn (model X.prog X.w) X.A X.env xe → SimB (X.tr pn xe) (S.wx xw) body mb)
    (hsu : ∀ (a : Addr) (oe : Obj) (pn : List (Addr × Obj)), L2H.HotC (X.suite a ((a, oe) :: pn)) → SimB (X.suite a ((a, oe) :: pn)) S (b₀ :: suite) ms) :
    SimS X S (.Try body [.ExceptHandler (some (.Name cn np)) none (b₀ :: suite) pos'] [] [] pos) (tryM ns mb ms) := by
  refine ⟨fun {ρ f ρ'} hm {F σ Hs H} rl {E} q => ?_⟩
  refine ⟨_, L2N.ps_try_many (tb := fun W => fun D σ H => ∃ xw : XW, (∀ cls d σ' H', wOf cm xw cls d σ' H' → W cls d σ' H') ∧ ∃ (ρ : Rho) (f : Flow) (ρ' : Rho) (F : Fm) (Hs : Hp), mb ρ = .ok f ρ' ∧ Rel (gx X) S F Hs H ρ σ ∧ EndOk (gx X) (S.wx xw) F ρ σ Hs H f ρ' D)
    (Wout := wOf cm S.xw) hs hf tk (fun W pn xe tkW hpo => ?_) (.cons (c := .ref c) (ts := fun a cls d => fun D σ H => ∃ (ρ : Rho) (f : Flow) (ρ' : Rho) (F : Fm) (Hs : Hp), ms ρ = .ok f ρ' ∧ Rel (gx X) S F Hs H ρ σ ∧ EndOk (gx X) S F ρ σ Hs H f ρ' D) hn (fun a oe cls d pn hz hf' => ?_) .nil), ?_⟩
  · refine ⟨fun pins s σ H D I ⟨xw, hW, ρ, f, ρ', F, Hs, e1, r1, q1⟩ => ?_⟩
    obtain ⟨t, ht, qt⟩ := (hb xw pn xe (tkW.imp hW) hpo).run e1 (r1.wx xw) q1
    exact ht.run pins s σ H D I qt
  · refine ⟨fun pins s σ H D I ⟨ρ, f, ρ', F, Hs, e1, r1, q1⟩ => ?_⟩
    obtain ⟨t, ht, qt⟩ := (hsu a oe pn (hot_suite hz hf')).run e1 r1 q1
    exact ht.run pins s σ H D I qt
  · unfold tryM at hm
    split at hm
    · rename_i x ρb hb1
      have key : ∀ {cls : Value} {d : Option Addr} {σ' : L2.St} {H' : Hp}, wOf cm (fun y σ' H' => y = x ∧ ∃ Hs', Nxt (gx X) S F ρ σ Hs H ρb σ' Hs' H') cls d σ' H' → PySem.W.exmOne X.K cls (.ref c) = some (isOf ns x) ∧ ExcRep cm x cls d H' ∧ ∃ Hs', Nxt (gx X) S F ρ σ Hs H ρb σ' Hs' H' := fun ⟨y, er, e, Hs', n⟩ => by
        subst e
        exact ⟨er.cls hc, er, Hs', n⟩
      refine ⟨fun y σ' H' => y = x ∧ ∃ Hs', Nxt (gx X) S F ρ σ Hs H ρb σ' Hs' H', fun cls d σ' H' w => ?_, ρ, .exc x, ρb, F, Hs, hb1, rl, fun σ' Hs' H' n => ⟨rfl, Hs', n.unwx⟩⟩
      obtain ⟨k1, er, Hs', n⟩ := key w
      refine ⟨isOf ns x, k1, fun hy a _ => ?_, fun hy => ?_⟩
      · rw [if_pos hy] at hm
        exact ⟨ρb, f, ρ', F, Hs', hm, n.rel, q.pre n⟩
      · rw [if_neg (by rw [hy]; exact Bool.false_ne_true)] at hm
        cases hm
        exact ⟨x, er, q σ' Hs' H' n⟩
    · rename_i hne
      exact ⟨fun _ _ _ => False, fun cls d σ' H' ⟨_, _, z⟩ => z.elim, ρ, f, ρ', F, Hs, hm, rl, EndOk.wx (fun x e => hne x ρ' (by rw [hm, e])) _ q⟩
end
end Sim

/-! Sim, part 31: the class TooMany (a field: what), after the skeleton 42. -/
namespace PySem
namespace TooX
open PySem.W PySem.Calls PyProof.Rows PySem.HandSPX
/-! ### the text of __init__ -/
def iA (p1 p2 : Pos) : Arguments := { posonlyargs := [], args := [{ arg := "self", annotation := none, pos := p1 }, { arg := "what", annotation := none, pos := p2 }], vararg := none, kwonlyargs := [], kw_defaults := [], kwarg := none, defaults := [] }
def iB (q1 q2 q3 q4 : Pos) : List Stmt := [.Assign [.Attribute (.Name "self" q1) "what" q2] (.Name "what" q3) q4]
def iS : Scope := { kind := .function, names := [(PySem.Str.ofString "self", .local), (PySem.Str.ofString "what", .local)], isGenerator := false, isCoroutine := false, more := [] }
/-- what the written part says of Low, at C, and of its __init__, at fI -/
structure TooTxt (K : Frag) (mg : Str → Option Value) (C fI : Addr) : Prop where
  gC : mg "TooMany" = some (.ref C)
  cls : ∃ nm q N bs bm sn sub ab col dd k0 k1 k2 k3 k5, K.lookup C = some (excClassObj nm q C N bs bm true sn sub ab col dd k0 k1 k2 k3 k5 "ValueError.__new__") ∧ refsVE bm = true
  sa : findIn K (.ref C) "__setattr__" = some (some (.builtin "object.__setattr__"))
  ga : findIn K (.ref C) "__getattribute__" = some (some (.builtin "BaseException.__getattribute__"))
  gg : findIn K (.ref C) "__getattr__" = some none
  noN : findIn K (.ref C) "what" = some none
  iC : findIn K (.ref C) "__init__" = some (some (.ref fI))
  tC : typeIn K (.ref fI) = some (.type "function")
  kC : keepIn K (.ref C) = true
  exC : subIn K (.ref C) (.type "BaseException") = some true
  tyC : typeIn K (.ref C) = some (.type "type")
  hdC : hasDictIn K C = true
  te : exmOne K (.ref C) (.ref C) = some true
  fn : ∃ (oc : Value) (od : Option Addr) (doc pm : Value) (an : Option Addr) (cdv ct : Value) (osl : Array (Option Value)) (p1 p2 q1 q2 q3 q4 : Pos),
    K.lookup fI = some ⟨oc, od, .func (fnOf "__init__" "TooMany.__init__" (iA p1 p2) (iB q1 q2 q3 q4) iS .none .none doc pm an cdv ct), osl⟩ ∧ codeIn K cdv "TooMany.__init__" = true
theorem one_size (v : Value) : [v].length ≤ sizeLine := by
  rw [sizeLine_eq]
  exact (by decide : 1 ≤ 16777216)
theorem kept_but {K : Frag} {h h' : Heap} {x : Addr} (X : K.In h) (hx : K.lookup x = none) (k : ∀ b o, b ≠ x → h.get? b = some o → h'.get? b = some o) : K.In h' := fun a o e =>
  k a o (fun z => by rw [z, hx] at e; cases e) (X a o e)
theorem ldC {M : Model} {s : Shared} {name : Str} {scope : Scope} {L a : Addr} {cd : Value} {m : Str → Option Value} {x : Str} {pos : Pos} {v : Value} {Q : Value → Shared → Prop} {A : Around} {E : Value → Shared → Prop} (hn : s.heap.Ns L m) (hv : m x = some v) (h : Q v s)
    (hk : scope.kind = .function := by rfl) (hl : (envOfC name scope L a cd).kindOf x = some .local := by rfl) (hd : (x == ("__debug__" : Str)) = false := by decide) :
    wpAny M A (eval (.Name x pos) (envOfC name scope L a cd)) Q E s := wpAny_Name (wpAny_loadName_local hk hl hn hv h) hd
/-- what __init__ leaves of a fresh exception at x -/
structure InitEnd (h h' : Heap) (x C dx t1 : Addr) (v : Value) : Prop where
  keep : ∀ b o, b ≠ x → h.get? b = some o → h'.get? b = some o
  obj : h'.get? x = some { cls := .ref C, dict := some dx, data := .fields #[.ref t1, .none, .none, .none, .bool false, .none] }
  dbig : h.objs.size ≤ dx
  dne : dx ≠ x
  ns : h'.Ns1 dx (fun y => if y = "what" then some v else none)
/-- a made Low -/
structure OwnMade (h h' : Heap) (e C d : Addr) (v : Value) : Prop where
  keep : ∀ b o, h.get? b = some o → h'.get? b = some o
  new : h.objs.size ≤ e
  obj : ∃ oe vs, h'.get? e = some oe ∧ oe.cls = .ref C ∧ oe.dict = some d ∧ oe.data = .fields vs ∧ vs[1]? = some .none ∧ vs[2]? = some .none
  dbig : h.objs.size ≤ d
  dne : d ≠ e
  ns : h'.Ns1 d (fun y => if y = "what" then some v else none)
section
variable {prog : Program} {w : World} {A : Around} {E : Value → Shared → Prop} {R : Result → Shared → Prop} {s : Shared} {K : Frag} {mg : Str → Option Value} {C fI : Addr}
theorem too_init (T : TooTxt K mg C fI) {x t0 : Addr} {v : Value} (X : K.In s.heap) (hlim : s.heap.NoLimit) (hx : s.heap.get? x = some (excO C t0)) (hnx : K.lookup x = none) (hroom : A.depth < recursionLimit)
    (hq : ∀ h' tk dx, InitEnd s.heap h' x C dx t0 v → R (.ok (.ret .none)) { s with heap := h', toks := tk }) :
    codeAny (model prog w) A (.call (.ref fI) ⟨[.ref x, v], []⟩) R s := by
  obtain ⟨oc, od, doc, pm, an, cdv, ct, osl, p1, p2, q1, q2, q3, q4, ho, hcd⟩ := T.fn
  obtain ⟨nm, q, N, bs, bm, sn, sub, ab, col, dd, k0, k1, k2, k3, k5, hC, hbm⟩ := T.cls
  have hcl : clsIn K C = some { name := nm, bases := bs, mro := .ref C :: bm, ns := N, qualname := q, hasDict := true, slotNames := sn, subclasses := sub, abstract := ab, collection := col, hasDel := false } := by unfold clsIn; rw [hC] <;> rfl
  refine Att.call_fn (binds := [("self", .ref x), ("what", v)]) X hlim ho hcd hroom (BindsTo.of_eq (by first | rfl | with_unfolding_all rfl)) (by first | rfl | decide | with_unfolding_all rfl) (fun s₁ IC => ?_) rfl rfl rfl
  obtain ⟨h₁, tk₁, rfl⟩ := IC.toInCall.same
  have k : ∀ b o, s.heap.get? b = some o → h₁.get? b = some o := IC.toInCall.keep
  have hn := IC.toInCall.ns
  have hxL : s.heap.objs.size ≠ x := Nat.ne_of_gt (Heap.lt_size hx)
  have X₁ : K.In h₁ := X.keeps k
  have hx₁ := k _ _ hx
  -- self.by = by
  show wpAny _ _ (execs _ _) _ _ _
  refine wpAny_execs_cons (plainObj_wpAny_Assign_Attribute ?_)
  refine ldC (v := v) hn (by first | rfl | with_unfolding_all rfl | kernel_rfl) (ldC (v := .ref x) hn (by first | rfl | with_unfolding_all rfl | kernel_rfl) ?_)
  refine set_plain X₁ (ox := excO C t0) (od := none) ⟨hx₁, rfl, rfl, trivial⟩ T.sa ?_
  refine exc_osa X₁ hx₁ hcl (show refsVE (.ref C :: bm) = true from hbm) rfl T.noN (fun h₃ tk₃ dx k₃ dn dne hx₃ hn₃ => ?_)
  show wpAny _ _ (execs _ _) _ _ _
  have z : s.heap.objs.size < h₁.objs.size := hn.lt
  exact wpAny_execs_nil (hq h₃ tk₃ dx ⟨fun b o hb e => k₃ b o hb (k b o e), hx₃, Nat.le_of_lt (Nat.lt_of_lt_of_le z dn), dne, hn₃⟩)
theorem too_made (T : TooTxt K mg C fI) {v : Value} (X : K.In s.heap) (hlim : s.heap.NoLimit) (hroom : A.depth + 1 < recursionLimit)
    (hq : ∀ h' tk e d, OwnMade s.heap h' e C d v → R (.ok (.ret (.ref e))) { s with heap := h', toks := tk }) :
    codeAny (model prog w) A (.call (.ref C) ⟨[v], []⟩) R s := by
  obtain ⟨nm, q, N, bs, bm, sn, sub, ab, col, dd, k0, k1, k2, k3, k5, hC, hbm⟩ := T.cls
  obtain ⟨hp, g, dr, tk, os⟩ := s
  have k : ∀ b o, hp.get? b = some o → ((hp.push (kdv_tup [v])).push (excO C hp.objs.size)).get? b = some o := fun b o e => Heap.get?_push_of_some _ (Heap.get?_push_of_some _ e)
  have hget : ((hp.push (kdv_tup [v])).push (excO C hp.objs.size)).get? (hp.objs.size + 1) = some (excO C hp.objs.size) := by heap_get
  have hnx : K.lookup (hp.objs.size + 1) = none := by
    cases e : K.lookup (hp.objs.size + 1) with
    | none => rfl
    | some o =>
      have z : hp.get? (hp.objs.size + 1) = some o := X _ _ e
      exact absurd (Nat.lt_of_succ_lt (Heap.lt_size z)) (Nat.lt_irrefl _)
  refine call_own F.excBase_ValueError (fun X => refsVE_contains X bm hbm) (X _ _ hC) (looks_findIn X T.iC) (fun self => bind_fn X self T.tC) (one_size v) ?_
  refine too_init (s := ⟨(hp.push (kdv_tup [v])).push (excO C hp.objs.size), g, dr, tk, os⟩) T (X.keeps k) (hlim.keeps k) hget hnx ?_ fun h' tk' dx ⟨k', hx, dn, dne, hns⟩ => ?_
  · show A.depth + 1 < recursionLimit
    exact hroom
  · have old : ∀ b o, hp.get? b = some o → h'.get? b = some o := fun b o e => k' b o (Nat.ne_of_lt (Nat.lt_succ_of_lt (Heap.lt_size e))) (k b o e)
    have z : hp.objs.size + 1 + 1 ≤ dx := by
      first
        | (simpa only [Heap.size_push] using dn)
        | exact dn
        | (have q := dn; rw [Heap.size_push, Heap.size_push] at q; exact q)
    exact ⟨rfl, hq h' tk' (hp.objs.size + 1) dx ⟨old, Nat.le_succ _, ⟨_, _, hx, rfl, rfl, rfl, rfl, rfl⟩, Nat.le_trans (Nat.le_trans (Nat.le_succ _) (Nat.le_succ _)) z, dne, hns⟩⟩
end
end TooX
end PySem
namespace L2
open PySem PySem.Spec PyProof.Rows
theorem relO_too {v : V} {v' : Value} (r : RelV v v') (f : Str) : RelO (List.lookup f [(("what" : Str), v)]) (if f = "what" then some v' else none) := by
  by_cases hw : f = "what"
  · subst hw
    rw [if_pos rfl]
    have q : List.lookup ("what" : Str) [(("what" : Str), v)] = some v := by simp [List.lookup]
    rw [q]
    exact r
  · rw [if_neg hw]
    have qw : (f == ("what" : Str)) = false := by simpa using hw
    have q2 : List.lookup f [(("what" : Str), v)] = none := by simp [List.lookup, qw]
    rw [q2]
    trivial
section
variable {X : Cx} {C fI : Addr}
/-- Low(e) -/
def tMkToo (C : Addr) (ta : TA) : St → Hp → XK → Prop := fun σ H Q => ta σ H fun vs H1 => ∃ v, vs = [v] ∧ ∀ d, H1 d = none → Q (.ref C) (some d) (upd H1 d (.xd [(("what" : Str), v)]))
theorem pmk_too {a : Expr} {ta : TA} {p pos : Pos} {k : Nat} (T : PySem.TooX.TooTxt X.K X.mg C fI) (hr : Room k X.A) (ha : PA X [a] ta) (hg : Gl X "TooMany" := by rfl)
    (he : starEach (a :: []) X.env = (false, eval a X.env) :: starEach [] X.env := by rfl) (hpl : (backTo pos (starEach [] X.env)).any (·.1) = false := by rfl) :
    L2N.PMk X (.Call (.Name "TooMany" p) [a] [] pos) (tMkToo C ta) := by
  intro pins s σ H Q I h
  refine wpAny_Call_Name_kw (ld_glob I hg T.gC ?_)
  refine PySem.W.callWith_K (h₀ := X.base) I.ok.mod.kin T.kC (thn (ha.run pos pins s σ H _ I h) fun us s1 hh => ?_) he hpl
  obtain ⟨vs, H1, I1, r1, v, ev, q1⟩ := hh
  subst ev
  refine ⟨I1.kIn, ?_⟩
  cases r1 with
  | cons rv rn =>
    rename_i v' us'
    cases rn
    show wpAny _ _ (call (.ref C) [v']) _ _ _
    have hlim := I1.nolimit
    obtain ⟨hp, g, dr, tk, os⟩ := s1
    refine wpAny_call (PySem.TooX.too_made T I1.kIn hlim (by have := hr.dp; omega) fun h' tk' e d M => ?_)
    show L2N.MkP X pins σ Q (.ref e) ⟨h', g, dr, tk', os⟩
    obtain ⟨oe, fv, hoe, hc, hd, hdat, h1, h2⟩ := M.obj
    have hns := M.ns
    obtain ⟨G', g1, g2⟩ := restrict h' fun b => decide (b ≠ e)
    have gk : ∀ b, b ≠ e → G'.get? b = h'.get? b := fun b hb => g1 b (decide_eq_true hb)
    have ge : G'.get? e = none := g2 e (by simp)
    have old : ∀ b o, hp.get? b = some o → G'.get? b = some o := fun b o q => (gk b (Nat.ne_of_lt (Nat.lt_of_lt_of_le (Heap.lt_size q) M.new))).trans (M.keep b o q)
    have ob : ObjOk X.prog X.w (upd H1 d (.xd [(("what" : Str), v)])) G' d (.xd [(("what" : Str), v)]) :=
      ⟨_, hns.at (fun o q => (gk d M.dne).trans q), fun f => relO_too rv f⟩
    have J : Inv X pins σ (upd H1 d (.xd [(("what" : Str), v)])) ⟨G', g, dr, tk', os⟩ := I1.laid (t' := tk') old M.dbig ob
    refine ⟨e, oe, fv, ⟨G', g, dr, tk', os⟩, _, .ref C, some d, rfl, J, fun b o q => ?_, ge, hoe, ⟨hc, hd, fun vs e => by rw [hdat] at e; cases e; exact h2⟩, hdat, h1, ?_, rfl, I1.bare, raises_own T.exC T.tyC, q1 d (I1.hok.fresh M.dbig)⟩
    · by_cases hb : b = e
      · have q' : G'.get? b = some o := q
        rw [hb, ge] at q'; cases q'
      · exact (gk b hb).symm.trans q
    · rw [upd_ne (Ne.symm M.dne)]
      exact I1.hok.fresh M.new
/-- raise Low(e) -/
def tRaiseToo (C : Addr) (W : WX) (ta : TA) : TS := fun _ σ H => tMkToo C ta σ H fun cls d H' => W cls d σ H'
theorem ps_raiseToo {a : Expr} {ta : TA} {W : WX} {p pos pos2 : Pos} {k : Nat} (hc : X.calm = true) (T : PySem.TooX.TooTxt X.K X.mg C fI) (hr : Room k X.A) (tk : L2N.Takes X W) (ha : PA X [a] ta) (hg : Gl X "TooMany" := by rfl)
    (he : starEach (a :: []) X.env = (false, eval a X.env) :: starEach [] X.env := by rfl) (hpl : (backTo pos (starEach [] X.env)).any (·.1) = false := by rfl) :
    PS X (.Raise (some (.Call (.Name "TooMany" p) [a] [] pos)) none pos2) (tRaiseToo C W ta) := L2N.ps_raise hc tk (pmk_too T hr ha hg he hpl)
/-- low.by, low the exception that the suite holds (at a; its class cls, its dict d) -/
def tByToo (C : Addr) (a : Addr) (cls : Value) (d : Option Addr) (te : TE) : TE := fun σ H Q => te σ H fun x H1 => x = .ref a ∧ cls = .ref C ∧ ∃ (dd : Addr) (v : V), d = some dd ∧ H1 dd = some (.xd [(("what" : Str), v)]) ∧ Q v H1
theorem pe_byToo {a : Addr} {oe : Obj} {cls : Value} {d : Option Addr} {pn : List (Addr × Obj)} {e : Expr} {te : TE} {pos : Pos} (T : PySem.TooX.TooTxt X.K X.mg C fI) (hz : Zc cls d oe) (hf : ∃ vs, oe.data = .fields vs) (he : PE (X.suite a ((a, oe) :: pn)) e te)
    (hb : attributeBase e "what" X.env (eval e X.env) = eval e X.env := by rfl) :
    PE (X.suite a ((a, oe) :: pn)) (.Attribute e "what" pos) (tByToo C a cls d te) := by
  refine ⟨fun pins s σ H Q I h => ?_⟩
  refine attr_of hb (thn (he.run pins s σ H _ I h) fun u s1 hh => ?_)
  obtain ⟨x, H1, I1, rx, ex, ec, dd, v, ed, ea, q⟩ := hh
  subst ex
  obtain rfl : u = Value.ref a := rx
  subst ec
  subst ed
  obtain ⟨ha, _⟩ := I1.pin (a, oe) (List.mem_append_left _ List.mem_cons_self)
  obtain ⟨vs, hd⟩ := hf
  have hx : ObjOk X.prog X.w H1 s1.heap dd (.xd [(("what" : Str), v)]) := I1.hok dd _ ea
  obtain ⟨mA, hns, hr⟩ := hx
  obtain ⟨od, ho, hl⟩ := lookIn_ns hns
  have l : List.lookup ("what" : Str) [(("what" : Str), v)] = some v := by simp [List.lookup]
  obtain ⟨u, hu, ru⟩ := RelO.some_of (v := v) (o := mA "what") (by rw [← l]; exact hr "what")
  have J : PySem.W.InstAt s1.heap a oe C (some od) := ⟨ha, hz.1, by unfold PySem.W.notCls; rw [hd] <;> rfl, by rw [hz.2]; exact ho⟩
  exact HandSPX.exc_get I1.kIn J T.ga T.gg T.exC (PySem.W.findObj_own T.hdC T.noN rfl (by rw [hl, hu])) (handed_of ru) ⟨v, H1, I1.tok _, ru, q⟩
end
end L2
namespace Sim
open PySem PySem.Spec PyProof.Rows L2
theorem flv_str {x : Str} : flV (.str x) = .str x := rfl
/-- TooMany('..') -/
theorem mk_too {X : Cx} {C fI : Addr} {m : Str} {j k : Nat} {p p2 pos : Pos} (T : PySem.TooX.TooTxt X.K X.mg C fI) (hr : Room k X.A) (hg : Gl X "TooMany" := by rfl)
    (he : starEach ([.Constant (.str m) j p2]) X.env = (false, eval (.Constant (.str m) j p2) X.env) :: starEach [] X.env := by rfl) (hpl : (backTo pos (starEach [] X.env)).any (·.1) = false := by rfl) :
    L2N.PMk X (.Call (.Name "TooMany" p) [.Constant (.str m) j p2] [] pos) (fun _ H Q => ∀ d, H d = none → Q (.ref C) (some d) (upd H d (.xd [(("what" : Str), flV (.str m))]))) := by
  intro pins s σ H Q I h
  exact pmk_too (pos := pos) (p := p) T hr (pa_cons pe_str pa_nil he) hg he hpl pins s σ H Q I ⟨_, rfl, h⟩
end Sim

/-! Sim, part 32: reading rules for exceptions. -/
namespace Sim
open PySem PySem.Spec PyProof.Rows L2
def FXT (f : FnX) (ds : List D) (Q : RX → Prop) : Prop := ∃ r, f ds = some r ∧ Q r
theorem FXT_mono {f : FnX} {ds : List D} {Q Q' : RX → Prop} (h : FXT f ds Q) (k : ∀ r, Q r → Q' r) : FXT f ds Q' := by
  obtain ⟨r, e, q⟩ := h
  exact ⟨r, e, k _ q⟩
def EndX (Q : RX → Prop) : Flow → Rho → Prop := fun fl _ => match fl with
  | .nxt => Q (.ok .non)
  | .ret d => Q (.ok d)
  | .exc x => Q (.ex x)
  | _ => False
theorem FXT_def {n : Nat} {b : SM} {ds : List D} {Q : RX → Prop} (h : T (b (pad n ds)) (EndX Q)) : FXT (defX n b) ds Q := by
  unfold FXT defX
  cases hb : b (pad n ds) with
  | fail => rw [hb] at h; exact h.elim
  | ex _ _ => rw [hb] at h; exact h.elim
  | ok f ρ =>
    rw [hb] at h
    cases f with
    | nxt => exact ⟨_, rfl, h⟩
    | ret d => exact ⟨_, rfl, h⟩
    | exc x => exact ⟨_, rfl, h⟩
    | brk => exact h.elim
    | cnt => exact h.elim
theorem EndX_nxt {Q : RX → Prop} {ρ : Rho} : EndX Q .nxt ρ = Q (.ok .non) := propext Iff.rfl
theorem EndX_ret {Q : RX → Prop} {ρ : Rho} {d : D} : EndX Q (.ret d) ρ = Q (.ok d) := propext Iff.rfl
theorem EndX_exc {Q : RX → Prop} {ρ : Rho} {d : D} : EndX Q (.exc d) ρ = Q (.ex d) := propext Iff.rfl
/-- by the two ends -/
def rq (f g : D → Prop) (r : RX) : Prop := match r with
  | .ok d => f d
  | .ex x => g x
theorem rq_ok {f g : D → Prop} {d : D} : rq f g (.ok d) = f d := propext Iff.rfl
theorem rq_ex {f g : D → Prop} {d : D} : rq f g (.ex d) = g d := propext Iff.rfl
section
variable {ρ : Rho} {Q : D → Rho → Prop} {QS : Flow → Rho → Prop} {i : Nat} {m : Rho → Res RX}
theorem T_callX {f : FnX} {m : AM} {Q : RX → Rho → Prop} : T (callX f m ρ) Q = T (m ρ) (fun ds ρ1 => FXT f ds fun r => Q r ρ1) := by
  unfold callX
  rw [T_bind]
  congr 1
  funext ds ρ1
  unfold FXT
  cases h : f ds with
  | none => exact propext ⟨fun x => x.elim, fun ⟨_, h, _⟩ => by cases h⟩
  | some r => exact propext ⟨fun q => ⟨r, rfl, q⟩, fun ⟨_, h, q⟩ => by cases h; exact q⟩
theorem T_okM : T (okM m ρ) Q = T (m ρ) (fun r ρ1 => rq (fun d => Q d ρ1) (fun _ => False) r) := by
  unfold okM
  rw [T_bind]
  congr 1
  funext r ρ1
  cases r <;> rfl
theorem T_setX : T (setX i m ρ) QS = T (m ρ) (fun r ρ1 => rq (fun d => QS .nxt (ρ1.set i (some d))) (fun x => QS (.exc x) ρ1) r) := by
  unfold setX
  rw [T_bind]
  congr 1
  funext r ρ1
  cases r <;> rfl
theorem T_setXV : T (setXV i m ρ) QS = T (m ρ) (fun r ρ1 => rq (fun d => QS .nxt (ρ1.set i (some d.frz))) (fun x => QS (.exc x) ρ1) r) := by
  unfold setXV
  rw [T_bind]
  congr 1
  funext r ρ1
  cases r <;> rfl
theorem T_retX : T (retX m ρ) QS = T (m ρ) (fun r ρ1 => rq (fun d => QS (.ret d) ρ1) (fun x => QS (.exc x) ρ1) r) := by
  unfold retX
  rw [T_bind]
  congr 1
  funext r ρ1
  cases r <;> rfl
theorem T_dropX : T (dropX m ρ) QS = T (m ρ) (fun r ρ1 => rq (fun _ => QS .nxt ρ1) (fun x => QS (.exc x) ρ1) r) := by
  unfold dropX
  rw [T_bind]
  congr 1
  funext r ρ1
  cases r <;> rfl
theorem T_raise0 {n : Str} : T (raise0 n ρ) QS = QS (.exc (.tup [.str n])) ρ := propext Iff.rfl
theorem T_raise1 {n : Str} {v : D} : T (raise1 n v ρ) QS = QS (.exc (.tup [.str n, v])) ρ := propext Iff.rfl
def TryQ (ns : List Str) (s : SM) (Q : Flow → Rho → Prop) : Flow → Rho → Prop := fun f ρ => match f with
  | .exc x => (isOf ns x = true → T (s ρ) Q) ∧ (isOf ns x = false → Q (.exc x) ρ)
  | f => Q f ρ
theorem T_try {ns : List Str} {b s : SM} : T (tryM ns b s ρ) QS = T (b ρ) (TryQ ns s QS) := by
  unfold tryM
  cases hb : b ρ with
  | fail => rfl
  | ex _ _ => rfl
  | ok f ρ1 =>
    cases f with
    | exc x =>
      show T (if isOf ns x = true then s ρ1 else .ok (.exc x) ρ1) QS = ((isOf ns x = true → T (s ρ1) QS) ∧ (isOf ns x = false → QS (.exc x) ρ1))
      cases h : isOf ns x with
      | true => exact propext ⟨fun q => ⟨fun _ => q, fun z => (by cases z)⟩, fun q => q.1 rfl⟩
      | false => exact propext ⟨fun q => ⟨fun z => (by cases z), fun _ => q⟩, fun q => q.2 rfl⟩
    | nxt => rfl
    | ret d => rfl
    | brk => rfl
    | cnt => rfl
theorem TryQ_nxt {ns : List Str} {s : SM} : TryQ ns s QS .nxt ρ = QS .nxt ρ := propext Iff.rfl
theorem TryQ_ret {ns : List Str} {s : SM} {d : D} : TryQ ns s QS (.ret d) ρ = QS (.ret d) ρ := propext Iff.rfl
theorem TryQ_brk {ns : List Str} {s : SM} : TryQ ns s QS .brk ρ = QS .brk ρ := propext Iff.rfl
theorem TryQ_cnt {ns : List Str} {s : SM} : TryQ ns s QS .cnt ρ = QS .cnt ρ := propext Iff.rfl
theorem TryQ_exc {ns : List Str} {s : SM} {x : D} : TryQ ns s QS (.exc x) ρ = ((isOf ns x = true → T (s ρ) QS) ∧ (isOf ns x = false → QS (.exc x) ρ)) := propext Iff.rfl
theorem SeqQ_exc {n : SM} {x : D} : SeqQ n QS (.exc x) ρ = QS (.exc x) ρ := propext Iff.rfl
theorem LoopQ_exc {I : Rho → Prop} {x : D} : LoopQ I QS (.exc x) ρ = QS (.exc x) ρ := propext Iff.rfl
/-- a part that may end by an exception -/
theorem T_cutX {m n : SM} (I : Rho → Prop) (h : T (m ρ) fun f ρ1 => match f with | .nxt => I ρ1 | .exc x => QS (.exc x) ρ1 | _ => False) (k : ∀ ρ1, I ρ1 → T (n ρ1) QS) : T (m ρ) (SeqQ n QS) := by
  refine T_mono h fun f ρ1 q => ?_
  cases f with
  | nxt => exact k ρ1 q
  | exc x => exact q
  | ret d => exact q.elim
  | brk => exact q.elim
  | cnt => exact q.elim
end
end Sim

/-! Sim, part 33: except .. as e: what e is asked; calls in a suite. -/
namespace Sim
open PySem PySem.Spec PyProof.Rows L2

/-! ### a def that is called where an exception is handled -/
theorem def_okH {P : Program} {w : World} {K : PySem.W.Frag} {mg : Str → Option Value} {base : Heap} {x qual : Str} {st : Stmt} {f : Addr} {fd : FuncData} {N ps : List Str} {k np n : Nat} {S : Sc} {body : SM} (F : Fun K x qual st f fd) (SC : FnScope N ps (defScope st)) (hp : ps.length = np) (hn : N.length = np + n)
    (hbody : ∀ (cdv : Value) (A : Around) (outer : List Env) (s : Shared) (H : Hp) (E : XK) (p : Addr × Obj), L2H.RoomH k (A.deeper (envOfC qual (defScope st) s.heap.objs.size f cdv)) → L2H.HotC (L2H.cxH CX0 P w K mg base N qual (defScope st) f cdv A outer s H E p).nox →
      SimB (L2H.cxH CX0 P w K mg base N qual (defScope st) f cdv A outer s H E p).nox S (defBody st) body) :
    L2H.FnH P w K mg base CX0 (k + 1) f fd ps (spF ⟨P, w, K⟩ S np n (defF n S.io body)) := by
  obtain ⟨oc, od, kV, doc, pm, an, cdv, ct, osl, rfl, lk, hcd⟩ := F.ex
  refine L2H.fn_ofH lk hcd SC (fun vs H Q E h => by rw [h.1, hp]) (fun A outer s H vs Q E p hot hr h => ?_)
  obtain ⟨hl, ds, d, fs, Hs, e, rl, q⟩ := h
  rw [start_pad (by rw [hn, hl])]
  unfold defF at e
  have B := hbody cdv A outer s H E p hr ⟨p, hot, List.mem_cons_self⟩
  split at e
  · rename_i ρ hb
    obtain ⟨fs', e1, e2⟩ := Option.map_eq_some_iff.mp e
    cases e2
    exact ⟨_, (pbW _).nox, B.run hb rl fun σ' Hs' H' n => q _ _ _ _ _ n ⟨rfl, fun o => by cases o⟩ e1⟩
  · rename_i d' ρ hb
    obtain ⟨fs', e1, e2⟩ := Option.map_eq_some_iff.mp e
    cases e2
    exact ⟨_, (pbW _).nox, B.run hb rl fun v σ' Hs' H' n rv => q _ _ _ _ _ n rv e1⟩
  · cases e
theorem none_okH {P : Program} {w : World} {K : PySem.W.Frag} {mg : Str → Option Value} {base : Heap} {f : Addr} {fd : FuncData} {ps : List Str} {G : Gx} {S : Sc} {np n : Nat} :
    L2H.FnH P w K mg base CX0 0 f fd ps (spF G S np n (fun _ => none)) := by
  refine ⟨fun vs H Q E h => ?_, fun A outer s H args us vs Q E p hr _ _ h0 hb hv h => ?_⟩
  · obtain ⟨_, _, _, _, _, e, _⟩ := h
    cases e
  · obtain ⟨_, _, _, _, _, e, _⟩ := h
    cases e
theorem hu16H {k : Nat} {A : Around} (h : L2H.RoomH k A) : A.units + 16 < cLine := by have := h.un; omega
theorem hu64H {k : Nat} {A : Around} (h : L2H.RoomH k A) : A.units + 64 < cLine := by have := h.un; omega
theorem hu65H {k : Nat} {A : Around} (h : L2H.RoomH k A) : A.units + 65 < cLine := by have := h.un; omega
/-- a statement that is never reached there -/
def failS : SM := fun _ => .fail
theorem sim_failS {X : Cx} {S : Sc} {st : Stmt} : SimS X S st failS := ⟨fun h => by cases h⟩

/-! ### what is known within a suite: the exception x, at a, in slot i -/
def Phi (cm : CM) (i : Nat) (a : Addr) (x : D) (cls : Value) (d : Option Addr) (σ : L2.St) (H : Hp) : Prop := σ[i]? = some (some (V.ref a)) ∧ ExcRep cm x cls d H
theorem own_xd {G : Gx} {S : Sc} {F : Fm} {Hs H : Hp} {ρ : Rho} {σ : L2.St} {b : Addr} {fs : List (Str × V)} (r : Rel G S F Hs H ρ σ) (h : H b = some (.xd fs)) : ¬ Own ρ σ b := fun ⟨i, e, h1, h2, h3⟩ => by
  obtain ⟨v, ev, sv⟩ := r.slot i e h1
  rw [h3] at ev
  cases ev
  have o := sv.own h2
  cases e with
  | lst m ds => obtain ⟨a, vs, e, _, q, _⟩ := o; cases e; rw [h] at q; cases q
  | dct m ks ds =>
    obtain ⟨a, e, _, _, q⟩ := o
    cases e
    rcases q with ⟨_, kvs, q, _⟩ | ⟨_, xs, q, _⟩
    · rw [h] at q; cases q
    · rw [h] at q; cases q
  | _ => exact o.elim
theorem Phi.next {cm : CM} {i : Nat} {a : Addr} {x : D} {cls : Value} {d : Option Addr} {G : Gx} {S : Sc} {F : Fm} {Hs H Hs' H' : Hp} {ρ ρ' : Rho} {σ : L2.St} (p : Phi cm i a x cls d σ H) (r : Rel G S F Hs H ρ σ) (n : Nxt G S F ρ σ Hs H ρ' σ Hs' H') : Phi cm i a x cls d σ H' := by
  refine ⟨p.1, ?_⟩
  have h := p.2
  unfold ExcRep at h ⊢
  split
  · exact h
  · obtain ⟨C, f, dd, h1, h2, h3, h4, h5⟩ := h
    exact ⟨C, f, dd, h1, h2, h3, n.keep dd _ h4 (own_xd r h4), h5⟩
  · rename_i z1 z2
    split at h
    · exact (z1 _ rfl).elim
    · exact (z2 _ _ rfl).elim
    · exact h
structure SuV (X : Cx) (S : Sc) (Φ : L2.St → Hp → Prop) (e : Expr) (m : EM) : Prop where
  run : ∀ {ρ : Rho} {d : D} {ρ' : Rho}, m ρ = .ok d ρ' → ∀ {F : Fm} {σ : L2.St} {Hs H : Hp}, Rel (gx X) S F Hs H ρ σ → Φ σ H → ∀ {Q : VK},
    (∀ v Hs' H', Nxt (gx X) S F ρ σ Hs H ρ' σ Hs' H' → Rep (gx X) Hs' d v → Q v H') → WE X e σ H Q
structure SuA (X : Cx) (S : Sc) (Φ : L2.St → Hp → Prop) (es : List Expr) (m : AM) : Prop where
  run : ∀ {ρ : Rho} {ds : List D} {ρ' : Rho}, m ρ = .ok ds ρ' → ∀ {F : Fm} {σ : L2.St} {Hs H : Hp}, Rel (gx X) S F Hs H ρ σ → Φ σ H → ∀ {Q : List V → Hp → Prop},
    (∀ vs Hs' H', Nxt (gx X) S F ρ σ Hs H ρ' σ Hs' H' → RepL (gx X) Hs' ds vs → Q vs H') → WA X es σ H Q
structure SuS (X : Cx) (S : Sc) (Φ : L2.St → Hp → Prop) (st : Stmt) (m : SM) : Prop where
  run : ∀ {ρ : Rho} {f : Flow} {ρ' : Rho}, m ρ = .ok f ρ' → ∀ {F : Fm} {σ : L2.St} {Hs H : Hp}, Rel (gx X) S F Hs H ρ σ → Φ σ H → ∀ {E : Ends}, EndOk (gx X) S F ρ σ Hs H f ρ' E → WS X st E σ H
/-- what stays true while expressions are asked -/
def Stab (X : Cx) (S : Sc) (Φ : L2.St → Hp → Prop) : Prop := ∀ {F : Fm} {Hs H Hs' H' : Hp} {ρ ρ' : Rho} {σ : L2.St}, Φ σ H → Rel (gx X) S F Hs H ρ σ → Nxt (gx X) S F ρ σ Hs H ρ' σ Hs' H' → Φ σ H'
section
variable {X : Cx} {S : Sc} {Φ : L2.St → Hp → Prop} {a b e : Expr} {es rest : List Expr} {ma mb me : EM} {mes : AM} {pos p px : Pos} {x : Str}
theorem SimV.su (h : SimV X S e me) : SuV X S Φ e me := ⟨fun {ρ d ρ'} hm {F σ Hs H} rl _ {Q} q => h.run hm rl q⟩
theorem suA_nil : SuA X S Φ [] nilA := ⟨fun {ρ ds ρ'} hm {F σ Hs H} rl _ {Q} q => sim_nil.run hm rl q⟩
theorem suA_cons (st : Stab X S Φ) (h : SuV X S Φ a ma) (h2 : SuA X S Φ es mes) (he : starEach (a :: es) X.env = (false, eval a X.env) :: starEach es X.env := by rfl) : SuA X S Φ (a :: es) (consA ma mes) := by
  refine ⟨fun {ρ ds ρ'} hm {F σ Hs H} rl ph {Q} q => ?_⟩
  obtain ⟨d, ρ1, e1, hm⟩ := Res.bind_ok hm
  obtain ⟨ds', ρ2, e2, hm⟩ := Res.bind_ok hm
  cases hm
  refine ⟨_, pa_cons (peW a) (paW es) he, h.run e1 rl ph fun v Hs1 H1 n1 r1 => h2.run e2 n1.rel (st ph rl n1) fun vs Hs2 H2 n2 r2 => ?_⟩
  exact q _ Hs2 H2 (n1.trans n2) (.cons (Rep.mono n2.same _ _ r1) r2)
theorem su_one {op : BoolOp} (h : SuV X S Φ a ma) : SuV X S Φ (.BoolOp op [a] pos) ma := by
  refine ⟨fun {ρ d ρ'} hm {F σ Hs H} rl ph {Q} q => ?_⟩
  exact ⟨_, pe_one (peW a), h.run hm rl ph q⟩
theorem su_and (st : Stab X S Φ) (h : SuV X S Φ a ma) (h2 : SuV X S Φ (.BoolOp .And (b :: rest) pos) mb) : SuV X S Φ (.BoolOp .And (a :: b :: rest) pos) (andV ma mb) := by
  refine ⟨fun {ρ d ρ'} hm {F σ Hs H} rl ph {Q} q => ?_⟩
  obtain ⟨x, ρ1, e1, e2⟩ := Res.bind_ok hm
  refine ⟨_, pe_and (peW a) (peW _), h.run (testM_ok e1) rl ph fun v Hs' H' n rp => ⟨x, rp, ?_⟩⟩
  cases x with
  | true => rw [if_pos rfl]; exact h2.run e2 n.rel (st ph rl n) fun v2 Hs2 H2 n2 => q v2 Hs2 H2 (n.trans n2)
  | false => rw [if_neg Bool.false_ne_true]; cases e2; exact q _ Hs' H' n rfl
theorem su_not (h : SuV X S Φ a ma) : SuV X S Φ (.UnaryOp .Not a pos) (notV ma) := by
  refine ⟨fun {ρ d ρ'} hm {F σ Hs H} rl ph {Q} q => ?_⟩
  obtain ⟨x, ρ1, e1, e2⟩ := Res.bind_ok hm
  cases e2
  exact ⟨_, pe_not (peW a), h.run (testM_ok e1) rl ph fun v Hs' H' n rp => ⟨x, rp, q _ Hs' H' n rfl⟩⟩
theorem su_cmp {op : CmpOp} {f : D → D → Option D} (st : Stab X S Φ) (ho : OpS X (compareOp op) f) (ha : SuV X S Φ a ma) (hb : SuV X S Φ b mb) (hm : behindInMarks op b = false) : SuV X S Φ (.Compare a [op] [b] pos) (op2 f ma mb) := by
  refine ⟨fun {ρ d ρ'} h {F σ Hs H} rl ph {Q} q => ?_⟩
  obtain ⟨x, y, ρ1, e1, e2, e3⟩ := op2_ok h
  refine ⟨_, pe_cmpR (opW _) (peW a) (peW b) hm, ha.run e1 rl ph fun u Hs1 H1 n1 r1 => hb.run e2 n1.rel (st ph rl n1) fun v Hs2 H2 n2 r2 => ?_⟩
  exact ho e3 n2.rel.sub (.of (Rep.mono n2.same _ _ r1)) (.of r2) fun w Hs3 H3 x3 rw => q w Hs3 H3 ((n1.trans n2).trans (x3.nxt n2.rel)) rw
/-- a call there -/
theorem su_call {k np n : Nat} {S' : Sc} {g : Addr} {gd : FuncData} {ps : List Str} {f : Fn} (st : Stab X S Φ) (G : L2H.FnH X.prog X.w X.K X.mg X.base CX0 k g gd ps (spF (gx X) S' np n f)) (hot : L2H.HotC X) (hr : L2H.RoomH k X.A) (hm : X.mg x = some (.ref g)) (hk : PySem.W.keepIn X.K (.ref g) = true) (hb : Binds X.K gd ps [])
    (hl : (e :: es).length = np) (ha : SuA X S Φ (e :: es) mes) (hg : Gl X x := by rfl) (hdb : (x == ("__debug__" : Str)) = false := by decide) (he : starEach (e :: es) X.env = (false, eval e X.env) :: starEach es X.env := by rfl) (hpl : (backTo pos (starEach es X.env)).any (·.1) = false := by rfl)
    (hla : ∀ {ρ ρ' : Rho} {ds : List D}, mes ρ = .ok ds ρ' → ds.length = (e :: es).length) : SuV X S Φ (.Call (.Name x p) (e :: es) [] pos) (shM (callF f mes)) := by
  refine ⟨fun {ρ d ρ'} hm' {F σ Hs H} rl ph {Q} q => ?_⟩
  unfold shM at hm'
  obtain ⟨d0, ρ0, hm', e0⟩ := Res.bind_ok hm'
  cases e0
  obtain ⟨ds, ρ1, e1, e2⟩ := Res.bind_ok hm'
  split at e2
  · rename_i d' fs hf
    cases e2
    refine ⟨_, L2H.pe_callH (E := fun _ => E0) G hr hot hg hm hk hb (fun σ pins H s e s' I c => c.elim) (paW (e :: es)) hdb he hpl, ha.run e1 rl ph fun vs Hs1 H1 n1 r1 => ?_⟩
    refine ⟨by rw [← r1.length, hla e1, hl], ds, d0, fs, Hs1, hf, rel_sh n1.rel.sub r1, fun v σ' Hs2 H2 ρ2 n2 rv _ => ?_⟩
    have g : Nxt (gx X) S F ρ' σ Hs1 H1 ρ' σ Hs2 H2 := by
      refine n1.rel.grow n2.same (fun b o h => n2.keep b o h (noOwn_sh r1)) n2.rel.sub fun b h => ?_
      rcases n2.grow b h with z | z | z
      · exact .inl z
      · exact absurd z (noOwn_sh r1)
      · exact .inr z
    obtain ⟨Hs3, n3, r3⟩ := (n1.trans g).share rv.1 fun o a ea => by
      have h0 := (rv.2 o a ea).1
      exact ⟨n1.unn h0, n1.rel.notOwn h0⟩
    exact q v Hs3 H2 n3 r3
  · cases e2
theorem su_ret (he : SuV X S Φ e me) : SuS X S Φ (.Return (some e) pos) (retM me) := by
  refine ⟨fun {ρ f ρ'} hm {F σ Hs H} rl ph {E} q => ?_⟩
  obtain ⟨d, ρ1, e1, e2⟩ := Res.bind_ok hm
  cases e2
  exact ⟨_, ps_ret (peW e), he.run e1 rl ph fun v Hs' H' n r => q v σ Hs' H' n ⟨.of r, fun o => by rw [r.owned] at o; cases o⟩⟩
theorem su_set (j : Nat) (hN : X.N.Nodup) (he : SuV X S Φ e me) (hio : j ∉ S.io := by first | decide | exact of_decide_eq_true rfl) (hfx : j ∉ S.fx := by first | decide | exact of_decide_eq_true rfl) (hi : X.N[j]? = some x := by rfl) (hx : Loc X.env.scope x := by first | exact Or.inl rfl | exact Or.inr rfl)
    (hs : swapsWith e (some (.Name x px)) pos.line X.env = pure false := by rfl) (hf : X.fn x = true ∨ X.env.scope.names.lookup x = some .local := by first | exact .inl rfl | exact .inr rfl) : SuS X S Φ (.Assign [.Name x px] e pos) (setM j me) := by
  refine ⟨fun {ρ f ρ'} hm {F σ Hs H} rl ph {E} q => ?_⟩
  obtain ⟨d, ρ1, e1, e2⟩ := Res.bind_ok hm
  cases e2
  exact ⟨_, ps_set hN hi hx (peW e) hs hf, he.run e1 rl ph fun v Hs' H' n r => q _ Hs' H' (n.assign rl hio hfx (.of r) fun o => by rw [r.owned] at o; cases o)⟩
end

/-! ### e.f, isinstance(e, C) -/
/-- the field of an exception -/
def fldD : D → Option D
  | .tup [.str _, v] => some v
  | _ => none
def fldM (x : D) : EM := fun ρ => pureO (fldD x) ρ
/-- the classes whose fields may be read -/
def Fields (cm : CM) (K : PySem.W.Frag) (f : Str) : Prop := ∀ n C g, cm n = some (C, some g) → g = f ∧ XfC K C ∧ PySem.W.findIn K (.ref C) f = some none
/-- what isinstance asks of the classes: D the class that is named, ns those that are of it -/
def IsAsk (cm : CM) (K : PySem.W.Frag) (c : Addr) (ns : List Str) : Prop := ∀ n C f, cm n = some (C, f) → ExcC K C ∧ PySem.W.kitOne K (.ref C) (.ref c) = some (ns.contains n)
section
variable {X : Cx} {S : Sc} {a : Addr} {oe : Obj} {cls : Value} {d : Option Addr} {pn : List (Addr × Obj)} {cm : CM} {i : Nat} {xd : D} {pos p p2 : Pos} {n cn : Str} {f : Str}
theorem stab_phi {X : Cx} {S : Sc} : Stab X S (Phi cm i a xd cls d) := fun ph rl n => ph.next rl n
theorem su_fld (hz : L2N.Zn cls d oe) (hf : ∃ vs, oe.data = .fields vs) (hF : Fields cm X.K f) (hN : X.N[i]? = some n := by rfl) (hv : Vis X.env.scope n := by first | exact Or.inl rfl | exact Or.inr (Or.inl rfl) | exact Or.inr (Or.inr rfl))
    (hd : (n == ("__debug__" : Str)) = false := by decide) (hcd : (n == ("__classdict__" : Str)) = false := by decide) (hb : attributeBase (.Name n p) f X.env (eval (.Name n p) X.env) = eval (.Name n p) X.env := by rfl) :
    SuV (X.suite a ((a, oe) :: pn)) S (Phi cm i a xd cls d) (.Attribute (.Name n p) f pos) (fldM xd) := by
  refine ⟨fun {ρ d' ρ'} hm {F σ Hs H} rl ph {Q} q => ?_⟩
  obtain ⟨e1, rfl⟩ := pureO_ok hm
  obtain ⟨hs, hx⟩ := ph
  unfold fldD at e1
  split at e1
  · cases e1
    rename_i m
    obtain ⟨C, g, dd, h1, rfl, h3, h4, h5⟩ := hx
    obtain ⟨rfl, hC, hno⟩ := hF _ _ _ h1
    have hpe : PE (X.suite a ((a, oe) :: pn)) (.Name n p) (tVar i) := pe_var hN hv hd hcd
    refine ⟨_, pe_xf (C := C) (cls := .ref C) hC hno hz.zc hf hpe hb, _, hs, rfl, rfl, dd, _, flV d', h3, h4, by simp [List.lookup], ?_⟩
    refine q _ Hs H (.refl rl) ?_
    cases d' with
    | non => rfl
    | bl b => rfl
    | int b => rfl
    | str b => rfl
    | tup _ => cases h5
    | lst _ _ => cases h5
    | dct _ _ _ => cases h5
    | scr _ => cases h5
  · cases e1
theorem inst_at {X : Cx} {pins : List (Addr × Obj)} {σ : L2.St} {H : Hp} {s : Shared} {C : Addr} (hz : L2N.Zn (.ref C) d oe) (hf : ∃ vs, oe.data = .fields vs) (I : Inv (X.suite a ((a, oe) :: pn)) pins σ H s) (hd : d = none ∨ ∃ dd fs, d = some dd ∧ H dd = some (.xd fs)) : ∃ od, PySem.W.InstAt s.heap a oe C od := by
  obtain ⟨ha, _⟩ := I.pin (a, oe) (List.mem_append_left _ List.mem_cons_self)
  obtain ⟨vs, hdt⟩ := hf
  have hno : PySem.W.notCls oe = true := by unfold PySem.W.notCls; rw [hdt] <;> rfl
  rcases hd with rfl | ⟨dd, fs, rfl, hh⟩
  · exact ⟨none, ha, hz.1, hno, by rw [hz.2.1]; trivial⟩
  · obtain ⟨mA, hns, hr⟩ := I.hok dd _ hh
    obtain ⟨o, ho, _⟩ := lookIn_ns hns
    exact ⟨some o, ha, hz.1, hno, by rw [hz.2.1]; exact ho⟩
theorem su_isE {c : Addr} {ns : List Str} (hz : L2N.Zn cls d oe) (hf : ∃ vs, oe.data = .fields vs) (hA : IsAsk cm X.K c ns) (hmI : X.mg "isinstance" = none) (hmc : X.mg cn = some (.ref c)) (hgI : Gl X "isinstance" := by rfl) (hgc : Gl X cn := by rfl) (hN : X.N[i]? = some n := by rfl) (hv : Vis X.env.scope n := by first | exact Or.inl rfl | exact Or.inr (Or.inl rfl) | exact Or.inr (Or.inr rfl))
    (hd : (n == ("__debug__" : Str)) = false := by decide) (hcd : (n == ("__classdict__" : Str)) = false := by decide) (hdc : (cn == ("__debug__" : Str)) = false := by decide)
    (h1 : starEach [.Name n p, .Name cn p2] X.env = (false, eval (.Name n p) X.env) :: starEach [.Name cn p2] X.env := by rfl) (h2 : starEach [.Name cn p2] X.env = (false, eval (.Name cn p2) X.env) :: starEach [] X.env := by rfl) (hpl : (backTo pos (starEach [.Name cn p2] X.env)).any (·.1) = false := by rfl) {pI : Pos} :
    SuV (X.suite a ((a, oe) :: pn)) S (Phi cm i a xd cls d) (.Call (.Name "isinstance" pI) [.Name n p, .Name cn p2] [] pos) (constM (.bl (isOf ns xd))) := by
  refine ⟨fun {ρ d' ρ'} hm {F σ Hs H} rl ph {Q} q => ?_⟩
  cases hm
  obtain ⟨hs, hx⟩ := ph
  have key : ∃ C, cls = .ref C ∧ ExcC X.K C ∧ PySem.W.kitOne X.K (.ref C) (.ref c) = some (isOf ns xd) ∧ (d = none ∨ ∃ dd fs, d = some dd ∧ H dd = some (.xd fs)) := by
    unfold ExcRep at hx
    split at hx
    · obtain ⟨C, g1, rfl, g3⟩ := hx
      obtain ⟨k1, k2⟩ := hA _ _ _ g1
      exact ⟨C, rfl, k1, k2, .inl g3⟩
    · obtain ⟨C, g, dd, g1, rfl, g3, g4, _⟩ := hx
      obtain ⟨k1, k2⟩ := hA _ _ _ g1
      exact ⟨C, rfl, k1, k2, .inr ⟨dd, _, g3, g4⟩⟩
    · exact hx.elim
  obtain ⟨C, rfl, hC, hk, hdd⟩ := key
  have hpe : PE (X.suite a ((a, oe) :: pn)) (.Name n p) (tVar i) := pe_var hN hv hd hcd
  have hpc : PE (X.suite a ((a, oe) :: pn)) (.Name cn p2) (tC (.ref c)) := pe_glob hgc hmc rfl hdc
  have hcall : CallR (X.suite a ((a, oe) :: pn)) (.builtin "isinstance") (fun xs H' Q => xs = [.ref a, .ref c] ∧ H' = H ∧ Q (.bl (isOf ns xd)) H') := by
    intro pins s σ' H' xs us Q' I r h
    obtain ⟨rfl, rfl, q'⟩ := h
    cases r with
    | cons rx rr =>
      cases rr with
      | cons rt rr =>
        cases rr
        cases rx
        cases rt
        obtain ⟨od, J⟩ := inst_at (C := C) hz hf I hdd
        have hcl : (PySem.W.clsIn X.K C).isSome = true := by
          obtain ⟨cd, hc, _⟩ := PySem.W.any_some hC.hd
          rw [hc]; rfl
        exact PySem.W.kia_one (PySem.W.kitx_exc hcl hC.hg hC.hk hC.hs hC.ha hC.hn hC.ht hC.hm) I.kIn J hk (fun z => nomatch z) fun tk => ⟨.bl _, _, I.kept (t' := tk) fun _ _ z => z, rfl, q'⟩
  refine ⟨_, pe_callB hcall hgI hmI (by decide +kernel) (pa_cons hpe (pa_cons hpc pa_nil h2) h1) (by decide) (by decide) h1 hpl, ?_⟩
  exact ⟨_, hs, rfl, rfl, q _ Hs H (.refl rl) rfl⟩
end

/-! ### try: body, except C as e: suite -/
/-- behind the suite e is gone -/
def behind (i : Nat) (r : Res Flow) : Res Flow := match r with
  | .ok (.exc _) _ => .fail
  | .ok f ρ => .ok f (ρ.set i none)
  | .fail => .fail
  | .ex _ _ => .fail
/-- the suite is told of the exception -/
def tryAM (ns : List Str) (i : Nat) (b : SM) (s : D → SM) : SM := fun ρ => match b ρ with
  | .ok (.exc x) ρ1 => if isOf ns x = true then (if i < ρ1.length then behind i (s x (ρ1.set i none)) else .fail) else .ok (.exc x) ρ1
  | r => r
section
variable {G : Gx} {S : Sc} {F : Fm} {Hs H : Hp} {ρ : Rho} {σ : L2.St} {i : Nat}
/-- a slot that is not told of may hold anything -/
theorem Rel.any (r : Rel G S F Hs H ρ σ) (hio : i ∉ S.io) (hfx : i ∉ S.fx) (v : Option V) : Nxt G S F ρ σ Hs H (ρ.set i none) (σ.set i v) Hs H := by
  have other : ∀ {j : Nat} {b : V}, j ≠ i → (σ.set i v)[j]? = some (some b) → σ[j]? = some (some b) := fun hj h => by
    rwa [List.getElem?_set_ne (Ne.symm hj)] at h
  refine ⟨⟨r.sub, by simpa using r.len, fun j e h => ?_, fun j k e f b hjk h1 h2 o1 o2 s1 s2 => ?_, fun j e b hj h o1 s1 => ?_, fun j e hj h => r.vals j e hj (set_none_some h).2, fun j hj => ?_, r.dom0⟩,
    .refl _, fun _ _ h _ => h, fun _ h => h, fun b ⟨j, e, h, o, s1⟩ => ?_, fun b h => .inl h, fun j hj => ?_, by rw [List.length_set]⟩
  · obtain ⟨hj, h⟩ := set_none_some h
    obtain ⟨w, ew, sw⟩ := r.slot j e h
    exact ⟨w, by rw [List.getElem?_set_ne (Ne.symm hj)]; exact ew, sw⟩
  · obtain ⟨hj, h1⟩ := set_none_some h1
    obtain ⟨hk, h2⟩ := set_none_some h2
    exact r.apart j k e f b hjk h1 h2 o1 o2 (other hj s1) (other hk s2)
  · obtain ⟨hi, h⟩ := set_none_some h
    exact r.fresh j e b hj h o1 (other hi s1)
  · rw [List.getElem?_set_ne (fun z => by subst z; exact hio hj)]
    exact r.par j hj
  · obtain ⟨hi, h⟩ := set_none_some h
    exact .inl ⟨j, e, h, o, other hi s1⟩
  · rw [List.getElem?_set_ne (fun z => by subst z; exact hfx hj)]
theorem own_any {b : Addr} {v : Option V} (h : Own (ρ.set i none) (σ.set i v) b) : Own ρ σ b := by
  obtain ⟨j, e, h, o, s1⟩ := h
  obtain ⟨hj, h⟩ := set_none_some h
  exact ⟨j, e, h, o, by rwa [List.getElem?_set_ne (Ne.symm hj)] at s1⟩
end
section
variable {X : Cx} {S : Sc} {pos : Pos}
theorem sim_tryA (i : Nat) {cm : CM} {c : Addr} {cn n : Str} {ns : List Str} {body : List Stmt} {b₀ : Stmt} {np pos' : Pos} {mb : SM} {ms : D → SM} (tk : L2N.Takes X (wOf cm S.xw)) (hs : X.stack = X.env :: X.outer) (hf : X.env.frame = some X.env.locals) (hN : X.N.Nodup) (hi : X.N[i]? = some n) (hln : X.env.kindOf n = some .local) (hn : Names X cn (.ref c)) (hc : Catches cm X.K c ns)
    (hb : ∀ (xw : XW) (pn : List (Addr × Obj)) (xe : Value → Shared → Prop), L2N.Takes (X.tr pn xe) (wOf cm xw) → PassesOwn (model X.prog X.w) X.A X.env xe → SimB (X.tr pn xe) (S.wx xw) body mb)
    (hsu : ∀ (a : Addr) (oe : Obj) (pn : List (Addr × Obj)) (cls : Value) (d : Option Addr) (x : D), L2N.Zn cls d oe → (∃ vs, oe.data = .fields vs) → L2H.HotC (X.suite a ((a, oe) :: pn)) → SuS (X.suite a ((a, oe) :: pn)) S (Phi cm i a x cls d) b₀ (ms x))
    (hio : i ∉ S.io := by first | decide | exact of_decide_eq_true rfl) (hfx : i ∉ S.fx := by first | decide | exact of_decide_eq_true rfl) :
    SimS X S (.Try body [.ExceptHandler (some (.Name cn np)) (some n) [b₀] pos'] [] [] pos) (tryAM ns i mb ms) := by
  refine ⟨fun {ρ f ρ'} hm {F σ Hs H} rl {E} q => ?_⟩
  refine ⟨_, L2N.ps_try_as (i := i) (tb := fun W => fun EE σ H => ∃ xw : XW, (∀ cls d σ' H', wOf cm xw cls d σ' H' → W cls d σ' H') ∧ ∃ (ρ : Rho) (f : Flow) (ρ' : Rho) (F : Fm) (Hs : Hp), mb ρ = .ok f ρ' ∧ Rel (gx X) S F Hs H ρ σ ∧ EndOk (gx X) (S.wx xw) F ρ σ Hs H f ρ' EE)
    (ts := fun a cls d => fun EE σ H => ∃ (x : D) (ρ : Rho) (f : Flow) (ρ' : Rho) (F : Fm) (Hs : Hp), ms x ρ = .ok f ρ' ∧ Phi cm i a x cls d σ H ∧ Rel (gx X) S F Hs H ρ σ ∧ EndOk (gx X) S F ρ σ Hs H f ρ' EE) (Wout := wOf cm S.xw) hs hf hN hi hln hn tk (fun W pn xe tkW hpo => ?_) (fun a oe cls d pn hz hf' => ?_), ?_⟩
  · refine ⟨fun pins s σ H D I ⟨xw, hW, ρ, f, ρ', F, Hs, e1, r1, q1⟩ => ?_⟩
    obtain ⟨t, ht, qt⟩ := (hb xw pn xe (tkW.imp hW) hpo).run e1 (r1.wx xw) q1
    exact ht.run pins s σ H D I qt
  · refine ⟨fun pins s σ H D I ⟨x, ρ, f, ρ', F, Hs, e1, p1, r1, q1⟩ => ?_⟩
    exact (pss_one (psW b₀)).run pins s σ H D I ((hsu a oe pn cls d x hz hf' (hot_suite hz hf')).run e1 r1 p1 q1)
  · unfold tryAM at hm
    split at hm
    · rename_i x ρb hb1
      have key : ∀ {cls : Value} {d : Option Addr} {σ' : L2.St} {H' : Hp}, wOf cm (fun y σ' H' => y = x ∧ ∃ Hs', Nxt (gx X) S F ρ σ Hs H ρb σ' Hs' H') cls d σ' H' → PySem.W.exmOne X.K cls (.ref c) = some (isOf ns x) ∧ ExcRep cm x cls d H' ∧ ∃ Hs', Nxt (gx X) S F ρ σ Hs H ρb σ' Hs' H' := fun ⟨y, er, e, Hs', n⟩ => by
        subst e
        exact ⟨er.cls hc, er, Hs', n⟩
      refine ⟨fun y σ' H' => y = x ∧ ∃ Hs', Nxt (gx X) S F ρ σ Hs H ρb σ' Hs' H', fun cls d σ' H' w => ?_, ρ, .exc x, ρb, F, Hs, hb1, rl, fun σ' Hs' H' n => ⟨rfl, Hs', n.unwx⟩⟩
      obtain ⟨k1, er, Hs', n⟩ := key w
      refine ⟨isOf ns x, k1, fun hy a _ => ?_, fun hy => ?_⟩
      · rw [if_pos hy] at hm
        have n2 := n.trans (n.rel.any hio hfx (some (.ref a)))
        split at hm
        · rename_i hil
          have hsl : (σ'.set i (some (V.ref a)))[i]? = some (some (V.ref a)) := by
            rw [List.getElem?_set_self]
            rw [← n.rel.len]; exact hil
          unfold behind at hm
          split at hm
          · cases hm
          · rename_i f2 ρ2 hne hms
            cases hm
            refine ⟨x, ρb.set i none, f, ρ2, F, Hs', hms, ⟨hsl, er⟩, n2.rel, ?_⟩
            have fin : ∀ {σ2 : L2.St} {Hs2 H2 : Hp}, Nxt (gx X) S F (ρb.set i none) (σ'.set i (some (V.ref a))) Hs' H' ρ2 σ2 Hs2 H2 → Nxt (gx X) S F ρ σ Hs H (ρ2.set i none) (σ2.set i none) Hs2 H2 := fun n3 => (n2.trans n3).trans (n3.rel.any hio hfx none)
            cases f with
            | nxt => exact fun σ2 Hs2 H2 n3 => q _ Hs2 H2 (fin n3)
            | brk => exact fun σ2 Hs2 H2 n3 => q _ Hs2 H2 (fin n3)
            | cnt => exact fun σ2 Hs2 H2 n3 => q _ Hs2 H2 (fin n3)
            | ret d2 => exact fun v σ2 Hs2 H2 n3 rv => q v _ Hs2 H2 (fin n3) ⟨rv.1, fun o b eb => ⟨(rv.2 o b eb).1, fun z => (rv.2 o b eb).2 (own_any z)⟩⟩
            | exc y => exact absurd rfl (hne y)
          · cases hm
          · cases hm
        · cases hm
      · rw [if_neg (by rw [hy]; exact Bool.false_ne_true)] at hm
        cases hm
        exact ⟨x, er, q σ' Hs' H' n⟩
    · rename_i hne
      exact ⟨fun _ _ _ => False, fun cls d σ' H' ⟨_, _, z⟩ => z.elim, ρ, f, ρ', F, Hs, hm, rl, EndOk.wx (fun x e => hne x ρ' (by rw [hm, e])) _ q⟩
end
/-! ### reading rules -/
section
variable {ρ : Rho} {QS : Flow → Rho → Prop} {i : Nat}
def BehQ (i : Nat) (Q : Flow → Rho → Prop) : Flow → Rho → Prop := fun f ρ => match f with
  | .exc _ => False
  | f => Q f (ρ.set i none)
theorem BehQ_nxt : BehQ i QS .nxt ρ = QS .nxt (ρ.set i none) := propext Iff.rfl
theorem BehQ_ret {d : D} : BehQ i QS (.ret d) ρ = QS (.ret d) (ρ.set i none) := propext Iff.rfl
theorem T_behind {r : Res Flow} : T (behind i r) QS = T r (BehQ i QS) := by
  cases r with
  | fail => rfl
  | ex _ _ => rfl
  | ok f ρ => cases f <;> rfl
def TryAQ (ns : List Str) (i : Nat) (s : D → SM) (Q : Flow → Rho → Prop) : Flow → Rho → Prop := fun f ρ => match f with
  | .exc x => (isOf ns x = true → i < ρ.length ∧ T (s x (ρ.set i none)) (BehQ i Q)) ∧ (isOf ns x = false → Q (.exc x) ρ)
  | f => Q f ρ
theorem T_tryA {ns : List Str} {b : SM} {s : D → SM} : T (tryAM ns i b s ρ) QS = T (b ρ) (TryAQ ns i s QS) := by
  unfold tryAM
  cases hb : b ρ with
  | fail => rfl
  | ex _ _ => rfl
  | ok f ρ1 =>
    cases f with
    | exc x =>
      show T (if isOf ns x = true then (if i < ρ1.length then behind i (s x (ρ1.set i none)) else .fail) else .ok (.exc x) ρ1) QS = ((isOf ns x = true → i < ρ1.length ∧ T (s x (ρ1.set i none)) (BehQ i QS)) ∧ (isOf ns x = false → QS (.exc x) ρ1))
      cases h : isOf ns x with
      | true =>
        rw [if_pos rfl, T_if, T_behind]
        exact propext ⟨fun q => ⟨fun _ => q, fun z => (by cases z)⟩, fun q => q.1 rfl⟩
      | false => exact propext ⟨fun q => ⟨fun z => (by cases z), fun _ => q⟩, fun q => q.2 rfl⟩
    | nxt => rfl
    | ret d => rfl
    | brk => rfl
    | cnt => rfl
theorem TryAQ_nxt {ns : List Str} {s : D → SM} : TryAQ ns i s QS .nxt ρ = QS .nxt ρ := propext Iff.rfl
theorem TryAQ_ret {ns : List Str} {s : D → SM} {d : D} : TryAQ ns i s QS (.ret d) ρ = QS (.ret d) ρ := propext Iff.rfl
theorem TryAQ_exc {ns : List Str} {s : D → SM} {x : D} : TryAQ ns i s QS (.exc x) ρ = ((isOf ns x = true → i < ρ.length ∧ T (s x (ρ.set i none)) (BehQ i QS)) ∧ (isOf ns x = false → QS (.exc x) ρ)) := propext Iff.rfl
theorem T_fld {x : D} {Q : D → Rho → Prop} : T (fldM x ρ) Q = ∃ d, fldD x = some d ∧ Q d ρ := by unfold fldM; rw [T_pureO]
theorem T_failS : T (failS ρ) QS = False := propext Iff.rfl
end
end Sim

/-! Sim, part 34: repr. A law that asks for repr is followed where nothing else is being shown: its promise has the guards of its caller. -/
namespace Sim
open PySem PySem.Spec PyProof.Rows L2
/-- a promise where nothing is being shown -/
structure FnG (P : Program) (w : World) (K : PySem.W.Frag) (mg : Str → Option Value) (base : Heap) (k : Nat) (f : Addr) (fd : FuncData) (ps : List Str) (sp : Sp) : Prop where
  go : ∀ {A : Around} {outer : List Env} {s : Shared} {H : Hp} {args : Args} {us : List Value} {vs : List V} {Q : VK} {E : XK}, A.guards = some [] → Room k A → Env0 P w K mg base A outer s H → BindsTo s fd args (ps.zip us) → Vals vs us → sp vs H Q E →
    codeAny (model P w) A (.call (.ref f) args) (CR CX0 outer P w H s Q E) s
theorem none_okG {P : Program} {w : World} {K : PySem.W.Frag} {mg : Str → Option Value} {base : Heap} {k np n : Nat} {f : Addr} {fd : FuncData} {ps : List Str} {S : Sc} : FnG P w K mg base k f fd ps (spF ⟨P, w, K⟩ S np n fun _ => none) :=
  ⟨fun _ _ _ _ _ h => by
    obtain ⟨_, ds, d, fs, Hs, e, _⟩ := h
    cases e⟩
section
variable {P : Program} {w : World} {K : PySem.W.Frag} {mg : Str → Option Value} {base : Heap} {x qual : Str} {st : Stmt} {f : Addr} {fd : FuncData} {N ps : List Str} {k np n : Nat} {S : Sc} {body : SM}
theorem def_okG (F : Fun K x qual st f fd) (SC : FnScope N ps (defScope st)) (hp : ps.length = np) (hn : N.length = np + n)
    (hbody : ∀ (cdv : Value) (A : Around) (outer : List Env) (s : Shared) (H : Hp) (E : XK), Room k (A.deeper (envOfC qual (defScope st) s.heap.objs.size f cdv)) → PassesOwn (model P w) (A.deeper (envOfC qual (defScope st) s.heap.objs.size f cdv)) (envOfC qual (defScope st) s.heap.objs.size f cdv) (fun _ _ => False) →
      (A.deeper (envOfC qual (defScope st) s.heap.objs.size f cdv)).guards = some [] → SimB (cxOf CX0 P w K mg base N qual (defScope st) f cdv A outer s H E).nox S (defBody st) body) :
    FnG P w K mg base (k + 1) f fd ps (spF ⟨P, w, K⟩ S np n (defF n S.io body)) := by
  constructor
  intro A outer s H args us vs Q E hgd hr e0 hb rv hsp
  obtain ⟨hvs, ds, d, fs, Hs, hf, rl, q⟩ := hsp
  obtain ⟨oc, od, kV, doc, pm, an, cdv, ct, osl, rfl, lk, hcd⟩ := F.ex
  have B := hbody cdv A outer s H E (hr.deeper _) PassesOwn.never hgd
  -- the body, followed
  have hrun : ∃ t : TS, PSs (cxOf CX0 P w K mg base N qual (defScope st) f cdv A outer s H E) (defBody st) t ∧ t { nx := fun _ H' => Q .non H', rt := Q } (L2.start N vs) H := by
    rw [start_pad (by rw [hn, hvs])]
    unfold defF at hf
    split at hf
    · rename_i ρ hb
      obtain ⟨fs', e1, e2⟩ := Option.map_eq_some_iff.mp hf
      cases e2
      exact ⟨_, (pbW _).nox, B.run hb rl fun σ' Hs' H' n => q _ _ _ _ _ n ⟨rfl, fun o => by cases o⟩ e1⟩
    · rename_i d' ρ hb
      obtain ⟨fs', e1, e2⟩ := Option.map_eq_some_iff.mp hf
      cases e2
      exact ⟨_, (pbW _).nox, B.run hb rl fun v σ' Hs' H' n rv => q _ _ _ _ _ n rv e1⟩
    · cases hf
  obtain ⟨t, ht, hq⟩ := hrun
  have low : ∀ b o, base.get? b = some o → s.heap.get? b = some o := fun b o e => (e0.bs b o e).1
  have par : ∀ y ∈ ps.zip us, (defScope st).names.lookup y.1 = some .local ∨ (defScope st).names.lookup y.1 = some .cell ∧ ((cellsFrom (s.heap.objs.size + 1) (defScope st).names []).lookup y.1).isSome = true := by
    rintro ⟨y, v⟩ hy
    exact (SC.par y (List.of_mem_zip hy).1).imp id fun z => ⟨z, PySem.W.cellsFrom_some _ _ _ (.inl z)⟩
  have kin := e0.mod.kin.keeps low
  apply codeAny_call_function hr.depth (kin _ _ lk) rfl SC.co SC.gen rfl (PySem.W.codeRec_of kin hcd)
  apply hb
  apply wpAny_newFunctionEnv_cells SC.kind par
  rintro env rfl s1 z
  refine ⟨(e0.mod.nolimit.keeps low).keeps z.toInCall.keep, codeAny_func (wpAny_mono (ht.run [] s1 (L2.start N vs) H _ (inv_start SC hr.hd e0 (by rw [hvs, hp]) rv z) hq) ?_ fun _ _ y => y)⟩
  intro fl s' hs
  match fl, hs with
  | .ret u, ⟨v, σ', H', J, r1, q1⟩ => exact ⟨v, H', J.os, J.bare, J.base, J.hok, r1, q1⟩
  | .next, ⟨σ', H', J, q1⟩ => exact ⟨.non, H', J.os, J.bare, J.base, J.hok, rfl, q1⟩
  | .brk, ⟨_, _, _, y⟩ => exact False.elim y
  | .cont, ⟨_, _, _, y⟩ => exact False.elim y
end
/-- the one call of a law -/
theorem once {P : Program} {w : World} {K : PySem.W.Frag} {mg mb : Str → Option Value} {k : Nat} {fa a : Addr} {fd : FuncData} {x : Str} {sp : Sp} {s : Shared} {vs : List Value} {ns : List Int}
    (kin : K.In s.heap) (gm : s.heap.Ns mainGlobals mg) (gb : s.heap.Ns builtinsNs mb) (hmb : ∀ y : Str, y ≠ "__name__" → mb y = bootBuiltins y) (nl : s.heap.NoLimit) (ng : s.gens = #[])
    (ho : s.heap.get? a = some { cls := .type "list", data := .seq vs.toArray }) (hi : IntsAre vs ns) (hl : ns.length ≤ sizeLine) (hr : Room k callerA)
    (F : ∀ base : Heap, K.In base → base.Ns mainGlobals mg → FnG P w K mg base k fa fd [x] sp) (hbind : ∀ (s : Shared) (u : Value), BindsTo s fd ⟨[u], []⟩ [(x, u)])
    (hsp : ∀ H : Hp, SqL K H a (ns.map V.int) → sp [.ref a] H (fun v _ => v = .bl true) fun _ _ _ => False) :
    codeAny (model P w) callerA (.call (.ref fa) ⟨[.ref a], []⟩) (fun r s' => r = .ok (.ret (.bool true)) ∧ OldK s.heap s'.heap ∧ s'.os = s.os ∧ AllBare s'.gens) s := by
  have rv := vals_ints hi
  -- H holds the script, or nothing
  have go : ∀ H : Hp, (∀ b, H b ≠ none → b = a ∧ K.lookup a = none ∧ ∃ o xs, H a = some (.frz o (.lst xs))) → SqL K H a (ns.map V.int) → HOk P w H s.heap →
      codeAny (model P w) callerA (.call (.ref fa) ⟨[.ref a], []⟩) (fun r s' => r = .ok (.ret (.bool true)) ∧ OldK s.heap s'.heap ∧ s'.os = s.os ∧ AllBare s'.gens) s := by
    intro H hA hS hok
    have stays : ∀ {b : Addr} {o : Obj}, s.heap.get? b = some o → (b = a → K.lookup a = none → False) → (hidT s.heap H).get? b = some o := fun {b o} e z => hidT_get e (Classical.byContradiction fun y => z (hA b y).1 (hA b y).2.1)
    have nsT : ∀ {b : Addr} {m : Str → Option Value}, s.heap.Ns b m → (hidT s.heap H).Ns b m := by
      rintro b m ⟨o, es, ep, e, d, r⟩
      refine ⟨o, es, ep, stays e ?_, d, r⟩
      rintro rfl _
      rw [ho] at e
      cases e
      have d' : Data.seq vs.toArray _ = Data.dict es ep := d
      cases d'
    have kinT : K.In (hidT s.heap H) := fun b o e => stays (kin b o e) (by
      rintro rfl z
      rw [z] at e
      cases e)
    have e0 : Env0 P w K mg (hidT s.heap H) callerA [] s H :=
      ⟨rfl, ⟨kinT, nsT gm, ⟨mb, nsT gb, hmb⟩, nl.elim fun mc z => ⟨mc, nsT z.1, z.2⟩⟩, fun b o => of_hidT, Nat.le_of_eq (hidT_size _ _), trivial, fun b z => absurd z List.not_mem_nil, hok, .of_eq ng⟩
    refine codeAny_mono ((F _ kinT (nsT gm)).go (us := [.ref a]) (vs := [.ref a]) rfl hr e0 (hbind s (.ref a)) (.cons rfl .nil) (hsp H hS)) fun r s' q => ?_
    match r, q with
    | .error _, y => exact False.elim y
    | .ok .next, y => exact False.elim y
    | .ok .brk, y => exact False.elim y
    | .ok .cont, y => exact False.elim y
    | .ok (.ret u), ⟨v, H', os, bare, un, hok', rvu, hv⟩ =>
      have hv : v = .bl true := hv
      subst hv
      have hu : u = Value.bool true := rvu
      subst hu
      refine ⟨rfl, OldK.of_keep fun b o e => ?_, os, bare⟩
      by_cases hb : H b = none
      · exact un.keep b o e hb List.not_mem_nil List.not_mem_nil
      · obtain ⟨rfl, _, ob, xs, z⟩ := hA b hb
        have z1 := (hok b _ z).1
        have z2 := (hok' b _ (un.frzs b ob _ z)).1
        rw [e] at z1
        cases z1
        exact z2
  by_cases hk : K.lookup a = none
  · have up : ∀ b u, (if b = a then some (HO.frz { cls := .type "list", data := .seq vs.toArray } (.lst (ns.map V.int))) else none) = some u → b = a ∧ u = HO.frz { cls := .type "list", data := .seq vs.toArray } (.lst (ns.map V.int)) := fun b u z => by
      split at z
      · rename_i hb
        cases z
        exact ⟨hb, rfl⟩
      · cases z
    refine go (fun b => if b = a then some (HO.frz { cls := .type "list", data := .seq vs.toArray } (.lst (ns.map V.int))) else none) (fun b z => ?_) (.inl (.inr ⟨_, if_pos rfl⟩)) fun b u z => ?_
    · obtain ⟨u, hu⟩ := Option.ne_none_iff_exists'.mp z
      exact ⟨(up b u hu).1, hk, _, _, if_pos rfl⟩
    · obtain ⟨rfl, rfl⟩ := up b u z
      exact ⟨ho, by rw [List.length_map]; exact hl, vs, _, rv, ho⟩
  · obtain ⟨o, e⟩ := Option.ne_none_iff_exists'.mp hk
    have e1 := kin a o e
    rw [ho] at e1
    cases e1
    exact go (fun _ => none) (fun b z => absurd rfl z) (.inr ⟨_, vs.toArray, _, e, rfl, rfl, rfl, by rw [List.size_toArray, hi.length]; exact hl, by simpa using rv⟩) fun b u z => by cases z
theorem walk_ofG {l : PySem.W.OpenLaw} {n k : Nat} {q : Program} {loose : List Str} {XP : (Str → Option Value) → Heap → Prop} {YP : World → Heap → Prop} {d : DefRec} {K : Params → PySem.W.Frag} {sp : World → Sp} {x : Str}
    (hn : l.most = some n) (hn2 : n ≤ sizeLine) (hdf : d.params.defaults = []) (hr : Room k callerA) (hY : ∀ (w : World) (h : Heap), YP w h → (K w.params).In h)
    (F : ∀ (w : World) (mg : Str → Option Value) (fa : Addr) (h : Heap), (K w.params).In h → h.Ns mainGlobals mg → mg d.name = some (.ref fa) → ∃ fd : FuncData, (∀ (s : Shared) (u : Value), BindsTo s fd ⟨[u], []⟩ [(x, u)]) ∧
      ∀ base : Heap, (K w.params).In base → base.Ns mainGlobals mg → FnG l.prog w (K w.params) mg base k fa fd [x] (sp w))
    (hsp : ∀ (w : World) (H : Hp) (a : Addr) (ns : List Int), ns.length ≤ n → SqL (K w.params) H a (ns.map V.int) → sp w [.ref a] H (fun v _ => v = .bl true) fun _ _ _ => False) :
    PySem.W.WalkO q loose XP YP l.row.toRowW d [] (fun f vs => PySem.call f vs) :=
  Att.attach_call hn hdf fun w s₀ s₁ mg mb fa o pm cd doc a vs ns G Y _ _ _ hmg hobj hints hlen hg => by
    obtain ⟨fd, hb, hF⟩ := F w mg fa _ (hY w _ Y) G.T.g hmg
    exact once (hY w _ Y) G.T.g G.T.b G.T.builtins G.T.nolimit hg hobj hints (Nat.le_trans hlen hn2) hr hF hb fun H hS => hsp w H a ns hlen hS
/-! ### repr -/
def refD : D → Bool
  | .tup _ => true
  | .lst _ _ => true
  | _ => false
def reprD : List D → Option D
  | [d] => match toPy d with
    | some p => if (refD d && p.showable && !p.hasDict && decide (p.depth ≤ 20) && decide (p.shown.length ≤ sizeLine)) = true then some (.str p.shown) else none
    | none => none
  | _ => none
theorem cv_repr {X : Cx} (hg : X.A.guards = some []) (hu : X.A.units + 65 < cLine) : CallV X (.builtin "repr") reprD := by
  intro ds d e Hs H vs Q s r q
  unfold reprD at e
  split at e
  · rename_i d0
    split at e
    · rename_i p hp
      split at e
      · rename_i hc
        cases e
        simp only [Bool.and_eq_true, Bool.not_eq_true', decide_eq_true_eq] at hc
        obtain ⟨⟨⟨⟨h1, h2⟩, h3⟩, h4⟩, h5⟩ := hc
        cases r with
        | cons r1 rs =>
          cases rs
          rename_i v
          have dp := slot_dp s r1 hp
          have hv : ∃ a, v = V.ref a := by
            cases d0 with
            | tup _ => obtain ⟨a, ws, rfl, _⟩ := r1.tup; exact ⟨a, rfl⟩
            | lst _ _ => obtain ⟨a, ws, rfl, _⟩ := r1.lst s; exact ⟨a, rfl⟩
            | _ => cases h1
          obtain ⟨a, rfl⟩ := hv
          refine ⟨fun xs H Q => xs = [V.ref a] ∧ Dp X.K H (.ref a) p ∧ Q (.str p.shown) H, ?_, rfl, dp, q _ Hs H (.refl s) rfl⟩
          rintro pins s1 σ H1 xs us Q1 I rr ⟨rfl, dp1, q1⟩
          obtain ⟨u, rfl, t⟩ := vals1 rr
          obtain ⟨as, rd⟩ := Dp.reads I p _ _ dp1 t
          have t' : u = .ref a := t
          subst t'
          exact repr_of_reads' rd h2 (fun z => by rw [h3] at z; cases z) hg (by omega) (fun _ _ z => z) (fun h' u tk hk => ⟨.str _, H1, I.kept hk, ⟨_, rfl⟩, q1⟩) h5
      · cases e
    · cases e
  · cases e
end Sim

/-! Sim, part 35: own classes called without arguments; the least of a list. -/
namespace Sim
open PySem PySem.Spec PyProof.Rows L2
theorem mk_own0 {X : Cx} {C : Addr} {bmB : List Value} {B newId initId : String} {x : Str} {p pos : Pos} (F : ExcBaseFacts B newId initId bmB) (q : PySem.W.excIn X.K C bmB newId = true) (gC : X.mg x = some (.ref C)) (kC : PySem.W.keepIn X.K (.ref C) = true) (r : L2.Raises X (.ref C)) (hg : Gl X x)
    (hdb : (x == ("__debug__" : Str)) = false := by decide) : L2N.PMk X (.Call (.Name x p) [] [] pos) (fun _ H Q => Q (.ref C) none H) := by
  intro pins s σ H Q I h
  obtain ⟨_, _, _, _, _, _, _, _, _, _, _, _, _, _, _, _, _, hC, hN, hni, tail⟩ := exc_obj I.kIn q
  exact wpAny_Call_Name_kw (ld_glob I hg gC (PySem.W.callWith_K0 I.kIn kC
    (wpAny_call_exc_subT F tail hC hN hni (fun h' e hm => L2N.mk_of I hm r h (I.hok.gone hm.new)) (Nat.zero_le _))) hdb)
def leastI (i : Int) (is : List Int) : Int := is.foldl (fun a b => if b < a then b else a) i
theorem leastI_ok : ∀ (is : List Int) (i : Int), (leastI i is = i ∨ leastI i is ∈ is) ∧ leastI i is ≤ i ∧ ∀ y ∈ is, leastI i is ≤ y
  | [], i => ⟨.inl rfl, Int.le_refl _, by simp⟩
  | b :: is, i => by
    obtain ⟨h1, h2, h3⟩ := leastI_ok is (if b < i then b else i)
    have e : leastI i (b :: is) = leastI (if b < i then b else i) is := rfl
    rw [e]
    refine ⟨?_, ?_, fun y hy => ?_⟩
    · rcases h1 with h1 | h1
      · rw [h1]
        split
        · exact .inr (.head _)
        · exact .inl rfl
      · exact .inr (.tail _ h1)
    · split at h2 <;> rename_i c <;> simp only [c, if_true, if_false] <;> omega
    · rcases List.mem_cons.mp hy with rfl | hy
      · split at h2 <;> rename_i c <;> simp only [c, if_true, if_false] <;> omega
      · exact h3 y hy
theorem leastI_eq {i m : Int} {is : List Int} (h1 : m ∈ i :: is) (h2 : ∀ y ∈ i :: is, m ≤ y) : m = leastI i is := by
  obtain ⟨g1, g2, g3⟩ := leastI_ok is i
  have h3 : leastI i is ∈ i :: is := g1.elim (fun e => by rw [e]; exact .head _) (.tail _)
  have h4 := h2 _ h3
  rcases List.mem_cons.mp h1 with rfl | h1
  · omega
  · have := g3 m h1
    omega
def min1D : List D → Option D
  | [.lst _ es] => match intsOf es with
    | some (i :: is) => some (.int (leastI i is))
    | _ => none
  | _ => none
theorem cv_min1 {X : Cx} (hc : X.calm = true) : CallV X (.builtin "min") min1D := by
  intro ds d e Hs H vs Q s r q
  unfold min1D at e
  split at e
  · rename_i m es
    split at e
    · rename_i i is hi
      cases e
      cases r with
      | cons r1 rs =>
        cases rs
        obtain ⟨a, ws, rfl, t, rw'⟩ := r1.lst s
        rw [intsOf_eq hi] at rw'
        have := reps_ints rw'
        subst this
        exact ⟨_, cr_min hc, a, i :: is, rfl, .of t, Nat.succ_pos _, fun m h1 h2 => by rw [leastI_eq h1 h2]; exact q _ Hs H (.refl s) rfl⟩
    · cases e
  · cases e
end Sim

/-! Sim, part 36: max of one list, with default= too; sorted of whole numbers. -/
namespace Sim
open PySem PySem.Spec PyProof.Rows L2
def mostI (i : Int) (is : List Int) : Int := is.foldl (fun a b => if a < b then b else a) i
theorem mostI_ok : ∀ (is : List Int) (i : Int), (mostI i is = i ∨ mostI i is ∈ is) ∧ i ≤ mostI i is ∧ ∀ y ∈ is, y ≤ mostI i is
  | [], i => ⟨.inl rfl, Int.le_refl _, by simp⟩
  | b :: is, i => by
    obtain ⟨h1, h2, h3⟩ := mostI_ok is (if i < b then b else i)
    have e : mostI i (b :: is) = mostI (if i < b then b else i) is := rfl
    rw [e]
    refine ⟨?_, ?_, fun y hy => ?_⟩
    · rcases h1 with h1 | h1
      · rw [h1]
        split
        · exact .inr (.head _)
        · exact .inl rfl
      · exact .inr (.tail _ h1)
    · split at h2 <;> rename_i c <;> simp only [c, if_true, if_false] <;> omega
    · rcases List.mem_cons.mp hy with rfl | hy
      · split at h2 <;> rename_i c <;> simp only [c, if_true, if_false] <;> omega
      · exact h3 y hy
theorem mostI_eq {i m : Int} {is : List Int} (h1 : m ∈ i :: is) (h2 : ∀ y ∈ i :: is, y ≤ m) : m = mostI i is := by
  obtain ⟨g1, g2, g3⟩ := mostI_ok is i
  have h3 : mostI i is ∈ i :: is := g1.elim (fun e => by rw [e]; exact .head _) (.tail _)
  have h4 := h2 _ h3
  rcases List.mem_cons.mp h1 with rfl | h1
  · omega
  · have := g3 m h1
    omega
def max1D : List D → Option D
  | [.lst _ es] => match intsOf es with
    | some (i :: is) => some (.int (mostI i is))
    | _ => none
  | _ => none
theorem cv_max1 {X : Cx} (hc : X.calm = true) : CallV X (.builtin "max") max1D := by
  intro ds d e Hs H vs Q s r q
  unfold max1D at e
  split at e
  · rename_i m es
    split at e
    · rename_i i is hi
      cases e
      cases r with
      | cons r1 rs =>
        cases rs
        obtain ⟨a, ws, rfl, t, rw'⟩ := r1.lst s
        rw [intsOf_eq hi] at rw'
        have := reps_ints rw'
        subst this
        exact ⟨_, cr_max hc, a, i :: is, rfl, .of t, Nat.succ_pos _, fun m h1 h2 => by rw [mostI_eq h1 h2]; exact q _ Hs H (.refl s) rfl⟩
    · cases e
  · cases e
/-- max(xs, default=k) -/
def maxDef (k : Int) : List D → Option D
  | [.lst _ es] => match intsOf es with
    | some [] => some (.int k)
    | some (i :: is) => some (.int (mostI i is))
    | _ => none
  | _ => none
def rMaxDef (K : PySem.W.Frag) (k : Int) : List V → List V → Hp → VK → Prop := fun vs zs H Q => ∃ (a : Addr) (ns : List Int), vs = [V.ref a] ∧ zs = [V.int k] ∧ SqL K H a (ns.map V.int) ∧ (ns = [] → Q (.int k) H) ∧ ∀ m, m ∈ ns → (∀ y, y ∈ ns → y ≤ m) → Q (.int m) H
theorem ints_read {h : Heap} : ∀ {ns : List Int} {vs : List Value}, Vals (ns.map V.int) vs → ∃ as, PySem.ReadsAll h vs (ns.map PyData.int) as
  | [], _, r => by cases r; exact ⟨_, .nil⟩
  | i :: ns, _, r => by
    cases r with
    | cons r1 rr =>
      obtain ⟨t, rfl⟩ := r1
      obtain ⟨as, q⟩ := ints_read rr
      exact ⟨_, .cons (.int i t) q⟩
theorem ints_flat : ∀ ns : List Int, PyData.depthAll (ns.map PyData.int) = 0
  | [] => rfl
  | i :: ns => by
    rw [List.map_cons, PyData.depthAll, ints_flat ns]
    rfl
theorem ints_alike (ns : List Int) : PySem.W.AlikeAll (ns.map PyData.int) := by
  refine ⟨fun x hx y hy => ?_, fun x hx => ?_⟩
  · obtain ⟨i, _, rfl⟩ := List.mem_map.mp hx
    obtain ⟨j, _, rfl⟩ := List.mem_map.mp hy
    rfl
  · obtain ⟨i, _, rfl⟩ := List.mem_map.mp hx
    intro e; cases e
theorem fold_max : ∀ (is : List Int) (i : Int), is.foldl max i ∈ i :: is ∧ ∀ y ∈ i :: is, y ≤ is.foldl max i
  | [], i => ⟨.head _, fun y hy => by rw [List.mem_singleton.mp hy]; exact Int.le_refl _⟩
  | b :: is, i => by
    obtain ⟨h1, h2⟩ := fold_max is (max i b)
    have h3 : max i b ≤ is.foldl max (max i b) := h2 _ (.head _)
    refine ⟨?_, fun y hy => ?_⟩
    · rcases List.mem_cons.mp h1 with h1 | h1
      · rw [List.foldl_cons, h1]
        by_cases c : i ≤ b
        · rw [Int.max_eq_right c]; exact .tail _ (.head _)
        · rw [Int.max_eq_left (by omega)]; exact .head _
      · exact .tail _ (.tail _ h1)
    · rw [List.foldl_cons]
      rcases List.mem_cons.mp hy with rfl | hy
      · omega
      · rcases List.mem_cons.mp hy with rfl | hy
        · omega
        · exact h2 y (.tail _ hy)
theorem cr_maxDef {X : Cx} {k : Int} (hc : X.calm = true) (hu : X.A.units + 65 < cLine) : CallRK X (.builtin "max") [Str.ofString "default"] (rMaxDef X.K k) := by
  intro pins s σ H vs zs us ws Q Iv r rz h
  obtain ⟨a, ns, rfl, rfl, hs, q0, q⟩ := h
  obtain ⟨its, rv, hl, _⟩ := Iv.list hs
  rw [Vals.ref1 r]
  obtain ⟨w0, rfl, t, rfl⟩ := vals1 rz
  obtain ⟨as, hr⟩ := ints_read (h := s.heap) rv
  show wpAny _ _ (call (.builtin "max") [.ref a] [(Str.ofString "default", .int k t)]) _ _ _
  refine PySem.W.max_list_default (Iv.ok.hd hc) hl.isList (xs := ns.map PyData.int) (as := as) hr (ints_alike ns) (by rw [ints_flat]; omega) (fun e h' tk hk => ?_) fun y ys i v h' tk bs e hv hm hk => ?_
  · exact ⟨.int _, H, Iv.kept hk, ⟨_, rfl⟩, q0 (by simpa using e)⟩
  · cases ns with
    | nil => cases e
    | cons n ns =>
      cases e
      rw [PySem.W.maxD_ints] at hm
      cases hm
      obtain ⟨h1, h2⟩ := fold_max ns n
      exact ⟨.int _, H, Iv.kept hk, ⟨_, rfl⟩, q _ h1 h2⟩
/-- a built-in function with one keyword, a whole number written out -/
def WCallK (X : Cx) (f : Value) (ks : List Str) (zs : List V) : List V → Hp → VK → Prop := fun xs H Q => ∃ r, CallRK X f ks r ∧ r xs zs H Q
theorem callWK {X : Cx} (f : Value) (ks : List Str) : CallRK X f ks fun vs zs H Q => WCallK X f ks zs vs H Q := fun pins s σ H xs zs us ws Q I r rz ⟨_, h, q⟩ => h pins s σ H xs zs us ws Q I r rz q
def CallVK (X : Cx) (fn : Value) (ks : List Str) (zs : List V) (f : List D → Option D) : Prop :=
  ∀ {ds : List D} {d : D}, f ds = some d → ∀ {Hs H : Hp} {vs : List V} {Q : VK}, Same Hs H → Paired (SlotV (gx X) Hs H) ds vs → Gives (gx X) Hs H d Q → WCallK X fn ks zs vs H Q
theorem cv_maxDef {X : Cx} {k : Int} (hc : X.calm = true) (hu : X.A.units + 65 < cLine) : CallVK X (.builtin "max") [Str.ofString "default"] [V.int k] (maxDef k) := by
  intro ds d e Hs H vs Q s r q
  unfold maxDef at e
  split at e
  · rename_i m es
    split at e
    · rename_i hi
      cases e
      cases r with
      | cons r1 rs =>
        cases rs
        obtain ⟨a, ws, rfl, t, rw'⟩ := r1.lst s
        rw [intsOf_eq hi] at rw'
        have := reps_ints rw'
        subst this
        exact ⟨_, cr_maxDef hc hu, a, [], rfl, rfl, .of t, fun _ => q _ Hs H (.refl s) rfl, fun m h1 h2 => by cases h1⟩
    · rename_i i is hi
      cases e
      cases r with
      | cons r1 rs =>
        cases rs
        obtain ⟨a, ws, rfl, t, rw'⟩ := r1.lst s
        rw [intsOf_eq hi] at rw'
        have := reps_ints rw'
        subst this
        exact ⟨_, cr_maxDef hc hu, a, i :: is, rfl, rfl, .of t, fun h => (by cases h), fun m h1 h2 => by rw [mostI_eq h1 h2]; exact q _ Hs H (.refl s) rfl⟩
    · cases e
  · cases e
theorem sim_callBK {X : Cx} {S : Sc} {x nm : Str} {p0 pos kpos cpos : Pos} {id : String} {k : Int} {j : Nat} {e : Expr} {es : List Expr} {f : List D → Option D} {mps : Rho → Res (List PD)} (hf : CallVK X (.builtin id) [nm] [V.int k] f) (hg : Gl X x) (hm : X.mg x = none) (hv : bootBuiltins x = some (.builtin id)) (ha : SimPA X S (e :: es) mps) (hn : x ≠ "__name__" := by decide) (hdb : (x == ("__debug__" : Str)) = false := by decide)
    (he : backTo pos (starEach (e :: es) X.env) = (false, eval e X.env) :: backTo pos (starEach es X.env) := by rfl) (hpl : (backTo pos (starEach (e :: es) X.env)).any (·.1) = false := by rfl) : SimV X S (.Call (.Name x p0) (e :: es) [⟨some nm, .Constant (.int k) j cpos, kpos⟩] pos) (callM f mps) := by
  refine ⟨fun {ρ d ρ'} h {F σ Hs H} rl {Q} q => ?_⟩
  obtain ⟨ps, ds, e1, e2, e3⟩ := callM_ok h
  refine ⟨_, pe_callBK (ks := [nm]) (callWK _ _) hg hm hv (paW (e :: es)) (pk_cons pe_int pk_nil) hn hdb he hpl, ha.run e1 rl fun vs Hs' H' n r => ?_⟩
  exact hf e3 n.rel.sub (resL_look n.rel r e2) fun w Hs2 H2 x2 rw => q w Hs2 H2 (n.trans (x2.nxt n.rel)) rw
/-! ### sorted of whole numbers -/
def insI (x : Int) : List Int → List Int
  | [] => [x]
  | y :: ys => if x ≤ y then x :: y :: ys else y :: insI x ys
def sortI (xs : List Int) : List Int := xs.foldr insI []
theorem insI_perm (x : Int) : ∀ ys : List Int, (insI x ys).Perm (x :: ys)
  | [] => .refl _
  | y :: ys => by
    unfold insI
    split
    · exact .refl _
    · exact ((insI_perm x ys).cons y).trans (.swap x y ys)
theorem sortI_perm : ∀ xs : List Int, (sortI xs).Perm xs
  | [] => .refl _
  | x :: xs => (insI_perm x (sortI xs)).trans ((sortI_perm xs).cons x)
theorem insI_mem {x z : Int} {ys : List Int} (h : z ∈ insI x ys) : z = x ∨ z ∈ ys := by
  have := (insI_perm x ys).mem_iff.mp h
  simpa using this
theorem insI_up (x : Int) : ∀ ys : List Int, ys.Pairwise (· ≤ ·) → (insI x ys).Pairwise (· ≤ ·)
  | [], _ => by simp [insI]
  | y :: ys, h => by
    unfold insI
    obtain ⟨h1, h2⟩ := List.pairwise_cons.mp h
    split
    · rename_i hxy
      exact List.pairwise_cons.mpr ⟨fun z hz => by
        rcases List.mem_cons.mp hz with rfl | hz
        · exact hxy
        · exact Int.le_trans hxy (h1 z hz), h⟩
    · rename_i hxy
      exact List.pairwise_cons.mpr ⟨fun z hz => by
        rcases insI_mem hz with rfl | hz
        · omega
        · exact h1 z hz, insI_up x ys h2⟩
theorem sortI_up : ∀ xs : List Int, (sortI xs).Pairwise (· ≤ ·)
  | [] => .nil
  | x :: xs => insI_up x _ (sortI_up xs)
theorem up_uniq : ∀ {xs ys : List Int}, xs.Perm ys → xs.Pairwise (· ≤ ·) → ys.Pairwise (· ≤ ·) → xs = ys
  | [], ys, p, _, _ => (List.Perm.nil_eq p)
  | x :: xs, [], p, _, _ => by have := p.length_eq; simp at this
  | x :: xs, y :: ys, p, h1, h2 => by
    obtain ⟨a1, a2⟩ := List.pairwise_cons.mp h1
    obtain ⟨b1, b2⟩ := List.pairwise_cons.mp h2
    have hx : x ∈ y :: ys := p.mem_iff.mp (.head _)
    have hy : y ∈ x :: xs := p.mem_iff.mpr (.head _)
    have e : x = y := by
      rcases List.mem_cons.mp hx with e | hx
      · exact e
      · rcases List.mem_cons.mp hy with e | hy
        · exact e.symm
        · have := b1 x hx
          have := a1 y hy
          omega
    subst e
    rw [up_uniq (List.Perm.cons_inv p) a2 b2]
def sortedD : List D → Option D
  | [.lst _ es] => match intsOf es with
    | some is => some (.lst .own ((sortI is).map .int))
    | none => none
  | _ => none
theorem cs_sorted {X : Cx} : CallS X (.builtin "sorted") sortedD := by
  intro ds d e Hs H vs Q s r q
  unfold sortedD at e
  split at e
  · rename_i m es
    split at e
    · rename_i is hi
      cases e
      cases r with
      | cons r1 rs =>
        cases rs
        obtain ⟨a, ws, rfl, t, rw'⟩ := r1.lst s
        rw [intsOf_eq hi] at rw'
        have := reps_ints rw'
        subst this
        refine ⟨_, cr_sortedI, a, is, rfl, .of t, fun ns' p h1 h2 hp => ?_⟩
        rw [up_uniq (h1.trans (sortI_perm is).symm) h2 (sortI_up is)]
        refine q _ _ _ (.newOwn s hp _) (.ofOwn ⟨p, _, rfl, s.free hp, upd_same, RepL.ints _⟩ rfl) fun _ b eb => ?_
        cases eb; exact hp
    · cases e
  · cases e
/-! ### list(d): the keys of a dict -/
def lfV : Leaf → V
  | .none => .non
  | .num i => .int i
  | .text x => .str x
theorem lf_rel {k : Leaf} {v : Value} (h : numIs k v = true) : RelV (lfV k) v := by
  unfold numIs at h
  rw [Bool.and_eq_true] at h
  obtain ⟨h1, h2⟩ := h
  cases k with
  | none => cases v <;> first | rfl | exact absurd h1 Bool.false_ne_true
  | num i =>
    cases v with
    | int j t =>
      have e : j = i := of_decide_eq_true h1
      subst e
      exact ⟨t, rfl⟩
    | bool b => cases h2
    | _ => exact absurd h1 Bool.false_ne_true
  | text x =>
    obtain ⟨t, rfl⟩ := Value.isStrOf_shape (show Value.isStrOf x v = true from h1)
    exact ⟨t, rfl⟩
theorem lf_rep {G : Gx} {H : Hp} {d : D} {l : Leaf} (h : leafOf d = some l) : Rep G H d (lfV l) := by
  cases d with
  | non => cases h; rfl
  | int i => cases h; rfl
  | str x => cases h; rfl
  | _ => cases h
theorem lf_reps {G : Gx} {H : Hp} : ∀ {ks : List D} {kvs : List (Leaf × V)}, ks.map leafOf = kvs.map (fun p => some p.1) → RepL G H ks (kvs.map fun p => lfV p.1)
  | [], [], _ => .nil
  | [], _ :: _, h => by cases h
  | _ :: _, [], h => by cases h
  | k :: ks, p :: kvs, h => by
    rw [List.map_cons, List.map_cons, List.cons.injEq] at h
    exact .cons (lf_rep h.1) (lf_reps h.2)
def listKD : List D → Option D
  | [.dct _ ks _] => if (ks.all fun k => (leafOf k).isSome) = true then some (.lst .own ks) else none
  | _ => none
theorem dct_leaves {X : Cx} {Hs H : Hp} {ks ds : List D} {a : Addr} (hl : (ks.all fun k => (leafOf k).isSome) = true) (hd : (∃ kvs, LeafAt (gx X) Hs H a ks ds kvs) ∨ ∃ xs, TupAt (gx X) Hs H a ks ds xs) :
    ∃ kvs : List (Leaf × V), ks.map leafOf = kvs.map (fun p => some p.1) ∧ kvs.length ≤ sizeLine ∧ ∀ (pins : List (Addr × Obj)) (σ : L2.St) (s : Shared), Inv X pins σ H s → ∃ vs, KV kvs vs ∧ s.heap.DictOf (numKind X.prog X.w) a vs := by
  rcases hd with ⟨kvs, hd⟩ | ⟨xs, hd⟩
  · exact ⟨kvs, hd.keys, hd.le, fun _ _ _ I => leaf_obj I hd.at_⟩
  · have e0 : ks = [] := by
      cases ks with
      | nil => rfl
      | cons k ks =>
        have h1 := List.all_eq_true.mp hl k (.head _)
        have hr := hd.refs
        cases xs with
        | nil => have := hd.keys; simp at this
        | cons p xs =>
          obtain ⟨v, w, e, r1, _⟩ := hr
          rw [List.map_cons] at e
          cases e
          cases k with
          | non => cases (show V.ref p.2.1 = .non from r1)
          | bl b => cases (show V.ref p.2.1 = .bl b from r1)
          | int i => cases (show V.ref p.2.1 = .int i from r1)
          | str x => cases (show V.ref p.2.1 = .str x from r1)
          | _ => cases h1
    subst e0
    have ex : xs = [] := by
      have := congrArg List.length hd.keys
      simpa using this.symm
    subst ex
    refine ⟨[], rfl, Nat.zero_le _, fun _ _ _ I => ?_⟩
    obtain ⟨ep, hat⟩ := hd.at_
    obtain ⟨⟨es, ys, hr, he, hy⟩, _⟩ := I.hok a _ hat
    cases hy
    exact ⟨[], .nil, leaf_empty hr (by simpa using he)⟩
theorem cs_listK {X : Cx} (hc : X.calm = true) : CallS X (.type "list") listKD := by
  intro ds d e Hs H vs Q s r q
  unfold listKD at e
  split at e
  · rename_i m ks es
    split at e
    · rename_i hlf
      cases e
      cases r with
      | cons r1 rs =>
        cases rs
        obtain ⟨a, rfl, hsm, hd⟩ := r1.dct s
        obtain ⟨kvs, hk, hz, ob⟩ := dct_leaves hlf hd
        refine ⟨fun xs H' Q' => xs = [V.ref a] ∧ H' = H ∧ ∀ p, H p = none → Q' (.ref p) (upd H p (.lst (kvs.map fun x => lfV x.1))), fun pins s' σ H' xs us Q' I r2 ⟨g1, g2, g3⟩ => ?_, rfl, rfl, fun p hp => ?_⟩
        · subst g1 g2
          obtain ⟨u, rfl, ru⟩ := vals1 r2
          cases ru
          obtain ⟨ys, kv, dd⟩ := ob pins σ s' I
          obtain ⟨ep, hat⟩ := dd.dictAt
          have hl : kvs.length = ys.length := kv.length
          refine PySem.W.kdl_call (PySem.W.kdl_dict (knd := numKind X.prog X.w) (kvs := ys) (ep := ep) hsm) (I.ok.hd hc) hat (by rw [← hl]; exact hz) fun h' tk acc c' keep hD hacc => ?_
          refine ⟨.ref s'.heap.objs.size, upd H' s'.heap.objs.size (.lst (kvs.map fun x => lfV x.1)), I.laid (t' := tk) keep (Nat.le_refl _) (show ObjOk X.prog X.w _ _ _ (.lst (kvs.map fun x => lfV x.1)) from ⟨by rw [List.length_map]; exact hz, acc.toList, c', ?_, by rw [Array.toArray_toList]; exact hD⟩), rfl, g3 _ (I.hok.fresh (Nat.le_refl _))⟩
          have el : acc.toList.length = acc.size := by simp
          refine vals_of_at (by rw [List.length_map, el, hacc.1, hl]) fun j x w h1 h2 => ?_
          obtain ⟨k, y, hky, hi⟩ := hacc.2 j w (by rw [← Array.getElem?_toList]; exact h2)
          have e1 : (kvs.map (·.1))[j]? = some k := by
            rw [KV.keys kv, List.getElem?_map, hky]; rfl
          rw [List.getElem?_map] at e1 h1
          obtain ⟨p1, hp1, rfl⟩ := Option.map_eq_some_iff.mp e1
          rw [hp1] at h1
          cases h1
          exact lf_rel hi
        · refine q _ _ _ (.newOwn s hp _) (.ofOwn ⟨p, _, rfl, s.free hp, upd_same, lf_reps hk⟩ rfl) fun _ b eb => ?_
          cases eb; exact hp
    · cases e
  · cases e
theorem keyOk_of {k : D} {n : NestedKey} (h : keyOf k = some n) (hb : notBl k = true) (hd : n.depth ≤ 8) : keyOk k = true := by
  unfold keyOk
  rw [hb, h]
  exact decide_eq_true hd
end Sim

/-! Sim, part 37: walking lists and tuples while an exception is handled. -/
namespace Sim
open PySem PySem.Spec PyProof.Rows L2 HotX L2H
section
variable {prog : Program} {w : World} {A : Around} {s : Shared}
/-- what a heap that has been changed at it alone still says of the handled exception -/
theorem hot_but {x1 it : Addr} {h : Heap} {f : Obj → Obj} (hot : HotAt A x1 h) (ne : x1 ≠ it) : HotAt A x1 (h.update it f) := by
  obtain ⟨hh, o, vs, e, d, c⟩ := hot
  exact ⟨hh, o, vs, (Heap.get?_update_other h f (Ne.symm ne)).trans e, d, c⟩
theorem hot_push {x1 : Addr} {h : Heap} {o : Obj} (hot : HotAt A x1 h) : HotAt A x1 (h.push o) := by
  obtain ⟨hh, q, vs, e, d, c⟩ := hot
  exact ⟨hh, q, vs, Heap.get?_push_of_some _ e, d, c⟩
/-- the end of a walk, told by StopIteration: what stood stands -/
theorem stop_hot {α : Type} {x1 : Addr} {Q : α → Shared → Prop} {E : Value → Shared → Prop} (hot : HotAt A x1 s.heap)
    (q : ∀ a h', (∀ b o, s.heap.get? b = some o → h'.get? b = some o) → (∃ o, h'.get? a = some o ∧ o.cls = .type "StopIteration") → E (.ref a) { s with heap := h' }) :
    wpAny (model prog w) A (newExc (.type "StopIteration") [] >>= fun e => (raiseNew e : Sem α)) Q E s := by
  unfold newExc newTuple
  refine wpAny_bind (wpAny_bind (wpAny_newObj_type (wpAny_bind (m := firstArgMember _ _) (wpAny_of_eq (a := Value.none) rfl (wpAny_newObj_type ?_ (by size_fits)))) (by size_fits)))
  have h2 := hot_push (o := { cls := .type "tuple", data := .seq ([] : List Value).toArray }) hot
  obtain ⟨_, o1, _, e1, _, _⟩ := id h2
  refine raiseNew_hot (hot_push h2) (Nat.ne_of_lt (Heap.lt_size e1)) (Heap.get?_push_size _ rfl) rfl (by rw [Array.size_append]; exact Nat.lt_of_lt_of_le (by decide : 2 < 6) (Nat.le_add_right _ _)) (q _ _ (fun b o e => ?_) ⟨_, Heap.get?_update_self _ (Heap.get?_push_size _ rfl) rfl, rfl⟩)
  have e2 := Heap.get?_push_of_some { cls := .type "tuple", data := .seq ([] : List Value).toArray } e
  exact (Heap.get?_update_other _ _ (Nat.ne_of_gt (Heap.lt_size e2))).trans (Heap.get?_push_of_some _ e2)
/-- what pyNext makes of StopIteration -/
theorem seen {Q : Option Value → Shared → Prop} {E : Value → Shared → Prop} {a : Addr} {h' : Heap} (k : ∃ o, h'.get? a = some o ∧ o.cls = .type "StopIteration") (q : Q none { s with heap := h' }) :
    wpAny (model prog w) A (do if ← isInstance (.ref a) (.type "StopIteration") then pure none else throw (Value.ref a)) Q E { s with heap := h' } :=
  wpAny_bind (wpAny_isInstance (T := "StopIteration") (b := true) k isSubtype_stop (wpAny_pure q))
theorem list_stop {it l x1 : Addr} {i : Nat} {items : Array Value} {Q : Option Value → Shared → Prop} {E : Value → Shared → Prop} (hot : HotAt A x1 s.heap) (ne : x1 ≠ it) (at_ : s.heap.IsListIter it l i) (il : s.heap.IsList l items) (out : items[i]? = none)
    (q : ∀ h', (∀ b o, b ≠ it → s.heap.get? b = some o → h'.get? b = some o) → Q none { s with heap := h' }) : wpAny (model prog w) A (pyNext (.ref it)) Q E s := by
  have T := at_.typeIs
  obtain ⟨o, g, _, d⟩ := id at_
  obtain ⟨ol, gl, _, n, dl⟩ := il
  have body : ∀ {Q1 : Fin → Shared → Prop} {E1 : Value → Shared → Prop}, (∀ a h', (∀ b o, b ≠ it → s.heap.get? b = some o → h'.get? b = some o) → (∃ o, h'.get? a = some o ∧ o.cls = .type "StopIteration") → E1 (.ref a) { s with heap := h' }) →
      wpAny (model prog w) A.in1 (Builtin.«list_iterator.__next__» ⟨[.ref it], []⟩) Q1 E1 s := by
    intro Q1 E1 k
    change wpAny (model prog w) A.in1 (field (.ref it) 0 >>= _) Q1 E1 s
    refine wpAny_bind (wpAny_field g d (x := .ref l) rfl ?_)
    change wpAny (model prog w) A.in1 (field (.ref it) 1 >>= _) Q1 E1 s
    refine wpAny_bind (wpAny_field g d (x := .int i 0) rfl ?_)
    change wpAny (model prog w) A.in1 (seqItems? (.ref l) >>= _) Q1 E1 s
    refine wpAny_bind (wpAny_seqItems gl dl ?_)
    have e : items[((i : Int)).toNat]? = none := out
    simp only [e]
    refine wpAny_bind (wpAny_rule (wpAny_bind (wpAny_setField g d (by simp) (stop_hot (hot_but hot ne) fun a h' old st => k a h' (fun b o nb eb => old b o ((Heap.get?_update_other _ _ (Ne.symm nb)).trans eb)) st))))
  unfold pyNext
  exact wpAny_bind (wpAny_attempt (wpAny_callSpecial?_slot (name := Str.ofString "__next__") T slot_listiter_next (wpAny_call_entry slot_listiter_next T entry_listiter_next (body fun a h' old st => seen st (q h' old)) (args_listiter_next _))))
theorem tuple_stop {it l x1 : Addr} {i : Nat} {items : Array Value} {Q : Option Value → Shared → Prop} {E : Value → Shared → Prop} (hot : HotAt A x1 s.heap) (ne : x1 ≠ it) (at_ : s.heap.IsTupleIter it l i) (il : s.heap.IsTuple l items) (out : items[i]? = none)
    (q : ∀ h', (∀ b o, b ≠ it → s.heap.get? b = some o → h'.get? b = some o) → Q none { s with heap := h' }) : wpAny (model prog w) A (pyNext (.ref it)) Q E s := by
  have T := at_.typeIs
  obtain ⟨o, g, _, d⟩ := id at_
  obtain ⟨ol, gl, _, n, dl⟩ := il
  have body : ∀ {Q1 : Fin → Shared → Prop} {E1 : Value → Shared → Prop}, (∀ a h', (∀ b o, b ≠ it → s.heap.get? b = some o → h'.get? b = some o) → (∃ o, h'.get? a = some o ∧ o.cls = .type "StopIteration") → E1 (.ref a) { s with heap := h' }) →
      wpAny (model prog w) A.in1 (Builtin.«tuple_iterator.__next__» ⟨[.ref it], []⟩) Q1 E1 s := by
    intro Q1 E1 k
    change wpAny (model prog w) A.in1 (field (.ref it) 0 >>= _) Q1 E1 s
    refine wpAny_bind (wpAny_field g d (x := .ref l) rfl ?_)
    change wpAny (model prog w) A.in1 (field (.ref it) 1 >>= _) Q1 E1 s
    refine wpAny_bind (wpAny_field g d (x := .int i 0) rfl ?_)
    change wpAny (model prog w) A.in1 (seqItems? (.ref l) >>= _) Q1 E1 s
    refine wpAny_bind (wpAny_seqItems gl dl ?_)
    have e : items[((i : Int)).toNat]? = none := out
    simp only [e]
    refine wpAny_bind (wpAny_rule (wpAny_bind (wpAny_setField g d (by simp) (stop_hot (hot_but hot ne) fun a h' old st => k a h' (fun b o nb eb => old b o ((Heap.get?_update_other _ _ (Ne.symm nb)).trans eb)) st))))
  unfold pyNext
  exact wpAny_bind (wpAny_attempt (wpAny_callSpecial?_slot (name := Str.ofString "__next__") T F.slot_tuple_iterator_next (wpAny_call_entry F.slot_tuple_iterator_next T F.entry_tuple_iterator_next (body fun a h' old st => seen st (q h' old)) (F.args_tuple_iterator_next_1 _))))
end
section
theorem turn_listH {P : Program} {w : World} {K : PySem.W.Frag} {tg : Expr} (a it : Addr) : TurnH P w K tg (Itl K a) [it] it (fun i h => h.IsListIter it a i) where
  mem := (turn_list (P := P) (w := w) (K := K) (tg := tg) a it).mem
  obj := (turn_list (P := P) (w := w) (K := K) (tg := tg) a it).obj
  keep := (turn_list (P := P) (w := w) (K := K) (tg := tg) a it).keep
  self := (turn_list (P := P) (w := w) (K := K) (tg := tg) a it).self
  item X eP eW eK _ i pn s σ H E Iv own st more := by
    subst eP eW eK
    obtain ⟨xs, x, sq, ex⟩ := more
    obtain ⟨us, ru, seq, _⟩ := Iv.list sq
    obtain ⟨u, eu, rx⟩ := ru.get ex
    have free := own it (List.mem_singleton.mpr rfl)
    have eu2 : us.toArray[i]? = some u := by rw [List.getElem?_toArray]; exact eu
    exact wpAny_pyNext_list_item st seq.isList eu2 fun h' st' same => by
      have Iv' : Inv X pn σ H { s with heap := h' } := Iv.turned (t' := s.toks) (fun b o nb eb => (same.2 b nb).trans eb) free.1 free.2.1 free.2.2.2.1 free.2.2.2.2.1 free.2.2.2.2.2
      obtain ⟨o, e1, e2, e3⟩ := id st'
      exact ⟨u, rfl, go_of (s := { s with heap := h' }) e1 e2 e3 (by decide) ⟨x, H, Iv', rx, ⟨rfl, fun ys hy => (Iv.list_inj hy sq).symm ▸ ex⟩, st', fun b hb => (own b hb).1⟩⟩
  done X eP eW eK hot i pn s σ H E Iv own st no := by
    subst eP eW eK
    obtain ⟨xs, sq, le⟩ := no
    obtain ⟨us, ru, seq, _⟩ := Iv.list sq
    obtain ⟨p, ⟨hh, vs, e1, e2⟩, hp⟩ := hot
    have free := own it (List.mem_singleton.mpr rfl)
    have lens := ru.length
    have out : us.toArray[i]? = none := by rw [List.getElem?_toArray]; exact List.getElem?_eq_none (by omega)
    exact list_stop ⟨hh, p.2, vs, (Iv.pin p (List.mem_append_left _ hp)).1, e1, e2⟩ (free.2.2.2.2.2 p (List.mem_append_left _ hp)) st seq.isList out fun h' old =>
      ⟨rfl, Iv.turned (t' := s.toks) (fun b o nb eb => old b o nb eb) free.1 free.2.1 free.2.2.2.1 free.2.2.2.2.1 free.2.2.2.2.2⟩
theorem turn_tupH {P : Program} {w : World} {K : PySem.W.Frag} {tg : Expr} (a it : Addr) : TurnH P w K tg (Itt K a) [it] it (fun i h => h.IsTupleIter it a i) where
  mem := (turn_tuple (P := P) (w := w) (K := K) (tg := tg) a it).mem
  obj := (turn_tuple (P := P) (w := w) (K := K) (tg := tg) a it).obj
  keep := (turn_tuple (P := P) (w := w) (K := K) (tg := tg) a it).keep
  self := (turn_tuple (P := P) (w := w) (K := K) (tg := tg) a it).self
  item X eP eW eK _ i pn s σ H E Iv own st more := by
    subst eP eW eK
    obtain ⟨xs, x, sq, ex⟩ := more
    obtain ⟨us, ru, seq, _⟩ := Iv.tuple sq
    obtain ⟨u, eu, rx⟩ := ru.get ex
    have free := own it (List.mem_singleton.mpr rfl)
    have eu2 : us.toArray[i]? = some u := by rw [List.getElem?_toArray]; exact eu
    exact wpAny_pyNext_tuple_item st (show s.heap.IsTuple a us.toArray from seq) eu2 fun h' st' same => by
      have Iv' : Inv X pn σ H { s with heap := h' } := Iv.turned (t' := s.toks) (fun b o nb eb => (same.2 b nb).trans eb) free.1 free.2.1 free.2.2.2.1 free.2.2.2.2.1 free.2.2.2.2.2
      obtain ⟨o, e1, e2, e3⟩ := id st'
      exact ⟨u, rfl, go_of (s := { s with heap := h' }) e1 e2 e3 (by decide) ⟨x, H, Iv', rx, ⟨rfl, fun ys hy => (Iv.tuple_inj hy sq).symm ▸ ex⟩, st', fun b hb => (own b hb).1⟩⟩
  done X eP eW eK hot i pn s σ H E Iv own st no := by
    subst eP eW eK
    obtain ⟨xs, sq, le⟩ := no
    obtain ⟨us, ru, seq, _⟩ := Iv.tuple sq
    obtain ⟨p, ⟨hh, vs, e1, e2⟩, hp⟩ := hot
    have free := own it (List.mem_singleton.mpr rfl)
    have lens := ru.length
    have out : us.toArray[i]? = none := by rw [List.getElem?_toArray]; exact List.getElem?_eq_none (by omega)
    exact tuple_stop ⟨hh, p.2, vs, (Iv.pin p (List.mem_append_left _ hp)).1, e1, e2⟩ (free.2.2.2.2.2 p (List.mem_append_left _ hp)) st (show s.heap.IsTuple a us.toArray from seq) out fun h' old =>
      ⟨rfl, Iv.turned (t' := s.toks) (fun b o nb eb => old b o nb eb) free.1 free.2.1 free.2.2.2.1 free.2.2.2.2.1 free.2.2.2.2.2⟩
variable {X : Cx} {S : Sc} {tg : Expr}
/-- a list or a tuple, walked while an exception is handled -/
theorem pi_seqH {l : Expr} {tl : TE} (hl : PE X l tl) : PIH X tg l (fun σ H R => tl σ H fun x H1 => ∃ a, x = .ref a ∧ (((∃ xs, SqL X.K H1 a xs) ∧ R (Itl X.K a) H1) ∨ ((∃ xs, SqT X.K H1 a xs) ∧ R (Itt X.K a) H1))) where
  run pn s σ H R Iv wish := by
    refine thn (hl.run pn s σ H _ Iv wish) fun v s1 ⟨x, H1, J, rx, a, ex, alt⟩ => ?_
    subst ex
    obtain rfl : v = .ref a := rx
    have young : ∀ b ∈ [s1.heap.objs.size], FpOk X pn H1 b := fun b hb => by
      rw [List.mem_singleton.mp hb]
      exact J.fpOk (Nat.le_refl _) (J.hok.fresh (Nat.le_refl _))
    have still : ∀ o : Obj, Inv X pn σ H1 { s1 with heap := s1.heap.push o } := fun o => J.kept (t' := s1.toks) fun b q eb => Heap.get?_push_of_some _ eb
    rcases alt with ⟨⟨xs, sq⟩, r⟩ | ⟨⟨xs, sq⟩, r⟩
    · obtain ⟨us, _, seq, _⟩ := J.list sq
      exact wpAny_pyIter_list seq.isList ⟨_, _, _, _, H1, rfl, still _, turn_listH a _, ⟨_, Heap.get?_push_size _ rfl, rfl, rfl⟩, young, r⟩
    · obtain ⟨us, _, seq, _⟩ := J.tuple sq
      exact wpAny_pyIter_tuple (show s1.heap.IsTuple a us.toArray from seq) ⟨_, _, _, _, H1, rfl, still _, turn_tupH a _, ⟨_, Heap.get?_push_size _ rfl, rfl, rfl⟩, young, r⟩
def WIH (X : Cx) (tg iter : Expr) : TI := fun σ H R => ∃ t, PIH X tg iter t ∧ t σ H R
theorem piWH (tg iter : Expr) : PIH X tg iter (WIH X tg iter) := ⟨fun pn s σ H R Iv ⟨_, h, r⟩ => h.run pn s σ H R Iv r⟩
structure SimIH (X : Cx) (S : Sc) (tg iter : Expr) (m : AM) : Prop where
  run : ∀ {ρ : Rho} {ds : List D} {ρ' : Rho}, m ρ = .ok ds ρ' → ∀ {F : Fm} {σ : L2.St} {Hs H : Hp}, Rel (gx X) S F Hs H ρ σ → ∀ {R : It → Hp → Prop},
    (∀ J Hs' H', Nxt (gx X) S F ρ σ Hs H ρ' σ Hs' H' → Feeds (gx X) J ds Hs' → R J H') → WIH X tg iter σ H R
theorem sim_iterH {l : Expr} {ml : EM} (hl : SimV X S l ml) : SimIH X S tg l (iterM ml) := by
  refine ⟨fun {ρ ds ρ'} hm {F σ Hs H} rl {R} q => ?_⟩
  obtain ⟨d, ρ1, e1, e2⟩ := Res.bind_ok hm
  obtain ⟨e3, rfl⟩ := pureO_ok e2
  refine ⟨_, pi_seqH (peW l), hl.run e1 rl fun v Hs' H' n r => ?_⟩
  unfold itemsD at e3
  split at e3 <;> cases e3
  · obtain ⟨_, a, vs, rfl, t, rs⟩ := r
    exact ⟨a, rfl, .inl ⟨⟨vs, .of (n.rel.sub _ _ t)⟩, q _ Hs' H' n (feeds_list' (G := gx X) (.of t) rs)⟩⟩
  · obtain ⟨a, vs, rfl, t, rs⟩ := r
    exact ⟨a, rfl, .inr ⟨⟨vs, Same.seqT n.rel.sub t⟩, q _ Hs' H' n (feeds_tup (G := gx X) t rs)⟩⟩
  · obtain ⟨a, rfl, t⟩ := r
    exact ⟨a, rfl, .inl ⟨⟨_, n.rel.sub.seq t⟩, q _ Hs' H' n (feeds_list' (G := gx X) t (RepL.ints _))⟩⟩
theorem sim_forH {b : List Stmt} {m : SM} {pos : Pos} {tg iter : Expr} {mi : AM} {g : GM} (hp : PassesOwn (model X.prog X.w) X.A X.env X.xe) (hc : HotC X) (hi : SimIH X S tg iter mi) (hg : SimG X S tg g) (hb : SimB X S b m) (hs : ∀ x, foldedSetIterable iter X.env x = pure x := by intro _; rfl) :
    SimS X S (.For tg iter b [] pos) (forM mi g m) := by
  refine ⟨fun {ρ f ρ'} hm {F σ Hs H} rl {E} q => ?_⟩
  obtain ⟨ds, ρ1, e1, e2⟩ := Res.bind_ok hm
  refine ⟨_, ps_forH hp hc (piWH tg iter) (pgW tg) (pbW b) hs, hi.run e1 rl fun J Hs1 H1 n1 fd => ?_⟩
  refine ⟨fun i k σ' H' => ∃ ρ2 Hs2, i + k = ds.length ∧ forGo g m (ds.drop i) ρ2 = .ok f ρ' ∧ Same Hs1 Hs2 ∧ Nxt (gx X) S F ρ σ Hs H ρ2 σ' Hs2 H', ⟨ds.length, ρ1, Hs1, by simp, e2, .refl _, n1⟩, ?_⟩
  rintro i k σ2 H2 ⟨ρ2, Hs2, ek, e, sm, n2⟩
  by_cases hi' : i < ds.length
  · have ed := List.drop_eq_getElem_cons hi'
    rw [ed] at e
    obtain ⟨_, ρ3, e3, e⟩ := Res.bind_ok e
    obtain ⟨f1, ρ4, e4, e⟩ := Res.bind_ok e
    obtain ⟨go, yl⟩ := fd.1 i _ Hs2 H2 (List.getElem?_eq_getElem hi') sm n2.rel.sub
    refine .inr ⟨go, fun σ' H' => ∃ ρ2 Hs2, i + 1 + (k - 1) = ds.length ∧ forGo g m (ds.drop (i + 1)) ρ2 = .ok f ρ' ∧ Same Hs1 Hs2 ∧ Nxt (gx X) S F ρ σ Hs H ρ2 σ' Hs2 H', fun σ' H' h => ⟨k - 1, by omega, h⟩, fun x H3 y => ?_⟩
    obtain ⟨Hs3, x3, r3⟩ := yl x H3 y
    have n3 := n2.trans (x3.nxt n2.rel)
    refine hg.run e3 n3.rel r3 fun σ4 Hs4 H4 n4 => ?_
    have n34 := n3.trans n4
    refine hb.run e4 n4.rel ?_
    have sm4 : Same Hs1 Hs4 := (sm.trans x3.s).trans n4.same
    cases f1 with
    | nxt => exact fun σ5 Hs5 H5 n5 => ⟨ρ4, Hs5, by omega, e, sm4.trans n5.same, n34.trans n5⟩
    | cnt => exact fun σ5 Hs5 H5 n5 => ⟨ρ4, Hs5, by omega, e, sm4.trans n5.same, n34.trans n5⟩
    | brk => cases e; exact fun σ5 Hs5 H5 n5 => q _ _ _ (n34.trans n5)
    | ret d => cases e; exact fun v σ5 Hs5 H5 n5 => q v _ _ _ (n34.trans n5)
    | exc x => cases e; exact fun σ5 Hs5 H5 n5 => q _ _ _ (n34.trans n5)
  · have ei : i = ds.length := by omega
    subst ei
    rw [List.drop_length] at e
    cases e
    exact .inl ⟨fd.2 Hs2 H2 sm n2.rel.sub, q _ _ _ n2⟩
theorem sim_range1H {e : Expr} {pos : Pos} {tg : Expr} {p : Pos} {ma : AM} (hm : X.mg "range" = none) (ha : SimA X S [e] ma) (hg : Gl X "range" := by rfl) (hs : starEach [e] X.env = [(false, eval e X.env)] := by rfl) : SimIH X S tg (.Call (.Name "range" p) [e] [] pos) (range1 ma) := by
  refine ⟨fun {ρ ds ρ'} h {F σ Hs H} rl {R} q => ?_⟩
  obtain ⟨ds, ρ1, e1, e2⟩ := Res.bind_ok h
  split at e2
  · split at e2
    · cases e2
      refine ⟨_, pi_range1H hg hm (paW [e]) hs, ha.run e1 rl fun vs Hs' H' n r => ?_⟩
      obtain ⟨v, w, rfl, rfl, rfl⟩ := r
      exact ⟨_, rfl, by omega, by omega, q _ Hs' H' n feeds_range⟩
    · cases e2
  · cases e2
end
section
variable {X : Cx}
/-- one block of a comprehension, turn after turn, while an exception is handled -/
theorem loop_hot {Y : Cx} {scope : Scope} {fp : List Addr} {σ : L2.St} {vs : List Nat} {tg iter elt : Expr} {ifs : List Expr} {pos : Pos} {D it : Addr} {tn : Nat → Heap → Prop} {J : It} {g : TG} {tt : TT} {te : TE} {Qd : Hp → Prop} {W : Nat → Nat → Hp → Prop} {R : Result → Shared → Prop}
    (hot : HotC Y) (hex : ∀ b ∈ fp, b ∈ Y.ex) (hxe : Y.xe = fun _ _ => False) (apart : ∀ p ∈ Y.pn, ∀ b ∈ fp, p.1 ≠ b) (T : TurnH Y.prog Y.w Y.K tg J fp it tn) (pg : PG Y tg g) (pt : PTs Y ifs tt) (pe : PE Y elt te)
    (turn : ∀ i m H, W i m H → (J.stop i H ∧ Qd H) ∨ (J.go i H ∧ ∃ Nx : Hp → Prop, (∀ H', Nx H' → ∃ m', m' < m ∧ W (i + 1) m' H') ∧ ∀ x H', J.yld i H x H' → g x (wipe σ vs) H' fun σ2 H2 => wipe σ2 vs = wipe σ vs ∧ tt σ2 H2 fun b H3 =>
      if b = true then te σ2 H3 fun y H4 => ∃ acc, H4 D = some (.lst acc) ∧ acc.length < sizeLine ∧ Nx (upd H4 D (.lst (acc ++ [y]))) else Nx H3))
    (post : ∀ H s, Inv Y [] (wipe σ vs) H s → Qd H → R (.ok .next) s)
    {m : Nat} {H : Hp} {s : Shared} (I : Inv Y [] (wipe σ vs) H s) (st : tn 0 s.heap) (nf : ∀ b ∈ fp, H b = none) (w0 : W 0 m H) :
    codeAny (model Y.prog Y.w) Y.A (.compLoop (.ListComp elt [⟨tg, iter, ifs, 0⟩] scope pos) 0 (.ref it) (.ref D) Y.env) R s := by
  have young : ∀ {σ' : L2.St} {H' : Hp} {s' : Shared}, Inv Y [] σ' H' s' → (∀ b ∈ fp, H' b = none) → ∀ b ∈ fp, FpOk Y [] H' b := fun {σ' H' s'} J' nn b hb => by
    have hb' := hex b hb
    exact ⟨nn b hb, (J'.ok.exf b hb').1, J'.ok.exfs b hb', .inl hb', fun x c e => (J'.ok.exf b hb').2 x c e, fun p hp => apart p (by simpa using hp) b hb⟩
  refine compLoop_any (fun n s' => ∃ i H', Inv Y [] (wipe σ vs) H' s' ∧ tn i s'.heap ∧ (∀ b ∈ fp, H' b = none) ∧ W i n H') ?_ m ⟨0, H, I, st, nf, w0⟩
  rintro n t ⟨i, K, Ik, sk, nk, wk⟩
  rcases turn i n K wk with ⟨no, done⟩ | ⟨yes, Nx, less, step⟩
  · exact thnF (T.done Y rfl rfl rfl hot i [] t _ K (fun _ _ => False) Ik (young Ik nk) sk no) fun r t' z => by
      obtain ⟨rfl, I'⟩ := z
      exact post K t' I' done
  refine thnF (T.item Y rfl rfl rfl hot i [] t _ K (fun _ _ => False) Ik (young Ik nk) sk yes) fun r t1 z1 => ?_
  obtain ⟨u, rfl, z1⟩ := z1
  refine thnF z1 fun _ t2 ⟨x, K2, I2, rx, yl, s2, n2⟩ => ?_
  have held := I2.pinned (young I2 n2) (T.obj _ _ s2)
  have r1 := pg.run _ t2 _ K2 x u _ held rx (step x K2 yl)
  rw [hxe] at r1
  refine thnF r1 fun _ t3 ⟨σ3, K3, I3, back, w3⟩ => ?_
  have r2 := pt.run _ t3 σ3 K3 _ I3 w3
  rw [hxe] at r2
  refine thnF r2 fun b t4 ⟨K4, I4, w4⟩ => ?_
  have again : ∀ {t' : Shared} {K' : Hp}, Inv Y ([] ++ pinsAt fp t2.heap) σ3 K' t' → Nx K' → ∃ k, k < n ∧ ∃ j H', Inv Y [] (wipe σ vs) H' t' ∧ tn j t'.heap ∧ (∀ b ∈ fp, H' b = none) ∧ W j k H' := fun {t' K'} I' nx => by
    obtain ⟨k, hk, wk⟩ := less K' nx
    have pinned : ∀ b ∈ fp, ∀ o, t2.heap.get? b = some o → t'.heap.get? b = some o ∧ K' b = none := fun b hb o e => by
      have z := I'.pin (b, o) (List.mem_append_right _ (List.mem_append_right _ (mem_pinsAt hb e)))
      exact ⟨z.1, z.2.1⟩
    refine ⟨k, hk, i + 1, K', (I'.unpinned (pins := [])).weak (by rw [← back, wipe_length]) (fun j v e => (wipe_some (back ▸ e)).1), T.keep _ _ _ s2 fun b hb o e => (pinned b hb o e).1, fun b hb => ?_, wk⟩
    obtain ⟨o, e, _⟩ := T.obj _ _ s2 b hb
    exact (pinned b hb o e).2
  cases b with
  | false => exact again I4 w4
  | true =>
    have r3 := pe.run _ t4 σ3 K4 _ I4 w4
    rw [hxe] at r3
    refine thnF r3 fun v t5 ⟨y, K5, I5, ry, acc, hD, room, nx⟩ => ?_
    exact app_ok (X := Y) I5 hD room ry fun t6 I6 => again I6 nx
/-- a block's context that still bears the handled exception -/
abbrev blkH (X : Cx) (s : Shared) (H : Hp) (scope : Scope) (cenv : Env) (fp : List Addr) : Cx := { X.blk s H scope cenv fp with pn := X.pn }
theorem block_hot {pins : List (Addr × Obj)} {σ : L2.St} {H : Hp} {s : Shared} {scope : Scope} {own : List (Str × Nat)} {fp : List Addr} (Iv : Inv X pins σ H s) (ok : BlkOk X.N X.env.scope scope own) (hN : X.N.Nodup) (hfp : ∀ b ∈ fp, FpOk X pins H b ∧ b < s.heap.objs.size) :
    Inv (blkH X s H scope (compEnvC scope (cellsFrom (s.heap.objs.size + 1) scope.names (cloFrom X.env.cells scope.names [])) s.heap.objs.size X.env) fp) [] (wipe σ (own.map (·.2))) H { s with heap := pushCells (s.heap.push { cls := .type "dict", data := .dict #[] }) scope.names } := by
  have J := block_start Iv ok hN hfp
  refine ⟨⟨J.ok.1, J.ok.2, J.ok.3, J.ok.4, J.ok.5, J.ok.6, J.ok.7, J.ok.8, J.ok.9, J.ok.10, J.ok.11, J.ok.12, J.ok.13, J.ok.14, J.ok.15, J.ok.16, J.ok.17, J.ok.18⟩, J.os, J.bare, J.base, J.loc, J.cell, J.free, J.freeC, fun p hp => ?_, J.hok, J.len⟩
  obtain ⟨e1, e2, e3, e4, e5⟩ := Iv.pin p (List.mem_append_left _ (by simpa using hp))
  refine ⟨pushCells_keeps _ _ _ _ (Heap.get?_push_of_some _ e1), e2, Nat.ne_of_lt (Heap.lt_size e1), fun z => ?_, e5⟩
  have z : p.1 ∈ frs X.stack := z
  rcases Iv.ok.stk with h | ⟨h, hf⟩
  · rw [h] at z; exact e4 z
  · rw [h] at z
    unfold frs at z
    rw [List.filterMap_cons, hf] at z
    rcases List.mem_cons.mp z with z | z
    · exact e3 z
    · exact e4 z
theorem lc_hot {pins : List (Addr × Obj)} {s : Shared} {σ : L2.St} {H : Hp} {Q : VK} {elt tg iter : Expr} {ifs : List Expr} {scope : Scope} {own : List (Str × Nat)} {pos pos' : Pos} {wi : TI} {g : TG} {tt : TT} {te : TE} {use : Option (Value → Sem Unit)} {Qf : Value → Shared → Prop}
    (hot : HotC X) (hN : X.N.Nodup) (Iv : Inv X pins σ H s) (walk : PIH X tg iter wi) (ok : BlkOk X.N X.env.scope scope own)
    (hg : ∀ s H C cl fp, PG (blkH X s H scope (compEnvC scope cl C X.env) fp) tg g) (ht : ∀ s H C cl fp, PTs (blkH X s H scope (compEnvC scope cl C X.env) fp) ifs tt) (he : ∀ s H C cl fp, PE (blkH X s H scope (compEnvC scope cl C X.env) fp) elt te)
    (plain : ∀ x, foldedSetIterable iter X.env x = pure x) (wish : tLc wi g tt te (own.map (·.2)) σ H Q)
    (fin : ∀ D C s' m H', Inv X pins σ H' s' → Q (.ref D) H' → s'.heap.Ns C m → FpOk X pins H' C → compPost (model X.prog X.w) X.A X.xe use Qf (.ref D) C (.ok .next) s') :
    wpAny (model X.prog X.w) X.A (comprehension (.ListComp elt [⟨tg, iter, ifs, 0⟩] scope pos) scope X.env pos' (newList []) false (eval iter X.env) use) Qf X.xe s := by
  have clo : closureFor scope X.env = pure (cloFrom X.env.cells scope.names []) := closure_ok fun y hy e => (ok.free y hy e).elim (fun k => Iv.ok.has _ (.inl k)) fun k => Iv.ok.has _ (.inr k)
  refine wpAny_comprehension_free (use := use) rfl plain clo ok.kind (fun y hy e => (ok.uniq y hy).trans (by rw [e])) (thn (walk.run pins s σ H _ Iv wish) fun xv s1 hx => thn hx fun itv s2 came => ?_)
  obtain ⟨it, fp, tn, J, K, rfl, Ik, T, st, own_, q⟩ := came
  refine wpAny_newObj_type (newEnv_comp ?_) (Nat.zero_le _)
  have nD : K s2.heap.objs.size = none := Ik.hok.fresh (Nat.le_refl _)
  obtain ⟨W, ⟨m0, w0⟩, turn⟩ := q _ nD
  -- the new list, then the block
  have I3 : Inv X pins σ (upd K s2.heap.objs.size (.lst [])) { s2 with heap := s2.heap.push { cls := .type "list", data := .seq ([] : List Value).toArray } } :=
    Ik.laid (t' := s2.toks) (fun b o e => Heap.get?_push_of_some _ e) (Nat.le_refl _) ⟨Nat.zero_le _, [], 0, .nil, Heap.get?_push_size _ rfl⟩
  have older : ∀ b ∈ fp, b < s2.heap.objs.size := fun b hb => by
    obtain ⟨o, e, _⟩ := T.obj _ _ st b hb
    exact Heap.lt_size e
  have grown : ∀ b o, s2.heap.get? b = some o → (s2.heap.push { cls := .type "list", data := .seq ([] : List Value).toArray }).get? b = some o := fun b o e => Heap.get?_push_of_some _ e
  have larger : s2.heap.objs.size < (s2.heap.push { cls := .type "list", data := .seq ([] : List Value).toArray }).objs.size := by rw [Heap.size_push]; exact Nat.lt_succ_self _
  generalize hD : s2.heap.objs.size = D at *
  generalize h3 : ({ s2 with heap := s2.heap.push { cls := .type "list", data := .seq ([] : List Value).toArray } } : Shared) = s3 at I3
  have h3h : s2.heap.push { cls := .type "list", data := .seq ([] : List Value).toArray } = s3.heap := by rw [← h3]
  rw [h3h] at grown larger
  have still : ∀ b ∈ fp, (upd K D (.lst [])) b = none := fun b hb => by
    rw [upd_ne (Nat.ne_of_lt (older b hb))]
    exact (own_ b hb).1
  have mine : ∀ b ∈ fp, FpOk X pins (upd K D (.lst [])) b ∧ b < s3.heap.objs.size := fun b hb => ⟨⟨still b hb, (own_ b hb).2⟩, Nat.lt_trans (older b hb) larger⟩
  have I4 := block_hot I3 ok hN mine
  have st4 : tn 0 (pushCells (s3.heap.push { cls := .type "dict", data := .dict #[] }) scope.names) := T.keep _ _ _ st fun b _ o e => pushCells_keeps _ _ _ _ (Heap.get?_push_of_some _ (grown b o e))
  have loop : codeAny (model X.prog X.w) X.A (.compLoop (.ListComp elt [⟨tg, iter, ifs, 0⟩] scope pos) 0 (.ref it) (.ref D) (compEnvC scope (cellsFrom (s3.heap.objs.size + 1) scope.names (cloFrom X.env.cells scope.names [])) s3.heap.objs.size X.env)) (compPost (model X.prog X.w) X.A X.xe use Qf (.ref D) s3.heap.objs.size) { s3 with heap := pushCells (s3.heap.push { cls := .type "dict", data := .dict #[] }) scope.names } :=
    loop_hot (Y := blkH X s3 (upd K D (.lst [])) scope (compEnvC scope (cellsFrom (s3.heap.objs.size + 1) scope.names (cloFrom X.env.cells scope.names [])) s3.heap.objs.size X.env) fp) (scope := scope) (Qd := fun H => Q (.ref D) H)
      hot (fun b hb => hb) rfl (fun p hp b hb => (own_ b hb).2.2.2.2.2 p (List.mem_append_left _ hp)) T (hg _ _ _ _ _) (ht _ _ _ _ _) (he _ _ _ _ _) turn (fun H' s' I6 done => by
        obtain ⟨m, hm, _⟩ := I6.loc
        have nC : H' s3.heap.objs.size = none := I6.free
        exact fin D _ s' m H' (I3.call' (ch := fp) I6.os I6.base I6.hok I6.bare fun b hb => ⟨(mine b hb).1.2.2.2.1, (mine b hb).1.2.1, (mine b hb).1.2.2.2.2.1, (mine b hb).1.2.2.2.2.2⟩) done hm (I3.fpOk (Nat.le_refl _) nC)) I4 st4 still w0
  exact codeAny_compStart_list loop (T.self X.A 0 _ _ _ st4 loop)
section
variable {elt tg iter : Expr} {ifs : List Expr} {scope : Scope} {own : List (Str × Nat)} {pos : Pos} {wi : TI} {g : TG} {tt : TT} {te : TE}
theorem pe_lcH (hot : HotC X) (hN : X.N.Nodup) (walk : PIH X tg iter wi) (ok : BlkOk X.N X.env.scope scope own) (hg : ∀ s H C cl fp, PG (blkH X s H scope (compEnvC scope cl C X.env) fp) tg g) (ht : ∀ s H C cl fp, PTs (blkH X s H scope (compEnvC scope cl C X.env) fp) ifs tt)
    (he : ∀ s H C cl fp, PE (blkH X s H scope (compEnvC scope cl C X.env) fp) elt te) (plain : ∀ x, foldedSetIterable iter X.env x = pure x) : PE X (.ListComp elt [⟨tg, iter, ifs, 0⟩] scope pos) (tLc wi g tt te (own.map (·.2))) where
  run pins s σ H Q Iv wish := by
    rw [eval_ListComp]
    exact lc_hot hot hN Iv walk ok hg ht he plain wish fun D C s' m H' I' q hm f =>
      ⟨m, hm, fun h' same => ⟨.ref D, H', I'.turned (t' := s'.toks) (fun b o nb e => (same.2 b nb).trans e) f.1 f.2.1 f.2.2.2.1 f.2.2.2.2.1 f.2.2.2.2.2, rfl, q⟩⟩
theorem ps_setLcH {i : Nat} {y : Str} {py spos : Pos} (hot : HotC X) (hN : X.N.Nodup) (hy : X.N[i]? = some y) (hyl : X.env.scope.names.lookup y = some .local) (hsw : swapsWith (.ListComp elt [⟨tg, iter, ifs, 0⟩] scope pos) (some (.Name y py)) spos.line X.env = pure true)
    (walk : PIH X tg iter wi) (ok : BlkOk X.N X.env.scope scope own) (hg : ∀ s H C cl fp, PG (blkH X s H scope (compEnvC scope cl C X.env) fp) tg g) (ht : ∀ s H C cl fp, PTs (blkH X s H scope (compEnvC scope cl C X.env) fp) ifs tt)
    (he : ∀ s H C cl fp, PE (blkH X s H scope (compEnvC scope cl C X.env) fp) elt te) (plain : ∀ x, foldedSetIterable iter X.env x = pure x) : PS X (.Assign [.Name y py] (.ListComp elt [⟨tg, iter, ifs, 0⟩] scope pos) spos) (tAsg (tLc wi g tt te (own.map (·.2))) (gName i)) where
  run pins s σ H D Iv wish := by
    rw [exec_Assign_Name_used _ _ _ _ hsw]
    have core := lc_hot (pos := pos) (pos' := firstIterPos [⟨tg, iter, ifs, 0⟩] pos) (use := some (assign (.Name y py) X.env)) (Qf := fun _ s' => SP X pins D .next s') hot hN Iv walk ok hg ht he plain (wish : tLc wi g tt te (own.map (·.2)) σ H fun x H1 => gName i x σ H1 D.nx) fun L C s' m H' I' q hm f => by
      refine wpAny_assign_Name (store_ok2 (v := V.ref L) I' hN hy (.inl hyl) rfl (fun t It ⟨a, same, where_⟩ => ?_) (.inr hyl))
      have apart : C ≠ a := where_.elim (fun z => z ▸ f.2.1) fun z e => f.2.2.2.2.1 y a z e.symm
      exact ⟨m, hm.sameBut same apart, fun h' same' => ⟨_, H', It.turned (t' := t.toks) (fun b o nb e => (same'.2 b nb).trans e) f.1 f.2.1 f.2.2.2.1 f.2.2.2.2.1 f.2.2.2.2.2, q⟩⟩
    refine wpAny_bind (wpAny_standAt (wpAny_bind ?_))
    change wpAny _ X.A (comprehension (.ListComp elt [⟨tg, iter, ifs, 0⟩] scope pos) scope X.env (firstIterPos [⟨tg, iter, ifs, 0⟩] pos) (newList []) false (eval iter X.env) (some (assign (.Name y py) X.env)) >>= fun _ => pure ()) _ _ s
    exact wpAny_bind (thn core fun _ s' z => wpAny_pure (wpAny_pure z))
end
end
end Sim

/-! Sim, part 38: while an exception is handled: a tuple unpacked, comprehensions, calls. -/
namespace Sim
open PySem PySem.Spec PyProof.Rows L2 HotX L2H
section
variable {prog : Program} {w : World} {A : Around} {s : Shared} {E : Value → Shared → Prop}
theorem unpack_hot {t x1 : Addr} {items : Array Value} {targets : List (Bool × (Value → Sem Unit))} {Q : Unit → Shared → Prop} (hot : HotAt A x1 s.heap) (seq : s.heap.IsTuple t items) (many : targets.length = items.size) (plain : targets.findIdx? (·.1) = none)
    (q : ∀ h', (∀ b o, s.heap.get? b = some o → h'.get? b = some o) → wpAny (model prog w) A (assignInOrder (targets.map (·.2)) items.toList) Q E { s with heap := h' }) : wpAny (model prog w) A (unpack (.ref t) targets) Q E s := by
  obtain ⟨_, o1, _, e1, _, _⟩ := id hot
  obtain ⟨ot, et, _⟩ := id seq
  have ne1 := Nat.ne_of_lt (Heap.lt_size e1)
  have ne2 := Nat.ne_of_lt (Heap.lt_size et)
  have every : (items.toList.drop 0).take items.size = items.toList := by rw [List.drop_zero, ← Array.length_toList, List.take_length]
  have drawn : wpAny (model prog w) A (unpackItems (.ref t) items.size none) (fun vs s' => vs = items.toList ∧ ∃ h', s' = { s with heap := h' } ∧ ∀ b o, s.heap.get? b = some o → h'.get? b = some o) E s := by
    unfold unpackItems notIterableAtAll
    refine wpAny_bind (wpAny_bind (wpAny_specialOf seq.typeIs F.slot_tuple_iter.lookup (wpAny_pure ?_)))
    refine wpAny_bind (wpAny_holding (wpAny_pyIter_tuple seq (wpAny_bind (wpAny_holding (wpAny_draw_tuple ne2 items.size 0 { s with heap := s.heap.push { cls := .type "tuple_iterator", data := .fields #[.ref t, .int 0 0] } } _ ⟨_, Heap.get?_push_size _ rfl, rfl, rfl⟩ (seq.push _) (by omega) fun h1 it1 same => ?_)))))
    rw [every]
    have enough : ¬ items.toList.length < items.size := by simp
    rw [if_neg enough]
    obtain ⟨hh, o2, vs2, e2, d2, c2⟩ := hot_push (o := { cls := .type "tuple_iterator", data := .fields #[.ref t, .int 0 0] }) hot
    obtain ⟨o3, e3, r3⟩ := seq.push { cls := .type "tuple_iterator", data := .fields #[.ref t, .int 0 0] }
    refine wpAny_bind (wpAny_holding (tuple_stop (s := { s with heap := h1 }) ⟨hh, o2, vs2, (same.2 x1 ne1).trans e2, d2, c2⟩ ne1 it1 (show h1.IsTuple t items from ⟨o3, (same.2 t ne2).trans e3, r3⟩) (by simp) fun h2 old => ?_))
    exact wpAny_pure ⟨rfl, h2, rfl, fun b o eb => old b o (Nat.ne_of_lt (Heap.lt_size eb)) ((same.2 b (Nat.ne_of_lt (Heap.lt_size eb))).trans (Heap.get?_push_of_some _ eb))⟩
  unfold unpack
  rw [many, plain]
  refine wpAny_bind (wpAny_holding (thn drawn fun vs s' z => ?_))
  obtain ⟨rfl, h', rfl, old⟩ := z
  exact q h' old
end
section
variable {X : Cx} {S : Sc} {pos : Pos}
theorem pg_tupH {es : List Expr} {k : Nat} {t : TGs} {n : Nat} (hc : HotC X) (h : PGs X es t)
    (hn : (assignEach es X.env).length = n := by rfl) (hst : (assignEach es X.env).findIdx? (·.1) = none := by rfl) : PG X (.Tuple es k pos) (gTup X.K n t) where
  run pins s σ H v u Q I r hw := by
    obtain ⟨a, xs, rfl, hq, hl, hw⟩ := hw
    cases r
    obtain ⟨its, rv, ht, _⟩ := I.tuple hq
    obtain ⟨x1, hot⟩ := hc.at I
    rw [arm_assign_Tuple]
    exact wpAny_bind (wpAny_standAt (unpack_hot hot ht (by simp [hn, ← hl, rv.length]) hst fun h' old => h.run pins _ σ H xs _ Q (I.kept (t' := s.toks) old) (by simpa using rv) hw))
theorem sim_gtupH {es : List Expr} {gs : List D → Rho → Res Unit} {n k : Nat} (hc : HotC X) (h : SimGs X S es gs) (hn : (assignEach es X.env).length = n := by rfl) (hst : (assignEach es X.env).findIdx? (·.1) = none := by rfl) : SimG X S (.Tuple es k pos) (tupG n gs) := by
  refine ⟨fun {d ρ ρ'} hm {F σ Hs H} rl {v} r {Q} q => ?_⟩
  unfold tupG at hm
  split at hm
  · split at hm
    · rename_i ds hl
      obtain ⟨a, vs, rfl, t, rs⟩ := r
      exact ⟨_, pg_tupH hc (pgsW es) hn hst, a, vs, rfl, Same.seqT rl.sub t, by rw [← rs.length]; exact hl, h.run hm rl rs q⟩
    · cases hm
  · cases hm
end
/-- the contexts of a block there -/
abbrev BlkH (X : Cx) (scope : Scope) (p : Cx → Prop) : Prop := ∀ (s : Shared) (H : Hp) (C : Addr) (cl : List (Str × Addr)) (fp : List Addr), p (blkH X s H scope (compEnvC scope cl C X.env) fp)
section
variable {X : Cx} {S S' : Sc} {tg iter elt : Expr} {ifs : List Expr} {scope : Scope} {own : List (Str × Nat)} {mi : AM} {g : GM} {mc : TM} {me : EM} {n : Nat}
theorem lc_readH (hi : SimIH X S tg iter mi) (hg : BlkH X scope fun Y => SimG Y S' tg g) (ht : BlkH X scope fun Y => SimTs Y S' ifs mc) (he : BlkH X scope fun Y => SimV Y S' elt me)
    (h1 : S'.os = S.os) (h2 : S'.io = S.io) (hio : ∀ i ∈ own.map (·.2), i ∉ S.io) (hfx : ∀ i, i < n → i ∈ own.map (·.2) ∨ i ∈ S'.fx)
    {ρ : Rho} {d : D} {ρ' : Rho} (hm : compM n (own.map (·.2)) mi g mc me ρ = .ok d ρ') {F : Fm} {σ : L2.St} {Hs H : Hp} (rl : Rel (gx X) S F Hs H ρ σ) {Q : VK}
    (q : ∀ v Hs' H', Nxt (gx X) S F ρ σ Hs H ρ' σ Hs' H' → SlotV (gx X) Hs' H' d v → (d.owned = true → ∀ a, v = .ref a → H a = none ∧ ¬ Own ρ' σ a) → Q v H') :
    tLc (WIH X tg iter) (fun x σ H Q => BlkH X scope fun Y => WG Y tg x σ H Q) (fun σ H Q => BlkH X scope fun Y => WTs Y ifs σ H Q) (fun σ H Q => BlkH X scope fun Y => WE Y elt σ H Q) (own.map (·.2)) σ H Q := by
  obtain ⟨ds, ρ1, e1, hm⟩ := Res.bind_ok hm
  split at hm
  · rename_i hn
    obtain ⟨acc, ρ2, e2, hm⟩ := Res.bind_ok hm
    cases hm
    generalize hvs : own.map (·.2) = vs at *
    refine hi.run e1 rl fun J Hs1 H1 n1 fd => fun A hA => ?_
    have hsA : Hs1 A = none := n1.rel.sub.free hA
    have nA := n1.rel.newOwn hA (.lst [])
    have nw : Nxt (gx X) S' F (wipeR ρ1 vs) (wipe σ vs) Hs1 H1 (wipeR ρ1 vs) (wipe σ vs) Hs1 (upd H1 A (.lst [])) := ((n1.rel.wipe hio).sc h1 h2).newOwn hA _
    have hlen : σ.length = n := by rw [← n1.rel.len]; exact hn.1
    refine ⟨fun i k Ht => ∃ ρt Hst ac av, i + k = ds.length ∧ compGo vs g mc me (ds.drop i) ac ρt = .ok acc ρ2 ∧ Same Hs1 Hst ∧ Nxt (gx X) S' F (wipeR ρ1 vs) (wipe σ vs) Hs1 H1 ρt (wipe σ vs) Hst Ht ∧
        Ht A = some (.lst av) ∧ Hst A = none ∧ ¬ Own ρt (wipe σ vs) A ∧ RepL (gx X) Hst ac av ∧ ac.length ≤ i, ⟨ds.length, wipeR ρ1 vs, Hs1, [], [], by simp, e2, .refl _, nw, upd_same, hsA, fun z => n1.rel.notOwn hA (own_wipe z), rfl, by simp⟩, ?_⟩
    rintro i k Ht ⟨ρt, Hst, ac, av, ek, e, sm, nt, htA, hstA, nOA, rac, hac⟩
    by_cases hi' : i < ds.length
    · rw [List.drop_eq_getElem_cons hi'] at e
      obtain ⟨_, ρ3, e3, e⟩ := Res.bind_ok e
      obtain ⟨b, ρ4, e4, e⟩ := Res.bind_ok e
      obtain ⟨go, yl⟩ := fd.1 i _ Hst Ht (List.getElem?_eq_getElem hi') sm nt.rel.sub
      refine .inr ⟨go, fun H' => ∃ ρt Hst ac av, i + 1 + (k - 1) = ds.length ∧ compGo vs g mc me (ds.drop (i + 1)) ac ρt = .ok acc ρ2 ∧ Same Hs1 Hst ∧ Nxt (gx X) S' F (wipeR ρ1 vs) (wipe σ vs) Hs1 H1 ρt (wipe σ vs) Hst H' ∧
        H' A = some (.lst av) ∧ Hst A = none ∧ ¬ Own ρt (wipe σ vs) A ∧ RepL (gx X) Hst ac av ∧ ac.length ≤ i + 1, fun H' h => ⟨k - 1, by omega, h⟩, fun x H3 y s0 H0 C cl fp => ?_⟩
      obtain ⟨Hs3, x3, r3⟩ := yl x H3 y
      have n3' := x3.nxt nt.rel
      have n3 := nt.trans n3'
      obtain ⟨a3, b3, c3⟩ := n3'.tmp htA hstA nOA
      refine (hg s0 H0 C cl fp).run e3 n3.rel r3 fun σ4 Hs4 H4 n4 => ?_
      obtain ⟨a4, b4, c4⟩ := n4.tmp a3 b3 c3
      have wl : σ4.length = (wipe σ vs).length := n4.slen
      have we : wipe σ4 vs = wipe σ vs := by
        refine wipe_ext (by rw [wl, wipe_length]) fun j hj => ?_
        rcases hfx j (by omega) with z | z
        · exact .inl z
        · exact .inr (n4.fix j z)
      refine ⟨we, fun s0 H0 C cl fp => (ht s0 H0 C cl fp).run e4 n4.rel fun Hs5 H5 n5 => ?_⟩
      obtain ⟨a5, b5, c5⟩ := n5.tmp a4 b4 c4
      -- back to the turn's slots
      have back : ∀ {ρ6 : Rho} {Hs6 H6 : Hp}, Nxt (gx X) S' F ρ3 σ4 Hs4 H4 ρ6 σ4 Hs6 H6 → ¬ Own ρ6 σ4 A → Nxt (gx X) S' F (wipeR ρ1 vs) (wipe σ vs) Hs1 H1 (wipeR ρ6 vs) (wipe σ vs) Hs6 H6 ∧ ¬ Own (wipeR ρ6 vs) (wipe σ vs) A := fun {ρ6 Hs6 H6} n6 c6 => by
        have n := (n3.trans n4).trans n6
        refine ⟨⟨by rw [← we]; exact n.rel.wipe (by rw [h2]; exact hio), n.same, n.keep, n.dom, fun b z => n.own b (by rw [← we] at z; exact own_wipe z), n.grow, fun _ _ => rfl, rfl⟩, fun z => c6 (by rw [← we] at z; exact own_wipe z)⟩
      cases b with
      | false =>
        rw [if_neg Bool.false_ne_true]
        obtain ⟨m1, m2⟩ := back n5 c5
        exact ⟨_, Hs5, ac, av, by omega, e, ((sm.trans x3.s).trans n4.same).trans n5.same, m1, a5, b5, m2, RepL.mono ((x3.s.trans n4.same).trans n5.same) _ _ rac, by omega⟩
      | true =>
        rw [if_pos rfl]
        obtain ⟨yd, ρ5, e5, e⟩ := Res.bind_ok e
        refine fun s0 H0 C cl fp => (he s0 H0 C cl fp).run e5 n5.rel fun yv Hs6 H6 n6 r6 => ?_
        obtain ⟨a6, b6, c6⟩ := n6.tmp a5 b5 c5
        obtain ⟨m1, m2⟩ := back (n5.trans n6) c6
        have sm6 : Same Hst Hs6 := ((x3.s.trans n4.same).trans n5.same).trans n6.same
        refine ⟨av, a6, by rw [← rac.length, sizeCap]; omega, _, Hs6, ac ++ [yd], av ++ [yv], by omega, e, sm.trans sm6, m1.tmpWrite hA b6 m2 _, upd_same, b6, m2, (RepL.mono sm6 _ _ rac).append (.cons r6 .nil), by rw [List.length_append, List.length_singleton]; omega⟩
    · have ei : i = ds.length := by omega
      subst ei
      rw [List.drop_length] at e
      cases e
      have nf : Nxt (gx X) S F ρ1 σ Hs1 H1 (wipeR ρ2 vs) σ Hst Ht := by
        refine ⟨(nt.rel.sc h1.symm h2.symm).unwipe hio, nt.same, fun b o h no => nt.keep b o h fun z => no (own_wipe z), nt.dom, fun b z => ?_, fun b h => ?_, fun _ _ => rfl, rfl⟩
        · rcases nt.own b (own_unwipe z) with y | y
          · exact .inl (own_wipe y)
          · exact .inr y
        · rcases nt.grow b h with y | y | y
          · exact .inl y
          · exact .inr (.inl (own_wipe y))
          · exact .inr (.inr y)
      refine .inl ⟨fd.2 Hst Ht sm nt.rel.sub, q _ Hst Ht (n1.trans nf) (.ofOwn ⟨A, av, rfl, hstA, htA, rac⟩ rfl) fun _ a ea => ?_⟩
      cases ea
      exact ⟨n1.unn hA, fun z => nOA (own_unwipe z)⟩
  · cases hm
theorem sim_lcH {pos : Pos} (hc : HotC X) (hN : X.N.Nodup) (hi : SimIH X S tg iter mi) (hg : BlkH X scope fun Y => SimG Y S' tg g) (ht : BlkH X scope fun Y => SimTs Y S' ifs mc) (he : BlkH X scope fun Y => SimV Y S' elt me)
    (hio : ∀ i ∈ own.map (·.2), i ∉ S.io) (hfx : ∀ i, i < n → i ∈ own.map (·.2) ∨ i ∈ S'.fx) (ok : BlkOk X.N X.env.scope scope own) (h1 : S'.os = S.os := by rfl) (h2 : S'.io = S.io := by rfl)
    (hs : ∀ x, foldedSetIterable iter X.env x = pure x := by intro _; rfl) : SimE X S (.ListComp elt [⟨tg, iter, ifs, 0⟩] scope pos) (compM n (own.map (·.2)) mi g mc me) := by
  refine ⟨fun {ρ d ρ'} hm {F σ Hs H} rl {Q} q => ?_⟩
  refine ⟨_, pe_lcH hc hN (piWH tg iter) ok (fun s H C cl fp => ⟨fun pins s' σ H' v u Q I r h => ?_⟩) (fun s H C cl fp => ⟨fun pins s' σ H' Q I h => ?_⟩) (fun s H C cl fp => ⟨fun pins s' σ H' Q I h => ?_⟩) hs, lc_readH hi hg ht he h1 h2 hio hfx hm rl q⟩
  · obtain ⟨t, h3, h4⟩ := h s H C cl fp
    exact h3.run pins s' σ H' v u Q I r h4
  · obtain ⟨t, h3, h4⟩ := h s H C cl fp
    exact h3.run pins s' σ H' Q I h4
  · obtain ⟨t, h3, h4⟩ := h s H C cl fp
    exact h3.run pins s' σ H' Q I h4
/-- y = [..] on one line -/
theorem sim_setLcH (i : Nat) {y : Str} {py pos spos : Pos} (hc : HotC X) (hN : X.N.Nodup) (hi : SimIH X S tg iter mi) (hg : BlkH X scope fun Y => SimG Y S' tg g) (ht : BlkH X scope fun Y => SimTs Y S' ifs mc) (he : BlkH X scope fun Y => SimV Y S' elt me)
    (hio : ∀ i ∈ own.map (·.2), i ∉ S.io) (hfx : ∀ i, i < n → i ∈ own.map (·.2) ∨ i ∈ S'.fx) (ok : BlkOk X.N X.env.scope scope own) (hos : i ∈ S.os) (hyio : i ∉ S.io) (hyfx : i ∉ S.fx) (hy : X.N[i]? = some y) (hyl : X.env.scope.names.lookup y = some .local)
    (hsw : swapsWith (.ListComp elt [⟨tg, iter, ifs, 0⟩] scope pos) (some (.Name y py)) spos.line X.env = pure true) (h1 : S'.os = S.os := by rfl) (h2 : S'.io = S.io := by rfl)
    (hs : ∀ x, foldedSetIterable iter X.env x = pure x := by intro _; rfl) : SimS X S (.Assign [.Name y py] (.ListComp elt [⟨tg, iter, ifs, 0⟩] scope pos) spos) (setM i (compM n (own.map (·.2)) mi g mc me)) := by
  refine ⟨fun {ρ f ρ'} hm {F σ Hs H} rl {E} q => ?_⟩
  obtain ⟨d, ρ1, e1, e2⟩ := Res.bind_ok hm
  cases e2
  refine ⟨_, ps_setLcH hc hN hy hyl hsw (piWH tg iter) ok (fun s H C cl fp => ⟨fun pins s' σ H' v u Q I r h => ?_⟩) (fun s H C cl fp => ⟨fun pins s' σ H' Q I h => ?_⟩) (fun s H C cl fp => ⟨fun pins s' σ H' Q I h => ?_⟩) hs,
    lc_readH hi hg ht he h1 h2 hio hfx e1 rl fun v Hs' H' n sv fr => q _ Hs' H' (n.assign rl hyio hyfx sv fun o => ⟨hos, fr o⟩)⟩
  · obtain ⟨t, h3, h4⟩ := h s H C cl fp
    exact h3.run pins s' σ H' v u Q I r h4
  · obtain ⟨t, h3, h4⟩ := h s H C cl fp
    exact h3.run pins s' σ H' Q I h4
  · obtain ⟨t, h3, h4⟩ := h s H C cl fp
    exact h3.run pins s' σ H' Q I h4
/-- .. shared at once -/
theorem sim_setLcHV (i : Nat) {y : Str} {py pos spos : Pos} (hc : HotC X) (hN : X.N.Nodup) (hi : SimIH X S tg iter mi) (hg : BlkH X scope fun Y => SimG Y S' tg g) (ht : BlkH X scope fun Y => SimTs Y S' ifs mc) (he : BlkH X scope fun Y => SimV Y S' elt me)
    (hio : ∀ i ∈ own.map (·.2), i ∉ S.io) (hfx : ∀ i, i < n → i ∈ own.map (·.2) ∨ i ∈ S'.fx) (ok : BlkOk X.N X.env.scope scope own) (hyio : i ∉ S.io) (hyfx : i ∉ S.fx) (hy : X.N[i]? = some y) (hyl : X.env.scope.names.lookup y = some .local)
    (hsw : swapsWith (.ListComp elt [⟨tg, iter, ifs, 0⟩] scope pos) (some (.Name y py)) spos.line X.env = pure true) (h1 : S'.os = S.os := by rfl) (h2 : S'.io = S.io := by rfl)
    (hs : ∀ x, foldedSetIterable iter X.env x = pure x := by intro _; rfl) : SimS X S (.Assign [.Name y py] (.ListComp elt [⟨tg, iter, ifs, 0⟩] scope pos) spos) (setM i (shM (compM n (own.map (·.2)) mi g mc me))) := by
  refine ⟨fun {ρ f ρ'} hm {F σ Hs H} rl {E} q => ?_⟩
  obtain ⟨d, ρ1, e1, e2⟩ := Res.bind_ok hm
  cases e2
  obtain ⟨d0, ρ2, e0, e3⟩ := Res.bind_ok e1
  cases e3
  refine ⟨_, ps_setLcH hc hN hy hyl hsw (piWH tg iter) ok (fun s H C cl fp => ⟨fun pins s' σ H' v u Q I r h => ?_⟩) (fun s H C cl fp => ⟨fun pins s' σ H' Q I h => ?_⟩) (fun s H C cl fp => ⟨fun pins s' σ H' Q I h => ?_⟩) hs,
    lc_readH hi hg ht he h1 h2 hio hfx e0 rl fun v Hs' H' n sv fr => ?_⟩
  · obtain ⟨t, h3, h4⟩ := h s H C cl fp
    exact h3.run pins s' σ H' v u Q I r h4
  · obtain ⟨t, h3, h4⟩ := h s H C cl fp
    exact h3.run pins s' σ H' Q I h4
  · obtain ⟨t, h3, h4⟩ := h s H C cl fp
    exact h3.run pins s' σ H' Q I h4
  · obtain ⟨Hs2, n2, r2⟩ := n.share sv fr
    exact q _ Hs2 H' (n2.assign rl hyio hyfx (.of r2) fun o => by rw [r2.owned] at o; cases o)
end
section
variable {X : Cx} {S : Sc} {e : Expr} {es : List Expr} {mes : AM} {pos p : Pos} {x : Str}
theorem sim_callH {k np n : Nat} {S' : Sc} {g : Addr} {gd : FuncData} {ps : List Str} {f : Fn} (G : L2H.FnH X.prog X.w X.K X.mg X.base CX0 k g gd ps (spF (gx X) S' np n f)) (hot : HotC X) (hr : L2H.RoomH k X.A) (hm : X.mg x = some (.ref g)) (hk : PySem.W.keepIn X.K (.ref g) = true) (hb : Binds X.K gd ps [])
    (hl : (e :: es).length = np) (hio : S'.io = []) (ha : SimA X S (e :: es) mes) (hg : Gl X x := by rfl) (hdb : (x == ("__debug__" : Str)) = false := by decide) (he : starEach (e :: es) X.env = (false, eval e X.env) :: starEach es X.env := by rfl) (hpl : (backTo pos (starEach es X.env)).any (·.1) = false := by rfl)
    (hla : ∀ {ρ ρ' : Rho} {ds : List D}, mes ρ = .ok ds ρ' → ds.length = (e :: es).length) : SimE X S (.Call (.Name x p) (e :: es) [] pos) (callF f mes) := by
  refine ⟨fun {ρ d ρ'} hm' {F σ Hs H} rl {Q} q => ?_⟩
  obtain ⟨ds, ρ1, e1, e2⟩ := Res.bind_ok hm'
  split at e2
  · rename_i d' fs hf
    cases e2
    refine ⟨_, L2H.pe_callH (E := fun _ => E0) G hr hot hg hm hk hb (fun σ pins H s e s' I c => c.elim) (paW (e :: es)) hdb he hpl, ha.run e1 rl fun vs Hs1 H1 n1 r1 => ?_⟩
    refine ⟨by rw [← r1.length, hla e1, hl], ds, d, fs, Hs1, hf, rel_sh n1.rel.sub r1, fun v σ' Hs2 H2 ρ2 n2 rv _ => ?_⟩
    have g : Nxt (gx X) S F ρ' σ Hs1 H1 ρ' σ Hs2 H2 := by
      refine n1.rel.grow n2.same (fun b o h => n2.keep b o h (noOwn_sh r1)) n2.rel.sub fun b h => ?_
      rcases n2.grow b h with z | z | z
      · exact .inl z
      · exact absurd z (noOwn_sh r1)
      · exact .inr z
    refine q v Hs2 H2 (n1.trans g) rv.1 fun o a ea => ?_
    have h0 := (rv.2 o a ea).1
    exact ⟨n1.unn h0, n1.rel.notOwn h0⟩
  · cases e2
end
section
variable {X : Cx} {S : Sc} {e : Expr} {es : List Expr} {mes : Rho → Res (List PD)} {pos p : Pos} {x : Str}
theorem sim_callIOH {k np n : Nat} {S' : Sc} {g : Addr} {gd : FuncData} {ps : List Str} {f : Fn} (tgt : List (Nat × Nat)) (G : L2H.FnH X.prog X.w X.K X.mg X.base CX0 k g gd ps (spF (gx X) S' np n f)) (hot : HotC X) (hr : L2H.RoomH k X.A) (hm : X.mg x = some (.ref g)) (hk : PySem.W.keepIn X.K (.ref g) = true) (hb : Binds X.K gd ps [])
    (hl : (e :: es).length = np) (ha : SimPA X S (e :: es) mes) (hio : S'.io = tgt.map (·.1) := by rfl) (hio2 : ∀ i ∈ S'.io, i ∈ S'.os := by first | decide | exact of_decide_eq_true rfl) (hnd1 : (tgt.map (·.1)).Nodup := by decide) (hnd : (tgt.map (·.2)).Nodup := by decide) (hso : ∀ i ∈ tgt.map (·.2), i ∈ S.os := by first | decide | exact of_decide_eq_true rfl) (hlen : ∀ i ∈ tgt.map (·.1), i < (e :: es).length := by decide)
    (hg : Gl X x := by rfl) (hdb : (x == ("__debug__" : Str)) = false := by decide) (he : starEach (e :: es) X.env = (false, eval e X.env) :: starEach es X.env := by rfl) (hpl : (backTo pos (starEach es X.env)).any (·.1) = false := by rfl)
    (hla : ∀ {ρ ρ' : Rho} {ds : List PD}, mes ρ = .ok ds ρ' → ds.length = (e :: es).length) : SimE X S (.Call (.Name x p) (e :: es) [] pos) (callIO f tgt mes) := by
  refine ⟨fun {ρ d ρ'} hm' {F σ Hs H} rl {Q} q => ?_⟩
  obtain ⟨psd, ρ1, e1, e2⟩ := Res.bind_ok hm'
  split at e2
  · rename_i ds hds
    split at e2
    · rename_i ok
      split at e2
      · rename_i d' fs hf
        cases e2
        refine ⟨_, L2H.pe_callH (E := fun _ => E0) G hr hot hg hm hk hb (fun σ pins H s e s' I c => c.elim) (paW (e :: es)) hdb he hpl, ha.run e1 rl fun vs Hs1 H1 n1 r1 => ?_⟩
        have hdl : ds.length = (e :: es).length := by rw [← resL_len hds, hla e1]
        refine ⟨by rw [← Paired.length r1, hla e1, hl], ds, d, fs, Hs1, hf, rel_io n1.rel r1 hds ok hio hio2 hnd, fun v σ' Hs2 H2 ρ2 n2 rv hlf => ?_⟩
        obtain ⟨g1, g2⟩ := Nxt.io n1.rel r1 hds ok hio hnd1 hnd hso (by rw [hdl]; exact hlen) n2 hlf
        refine q v Hs2 H2 (n1.trans g1) rv.1 fun o a ea => ?_
        have h0 := (rv.2 o a ea).1
        exact ⟨n1.unn h0, fun z => n1.rel.notOwn h0 (g2 a z)⟩
      · cases e2
    · cases e2
  · cases e2
end

/-! ### max and min of two numbers there -/
section
variable {prog : Program} {w : World} {A : Around}
theorem walks_tupH {x1 I ax : Addr} (hh : A.handled = some (.ref x1)) (ne : ax ≠ I) (nx : x1 ≠ I) (items : Array Value) :
    Walks prog w A I [I, ax, x1] [I] items.size (fun i v => items[i]? = some v) (fun i h => (h.IsTupleIter I ax i ∧ h.IsTuple ax items) ∧ ∃ (o : Obj) (vs : Array Value), h.get? x1 = some o ∧ o.data = .fields vs ∧ vs[2]? = some .none) where
  sub := fun b hb => List.mem_cons.mpr (.inl (List.mem_singleton.mp hb))
  frame := fun i h h' st k => by
    obtain ⟨⟨⟨o1, e1, r1⟩, o2, e2, r2⟩, o3, vs, e3, r3⟩ := st
    exact ⟨⟨⟨o1, k _ (by simp) _ e1, r1⟩, o2, k _ (by simp) _ e2, r2⟩, o3, vs, k _ (by simp) _ e3, r3⟩
  item := fun i s Q E hi st q => by
    obtain ⟨⟨st1, o2, e2, r2⟩, o3, vs, e3, r3⟩ := st
    have ei : items[i]? = some items[i] := by simp [hi]
    refine wpAny_pyNext_tuple_item st1 ⟨o2, e2, r2⟩ ei fun h' st' same => q _ h' s.toks ei ⟨⟨st', o2, (same.2 ax ne).trans e2, r2⟩, o3, vs, (same.2 x1 nx).trans e3, r3⟩ fun b o hb e => (same.2 b fun z => hb (z ▸ List.mem_singleton.mpr rfl)).trans e
  done := fun s Q E st q => by
    obtain ⟨⟨st1, st2⟩, o3, vs, e3, r3, r4⟩ := st
    exact tuple_stop ⟨hh, o3, vs, e3, r3, r4⟩ nx st1 st2 (by simp) fun h' old => q h' s.toks fun b o hb e => old b o (fun z => hb (z ▸ List.mem_singleton.mpr rfl)) e
  self := fun i s Q E st q => wpAny_pyIter_tupleiter st.1.1 q
end
section
variable {X : Cx}
theorem call_max2H (hc : HotC X) : CallR X (.builtin "max") (fun xs H Q => ∃ i j, xs = [.int i, .int j] ∧ Q (.int (if j > i then j else i)) H) := by
  intro pins s σ H xs us Q I r ⟨i, j, ex, q⟩
  subst ex
  obtain ⟨_, _, rfl, ⟨t, rfl⟩, ⟨t', rfl⟩⟩ := vals2 r
  obtain ⟨x1, hot⟩ := hc.at I
  have h2 := hot_push (o := { cls := .type "tuple_iterator", data := .fields #[.ref s.heap.objs.size, .int 0 0] }) (hot_push (o := { cls := .type "tuple", data := .seq #[.int i t, .int j t'] }) hot)
  obtain ⟨hh, o1, v1, e1, d1, c1⟩ := id hot
  have lt1 := Heap.lt_size e1
  have two : (s.heap.push { cls := .type "tuple", data := .seq #[.int i t, .int j t'] }).IsTuple s.heap.objs.size (intItems #[(i, t), (j, t')]) := ⟨_, Heap.get?_push_size _ rfl, rfl, 0, by simp [intItems]⟩
  refine call_max_two (wpAny_pyIter_tuple two ⟨_, [_, s.heap.objs.size, x1], [_], _, _, _, _, rfl, walks_tupH (A := X.A.in1) hh (by rw [Heap.size_push]; exact Nat.ne_of_lt (Nat.lt_succ_self _)) (by rw [Heap.size_push]; exact Nat.ne_of_lt (Nat.lt_succ_of_lt lt1)) _, ⟨⟨⟨_, Heap.get?_push_size _ rfl, rfl, rfl⟩, two.push _⟩, h2.2⟩, fun b hb => ?_, by simp [intItems], CmpOf.ints_gt (numAt #[(i, t), (j, t')]) (fun _ _ => intItems_at), fun v h' tk hP old => ?_⟩)
  · show b < ((s.heap.push _).push _).objs.size
    rw [Heap.size_push, Heap.size_push]
    rcases List.mem_cons.mp hb with z | hb
    · rw [z, Heap.size_push]
      exact Nat.lt_succ_self _
    rcases List.mem_cons.mp hb with z | hb
    · rw [z]
      exact Nat.lt_succ_of_lt (Nat.lt_succ_self _)
    · rw [List.mem_singleton.mp hb]
      exact Nat.lt_succ_of_lt (Nat.lt_succ_of_lt lt1)
  · refine ⟨.int (if j > i then j else i), H, I.kept fun b o e => old b o (fun z => ?_) (Heap.get?_push_of_some _ (Heap.get?_push_of_some _ e)), ?_, q⟩
    · have z := List.mem_singleton.mp z
      rw [Heap.size_push] at z
      exact absurd (z ▸ Heap.lt_size e : s.heap.objs.size + 1 < s.heap.objs.size) (by omega)
    · have hP : (intItems #[(i, t), (j, t')])[argBest (fun a b => decide (numAt #[(i, t), (j, t')] a > numAt #[(i, t), (j, t')] b)) 1]? = some v := by simpa [intItems] using hP
      by_cases c : j > i
      · have at1 : argBest (fun a b => decide (numAt #[(i, t), (j, t')] a > numAt #[(i, t), (j, t')] b)) 1 = 1 := by simp [argBest, numAt, c]
        rw [at1] at hP
        rw [if_pos c]
        exact ⟨t', by simpa [intItems] using hP.symm⟩
      · have at0 : argBest (fun a b => decide (numAt #[(i, t), (j, t')] a > numAt #[(i, t), (j, t')] b)) 1 = 0 := by simp [argBest, numAt, c]
        rw [at0] at hP
        rw [if_neg c]
        exact ⟨t, by simpa [intItems] using hP.symm⟩
theorem cv_maxH (hc : HotC X) : CallV X (.builtin "max") maxD := by
  intro ds d e Hs H vs Q s r q
  unfold maxD at e
  split at e
  · cases e
    cases r with
    | cons p1 r =>
      cases r with
      | cons p2 r =>
        cases r
        rw [p1.int, p2.int]
        exact ⟨_, call_max2H hc, _, _, rfl, q _ Hs H (.refl s) rfl⟩
  · cases e
theorem call_min2H (hc : HotC X) : CallR X (.builtin "min") (fun xs H Q => ∃ i j, xs = [.int i, .int j] ∧ Q (.int (if j < i then j else i)) H) := by
  intro pins s σ H xs us Q I r ⟨i, j, ex, q⟩
  subst ex
  obtain ⟨_, _, rfl, ⟨t, rfl⟩, ⟨t', rfl⟩⟩ := vals2 r
  obtain ⟨x1, hot⟩ := hc.at I
  have h2 := hot_push (o := { cls := .type "tuple_iterator", data := .fields #[.ref s.heap.objs.size, .int 0 0] }) (hot_push (o := { cls := .type "tuple", data := .seq #[.int i t, .int j t'] }) hot)
  obtain ⟨hh, o1, v1, e1, d1, c1⟩ := id hot
  have lt1 := Heap.lt_size e1
  have two : (s.heap.push { cls := .type "tuple", data := .seq #[.int i t, .int j t'] }).IsTuple s.heap.objs.size (intItems #[(i, t), (j, t')]) := ⟨_, Heap.get?_push_size _ rfl, rfl, 0, by simp [intItems]⟩
  refine call_min_two (wpAny_pyIter_tuple two ⟨_, [_, s.heap.objs.size, x1], [_], _, _, _, _, rfl, walks_tupH (A := X.A.in1) hh (by rw [Heap.size_push]; exact Nat.ne_of_lt (Nat.lt_succ_self _)) (by rw [Heap.size_push]; exact Nat.ne_of_lt (Nat.lt_succ_of_lt lt1)) _, ⟨⟨⟨_, Heap.get?_push_size _ rfl, rfl, rfl⟩, two.push _⟩, h2.2⟩, fun b hb => ?_, by simp [intItems], CmpOf.ints_lt (numAt #[(i, t), (j, t')]) (fun _ _ => intItems_at), fun v h' tk hP old => ?_⟩)
  · show b < ((s.heap.push _).push _).objs.size
    rw [Heap.size_push, Heap.size_push]
    rcases List.mem_cons.mp hb with z | hb
    · rw [z, Heap.size_push]
      exact Nat.lt_succ_self _
    rcases List.mem_cons.mp hb with z | hb
    · rw [z]
      exact Nat.lt_succ_of_lt (Nat.lt_succ_self _)
    · rw [List.mem_singleton.mp hb]
      exact Nat.lt_succ_of_lt (Nat.lt_succ_of_lt lt1)
  · refine ⟨.int (if j < i then j else i), H, I.kept fun b o e => old b o (fun z => ?_) (Heap.get?_push_of_some _ (Heap.get?_push_of_some _ e)), ?_, q⟩
    · have z := List.mem_singleton.mp z
      rw [Heap.size_push] at z
      exact absurd (z ▸ Heap.lt_size e : s.heap.objs.size + 1 < s.heap.objs.size) (by omega)
    · have hP : (intItems #[(i, t), (j, t')])[argBest (fun a b => decide (numAt #[(i, t), (j, t')] a < numAt #[(i, t), (j, t')] b)) 1]? = some v := by simpa [intItems] using hP
      by_cases c : j < i
      · have at1 : argBest (fun a b => decide (numAt #[(i, t), (j, t')] a < numAt #[(i, t), (j, t')] b)) 1 = 1 := by simp [argBest, numAt, c]
        rw [at1] at hP
        rw [if_pos c]
        exact ⟨t', by simpa [intItems] using hP.symm⟩
      · have at0 : argBest (fun a b => decide (numAt #[(i, t), (j, t')] a < numAt #[(i, t), (j, t')] b)) 1 = 0 := by simp [argBest, numAt, c]
        rw [at0] at hP
        rw [if_neg c]
        exact ⟨t, by simpa [intItems] using hP.symm⟩
theorem cv_minH (hc : HotC X) : CallV X (.builtin "min") minD := by
  intro ds d e Hs H vs Q s r q
  unfold minD at e
  split at e
  · cases e
    cases r with
    | cons p1 r =>
      cases r with
      | cons p2 r =>
        cases r
        rw [p1.int, p2.int]
        exact ⟨_, call_min2H hc, _, _, rfl, q _ Hs H (.refl s) rfl⟩
  · cases e
end
end Sim

/-! Sim, part 39: repr of None. -/
namespace Sim
open PySem PySem.Spec PyProof.Rows L2
def reprND : List D → Option D
  | [.non] => some (.str "None")
  | ds => reprD ds
theorem cv_reprN {X : Cx} (hg : X.A.guards = some []) (hu : X.A.units + 65 < cLine) : CallV X (.builtin "repr") reprND := by
  intro ds d e Hs H vs Q s r q
  unfold reprND at e
  split at e
  · cases e
    cases r with
    | cons r1 rs =>
      cases rs
      rename_i v
      have hv : v = V.non := SlotV.rep r1 rfl
      subst hv
      refine ⟨fun xs H Q => xs = [V.non] ∧ Q (.str "None") H, ?_, rfl, q _ Hs H (.refl s) rfl⟩
      rintro pins s1 σ H1 xs us Q1 I rr ⟨rfl, q1⟩
      obtain ⟨u, rfl, t⟩ := vals1 rr
      cases (show u = Value.none from t)
      exact P.repr_of_none ⟨.str _, H1, I.tok _, ⟨_, rfl⟩, q1⟩
  · exact cv_repr hg hu e s r q
end Sim

/-! Sim, part 40: calls whose arguments may raise. -/
namespace Sim
open PySem PySem.Spec PyProof.Rows L2

inductive RA where
  | ok (ds : List D) | ex (x : D)
abbrev AX := Rho → Res RA
structure SimXA (X : Cx) (S : Sc) (es : List Expr) (m : AX) : Prop where
  run : ∀ {ρ : Rho} {r : RA} {ρ' : Rho}, m ρ = .ok r ρ' → ∀ {F : Fm} {σ : L2.St} {Hs H : Hp}, Rel (gx X) S F Hs H ρ σ → ∀ {Q : List V → Hp → Prop},
    (match r with
      | .ok ds => ∀ vs Hs' H', Nxt (gx X) S F ρ σ Hs H ρ' σ Hs' H' → RepL (gx X) Hs' ds vs → Q vs H'
      | .ex x => ∀ Hs' H', Nxt (gx X) S F ρ σ Hs H ρ' σ Hs' H' → S.xw x σ H') → WA X es σ H Q
/-- an expression that does not raise -/
def okX (m : EM) : Rho → Res RX := fun ρ => (m ρ).bind fun d ρ1 => .ok (.ok d) ρ1
def nilX : AX := fun ρ => .ok (.ok []) ρ
def consX (m : Rho → Res RX) (n : AX) : AX := fun ρ => (m ρ).bind fun r ρ1 => match r with
  | .ok d => (n ρ1).bind fun r2 ρ2 => match r2 with
    | .ok ds => .ok (.ok (d.frz :: ds)) ρ2
    | .ex x => .ok (.ex x) ρ2
  | .ex x => .ok (.ex x) ρ1
/-- a def that does not raise itself -/
def callFX (f : Fn) (m : AX) : Rho → Res RX := fun ρ => (m ρ).bind fun r ρ1 => match r with
  | .ok ds => match f ds with
    | some (d, _) => .ok (.ok d) ρ1
    | none => .fail
  | .ex x => .ok (.ex x) ρ1
def callXX (f : FnX) (m : AX) : Rho → Res RX := fun ρ => (m ρ).bind fun r ρ1 => match r with
  | .ok ds => match f ds with
    | some r => .ok r ρ1
    | none => .fail
  | .ex x => .ok (.ex x) ρ1
def callBX (f : List D → Option D) (m : AX) : Rho → Res RX := fun ρ => (m ρ).bind fun r ρ1 => match r with
  | .ok ds => match f ds with
    | some d => .ok (.ok d) ρ1
    | none => .fail
  | .ex x => .ok (.ex x) ρ1
section
variable {X : Cx} {S : Sc} {e a : Expr} {es : List Expr} {me : EM} {mx : Rho → Res RX} {mes : AX} {pos p p0 : Pos} {x : Str}
theorem SimE.toX (h : SimE X S e me) : SimX X S e (okX me) := by
  refine ⟨fun {ρ r ρ'} hm {F σ Hs H} rl {Q} q => ?_⟩
  obtain ⟨d, ρ1, e1, e2⟩ := Res.bind_ok hm
  cases e2
  exact h.run e1 rl q
theorem SimV.toX (h : SimV X S e me) : SimX X S e (okX me) := h.e.toX
theorem sim_nilX : SimXA X S [] nilX := by
  refine ⟨fun {ρ r ρ'} hm {F σ Hs H} rl {Q} q => ?_⟩
  cases hm
  exact ⟨_, pa_nil, q [] Hs H (.refl rl) .nil⟩
theorem sim_consX (h : SimX X S a mx) (h2 : SimXA X S es mes) (he : starEach (a :: es) X.env = (false, eval a X.env) :: starEach es X.env := by rfl) : SimXA X S (a :: es) (consX mx mes) := by
  refine ⟨fun {ρ r ρ'} hm {F σ Hs H} rl {Q} q => ?_⟩
  obtain ⟨r1, ρ1, e1, hm⟩ := Res.bind_ok hm
  refine ⟨_, pa_cons (peW a) (paW es) he, h.run e1 rl ?_⟩
  cases r1 with
  | ex y => cases hm; exact q
  | ok d =>
    obtain ⟨r2, ρ2, e2, hm⟩ := Res.bind_ok hm
    intro v Hs1 H1 n1 sv fr
    obtain ⟨Hs2, n2, rv⟩ := n1.share sv fr
    refine h2.run e2 n2.rel ?_
    cases r2 with
    | ex y => cases hm; exact fun Hs3 H3 n3 => q Hs3 H3 (n2.trans n3)
    | ok ds => cases hm; exact fun vs Hs3 H3 n3 rs => q _ Hs3 H3 (n2.trans n3) (.cons (Rep.mono n3.same _ _ rv) rs)
theorem callFX_ok {f : Fn} {ρ ρ' : Rho} {r : RX} (h : callFX f mes ρ = .ok r ρ') : (∃ ds d fs, mes ρ = .ok (.ok ds) ρ' ∧ f ds = some (d, fs) ∧ r = .ok d) ∨ ∃ x, mes ρ = .ok (.ex x) ρ' ∧ r = .ex x := by
  obtain ⟨r1, ρ1, e1, h⟩ := Res.bind_ok h
  cases r1 with
  | ex x => cases h; exact .inr ⟨x, e1, rfl⟩
  | ok ds =>
    cases hf : f ds with
    | none => simp only [hf] at h; cases h
    | some q => simp only [hf] at h; cases h; exact .inl ⟨ds, q.1, q.2, e1, hf, rfl⟩
theorem sim_callFX {k np n : Nat} {S' : Sc} {g : Addr} {gd : FuncData} {ps : List Str} {f : Fn} (G : FnOk X.prog X.w X.K X.mg X.base CX0 k g gd ps (spF (gx X) S' np n f)) (hr : Room k X.A) (hm : X.mg x = some (.ref g)) (hk : PySem.W.keepIn X.K (.ref g) = true) (hb : Binds X.K gd ps [])
    (hl : (e :: es).length = np) (hio : S'.io = []) (ha : SimXA X S (e :: es) mes) (hg : Gl X x := by rfl) (hdb : (x == ("__debug__" : Str)) = false := by decide) (he : starEach (e :: es) X.env = (false, eval e X.env) :: starEach es X.env := by rfl) (hpl : (backTo pos (starEach es X.env)).any (·.1) = false := by rfl)
    (hla : ∀ {ρ ρ' : Rho} {ds : List D}, mes ρ = .ok (.ok ds) ρ' → ds.length = (e :: es).length) : SimX X S (.Call (.Name x p) (e :: es) [] pos) (callFX f mes) := by
  refine ⟨fun {ρ r ρ'} hm' {F σ Hs H} rl {Q} q => ?_⟩
  rcases callFX_ok hm' with ⟨ds, d, fs, e1, hf, rfl⟩ | ⟨y, e1, rfl⟩
  · refine ⟨_, pe_call G hr hg hm hk hb .nil pass0 (paW (e :: es)) hdb he hpl, ha.run e1 rl fun vs Hs1 H1 n1 r1 => ?_⟩
    have len := (r1.length).symm.trans (hla e1)
    have flat : spF (gx X) S' np n f vs H1 Q E0 := by
      refine ⟨len.trans hl, ds, d, fs, Hs1, hf, rel_sh n1.rel.sub r1, fun v σ' Hs2 H2 ρ2 n2 rv _ => ?_⟩
      have g : Nxt (gx X) S F ρ' σ Hs1 H1 ρ' σ Hs2 H2 := n1.rel.grow n2.same (fun b o h => n2.keep b o h (noOwn_sh r1)) n2.rel.sub fun b h => (n2.grow b h).imp id fun z => z.elim (fun z => absurd z (noOwn_sh r1)) id
      exact q v Hs2 H2 (n1.trans g) rv.1 fun o a ea => ⟨n1.unn (rv.2 o a ea).1, n1.rel.notOwn (rv.2 o a ea).1⟩
    exact (List.append_nil vs).symm ▸ flat
  · exact ⟨_, pe_call G hr hg hm hk hb .nil pass0 (paW (e :: es)) hdb he hpl, ha.run e1 rl q⟩
theorem callXX_ok {f : FnX} {ρ ρ' : Rho} {r : RX} (h : callXX f mes ρ = .ok r ρ') : (∃ ds, mes ρ = .ok (.ok ds) ρ' ∧ f ds = some r) ∨ ∃ x, mes ρ = .ok (.ex x) ρ' ∧ r = .ex x := by
  obtain ⟨r1, ρ1, e1, h⟩ := Res.bind_ok h
  cases r1 with
  | ex x => cases h; exact .inr ⟨x, e1, rfl⟩
  | ok ds =>
    cases hf : f ds with
    | none => simp only [hf] at h; cases h
    | some q => simp only [hf] at h; cases h; exact .inl ⟨ds, e1, hf⟩
theorem sim_callXX {cm : CM} {k np n : Nat} {S' : Sc} {g : Addr} {gd : FuncData} {ps : List Str} {f : FnX} (G : FnOk X.prog X.w X.K X.mg X.base (L2N.CX X.prog X.w) k g gd ps (spX cm (gx X) S' np n f)) (tk : L2N.Takes X (wOf cm S.xw)) (hr : Room k X.A) (hm : X.mg x = some (.ref g)) (hk : PySem.W.keepIn X.K (.ref g) = true) (hb : Binds X.K gd ps [])
    (hl : (e :: es).length = np) (ha : SimXA X S (e :: es) mes) (hg : Gl X x := by rfl) (hdb : (x == ("__debug__" : Str)) = false := by decide) (he : starEach (e :: es) X.env = (false, eval e X.env) :: starEach es X.env := by rfl) (hpl : (backTo pos (starEach es X.env)).any (·.1) = false := by rfl)
    (hla : ∀ {ρ ρ' : Rho} {ds : List D}, mes ρ = .ok (.ok ds) ρ' → ds.length = (e :: es).length) : SimX X S (.Call (.Name x p) (e :: es) [] pos) (callXX f mes) := by
  refine ⟨fun {ρ r ρ'} hm' {F σ Hs H} rl {Q} q => ?_⟩
  rcases callXX_ok hm' with ⟨ds, e1, hf⟩ | ⟨y, e1, rfl⟩
  · refine ⟨_, pe_callS (E := L2.WE (wOf cm S.xw)) G hr hg hm hk hb (fun σ => L2N.passAt tk σ) (paW (e :: es)) hdb he hpl, ha.run e1 rl fun vs Hs1 H1 n1 r1 => ?_⟩
    have g : ∀ {ρ2 : Rho} {σ' : L2.St} {Hs2 H2 : Hp}, Nxt (gx X) S' ⟨H1, padV n vs⟩ (pad n ds) (padV n vs) Hs1 H1 ρ2 σ' Hs2 H2 → Nxt (gx X) S F ρ' σ Hs1 H1 ρ' σ Hs2 H2 := fun n2 =>
      n1.rel.grow n2.same (fun b o h => n2.keep b o h (noOwn_sh r1)) n2.rel.sub fun b h => (n2.grow b h).imp id fun z => z.elim (fun z => absurd z (noOwn_sh r1)) id
    refine ⟨((r1.length).symm.trans (hla e1)).trans hl, ds, r, Hs1, hf, rel_sh n1.rel.sub r1, ?_⟩
    cases r with
    | ok d => exact fun v σ' Hs2 H2 ρ2 n2 rv => q v Hs2 H2 (n1.trans (g n2)) rv.1 fun o a ea => ⟨n1.unn (rv.2 o a ea).1, n1.rel.notOwn (rv.2 o a ea).1⟩
    | ex y => exact fun σ' Hs2 H2 ρ2 n2 cls d er => ⟨y, er, q Hs2 H2 (n1.trans (g n2))⟩
  · exact ⟨_, pe_callS (E := L2.WE (wOf cm S.xw)) G hr hg hm hk hb (fun σ => L2N.passAt tk σ) (paW (e :: es)) hdb he hpl, ha.run e1 rl q⟩
theorem callBX_ok {f : List D → Option D} {ρ ρ' : Rho} {r : RX} (h : callBX f mes ρ = .ok r ρ') : (∃ ds d, mes ρ = .ok (.ok ds) ρ' ∧ f ds = some d ∧ r = .ok d) ∨ ∃ x, mes ρ = .ok (.ex x) ρ' ∧ r = .ex x := by
  obtain ⟨r1, ρ1, e1, h⟩ := Res.bind_ok h
  cases r1 with
  | ex x => cases h; exact .inr ⟨x, e1, rfl⟩
  | ok ds =>
    cases hf : f ds with
    | none => simp only [hf] at h; cases h
    | some q => simp only [hf] at h; cases h; exact .inl ⟨ds, q, e1, hf, rfl⟩
theorem reps_slots {G : Gx} {Hs H : Hp} : ∀ {ds : List D} {vs : List V}, RepL G Hs ds vs → Paired (SlotV G Hs H) ds vs
  | [], _, h => by cases h; exact .nil
  | d :: ds, _, h => by
    obtain ⟨v, r, rfl, h1, h2⟩ := h
    exact .cons (.of h1) (reps_slots h2)
theorem sim_callBX {id : String} {f : List D → Option D} (hf : CallS X (.builtin id) f) (hg : Gl X x) (hm : X.mg x = none) (hv : bootBuiltins x = some (.builtin id)) (ha : SimXA X S (e :: es) mes) (hn : x ≠ "__name__" := by decide) (hdb : (x == ("__debug__" : Str)) = false := by decide)
    (he : starEach (e :: es) X.env = (false, eval e X.env) :: starEach es X.env := by rfl) (hpl : (backTo pos (starEach es X.env)).any (·.1) = false := by rfl) : SimX X S (.Call (.Name x p0) (e :: es) [] pos) (callBX f mes) := by
  refine ⟨fun {ρ r ρ'} h {F σ Hs H} rl {Q} q => ?_⟩
  rcases callBX_ok h with ⟨ds, d, e1, e3, rfl⟩ | ⟨y, e1, rfl⟩
  · exact ⟨_, pe_callB (callW _) hg hm hv (paW (e :: es)) hn hdb he hpl, ha.run e1 rl fun vs Hs' H' n r => hf e3 n.rel.sub (reps_slots r) fun w Hs2 H2 x2 sw fr => q w Hs2 H2 (n.trans (x2.nxt n.rel)) sw fun o a ea => ⟨n.unn (fr o a ea), n.rel.notOwn (fr o a ea)⟩⟩
  · exact ⟨_, pe_callB (callW (.builtin id)) hg hm hv (paW (e :: es)) hn hdb he hpl, ha.run e1 rl q⟩
theorem sim_callTyX {T : String} {f : List D → Option D} (hf : CallS X (.type T) f) (hg : Gl X x) (hm : X.mg x = none) (hv : bootBuiltins x = some (.type T)) (ha : SimXA X S (e :: es) mes) (hn : x ≠ "__name__" := by decide) (hdb : (x == ("__debug__" : Str)) = false := by decide)
    (he : starEach (e :: es) X.env = (false, eval e X.env) :: starEach es X.env := by rfl) (hpl : (backTo pos (starEach es X.env)).any (·.1) = false := by rfl) : SimX X S (.Call (.Name x p0) (e :: es) [] pos) (callBX f mes) := by
  refine ⟨fun {ρ r ρ'} h {F σ Hs H} rl {Q} q => ?_⟩
  rcases callBX_ok h with ⟨ds, d, e1, e3, rfl⟩ | ⟨y, e1, rfl⟩
  · exact ⟨_, pe_callTy (callW _) hg hm hv (paW (e :: es)) hn hdb he hpl, ha.run e1 rl fun vs Hs' H' n r => hf e3 n.rel.sub (reps_slots r) fun w Hs2 H2 x2 sw fr => q w Hs2 H2 (n.trans (x2.nxt n.rel)) sw fun o a ea => ⟨n.unn (fr o a ea), n.rel.notOwn (fr o a ea)⟩⟩
  · exact ⟨_, pe_callTy (callW (.type T)) hg hm hv (paW (e :: es)) hn hdb he hpl, ha.run e1 rl q⟩
theorem lenX_nil : ∀ {ρ ρ' : Rho} {ds : List D}, nilX ρ = .ok (.ok ds) ρ' → ds.length = 0 := fun h => by cases h; rfl
theorem lenX_cons {m : Rho → Res RX} {n : AX} {l : Nat} (h : ∀ {ρ ρ' : Rho} {ds : List D}, n ρ = .ok (.ok ds) ρ' → ds.length = l) : ∀ {ρ ρ' : Rho} {ds : List D}, consX m n ρ = .ok (.ok ds) ρ' → ds.length = l + 1 := fun e => by
  obtain ⟨r, ρ1, e1, e⟩ := Res.bind_ok e
  cases r with
  | ex x => cases e
  | ok d =>
    obtain ⟨r2, ρ2, e2, e⟩ := Res.bind_ok e
    cases r2 with
    | ex x => cases e
    | ok ds => cases e; rw [List.length_cons, h e2]
end
/-! ### reading rules -/
section
variable {ρ : Rho} {f : FnX} {g : Fn} {me : EM} {mx : Rho → Res RX} {mes : AX}
def AQ (Q : List D → Rho → Prop) (Z : D → Rho → Prop) : RA → Rho → Prop := fun r ρ => match r with
  | .ok ds => Q ds ρ
  | .ex x => Z x ρ
theorem AQ_ok {Q : List D → Rho → Prop} {Z : D → Rho → Prop} {ds : List D} : AQ Q Z (.ok ds) ρ = Q ds ρ := propext Iff.rfl
theorem AQ_ex {Q : List D → Rho → Prop} {Z : D → Rho → Prop} {x : D} : AQ Q Z (.ex x) ρ = Z x ρ := propext Iff.rfl
def XQ (Q : D → Rho → Prop) (Z : D → Rho → Prop) : RX → Rho → Prop := fun r ρ => match r with
  | .ok d => Q d ρ
  | .ex x => Z x ρ
theorem XQ_ok {Q : D → Rho → Prop} {Z : D → Rho → Prop} {d : D} : XQ Q Z (.ok d) ρ = Q d ρ := propext Iff.rfl
theorem XQ_ex {Q : D → Rho → Prop} {Z : D → Rho → Prop} {x : D} : XQ Q Z (.ex x) ρ = Z x ρ := propext Iff.rfl
theorem T_okX {Q : RX → Rho → Prop} : T (okX me ρ) Q = T (me ρ) fun d ρ1 => Q (.ok d) ρ1 := by
  unfold okX
  rw [T_bind]
  rfl
theorem T_nilX {Q : RA → Rho → Prop} : T (nilX ρ) Q = Q (.ok []) ρ := propext Iff.rfl
theorem T_consX {Q : RA → Rho → Prop} : T (consX mx mes ρ) Q = T (mx ρ) (XQ (fun d ρ1 => T (mes ρ1) (AQ (fun ds ρ2 => Q (.ok (d.frz :: ds)) ρ2) fun x ρ2 => Q (.ex x) ρ2)) fun x ρ1 => Q (.ex x) ρ1) := by
  unfold consX
  rw [T_bind]
  congr 1
  funext r ρ1
  cases r with
  | ex x => rfl
  | ok d =>
    rw [XQ_ok, T_bind]
    congr 1
    funext r2 ρ2
    cases r2 <;> rfl
theorem T_callFX {Q : RX → Rho → Prop} : T (callFX g mes ρ) Q = T (mes ρ) (AQ (fun ds ρ1 => FT g ds fun d _ => Q (.ok d) ρ1) fun x ρ1 => Q (.ex x) ρ1) := by
  unfold callFX
  rw [T_bind]
  congr 1
  funext r ρ1
  cases r with
  | ex x => rfl
  | ok ds =>
    rw [AQ_ok]
    show T (match g ds with
      | some (d, _) => .ok (.ok d) ρ1
      | none => .fail) Q = _
    unfold FT
    cases h : g ds with
    | none => exact propext ⟨fun z => z.elim, fun ⟨_, _, z, _⟩ => by cases z⟩
    | some q => exact propext ⟨fun z => ⟨_, _, rfl, z⟩, fun ⟨_, _, z, y⟩ => by cases z; exact y⟩
theorem T_callXX {Q : RX → Rho → Prop} : T (callXX f mes ρ) Q = T (mes ρ) (AQ (fun ds ρ1 => FXT f ds fun r => Q r ρ1) fun x ρ1 => Q (.ex x) ρ1) := by
  unfold callXX
  rw [T_bind]
  congr 1
  funext r ρ1
  cases r with
  | ex x => rfl
  | ok ds =>
    rw [AQ_ok]
    show T (match f ds with
      | some r => .ok r ρ1
      | none => .fail) Q = _
    unfold FXT
    cases h : f ds with
    | none => exact propext ⟨fun z => z.elim, fun ⟨_, z, _⟩ => by cases z⟩
    | some q => exact propext ⟨fun z => ⟨_, rfl, z⟩, fun ⟨_, z, y⟩ => by cases z; exact y⟩
theorem T_callBX {h : List D → Option D} {Q : RX → Rho → Prop} : T (callBX h mes ρ) Q = T (mes ρ) (AQ (fun ds ρ1 => ∃ d, h ds = some d ∧ Q (.ok d) ρ1) fun x ρ1 => Q (.ex x) ρ1) := by
  unfold callBX
  rw [T_bind]
  congr 1
  funext r ρ1
  cases r with
  | ex x => rfl
  | ok ds =>
    rw [AQ_ok]
    show T (match h ds with
      | some d => .ok (.ok d) ρ1
      | none => .fail) Q = _
    cases hh : h ds with
    | none => exact propext ⟨fun z => z.elim, fun ⟨_, z, _⟩ => by cases z⟩
    | some q => exact propext ⟨fun z => ⟨_, rfl, z⟩, fun ⟨_, z, y⟩ => by cases z; exact y⟩
end
end Sim

/-! Sim, part 41: a def's own list of own lists, held by one name alone. -/
namespace Sim
open PySem PySem.Spec PyProof.Rows L2

/-- a thing that no slot holds, made since H0 -/
structure Tmp (H0 Hs H : Hp) (ρ : Rho) (σ : L2.St) (a : Addr) (o : HO) : Prop where
  new : H0 a = none
  at_ : H a = some o
  uns : Hs a = none
  un : ¬ Own ρ σ a
structure Nest (G : Gx) (H0 Hs H : Hp) (ρ : Rho) (σ : L2.St) (a : Addr) (bs : List Addr) (rows : List (List D)) : Prop where
  top : Tmp H0 Hs H ρ σ a (.lst (bs.map V.ref))
  out : a ∉ bs
  nod : bs.Nodup
  len : bs.length = rows.length
  at_ : ∀ (j : Nat) (b : Addr) (row : List D), bs[j]? = some b → rows[j]? = some row → ∃ vs, Tmp H0 Hs H ρ σ b (.lst vs) ∧ RepL G Hs row vs
section
variable {G : Gx} {S S' : Sc} {F : Fm} {H0 Hs H Hs' H' : Hp} {ρ ρ' : Rho} {σ σ' : L2.St} {a b : Addr} {o : HO} {bs : List Addr} {rows : List (List D)}
theorem Tmp.step (t : Tmp H0 Hs H ρ σ a o) (n : Nxt G S F ρ σ Hs H ρ' σ' Hs' H') : Tmp H0 Hs' H' ρ' σ' a o := by
  obtain ⟨h1, h2, h3⟩ := n.tmp t.at_ t.uns t.un
  exact ⟨t.new, h1, h2, h3⟩
theorem Tmp.back (t : Tmp H0 Hs H ρ σ a o) (h : ∀ b, Own ρ' σ' b → Own ρ σ b) : Tmp H0 Hs H ρ' σ' a o := ⟨t.new, t.at_, t.uns, fun z => t.un (h _ z)⟩
theorem Nest.step (t : Nest G H0 Hs H ρ σ a bs rows) (n : Nxt G S F ρ σ Hs H ρ' σ' Hs' H') : Nest G H0 Hs' H' ρ' σ' a bs rows :=
  ⟨t.top.step n, t.out, t.nod, t.len, fun j b row h1 h2 => by
    obtain ⟨vs, h3, h4⟩ := t.at_ j b row h1 h2
    exact ⟨vs, h3.step n, RepL.mono n.same _ _ h4⟩⟩
theorem Nest.back (t : Nest G H0 Hs H ρ σ a bs rows) (h : ∀ b, Own ρ' σ' b → Own ρ σ b) : Nest G H0 Hs H ρ' σ' a bs rows :=
  ⟨t.top.back h, t.out, t.nod, t.len, fun j b row h1 h2 => by
    obtain ⟨vs, h3, h4⟩ := t.at_ j b row h1 h2
    exact ⟨vs, h3.back h, h4⟩⟩
theorem Nest.earlier {H1 : Hp} (t : Nest G H1 Hs H ρ σ a bs rows) (h : ∀ b, H1 b = none → H0 b = none) : Nest G H0 Hs H ρ σ a bs rows :=
  ⟨⟨h _ t.top.new, t.top.at_, t.top.uns, t.top.un⟩, t.out, t.nod, t.len, fun j b row h1 h2 => by
    obtain ⟨vs, h3, h4⟩ := t.at_ j b row h1 h2
    exact ⟨vs, ⟨h _ h3.new, h3.at_, h3.uns, h3.un⟩, h4⟩⟩
theorem Nest.mem (t : Nest G H0 Hs H ρ σ a bs rows) (hb : b ∈ bs) : ∃ vs, Tmp H0 Hs H ρ σ b (.lst vs) := by
  obtain ⟨j, hj, rfl⟩ := List.getElem_of_mem hb
  obtain ⟨vs, h, _⟩ := t.at_ j bs[j] (rows[j]'(by rw [← t.len]; exact hj)) (List.getElem?_eq_getElem hj) (List.getElem?_eq_getElem _)
  exact ⟨vs, h⟩
/-- the last row is added -/
theorem Nest.add (t : Nest G H0 Hs H ρ σ a bs rows) {row : List D} {vs : List V} (hb : Tmp H0 Hs H ρ σ b (.lst vs)) (hr : RepL G Hs row vs) (hn : b ∉ bs) (hne : b ≠ a) : Nest G H0 Hs (upd H a (.lst ((bs ++ [b]).map V.ref))) ρ σ a (bs ++ [b]) (rows ++ [row]) := by
  refine ⟨⟨t.top.new, upd_same, t.top.uns, t.top.un⟩, ?_, ?_, by rw [List.length_append, List.length_append, t.len]; rfl, fun j c r h1 h2 => ?_⟩
  · rw [List.mem_append, List.mem_singleton]
    rintro (h | h)
    · exact t.out h
    · exact hne h.symm
  · rw [List.nodup_append]
    exact ⟨t.nod, by simp, fun x hx y hy e => by rw [List.mem_singleton] at hy; subst hy; subst e; exact hn hx⟩
  · by_cases hj : j < bs.length
    · rw [List.getElem?_append_left hj] at h1
      rw [List.getElem?_append_left (by rw [← t.len]; exact hj)] at h2
      obtain ⟨ws, h3, h4⟩ := t.at_ j c r h1 h2
      refine ⟨ws, ⟨h3.new, ?_, h3.uns, h3.un⟩, h4⟩
      rw [upd_ne (fun z => by subst z; exact t.out (List.mem_of_getElem? h1))]
      exact h3.at_
    · rw [List.getElem?_append_right (by omega)] at h1
      rw [List.getElem?_append_right (by rw [← t.len]; omega), ← t.len] at h2
      have hj0 : j - bs.length = 0 := by
        have := (List.getElem?_eq_some_iff.mp h1).1
        simpa using this
      rw [hj0] at h1 h2
      cases h1
      cases h2
      exact ⟨vs, ⟨hb.new, by rw [upd_ne hne]; exact hb.at_, hb.uns, hb.un⟩, hr⟩
/-- a row is changed -/
theorem Nest.put (t : Nest G H0 Hs H ρ σ a bs rows) {j : Nat} {row : List D} {vs : List V} (h1 : bs[j]? = some b) (hr : RepL G Hs row vs) : Nest G H0 Hs (upd H b (.lst vs)) ρ σ a bs (rows.set j row) := by
  have hb := List.mem_of_getElem? h1
  refine ⟨⟨t.top.new, ?_, t.top.uns, t.top.un⟩, t.out, t.nod, by rw [List.length_set]; exact t.len, fun k c r g1 g2 => ?_⟩
  · rw [upd_ne (fun z => by subst z; exact t.out hb)]
    exact t.top.at_
  · rcases get_set_some g2 with ⟨rfl, rfl, _⟩ | ⟨hk, g2⟩
    · rw [h1] at g1
      cases g1
      obtain ⟨ws, h3⟩ := t.mem hb
      exact ⟨vs, ⟨h3.new, upd_same, h3.uns, h3.un⟩, hr⟩
    · obtain ⟨ws, h3, h4⟩ := t.at_ k c r g1 g2
      refine ⟨ws, ⟨h3.new, ?_, h3.uns, h3.un⟩, h4⟩
      rw [upd_ne (fun z => ?_)]
      · exact h3.at_
      · subst z
        obtain ⟨p1, e1⟩ := List.getElem?_eq_some_iff.mp g1
        obtain ⟨p2, e2⟩ := List.getElem?_eq_some_iff.mp h1
        have q1 := t.nod.idxOf_getElem _ p1
        have q2 := t.nod.idxOf_getElem _ p2
        rw [e1] at q1
        rw [e2] at q2
        exact hk (q1.symm.trans q2)
end

/-! ### the state with such a list -/
structure NSt (G : Gx) (S : Sc) (F : Fm) (i : Nat) (ρ0 : Rho) (σ0 : L2.St) (Hs0 H0 : Hp) (ρ : Rho) (σ : L2.St) (Hs H : Hp) (rows : List (List D)) : Prop where
  nxt : Nxt G S F ρ0 σ0 Hs0 H0 ρ σ Hs H
  nest : ∃ a bs, σ[i]? = some (some (V.ref a)) ∧ Nest G H0 Hs H ρ σ a bs rows
def noOwnR (ρ : Rho) : Bool := ρ.all fun o => match o with
  | some d => !d.owned
  | none => true
theorem noOwn_d {ρ : Rho} (h : noOwnR ρ = true) {j : Nat} {d : D} (e : ρ[j]? = some (some d)) : d.owned = false := by
  have := (List.all_eq_true.mp h) _ (List.mem_of_getElem? e)
  simpa using this
theorem noOwn_not {ρ : Rho} (h : noOwnR ρ = true) {σ : L2.St} {b : Addr} : ¬ Own ρ σ b := fun ⟨j, d, e, o, _⟩ => by
  rw [noOwn_d h e] at o
  cases o
def viewR (i : Nat) (ρ : Rho) (rows : List (List D)) : Rho := ρ.set i (some (.lst .sh (rows.map (D.lst .sh))))
theorem noOwn_view {i : Nat} {ρ : Rho} {rows : List (List D)} (h : noOwnR ρ = true) : noOwnR (viewR i ρ rows) = true := by
  unfold noOwnR
  rw [List.all_eq_true]
  intro x hx
  unfold viewR at hx
  rcases List.mem_or_eq_of_mem_set hx with hx | rfl
  · exact (List.all_eq_true.mp h) x hx
  · rfl
theorem repL_get {G : Gx} {H : Hp} : ∀ {ds : List D} {vs : List V}, ds.length = vs.length → (∀ (j : Nat) (d : D) (v : V), ds[j]? = some d → vs[j]? = some v → Rep G H d v) → RepL G H ds vs
  | [], [], _, _ => rfl
  | [], _ :: _, h, _ => by cases h
  | _ :: _, [], h, _ => by cases h
  | d :: ds, v :: vs, h, q => .cons (q 0 d v rfl rfl) (repL_get (by simpa using h) fun j d' v' h1 h2 => q (j + 1) d' v' h1 h2)
def vHp (a : Addr) (bs : List Addr) (Hs H : Hp) : Hp := fun b => if b = a ∨ b ∈ bs then H b else Hs b
def sHp (bs : List Addr) (Hs H : Hp) : Hp := fun b => if b ∈ bs then H b else Hs b
section
variable {G : Gx} {S S' : Sc} {F : Fm} {i : Nat} {ρ0 : Rho} {σ0 : L2.St} {Hs0 H0 Hs H Hs' H' : Hp} {ρ ρ' : Rho} {σ σ' : L2.St} {a b : Addr} {o : HO} {bs : List Addr} {rows : List (List D)}
theorem Nxt.scN (n : Nxt G S' F ρ σ Hs H ρ' σ' Hs' H') (h1 : S'.os = S.os) (h2 : S'.io = S.io) (h3 : S.fx = []) : Nxt G S F ρ σ Hs H ρ' σ' Hs' H' :=
  ⟨n.rel.sc h1.symm h2.symm, n.same, n.keep, n.dom, n.own, n.grow, fun j hj => (by rw [h3] at hj; cases hj), n.slen⟩
theorem NSt.go (h : NSt G S F i ρ0 σ0 Hs0 H0 ρ σ Hs H rows) (n : Nxt G S F ρ σ Hs H ρ' σ' Hs' H') (e : σ'[i]? = σ[i]?) : NSt G S F i ρ0 σ0 Hs0 H0 ρ' σ' Hs' H' rows := by
  obtain ⟨a, bs, e1, t⟩ := h.nest
  exact ⟨h.nxt.trans n, a, bs, e.trans e1, t.step n⟩
theorem NSt.step (h : NSt G S F i ρ0 σ0 Hs0 H0 ρ σ Hs H rows) (n : Nxt G S' F ρ σ Hs H ρ' σ' Hs' H') (hi : i ∈ S'.fx) (h1 : S'.os = S.os) (h2 : S'.io = S.io) (h3 : S.fx = []) : NSt G S F i ρ0 σ0 Hs0 H0 ρ' σ' Hs' H' rows :=
  h.go (n.scN h1 h2 h3) (n.fix i hi)
/-- looked at, it is as good as shared -/
theorem NSt.view (h : NSt G S F i ρ0 σ0 Hs0 H0 ρ σ Hs H rows) (hno : noOwnR ρ = true) : ∃ Hv, Rel G S F Hv H (viewR i ρ rows) σ := by
  obtain ⟨a, bs, ea, t⟩ := h.nest
  have r := h.nxt.rel
  have hvn := noOwn_view (i := i) (rows := rows) hno
  have hsub : Same Hs (vHp a bs Hs H) := fun b u q => by
    unfold vHp
    rw [if_neg]
    · exact q
    · rintro (z | z)
      · subst z; rw [t.top.uns] at q; cases q
      · obtain ⟨vs, h3⟩ := t.mem z
        rw [h3.uns] at q; cases q
  have hat : ∀ b, b = a ∨ b ∈ bs → vHp a bs Hs H b = H b := fun b z => if_pos z
  refine ⟨vHp a bs Hs H, fun b u q => ?_, by unfold viewR; rw [List.length_set]; exact r.len, fun j d e => ?_, fun j k d e b _ e1 _ o1 => ?_, fun j d b _ e1 o1 => ?_, fun j d _ e1 => noOwn_d hvn e1, r.par, r.dom0⟩
  · unfold vHp at q
    split at q
    · exact q
    · exact r.sub b u q
  · unfold viewR at e
    rcases get_set_some e with ⟨rfl, z, _⟩ | ⟨hj, e⟩
    · cases z
      refine ⟨_, ea, .of ⟨rfl, a, _, rfl, (hat a (.inl rfl)).trans t.top.at_, repL_get (by rw [List.length_map, List.length_map, t.len]) fun j d v h1 h2 => ?_⟩⟩
      rw [List.getElem?_map] at h1 h2
      obtain ⟨row, g1, rfl⟩ := Option.map_eq_some_iff.mp h1
      obtain ⟨b, g2, rfl⟩ := Option.map_eq_some_iff.mp h2
      obtain ⟨vs, h3, h4⟩ := t.at_ j b row g2 g1
      exact ⟨rfl, b, vs, rfl, (hat b (.inr (List.mem_of_getElem? g2))).trans h3.at_, RepL.mono hsub _ _ h4⟩
    · obtain ⟨v, ev, sv⟩ := r.slot j d e
      exact ⟨v, ev, .of (Rep.mono hsub _ _ (sv.rep (noOwn_d hno e)))⟩
  · rw [noOwn_d hvn e1] at o1; cases o1
  · rw [noOwn_d hvn e1] at o1; cases o1
/-- behind the look -/
theorem NSt.reads (h : NSt G S F i ρ0 σ0 Hs0 H0 ρ σ Hs H rows) (hno : noOwnR ρ = true) {Hv : Hp} (n : Nxt G S' F (viewR i ρ rows) σ Hv H ρ' σ' Hs' H') : Nxt G S F ρ σ Hs H ρ σ Hs H' := by
  have s : Same H H' := fun b o q => n.keep b o q (noOwn_not (noOwn_view hno))
  exact h.nxt.rel.grow (Same.refl _) s (fun b u q => s b u (h.nxt.rel.sub b u q)) fun b z => .inl z
/-- the rows are shared from here on -/
theorem Nest.share (n : Nxt G S F ρ0 σ0 Hs0 H0 ρ σ Hs H) (t : Nest G H0 Hs H ρ σ a bs rows) : Nxt G S F ρ0 σ0 Hs0 H0 ρ σ (sHp bs Hs H) H ∧ SlotV G (sHp bs Hs H) H (.lst .own (rows.map (D.lst .sh))) (.ref a) := by
  have r := n.rel
  have hsub : Same Hs (sHp bs Hs H) := fun b u q => by
    unfold sHp
    rw [if_neg]
    · exact q
    · intro z
      obtain ⟨vs, h3⟩ := t.mem z
      rw [h3.uns] at q; cases q
  have hat : ∀ b, b ∈ bs → sHp bs Hs H b = H b := fun b z => if_pos z
  have hout : ∀ b, b ∉ bs → sHp bs Hs H b = Hs b := fun b z => if_neg z
  refine ⟨⟨⟨fun b u q => ?_, r.len, fun j d e => ?_, r.apart, r.fresh, r.vals, r.par, r.dom0⟩, n.same.trans hsub, n.keep, n.dom, n.own, fun b z => ?_, n.fix, n.slen⟩, .ofOwn ⟨a, _, rfl, (hout a t.out).trans t.top.uns, t.top.at_, repL_get (by rw [List.length_map, List.length_map, t.len]) fun j d v h1 h2 => ?_⟩ rfl⟩
  · unfold sHp at q
    split at q
    · exact q
    · exact r.sub b u q
  · obtain ⟨v, ev, sv⟩ := r.slot j d e
    refine ⟨v, ev, ?_⟩
    by_cases ho : d.owned = true
    · refine .ofOwn ((sv.own ho).stay hsub (fun b z => ?_) fun b u _ q => q) ho
      subst z
      have ob : Own ρ σ b := ⟨j, d, e, ho, ev⟩
      rw [hout b (fun z => by obtain ⟨vs, h3⟩ := t.mem z; exact h3.un ob)]
      exact (r.ownAt ob).1
    · exact .of (Rep.mono hsub _ _ (sv.rep (by simpa using ho)))
  · by_cases hb : b ∈ bs
    · obtain ⟨vs, h3⟩ := t.mem hb
      exact .inr (.inr h3.new)
    · rw [hout b hb] at z
      exact n.grow b z
  · rw [List.getElem?_map] at h1 h2
    obtain ⟨row, g1, rfl⟩ := Option.map_eq_some_iff.mp h1
    obtain ⟨b, g2, rfl⟩ := Option.map_eq_some_iff.mp h2
    obtain ⟨vs, h3, h4⟩ := t.at_ j b row g2 g1
    exact ⟨rfl, b, vs, rfl, (hat b (List.mem_of_getElem? g2)).trans h3.at_, RepL.mono hsub _ _ h4⟩
/-- a name gets what no slot holds -/
theorem Nxt.assignNone {ρ1 : Rho} {Hs1 H1 : Hp} (n : Nxt G S F ρ σ Hs H ρ1 σ Hs1 H1) (hi : i ∉ S.io) (hf : i ∉ S.fx) (v : V) : Nxt G S F ρ σ Hs H (ρ1.set i none) (σ.set i (some v)) Hs1 H1 := by
  have r := n.rel
  have other : ∀ {j : Nat} {b : Addr}, j ≠ i → (σ.set i (some v))[j]? = some (some (V.ref b)) → σ[j]? = some (some (V.ref b)) := fun hj h => by
    rwa [List.getElem?_set_ne (Ne.symm hj)] at h
  refine ⟨⟨r.sub, by simpa using r.len, fun j e h => ?_, fun j k e f b hjk h1 h2 o1 o2 s1 s2 => ?_, fun j e b hj h1 o1 s1 => ?_, fun j e hj h1 => ?_, fun j hj => ?_, r.dom0⟩, n.same, n.keep, n.dom, fun b ⟨j, e, h1, o1, s1⟩ => ?_, n.grow, fun j hj => ?_, by rw [List.length_set]⟩
  · obtain ⟨hj, h⟩ := set_none_some h
    obtain ⟨w, ew, sw⟩ := r.slot j e h
    exact ⟨w, by rw [List.getElem?_set_ne (Ne.symm hj)]; exact ew, sw⟩
  · obtain ⟨hj, h1⟩ := set_none_some h1
    obtain ⟨hk, h2⟩ := set_none_some h2
    exact r.apart j k e f b hjk h1 h2 o1 o2 (other hj s1) (other hk s2)
  · obtain ⟨hj', h1⟩ := set_none_some h1
    exact r.fresh j e b hj h1 o1 (other hj' s1)
  · exact r.vals j e hj (set_none_some h1).2
  · rw [List.getElem?_set_ne (fun z => by subst z; exact hi hj)]
    exact r.par j hj
  · obtain ⟨hj', h1⟩ := set_none_some h1
    exact n.own b ⟨j, e, h1, o1, other hj' s1⟩
  · rw [List.getElem?_set_ne (fun z => by subst z; exact hf hj)]
theorem own_none {v : V} {b : Addr} (h : Own (ρ.set i none) (σ.set i (some v)) b) : Own ρ σ b := by
  obtain ⟨j, e, h1, o1, s1⟩ := h
  obtain ⟨hj, h1⟩ := set_none_some h1
  rw [List.getElem?_set_ne (Ne.symm hj)] at s1
  exact ⟨j, e, h1, o1, s1⟩
end
end Sim

/-! Sim, part 42: the statements over a list of lists. -/
namespace Sim
open PySem PySem.Spec PyProof.Rows L2

abbrev NM := Rho → List (List D) → Option (Rho × List (List D))
structure SimNS (X : Cx) (S : Sc) (i : Nat) (st : Stmt) (m : NM) : Prop where
  run : ∀ {ρ : Rho} {rows : List (List D)} {ρ' : Rho} {rows' : List (List D)}, m ρ rows = some (ρ', rows') → ∀ {F : Fm} {ρ0 : Rho} {σ0 : L2.St} {Hs0 H0 : Hp} {σ : L2.St} {Hs H : Hp}, NSt (gx X) S F i ρ0 σ0 Hs0 H0 ρ σ Hs H rows → ∀ {E : Ends},
    (∀ σ' Hs' H', Same Hs Hs' → NSt (gx X) S F i ρ0 σ0 Hs0 H0 ρ' σ' Hs' H' rows' → E.nx σ' H') → WS X st E σ H
structure SimNB (X : Cx) (S : Sc) (i : Nat) (st : List Stmt) (m : NM) : Prop where
  run : ∀ {ρ : Rho} {rows : List (List D)} {ρ' : Rho} {rows' : List (List D)}, m ρ rows = some (ρ', rows') → ∀ {F : Fm} {ρ0 : Rho} {σ0 : L2.St} {Hs0 H0 : Hp} {σ : L2.St} {Hs H : Hp}, NSt (gx X) S F i ρ0 σ0 Hs0 H0 ρ σ Hs H rows → ∀ {E : Ends},
    (∀ σ' Hs' H', Same Hs Hs' → NSt (gx X) S F i ρ0 σ0 Hs0 H0 ρ' σ' Hs' H' rows' → E.nx σ' H') → WB X st E σ H
def nilN : NM := fun ρ rows => some (ρ, rows)
def seqN (m n : NM) : NM := fun ρ rows => match m ρ rows with
  | some (ρ1, rows1) => n ρ1 rows1
  | none => none
def liftN (m : SM) : NM := fun ρ rows => match m ρ with
  | .ok .nxt ρ1 => some (ρ1, rows)
  | _ => none
def iteN (i : Nat) (c : TM) (m n : NM) : NM := fun ρ rows => if noOwnR ρ = true then (match c (viewR i ρ rows) with
  | .ok true _ => m ρ rows
  | .ok false _ => n ρ rows
  | _ => none) else none
def forNGo (g : GM) (b : NM) : List D → NM
  | [] => fun ρ rows => some (ρ, rows)
  | d :: ds => fun ρ rows => match g d ρ with
    | .ok _ ρ1 => (match b ρ1 rows with
      | some (ρ2, rows2) => forNGo g b ds ρ2 rows2
      | none => none)
    | _ => none
def forN (it : AM) (g : GM) (b : NM) : NM := fun ρ rows => match it ρ with
  | .ok ds ρ1 => forNGo g b ds ρ1 rows
  | _ => none
def putRows (rows : List (List D)) (p q : Int) (d : D) : Option (List (List D)) := match ixN rows.length p with
  | some j => (match rows[j]? with
    | some row => (match ixN row.length q with
      | some k => some (rows.set j (row.set k d))
      | none => none)
    | none => none)
  | none => none
def putN (mk1 mk2 me : EM) : NM := fun ρ rows => match me ρ with
  | .ok d ρ1 => (match mk1 ρ1 with
    | .ok (.int p) ρ2 => (match mk2 ρ2 with
      | .ok (.int q) ρ3 => (match putRows rows p q d with
        | some rows' => some (ρ3, rows')
        | none => none)
      | _ => none)
    | _ => none)
  | _ => none
def flatD : D → Bool
  | .non => true
  | .bl _ => true
  | .int _ => true
  | .str _ => true
  | _ => false
def setFlatN (i k : Nat) (me : EM) : NM := fun ρ rows => if noOwnR ρ = true then (match me (viewR i ρ rows) with
  | .ok (.lst .own ds) _ => if (ds.all flatD) = true then some (ρ.set k (some (.lst .sh ds)), rows) else none
  | _ => none) else none
section
variable {X : Cx} {S S' : Sc} {i : Nat} {st : Stmt} {rest : List Stmt} {m n : NM} {pos : Pos}
theorem nb_nil : SimNB X S i [] nilN := by
  refine ⟨fun {ρ rows ρ' rows'} hm {F ρ0 σ0 Hs0 H0 σ Hs H} h {E} q => ?_⟩
  cases hm
  exact ⟨_, pss_nil, q _ _ _ (Same.refl _) h⟩
theorem nb_cons (h1 : SimNS X S i st m) (h2 : SimNB X S i rest n) : SimNB X S i (st :: rest) (seqN m n) := by
  refine ⟨fun {ρ rows ρ' rows'} hm {F ρ0 σ0 Hs0 H0 σ Hs H} h {E} q => ?_⟩
  unfold seqN at hm
  split at hm
  · rename_i ρ1 rows1 e1
    exact ⟨_, pss_cons (psW st) (pbW rest), h1.run e1 h (E := { E with nx := WB X rest E }) fun σ' Hs' H' s g => h2.run hm g fun σ2 Hs2 H2 s2 g2 => q σ2 Hs2 H2 (s.trans s2) g2⟩
  · cases hm
theorem ns_lift {sm : SM} (h : SimS X S' st sm) (hi : i ∈ S'.fx := by decide) (h1 : S'.os = S.os := by rfl) (h2 : S'.io = S.io := by rfl) (h3 : S.fx = [] := by rfl) : SimNS X S i st (liftN sm) := by
  refine ⟨fun {ρ rows ρ' rows'} hm {F ρ0 σ0 Hs0 H0 σ Hs H} r {E} q => ?_⟩
  unfold liftN at hm
  split at hm
  · rename_i ρ1 e1
    cases hm
    exact h.run e1 (r.nxt.rel.sc h1 h2) fun σ' Hs' H' n => q σ' Hs' H' n.same (r.step n hi h1 h2 h3)
  · cases hm
theorem ns_if {c : Expr} {a b : List Stmt} {mc : TM} (hc : SimT X S' c mc) (ha : SimNB X S i a m) (hb : SimNB X S i b n) (h1 : S'.os = S.os := by rfl) (h2 : S'.io = S.io := by rfl) : SimNS X S i (.If c a b pos) (iteN i mc m n) := by
  refine ⟨fun {ρ rows ρ' rows'} hm {F ρ0 σ0 Hs0 H0 σ Hs H} r {E} q => ?_⟩
  unfold iteN at hm
  split at hm
  · rename_i hno
    obtain ⟨Hv, rv⟩ := r.view hno
    split at hm
    · rename_i ρ1 e1
      refine ⟨_, ps_if (ptW c) (pbW a) (pbW b), hc.run e1 (rv.sc h1 h2) fun Hs' H' nx => ?_⟩
      rw [if_pos rfl]
      exact ha.run hm (r.go (r.reads hno nx) rfl) q
    · rename_i ρ1 e1
      refine ⟨_, ps_if (ptW c) (pbW a) (pbW b), hc.run e1 (rv.sc h1 h2) fun Hs' H' nx => ?_⟩
      rw [if_neg Bool.false_ne_true]
      exact hb.run hm (r.go (r.reads hno nx) rfl) q
    · cases hm
  · cases hm
theorem ns_for {tg iter : Expr} {b : List Stmt} {mi : AM} {g : GM} (hp : PassesOwn (model X.prog X.w) X.A X.env X.xe) (hc : X.calm = true) (hi : SimI X S' tg iter mi) (hg : SimG X S' tg g) (hb : SimNB X S i b m) (hs : ∀ x, foldedSetIterable iter X.env x = pure x := by intro _; rfl)
    (hfx : i ∈ S'.fx := by decide) (h1 : S'.os = S.os := by rfl) (h2 : S'.io = S.io := by rfl) (h3 : S.fx = [] := by rfl) : SimNS X S i (.For tg iter b [] pos) (forN mi g m) := by
  refine ⟨fun {ρ rows ρ' rows'} hm {F ρ0 σ0 Hs0 H0 σ Hs H} r {E} q => ?_⟩
  unfold forN at hm
  split at hm
  · rename_i ds ρ1 e1
    refine ⟨_, ps_for hp hc (piW tg iter) (pgW tg) (pbW b) hs, hi.run e1 (r.nxt.rel.sc h1 h2) fun J Hs1 H1 n1 fd => ?_⟩
    have r1 := r.step n1 hfx h1 h2 h3
    refine ⟨fun z k σ' H' => ∃ ρ2 Hs2 rows2, z + k = ds.length ∧ forNGo g m (ds.drop z) ρ2 rows2 = some (ρ', rows') ∧ Same Hs1 Hs2 ∧ NSt (gx X) S F i ρ0 σ0 Hs0 H0 ρ2 σ' Hs2 H' rows2, ⟨ds.length, ρ1, Hs1, rows, by simp, hm, .refl _, r1⟩, ?_⟩
    rintro z k σ2 H2 ⟨ρ2, Hs2, rows2, ek, e, sm, r2⟩
    by_cases hz : z < ds.length
    · have ed := List.drop_eq_getElem_cons hz
      rw [ed] at e
      unfold forNGo at e
      split at e
      · rename_i ρ3 e3
        split at e
        · rename_i ρ4 rows4 e4
          obtain ⟨go, yl⟩ := fd.1 z _ Hs2 H2 (List.getElem?_eq_getElem hz) sm r2.nxt.rel.sub
          refine .inr ⟨go, fun σ' H' => ∃ ρ2 Hs2 rows2, z + 1 + (k - 1) = ds.length ∧ forNGo g m (ds.drop (z + 1)) ρ2 rows2 = some (ρ', rows') ∧ Same Hs1 Hs2 ∧ NSt (gx X) S F i ρ0 σ0 Hs0 H0 ρ2 σ' Hs2 H' rows2, fun σ' H' h => ⟨k - 1, by omega, h⟩, fun x H3 y => ?_⟩
          obtain ⟨Hs3, x3, r3⟩ := yl x H3 y
          have g3 := r2.go (x3.nxt r2.nxt.rel) rfl
          refine hg.run e3 (g3.nxt.rel.sc h1 h2) r3 fun σ4 Hs4 H4 n4 => ?_
          have g4 := g3.step n4 hfx h1 h2 h3
          have sm4 : Same Hs1 Hs4 := (sm.trans x3.s).trans n4.same
          refine hb.run e4 g4 fun σ5 Hs5 H5 s5 g5 => ?_
          exact ⟨ρ4, Hs5, rows4, by omega, e, sm4.trans s5, g5⟩
        · cases e
      · cases e
    · have ei : z = ds.length := by omega
      subst ei
      rw [List.drop_length] at e
      cases e
      exact .inl ⟨fd.2 Hs2 H2 sm r2.nxt.rel.sub, q _ _ _ (n1.same.trans sm) r2⟩
  · cases hm
/-- x[p][q] = e -/
theorem ns_put {x : Str} {ia ib e : Expr} {mk1 mk2 me : EM} {px pa p : Pos} (he : SimV X S' e me) (hk1 : SimV X S' ia mk1) (hk2 : SimV X S' ib mk2) (hN : X.N[i]? = some x := by rfl) (hv : Vis X.env.scope x := by first | exact Or.inl rfl | exact Or.inr (Or.inl rfl) | exact Or.inr (Or.inr rfl))
    (hd : (x == ("__debug__" : Str)) = false := by decide) (hcd : (x == ("__classdict__" : Str)) = false := by decide) (hpi : PlainIx ia := by exact fun _ _ => rfl)
    (hs : swapsWithSole [.Subscript (.Subscript (.Name x px) ia pa) ib p] e pos.line X.env = pure false := by rfl) (hw : swappedStores [.Subscript (.Subscript (.Name x px) ia pa) ib p] e X.env = pure none := by rfl)
    (h1' : (assignEach [.Subscript (.Subscript (.Name x px) ia pa) ib p] X.env).map (·.2) = [assign (.Subscript (.Subscript (.Name x px) ia pa) ib p) X.env] := by rfl)
    (ha : ∀ v, assign (.Subscript (.Subscript (.Name x px) ia pa) ib p) X.env v = (do
      let ov ← holding [v] (eval (.Subscript (.Name x px) ia pa) X.env)
      let iv ← holding [v, ov] (eval ib X.env)
      standAt p
      holding [v, ov, iv] (setItem ov iv v)
      release [v, ov, iv] []) := by intro _; rfl)
    (hfx : i ∈ S'.fx := by decide) (h1 : S'.os = S.os := by rfl) (h2 : S'.io = S.io := by rfl) (h3 : S.fx = [] := by rfl) : SimNS X S i (.Assign [.Subscript (.Subscript (.Name x px) ia pa) ib p] e pos) (putN mk1 mk2 me) := by
  refine ⟨fun {ρ rows ρ' rows'} hm {F ρ0 σ0 Hs0 H0 σ Hs H} r {E} q => ?_⟩
  unfold putN at hm
  split at hm
  · rename_i d ρ1 e1
    split at hm
    · rename_i kp ρ2 e2
      split at hm
      · rename_i kq ρ3 e3
        split at hm
        · rename_i rows1 e4
          cases hm
          unfold putRows at e4
          split at e4
          · rename_i j ej
            split at e4
            · rename_i row er
              split at e4
              · rename_i k ek
                cases e4
                refine ⟨_, ps_asg (peW e) (pg_sub (pe_ix ix_list (pe_var hN hv hd hcd) (peW ia) hpi) (peW ib) set_list ha) hs hw h1', he.run e1 (r.nxt.rel.sc h1 h2) fun w Hs1 H1 n1 w1 => ?_⟩
                have g1 := r.step n1 hfx h1 h2 h3
                obtain ⟨a, bs, ea, t1⟩ := g1.nest
                refine ⟨_, ea, hk1.run e2 (g1.nxt.rel.sc h1 h2) fun y Hs2 H2 n2 w2 => ?_⟩
                have w2 : y = V.int kp := w2
                subst w2
                have g2 := g1.step n2 hfx h1 h2 h3
                have t2 := t1.step n2
                obtain ⟨b, eb⟩ : ∃ b, bs[j]? = some b := by
                  have := (List.getElem?_eq_some_iff.mp er).1
                  exact ⟨_, List.getElem?_eq_getElem (by rw [t2.len]; exact this)⟩
                refine ⟨a, bs.map V.ref, _, .ref b, rfl, rfl, .of t2.top.at_, ?_, hk2.run e3 (g2.nxt.rel.sc h1 h2) fun z Hs3 H3 n3 w3 => ?_⟩
                · unfold L2.atI
                  rw [List.length_map, t2.len, ej]
                  show (bs.map V.ref)[j]? = _
                  rw [List.getElem?_map, eb]
                  rfl
                have w3 : z = V.int kq := w3
                subst w3
                have g3 := g2.step n3 hfx h1 h2 h3
                have t3 := t2.step n3
                obtain ⟨vs, tb, rb⟩ := t3.at_ j b row eb er
                refine ⟨b, vs, _, k, rfl, rfl, tb.at_, by rw [← rb.length]; exact ek, ?_⟩
                refine q _ _ _ ((n1.same.trans n2.same).trans n3.same) ⟨g3.nxt.tmpWrite tb.new tb.uns tb.un _, a, bs, ?_, t3.put eb (rb.set (Rep.mono (n2.same.trans n3.same) _ _ w1) k)⟩
                exact ea
              · cases e4
            · cases e4
          · cases e4
        · cases hm
      · cases hm
    · cases hm
  · cases hm
theorem flat_rep {G : Gx} {H H' : Hp} {d : D} {v : V} (f : flatD d = true) (h : Rep G H d v) : Rep G H' d v := by
  cases d with
  | non => exact h
  | bl _ => exact h
  | int _ => exact h
  | str _ => exact h
  | _ => cases f
theorem flats_rep {G : Gx} {H H' : Hp} : ∀ {ds : List D} {vs : List V}, ds.all flatD = true → RepL G H ds vs → RepL G H' ds vs
  | [], _, _, h => h
  | d :: ds, _, f, h => by
    obtain ⟨v, r, rfl, h1, h2⟩ := h
    rw [List.all_cons, Bool.and_eq_true] at f
    exact .cons (flat_rep f.1 h1) (flats_rep f.2 h2)
/-- y = [..], a list of plain things, reading the lists -/
theorem ns_setLc {tg iter elt : Expr} {ifs : List Expr} {scope : Scope} {own : List (Str × Nat)} {mi : AM} {g : GM} {mc : TM} {me : EM} {nn : Nat} {S'' : Sc} (k : Nat) {y : Str} {py cp spos : Pos} (hc : X.calm = true) (hN : X.N.Nodup) (hi : SimI X S' tg iter mi) (hg : Blk X scope fun Y => SimG Y S'' tg g) (ht : Blk X scope fun Y => SimTs Y S'' ifs mc) (he : Blk X scope fun Y => SimV Y S'' elt me)
    (hio : ∀ i ∈ own.map (·.2), i ∉ S'.io) (hfx : ∀ i, i < nn → i ∈ own.map (·.2) ∨ i ∈ S''.fx) (ok : BlkOk X.N X.env.scope scope own) (hyio : k ∉ S.io) (hki : k ≠ i) (hy : X.N[k]? = some y) (hyl : X.env.scope.names.lookup y = some .local)
    (hsw : swapsWith (.ListComp elt [⟨tg, iter, ifs, 0⟩] scope cp) (some (.Name y py)) spos.line X.env = pure true) (g1 : S''.os = S'.os := by rfl) (g2 : S''.io = S'.io := by rfl)
    (hs : ∀ x, foldedSetIterable iter X.env x = pure x := by intro _; rfl) (h1 : S'.os = S.os := by rfl) (h2 : S'.io = S.io := by rfl) (h3 : S.fx = [] := by rfl) : SimNS X S i (.Assign [.Name y py] (.ListComp elt [⟨tg, iter, ifs, 0⟩] scope cp) spos) (setFlatN i k (compM nn (own.map (·.2)) mi g mc me)) := by
  refine ⟨fun {ρ rows ρ' rows'} hm {F ρ0 σ0 Hs0 H0 σ Hs H} r {E} q => ?_⟩
  unfold setFlatN at hm
  split at hm
  · rename_i hno
    split at hm
    · rename_i ds ρ1 e1
      split at hm
      · rename_i hfl
        cases hm
        obtain ⟨Hv, rv⟩ := r.view hno
        refine ⟨_, ps_setLc hc hN hy hyl hsw (piW tg iter) ok (fun s H C cl fp => ⟨fun pins s' σ H' v u Q I r h => ?_⟩) (fun s H C cl fp => ⟨fun pins s' σ H' Q I h => ?_⟩) (fun s H C cl fp => ⟨fun pins s' σ H' Q I h => ?_⟩) hs,
          lc_read hi hg ht he g1 g2 hio hfx e1 (rv.sc h1 h2) fun v Hs' H' nx sv fr => ?_⟩
        · obtain ⟨t, h3, h4⟩ := h s H C cl fp
          exact h3.run pins s' σ H' v u Q I r h4
        · obtain ⟨t, h3, h4⟩ := h s H C cl fp
          exact h3.run pins s' σ H' Q I h4
        · obtain ⟨t, h3, h4⟩ := h s H C cl fp
          exact h3.run pins s' σ H' Q I h4
        · have n0 := r.reads hno nx
          obtain ⟨a, vs, rfl, ha, hat, hr⟩ := sv.own rfl
          have hHa := (fr rfl a rfl).1
          obtain ⟨Hs2, n2, r2⟩ := n0.share (d := .lst .own ds) (v := .ref a) (.ofOwn ⟨a, vs, rfl, r.nxt.rel.sub.free hHa, hat, flats_rep hfl hr⟩ rfl) fun _ b eb => by cases eb; exact ⟨hHa, noOwn_not hno⟩
          have n3 := n2.assign r.nxt.rel hyio (by rw [h3]; simp) (.of r2) fun o => by cases o
          exact q _ _ _ n3.same (r.go n3 (by rw [List.getElem?_set_ne hki]))
      · cases hm
    · cases hm
  · cases hm
end
end Sim

/-! Sim, part 43: the list of lists is made, and handed out. -/
namespace Sim
open PySem PySem.Spec PyProof.Rows L2

def compNGo (vs : List Nat) (g : GM) (e : EM) : List D → List (List D) → Rho → Res (List (List D))
  | [], acc, ρ => .ok acc ρ
  | d :: ds, acc, ρ => (g d ρ).bind fun _ ρ1 => (e ρ1).bind fun y ρ2 => match y with
    | .lst .own row => compNGo vs g e ds (acc ++ [row]) (wipeR ρ2 vs)
    | _ => .fail
def compNM (n : Nat) (vs : List Nat) (it : AM) (g : GM) (e : EM) : Rho → Res (List (List D)) := fun ρ => (it ρ).bind fun ds ρ1 =>
  if ρ1.length = n ∧ ds.length ≤ cap then (compNGo vs g e ds [] (wipeR ρ1 vs)).bind fun acc ρ2 => .ok acc (wipeR ρ2 vs) else .fail
/-- made, worked on, handed out -/
def nestB (i : Nat) (mk : Rho → Res (List (List D))) (m : NM) : SM := fun ρ => (mk ρ).bind fun rows ρ1 => match m (ρ1.set i none) rows with
  | some (ρ2, rows2) => .ok (.ret (.lst .own (rows2.map (D.lst .sh)))) ρ2
  | none => .fail
section
variable {X : Cx} {S S' : Sc} {tg iter elt : Expr} {scope : Scope} {own : List (Str × Nat)} {mi : AM} {g : GM} {me : EM} {n : Nat}
theorem lc_nest (hi : SimI X S tg iter mi) (hg : Blk X scope fun Y => SimG Y S' tg g) (he : Blk X scope fun Y => SimE Y S' elt me)
    (h1 : S'.os = S.os) (h2 : S'.io = S.io) (hio : ∀ i ∈ own.map (·.2), i ∉ S.io) (hfx : ∀ i, i < n → i ∈ own.map (·.2) ∨ i ∈ S'.fx)
    {ρ : Rho} {rows : List (List D)} {ρ' : Rho} (hm : compNM n (own.map (·.2)) mi g me ρ = .ok rows ρ') {F : Fm} {σ : L2.St} {Hs H : Hp} (rl : Rel (gx X) S F Hs H ρ σ) {Q : VK}
    (q : ∀ a bs Hs' H', σ.length = n → Nxt (gx X) S F ρ σ Hs H ρ' σ Hs' H' → Nest (gx X) H Hs' H' ρ' σ a bs rows → Q (.ref a) H') :
    tLc (WI X tg iter) (fun x σ H Q => Blk X scope fun Y => WG Y tg x σ H Q) (fun σ H Q => Blk X scope fun Y => WTs Y [] σ H Q) (fun σ H Q => Blk X scope fun Y => WE Y elt σ H Q) (own.map (·.2)) σ H Q := by
  obtain ⟨ds, ρ1, e1, hm⟩ := Res.bind_ok hm
  split at hm
  · rename_i hn
    obtain ⟨acc, ρ2, e2, hm⟩ := Res.bind_ok hm
    cases hm
    have ht : Blk X scope fun Y => SimTs Y S' [] yesM := fun s H C cl fp => sim_ts0
    generalize hvs : own.map (·.2) = vs at *
    refine hi.run e1 rl fun J Hs1 H1 n1 fd => fun A hA => ?_
    have hsA : Hs1 A = none := n1.rel.sub.free hA
    have nw : Nxt (gx X) S' F (wipeR ρ1 vs) (wipe σ vs) Hs1 H1 (wipeR ρ1 vs) (wipe σ vs) Hs1 (upd H1 A (.lst [])) := ((n1.rel.wipe hio).sc h1 h2).newOwn hA _
    have hlen : σ.length = n := by rw [← n1.rel.len]; exact hn.1
    have t0 : Nest (gx X) H1 Hs1 (upd H1 A (.lst [])) (wipeR ρ1 vs) (wipe σ vs) A [] [] := ⟨⟨hA, upd_same, hsA, fun z => n1.rel.notOwn hA (own_wipe z)⟩, by simp, List.nodup_nil, rfl, fun j b row z => by simp at z⟩
    refine ⟨fun i k Ht => ∃ ρt Hst bs ac, i + k = ds.length ∧ compNGo vs g me (ds.drop i) ac ρt = .ok rows ρ2 ∧ Same Hs1 Hst ∧ Nxt (gx X) S' F (wipeR ρ1 vs) (wipe σ vs) Hs1 H1 ρt (wipe σ vs) Hst Ht ∧
        Nest (gx X) H1 Hst Ht ρt (wipe σ vs) A bs ac ∧ ac.length ≤ i, ⟨ds.length, wipeR ρ1 vs, Hs1, [], [], by simp, e2, .refl _, nw, t0, by simp⟩, ?_⟩
    rintro i k Ht ⟨ρt, Hst, bs, ac, ek, e, sm, nt, tt, hac⟩
    by_cases hi' : i < ds.length
    · rw [List.drop_eq_getElem_cons hi'] at e
      obtain ⟨_, ρ3, e3, e⟩ := Res.bind_ok e
      obtain ⟨yd, ρ4, e4, e⟩ := Res.bind_ok e
      obtain ⟨go, yl⟩ := fd.1 i _ Hst Ht (List.getElem?_eq_getElem hi') sm nt.rel.sub
      refine .inr ⟨go, fun H' => ∃ ρt Hst bs ac, i + 1 + (k - 1) = ds.length ∧ compNGo vs g me (ds.drop (i + 1)) ac ρt = .ok rows ρ2 ∧ Same Hs1 Hst ∧ Nxt (gx X) S' F (wipeR ρ1 vs) (wipe σ vs) Hs1 H1 ρt (wipe σ vs) Hst H' ∧
        Nest (gx X) H1 Hst H' ρt (wipe σ vs) A bs ac ∧ ac.length ≤ i + 1, fun H' h => ⟨k - 1, by omega, h⟩, fun x H3 y s0 H0 C cl fp => ?_⟩
      obtain ⟨Hs3, x3, r3⟩ := yl x H3 y
      have n3' := x3.nxt nt.rel
      have n3 := nt.trans n3'
      have t3 := tt.step n3'
      refine (hg s0 H0 C cl fp).run e3 n3.rel r3 fun σ4 Hs4 H4 n4 => ?_
      have t4 := t3.step n4
      have wl : σ4.length = (wipe σ vs).length := n4.slen
      have we : wipe σ4 vs = wipe σ vs := by
        refine wipe_ext (by rw [wl, wipe_length]) fun j hj => ?_
        rcases hfx j (by omega) with z | z
        · exact .inl z
        · exact .inr (n4.fix j z)
      refine ⟨we, fun s0 H0 C cl fp => (ht s0 H0 C cl fp).run (ρ := ρ3) (ρ' := ρ3) (b := true) rfl n4.rel fun Hs5 H5 n5 => ?_⟩
      have t5 := t4.step n5
      rw [if_pos rfl]
      refine fun s0 H0 C cl fp => (he s0 H0 C cl fp).run e4 n5.rel fun yv Hs6 H6 n6 sv fr => ?_
      have t6 := t5.step n6
      have nall := (n3.trans n4).trans (n5.trans n6)
      have bk : ∀ b, Own (wipeR ρ4 vs) (wipe σ vs) b → Own ρ4 σ4 b := fun b z => by rw [← we] at z; exact own_wipe z
      have m1 : Nxt (gx X) S' F (wipeR ρ1 vs) (wipe σ vs) Hs1 H1 (wipeR ρ4 vs) (wipe σ vs) Hs6 H6 :=
        ⟨by rw [← we]; exact nall.rel.wipe (by rw [h2]; exact hio), nall.same, nall.keep, nall.dom, fun b z => nall.own b (bk b z), nall.grow, fun _ _ => rfl, rfl⟩
      have sm6 : Same Hst Hs6 := ((x3.s.trans n4.same).trans n5.same).trans n6.same
      split at e
      · rename_i row
        obtain ⟨b, ws, rfl, hb6, hat6, hr6⟩ := sv.own rfl
        obtain ⟨f1, f2⟩ := fr rfl b rfl
        have hbH1 : H1 b = none := ((n3.trans n4).trans n5).unn f1
        have tb : Tmp H1 Hs6 H6 (wipeR ρ4 vs) (wipe σ vs) b (.lst ws) := ⟨hbH1, hat6, hb6, fun z => f2 (bk b z)⟩
        have hnb : b ∉ bs := fun z => by
          obtain ⟨us, h3⟩ := t5.mem z
          rw [h3.at_] at f1; cases f1
        have hna : b ≠ A := fun z => by
          subst z
          rw [t5.top.at_] at f1; cases f1
        have t7 := (t6.back bk).add tb hr6 hnb hna
        refine ⟨bs.map V.ref, t6.top.at_, by rw [List.length_map, t6.len, sizeCap]; have := hn.2; omega, _, Hs6, bs ++ [b], ac ++ [row], by omega, e, sm.trans sm6, ?_, ?_, by rw [List.length_append, List.length_singleton]; omega⟩
        · exact m1.tmpWrite hA t6.top.uns (fun z => t6.top.un (bk _ z)) _
        · have e9 : bs.map V.ref ++ [V.ref b] = (bs ++ [b]).map V.ref := by rw [List.map_append]; rfl
          rw [e9]
          exact t7
      · cases e
    · have ei : i = ds.length := by omega
      subst ei
      rw [List.drop_length] at e
      cases e
      have nf : Nxt (gx X) S F ρ1 σ Hs1 H1 (wipeR ρ2 vs) σ Hst Ht := by
        refine ⟨(nt.rel.sc h1.symm h2.symm).unwipe hio, nt.same, fun b o h no => nt.keep b o h fun z => no (own_wipe z), nt.dom, fun b z => ?_, fun b h => ?_, fun _ _ => rfl, rfl⟩
        · rcases nt.own b (own_unwipe z) with y | y
          · exact .inl (own_wipe y)
          · exact .inr y
        · rcases nt.grow b h with y | y | y
          · exact .inl y
          · exact .inr (.inl (own_wipe y))
          · exact .inr (.inr y)
      refine .inl ⟨fd.2 Hst Ht sm nt.rel.sub, q A bs Hst Ht hlen (n1.trans nf) ?_⟩
      exact (tt.back fun b z => own_unwipe z).earlier fun b z => n1.unn z
  · cases hm
/-- x = [[..] for ..]; a statement; return x -/
theorem sim_nest {i : Nat} {y : Str} {py cp spos rp rp2 : Pos} {st : Stmt} {m : NM} (hc : X.calm = true) (hN : X.N.Nodup) (hi : SimI X S tg iter mi) (hg : Blk X scope fun Y => SimG Y S' tg g) (he : Blk X scope fun Y => SimE Y S' elt me)
    (hio : ∀ i ∈ own.map (·.2), i ∉ S.io) (hfx : ∀ i, i < n → i ∈ own.map (·.2) ∨ i ∈ S'.fx) (ok : BlkOk X.N X.env.scope scope own) (hyio : i ∉ S.io) (hyfx : i ∉ S.fx) (hin : i < n) (hst : SimNS X S i st m) (hy : X.N[i]? = some y := by rfl) (hx : Loc X.env.scope y := by first | exact Or.inl rfl | exact Or.inr rfl)
    (hsw : swapsWith (.ListComp elt [⟨tg, iter, [], 0⟩] scope cp) (some (.Name y py)) spos.line X.env = pure false := by rfl) (hf : X.fn y = true ∨ X.env.scope.names.lookup y = some .local := by first | exact .inl rfl | exact .inr rfl)
    (hv : Vis X.env.scope y := by first | exact Or.inl rfl | exact Or.inr (Or.inl rfl) | exact Or.inr (Or.inr rfl)) (hd : (y == ("__debug__" : Str)) = false := by decide) (hcd : (y == ("__classdict__" : Str)) = false := by decide)
    (h1 : S'.os = S.os := by rfl) (h2 : S'.io = S.io := by rfl)
    (hs : ∀ x, foldedSetIterable iter X.env x = pure x := by intro _; rfl) : SimB X S [.Assign [.Name y py] (.ListComp elt [⟨tg, iter, [], 0⟩] scope cp) spos, st, .Return (some (.Name y rp)) rp2] (nestB i (compNM n (own.map (·.2)) mi g me) m) := by
  refine ⟨fun {ρ f ρ'} hm {F σ Hs H} rl {E} q => ?_⟩
  obtain ⟨rows, ρ1, e1, hm⟩ := Res.bind_ok hm
  split at hm
  · rename_i ρ2 rows2 e2
    cases hm
    refine ⟨_, pss_cons (psW _) (pbW [st, .Return (some (.Name y rp)) rp2]), ?_⟩
    show WS X _ { E with nx := WB X [st, .Return (some (.Name y rp)) rp2] E } σ H
    refine ⟨_, ps_set hN hy hx (peW _) hsw hf, ?_⟩
    refine ⟨_, pe_lc hc hN (piW tg iter) ok (fun s H C cl fp => ⟨fun pins s' σ H' v u Q I r h => ?_⟩) (fun s H C cl fp => ⟨fun pins s' σ H' Q I h => ?_⟩) (fun s H C cl fp => ⟨fun pins s' σ H' Q I h => ?_⟩) hs,
      lc_nest hi hg he h1 h2 hio hfx e1 rl fun a bs Hs1 H1 hlen n1 t1 => ?_⟩
    · obtain ⟨t, h3, h4⟩ := h s H C cl fp
      exact h3.run pins s' σ H' v u Q I r h4
    · obtain ⟨t, h3, h4⟩ := h s H C cl fp
      exact h3.run pins s' σ H' Q I h4
    · obtain ⟨t, h3, h4⟩ := h s H C cl fp
      exact h3.run pins s' σ H' Q I h4
    have hil : i < σ.length := by rw [hlen]; exact hin
    have r1 : NSt (gx X) S F i ρ σ Hs H (ρ1.set i none) (σ.set i (some (V.ref a))) Hs1 H1 rows := ⟨n1.assignNone hyio hyfx _, a, bs, List.getElem?_set_self hil, t1.back fun b z => own_none z⟩
    refine ⟨_, pss_cons (psW st) (pbW [.Return (some (.Name y rp)) rp2]), hst.run e2 r1 (E := { E with nx := WB X [.Return (some (.Name y rp)) rp2] E }) fun σ2 Hs2 H2 s2 r2 => ?_⟩
    obtain ⟨a2, bs2, ea2, t2⟩ := r2.nest
    obtain ⟨nx, sv⟩ := Nest.share r2.nxt t2
    refine ⟨_, pss_one (ps_ret (pe_var hy hv hd hcd)), _, ea2, q _ _ _ _ nx ⟨sv, fun _ b eb => ?_⟩⟩
    cases eb
    refine ⟨?_, t2.top.un⟩
    cases z : F.H0 a2 with
    | none => rfl
    | some u => exact absurd t2.top.new (rl.dom0 a2 (by rw [z]; exact fun z => by cases z))
  · cases hm
/-! ### reading -/
theorem T_nestB {i : Nat} {mk : Rho → Res (List (List D))} {m : NM} {ρ : Rho} {Q : Flow → Rho → Prop} : T (nestB i mk m ρ) Q = T (mk ρ) (fun rows ρ1 => ∃ ρ2 rows2, m (ρ1.set i none) rows = some (ρ2, rows2) ∧ Q (.ret (.lst .own (rows2.map (D.lst .sh)))) ρ2) := by
  unfold nestB
  rw [T_bind]
  congr 1
  funext rows ρ1
  apply propext
  constructor
  · intro h
    split at h
    · rename_i ρ2 rows2 e
      exact ⟨ρ2, rows2, e, by simpa [T_ok] using h⟩
    · exact absurd h (by simp [T_fail])
  · rintro ⟨ρ2, rows2, e, h⟩
    rw [e]
    simpa [T_ok] using h
end
end Sim

/-! Sim, part 44: a comprehension over an own list that stays own. -/
namespace Sim
open PySem PySem.Spec PyProof.Rows L2

def compOGo (vs : List Nat) (i : Nat) (g : GM) (c : TM) (e : EM) : Nat → Nat → List D → Rho → Res (List D)
  | 0, _, _ => fun _ => .fail
  | n + 1, j, acc => fun ρ => match ρ[i]? with
    | some (some (.lst _ ds)) => match ds[j]? with
      | none => .ok acc ρ
      | some d => (g d ρ).bind fun _ ρ1 => (c ρ1).bind fun b ρ2 => match b with
        | true => (e ρ2).bind fun y ρ3 => compOGo vs i g c e n (j + 1) (acc ++ [y]) (wipeR ρ3 vs)
        | false => compOGo vs i g c e n (j + 1) acc (wipeR ρ2 vs)
    | _ => .fail
def compOM (n : Nat) (vs : List Nat) (i : Nat) (g : GM) (c : TM) (e : EM) : EM := fun ρ =>
  if ρ.length = n ∧ i ∉ vs then (compOGo vs i g c e wf 0 [] (wipeR ρ vs)).bind fun acc ρ2 => if acc.length ≤ cap then .ok (.lst .own acc) (wipeR ρ2 vs) else .fail else .fail
theorem compOGo_len {vs : List Nat} {i : Nat} {g : GM} {c : TM} {e : EM} : ∀ {n j : Nat} {acc : List D} {ρ ρ' : Rho} {acc' : List D}, compOGo vs i g c e n j acc ρ = .ok acc' ρ' → acc.length ≤ acc'.length
  | 0, _, _, _, _, _, h => by cases h
  | n + 1, j, acc, ρ, ρ', acc', h => by
    unfold compOGo at h
    split at h
    · split at h
      · cases h; exact Nat.le_refl _
      · obtain ⟨_, ρ1, e1, h⟩ := Res.bind_ok h
        obtain ⟨b, ρ2, e2, h⟩ := Res.bind_ok h
        cases b with
        | true =>
          obtain ⟨y, ρ3, e3, h⟩ := Res.bind_ok h
          have := compOGo_len h
          rw [List.length_append] at this
          omega
        | false => exact compOGo_len h
    · cases h
section
variable {X : Cx} {S S' : Sc} {tg elt : Expr} {ifs : List Expr} {scope : Scope} {own : List (Str × Nat)} {g : GM} {mc : TM} {me : EM} {n i : Nat} {x : Str} {p : Pos}
theorem lcO_read (hN : X.N[i]? = some x) (hv : Vis X.env.scope x) (hd : (x == ("__debug__" : Str)) = false) (hcd : (x == ("__classdict__" : Str)) = false) (hg : Blk X scope fun Y => SimG Y S' tg g) (ht : Blk X scope fun Y => SimTs Y S' ifs mc) (he : Blk X scope fun Y => SimV Y S' elt me)
    (h1 : S'.os = S.os) (h2 : S'.io = S.io) (hio : ∀ i ∈ own.map (·.2), i ∉ S.io) (hfx : ∀ i, i < n → i ∈ own.map (·.2) ∨ i ∈ S'.fx)
    {ρ : Rho} {d : D} {ρ' : Rho} (hm : compOM n (own.map (·.2)) i g mc me ρ = .ok d ρ') {F : Fm} {σ : L2.St} {Hs H : Hp} (rl : Rel (gx X) S F Hs H ρ σ) {Q : VK}
    (q : ∀ v Hs' H', Nxt (gx X) S F ρ σ Hs H ρ' σ Hs' H' → SlotV (gx X) Hs' H' d v → (d.owned = true → ∀ a, v = .ref a → H a = none ∧ ¬ Own ρ' σ a) → Q v H') :
    tLc (WI X tg (.Name x p)) (fun x σ H Q => Blk X scope fun Y => WG Y tg x σ H Q) (fun σ H Q => Blk X scope fun Y => WTs Y ifs σ H Q) (fun σ H Q => Blk X scope fun Y => WE Y elt σ H Q) (own.map (·.2)) σ H Q := by
  unfold compOM at hm
  split at hm
  · rename_i hn
    obtain ⟨acc, ρ2, e2, hm⟩ := Res.bind_ok hm
    split at hm
    · rename_i hcap
      cases hm
      generalize hvs : own.map (·.2) = vs at *
      have h0 : ∃ m0 ds0, ρ[i]? = some (some (.lst m0 ds0)) := by
        unfold wf compOGo at e2
        split at e2
        · rename_i ds0 e
          exact ⟨_, _, (wipeR_some e).1⟩
        · cases e2
      obtain ⟨m0, ds0, e0⟩ := h0
      obtain ⟨v, ev, sv⟩ := rl.slot i _ e0
      obtain ⟨a, us, rfl, ha, rs⟩ := sv.lst rl.sub
      have hlen : σ.length = n := by rw [← rl.len]; exact hn.1
      have hil : i < σ.length := by
        have := (List.getElem?_eq_some_iff.mp ev).1
        exact this
      refine ⟨_, pi_seq (pe_var hN hv hd hcd), _, ev, a, rfl, .inl ⟨⟨us, .of ha⟩, ?_⟩⟩
      refine fun A hA => ?_
      have hsA : Hs A = none := rl.sub.free hA
      have nw : Nxt (gx X) S' F (wipeR ρ vs) (wipe σ vs) Hs H (wipeR ρ vs) (wipe σ vs) Hs (upd H A (.lst [])) := ((rl.wipe hio).sc h1 h2).newOwn hA _
      have hσi : (wipe σ vs)[i]? = some (some (V.ref a)) := by rw [wipe_ne hn.2]; exact ev
      refine ⟨fun j k Ht => ∃ ρt Hst ac av, compOGo vs i g mc me k j ac ρt = .ok acc ρ2 ∧ Same Hs Hst ∧ Nxt (gx X) S' F (wipeR ρ vs) (wipe σ vs) Hs H ρt (wipe σ vs) Hst Ht ∧
          Ht A = some (.lst av) ∧ Hst A = none ∧ ¬ Own ρt (wipe σ vs) A ∧ RepL (gx X) Hst ac av, ⟨wf, wipeR ρ vs, Hs, [], [], e2, .refl _, nw, upd_same, hsA, fun z => rl.notOwn hA (own_wipe z), rfl⟩, ?_⟩
      rintro j k Ht ⟨ρt, Hst, ac, av, e, sm, nt, htA, hstA, nOA, rac⟩
      cases k with
      | zero => cases e
      | succ k =>
        unfold compOGo at e
        split at e
        · rename_i md ds ei
          obtain ⟨v', ev', sv'⟩ := nt.rel.slot i _ ei
          rw [hσi] at ev'
          cases ev'
          obtain ⟨a', us', ea', ha', rs'⟩ := sv'.lst nt.rel.sub
          cases ea'
          split at e
          · rename_i hj
            cases e
            have nf : Nxt (gx X) S F ρ σ Hs H (wipeR ρ2 vs) σ Hst Ht := by
              refine ⟨(nt.rel.sc h1.symm h2.symm).unwipe hio, nt.same, fun b o h no => nt.keep b o h fun z => no (own_wipe z), nt.dom, fun b z => ?_, fun b h => ?_, fun _ _ => rfl, rfl⟩
              · rcases nt.own b (own_unwipe z) with y | y
                · exact .inl (own_wipe y)
                · exact .inr y
              · rcases nt.grow b h with y | y | y
                · exact .inl y
                · exact .inr (.inl (own_wipe y))
                · exact .inr (.inr y)
            refine .inl ⟨⟨us', .of ha', ?_⟩, q _ Hst Ht nf (.ofOwn ⟨A, av, rfl, hstA, htA, rac⟩ rfl) fun _ b eb => ?_⟩
            · have := List.getElem?_eq_none_iff.mp hj
              rw [← rs'.length]; exact this
            · cases eb
              exact ⟨hA, fun z => nOA (own_unwipe z)⟩
          · rename_i yd hj
            obtain ⟨_, ρ3, e3, e⟩ := Res.bind_ok e
            obtain ⟨b, ρ4, e4, e⟩ := Res.bind_ok e
            obtain ⟨u, hu, ru⟩ := rs'.get hj
            refine .inr ⟨⟨us', u, .of ha', hu⟩, fun H' => ∃ ρt Hst ac av, compOGo vs i g mc me k (j + 1) ac ρt = .ok acc ρ2 ∧ Same Hs Hst ∧ Nxt (gx X) S' F (wipeR ρ vs) (wipe σ vs) Hs H ρt (wipe σ vs) Hst H' ∧
              H' A = some (.lst av) ∧ Hst A = none ∧ ¬ Own ρt (wipe σ vs) A ∧ RepL (gx X) Hst ac av, fun H' h => ⟨k, Nat.lt_succ_self k, h⟩, fun y H3 hy s0 H0 C cl fp => ?_⟩
            obtain ⟨rfl, hy⟩ := hy
            have := hy us' (.of ha')
            rw [hu] at this
            cases this
            refine (hg s0 H0 C cl fp).run e3 nt.rel ru fun σ4 Hs4 H4 n4 => ?_
            obtain ⟨a4, b4, c4⟩ := n4.tmp htA hstA nOA
            have wl : σ4.length = (wipe σ vs).length := n4.slen
            have we : wipe σ4 vs = wipe σ vs := by
              refine wipe_ext (by rw [wl, wipe_length]) fun j hj => ?_
              rcases hfx j (by omega) with z | z
              · exact .inl z
              · exact .inr (n4.fix j z)
            refine ⟨we, fun s0 H0 C cl fp => (ht s0 H0 C cl fp).run e4 n4.rel fun Hs5 H5 n5 => ?_⟩
            obtain ⟨a5, b5, c5⟩ := n5.tmp a4 b4 c4
            have back : ∀ {ρ6 : Rho} {Hs6 H6 : Hp}, Nxt (gx X) S' F ρ3 σ4 Hs4 H4 ρ6 σ4 Hs6 H6 → ¬ Own ρ6 σ4 A → Nxt (gx X) S' F (wipeR ρ vs) (wipe σ vs) Hs H (wipeR ρ6 vs) (wipe σ vs) Hs6 H6 ∧ ¬ Own (wipeR ρ6 vs) (wipe σ vs) A := fun {ρ6 Hs6 H6} n6 c6 => by
              have n := (nt.trans n4).trans n6
              refine ⟨⟨by rw [← we]; exact n.rel.wipe (by rw [h2]; exact hio), n.same, n.keep, n.dom, fun b z => n.own b (by rw [← we] at z; exact own_wipe z), n.grow, fun _ _ => rfl, rfl⟩, fun z => c6 (by rw [← we] at z; exact own_wipe z)⟩
            cases b with
            | false =>
              rw [if_neg Bool.false_ne_true]
              obtain ⟨m1, m2⟩ := back n5 c5
              exact ⟨_, Hs5, ac, av, e, (sm.trans n4.same).trans n5.same, m1, a5, b5, m2, RepL.mono (n4.same.trans n5.same) _ _ rac⟩
            | true =>
              rw [if_pos rfl]
              obtain ⟨zd, ρ5, e5, e⟩ := Res.bind_ok e
              refine fun s0 H0 C cl fp => (he s0 H0 C cl fp).run e5 n5.rel fun yv Hs6 H6 n6 r6 => ?_
              obtain ⟨a6, b6, c6⟩ := n6.tmp a5 b5 c5
              obtain ⟨m1, m2⟩ := back (n5.trans n6) c6
              have sm6 : Same Hst Hs6 := (n4.same.trans n5.same).trans n6.same
              have hl := compOGo_len e
              rw [List.length_append, List.length_singleton] at hl
              refine ⟨av, a6, by rw [← rac.length, sizeCap]; omega, _, Hs6, ac ++ [zd], av ++ [yv], e, sm.trans sm6, m1.tmpWrite hA b6 m2 _, upd_same, b6, m2, (RepL.mono sm6 _ _ rac).append (.cons r6 .nil)⟩
        · cases e
    · cases hm
  · cases hm
theorem sim_lcO {pos : Pos} (hc : X.calm = true) (hNd : X.N.Nodup) (hg : Blk X scope fun Y => SimG Y S' tg g) (ht : Blk X scope fun Y => SimTs Y S' ifs mc) (he : Blk X scope fun Y => SimV Y S' elt me)
    (hio : ∀ i ∈ own.map (·.2), i ∉ S.io) (hfx : ∀ i, i < n → i ∈ own.map (·.2) ∨ i ∈ S'.fx) (ok : BlkOk X.N X.env.scope scope own) (h1 : S'.os = S.os := by rfl) (h2 : S'.io = S.io := by rfl)
    (hN : X.N[i]? = some x := by rfl) (hv : Vis X.env.scope x := by first | exact Or.inl rfl | exact Or.inr (Or.inl rfl) | exact Or.inr (Or.inr rfl))
    (hd : (x == ("__debug__" : Str)) = false := by decide) (hcd : (x == ("__classdict__" : Str)) = false := by decide)
    (hs : ∀ y, foldedSetIterable (.Name x p) X.env y = pure y := by intro _; rfl) : SimE X S (.ListComp elt [⟨tg, .Name x p, ifs, 0⟩] scope pos) (compOM n (own.map (·.2)) i g mc me) := by
  refine ⟨fun {ρ d ρ'} hm {F σ Hs H} rl {Q} q => ?_⟩
  refine ⟨_, pe_lc hc hNd (piW tg (.Name x p)) ok (fun s H C cl fp => ⟨fun pins s' σ H' v u Q I r h => ?_⟩) (fun s H C cl fp => ⟨fun pins s' σ H' Q I h => ?_⟩) (fun s H C cl fp => ⟨fun pins s' σ H' Q I h => ?_⟩) hs, lcO_read hN hv hd hcd hg ht he h1 h2 hio hfx hm rl q⟩
  · obtain ⟨t, h3, h4⟩ := h s H C cl fp
    exact h3.run pins s' σ H' v u Q I r h4
  · obtain ⟨t, h3, h4⟩ := h s H C cl fp
    exact h3.run pins s' σ H' Q I h4
  · obtain ⟨t, h3, h4⟩ := h s H C cl fp
    exact h3.run pins s' σ H' Q I h4
/-! ### reading -/
@[simp] theorem T_compO {vs : List Nat} {c : TM} {e : EM} {ρ : Rho} {Q : D → Rho → Prop} :
    T (compOM n vs i g c e ρ) Q = ((ρ.length = n ∧ i ∉ vs) ∧ T (compOGo vs i g c e wf 0 [] (wipeR ρ vs)) (fun acc ρ2 => acc.length ≤ cap ∧ Q (.lst .own acc) (wipeR ρ2 vs))) := by
  unfold compOM; simp only [T_bind, T_if, T_ok]
theorem T_compOF {α : Type} {vs : List Nat} {c : TM} {e : EM} {ρ : Rho} {Q : List D → Rho → Prop} (F : α → D) (pr : α → Bool) (G : α → D) {md : Md} {r : List α} (hr : ρ[i]? = some (some (.lst md (r.map F)))) (hl : r.length < wf)
    (hs : ∀ x ∈ r, T (g (F x) ρ) fun _ ρ1 => T (c ρ1) fun b ρ2 => b = pr x ∧ (pr x = true → T (e ρ2) fun y ρ3 => wipeR ρ3 vs = ρ ∧ y = G x) ∧ (pr x = false → wipeR ρ2 vs = ρ)) (q : Q ((r.filter pr).map G) ρ) : T (compOGo vs i g c e wf 0 [] ρ) Q := by
  have go : ∀ (n j : Nat) (acc : List D), j ≤ r.length → r.length < n + j → acc = ((r.take j).filter pr).map G → T (compOGo vs i g c e n j acc ρ) Q := by
    intro n
    induction n with
    | zero => intro j acc h1 h2 _; omega
    | succ n ih =>
      intro j acc h1 h2 h3
      unfold compOGo
      rw [hr]
      by_cases hj : j < r.length
      · have ej : (r.map F)[j]? = some (F r[j]) := by rw [List.getElem?_map, List.getElem?_eq_getElem hj]; rfl
        have et : r.take (j + 1) = r.take j ++ [r[j]] := List.take_succ_eq_append_getElem hj
        simp only [ej]
        rw [T_bind]
        refine T_mono (hs r[j] (List.getElem_mem hj)) fun _ ρ1 q1 => ?_
        rw [T_bind]
        refine T_mono q1 fun b ρ2 q2 => ?_
        obtain ⟨rfl, q3, q4⟩ := q2
        cases hp : pr r[j] with
        | true =>
          simp only [T_bind]
          refine T_mono (q3 hp) fun y ρ3 q5 => ?_
          rw [q5.1, q5.2]
          refine ih (j + 1) _ hj (by omega) ?_
          rw [et, List.filter_append, List.map_append, ← h3, List.filter_cons, if_pos hp]
          rfl
        | false =>
          simp only []
          rw [q4 hp]
          refine ih (j + 1) _ hj (by omega) ?_
          rw [et, List.filter_append, List.map_append, ← h3, List.filter_cons, if_neg (by rw [hp]; exact Bool.false_ne_true)]
          simp
      · have ej : (r.map F)[j]? = none := List.getElem?_eq_none (by rw [List.length_map]; omega)
        simp only [ej, T_ok]
        have : j = r.length := by omega
        subst this
        rw [List.take_length] at h3
        rw [h3]
        exact q
  exact go wf 0 [] (Nat.zero_le _) (by omega) (by simp)
end
end Sim

namespace Law
open PySem PySem.Spec PyProof.Rows L2 Sim

/-! ### the text by places -/
def topS (i : Nat) : Stmt := PySem.Challenge.pw_wardens_k49_trials_in_order.main.body.getD i (.Pass ⟨0, 0, 0, 0⟩)
abbrev s_reached_nodes : Stmt := topS 4
abbrev s_grouped : Stmt := topS 5
abbrev s_classes_of : Stmt := topS 6
abbrev s_reduce : Stmt := topS 7
abbrev s_led : Stmt := topS 9
abbrev s_cover : Stmt := topS 10
abbrev s_separator : Stmt := topS 11
abbrev s_separators : Stmt := topS 12
abbrev s_words_up_to : Stmt := topS 13
abbrev s_count_words : Stmt := topS 14
abbrev s_trials : Stmt := topS 15
abbrev s__law_cell : Stmt := topS 17
abbrev s__law_draw : Stmt := topS 18
abbrev s__law_alike : Stmt := topS 19
abbrev s__law_pick : Stmt := topS 20
abbrev s__law_some_monitor : Stmt := topS 21
abbrev s__law_apart : Stmt := topS 22
abbrev s__law_reach : Stmt := topS 23
abbrev s__law_smallest : Stmt := topS 24
abbrev s__law_words : Stmt := topS 25
abbrev s_law : Stmt := topS 26

/-! ### the mirrors -/
structure Fs where
  f_reached_nodes : Fn
  f_grouped : Fn
  f_classes_of : Fn
  f_reduce : Fn
  f_led : Fn
  f_cover : Fn
  f_separator : Fn
  f_separators : Fn
  f_words_up_to : Fn
  f_count_words : Fn
  f_trials : FnX
  f__law_cell : Fn
  f__law_draw : Fn
  f__law_alike : Fn
  f__law_pick : Fn
  f__law_some_monitor : Fn
  f__law_apart : Fn
  f__law_reach : Fn
  f__law_smallest : Fn
  f__law_words : Fn
  f_law : Fn
  h__law_alike : Fn
def b_reached_nodes (R : Fs) : SM :=
  (seqM (setM 1 (lstM (consA (opP ixDD (vP (nameM 0)) (vP (constM (.int 1)))) nilA)))
  (seqM (setM 2 (dispM (opP ixDD (vP (nameM 0)) (vP (constM (.int 1)))) (constM (.bl true))))
  (seqM (setM 3 (constM (.int 0)))
  (seqM (whileM (testM (op2 ltD (nameM 3) (callM lenD (consP (peekM 1) nilP))))
  (seqM (forM (iterM (opP ixDD (vP (opP ixDD (vP (nameM 0)) (vP (constM (.int 3))))) (vP (opP ixDD (peekM 1) (vP (nameM 3)))))) (nameG 4)
  (iteM (testM (opP notInXD (vP (nameM 4)) (peekM 2)))
  (seqM (putDM 2 (nameM 4) (constM (.bl true)))
  (appM 1 (nameM 4)))
  nilM))
  (augM 3 iaddD (constM (.int 1)))) wf)
  (retS 1)))))
abbrev S_reached_nodes : Sc := ⟨[1, 2], [], [], fun _ _ _ => False⟩
def b_grouped (R : Fs) : SM :=
  (seqM (setM 1 newD)
  (seqM (setM 2 (lstM nilA))
  (seqM (forM (iterM (nameM 0)) (nameG 3)
  (seqM (iteM (testM (opP notInXD (vP (nameM 3)) (peekM 1)))
  (putDM 1 (nameM 3) (callM lenD (consP (peekM 1) nilP)))
  nilM)
  (appM 2 (opP ixDD (peekM 1) (vP (nameM 3))))))
  (retS 2))))
abbrev S_grouped : Sc := ⟨[1, 2], [], [], fun _ _ _ => False⟩
def b_classes_of (R : Fs) : SM :=
  (seqM (setM 2 (callF R.f_grouped (consA (nameM 0) nilA)))
  (whileM (testM (constM (.bl true)))
  (seqM (setM 3 (lstM nilA))
  (seqM (forM (range1 (consA (callM lenD (consP (vP (nameM 1)) nilP)) nilA)) (nameG 4)
  (appM 3 (tupM (consA (opP ixDD (peekM 2) (vP (nameM 4))) (consA (callM tupleD (consP (vP (shM (compM 7 [5] (iterM (opP ixDD (vP (nameM 1)) (vP (nameM 4)))) (nameG 5) yesM (opP ixDD (peekM 2) (vP (nameM 5)))))) nilP)) nilA)))))
  (seqM (setM 6 (shM (callF R.f_grouped (consA (frzM 3) nilA))))
  (seqM (iteM (testM (op2 eqD (callM (maxDef 0) (consP (vP (nameM 6)) nilP)) (callM (maxDef 0) (consP (peekM 2) nilP))))
  (retS 2)
  nilM)
  (setM 2 (nameM 6)))))) wf))
abbrev S_classes_of : Sc := ⟨[2, 3], [], [], fun _ _ _ => False⟩
def b_reduce (R : Fs) : SM :=
  (seqM (setM 1 (shM (callF R.f_reached_nodes (consA (nameM 0) nilA))))
  (seqM (setM 2 newD)
  (seqM (forM (range1 (consA (callM lenD (consP (vP (nameM 1)) nilP)) nilA)) (nameG 3)
  (putDM 2 (opP ixDD (vP (nameM 1)) (vP (nameM 3))) (nameM 3)))
  (seqM (setM 4 (shM (compM 11 [5] (iterM (nameM 1)) (nameG 5) yesM (callM tupleD (consP (vP (shM (compM 11 [6] (iterM (opP ixDD (vP (opP ixDD (vP (nameM 0)) (vP (constM (.int 3))))) (vP (nameM 5)))) (nameG 6) yesM (opP ixDD (peekM 2) (vP (nameM 6)))))) nilP)))))
  (seqM (setM 7 (shM (callF R.f_classes_of (consA (shM (compM 11 [5] (iterM (nameM 1)) (nameG 5) yesM (opP ixDD (vP (opP ixDD (vP (nameM 0)) (vP (constM (.int 2))))) (vP (nameM 5))))) (consA (nameM 4) nilA)))))
  (seqM (setM 8 (lstM nilA))
  (seqM (forM (range1 (consA (callM lenD (consP (vP (nameM 1)) nilP)) nilA)) (nameG 3)
  (iteM (testM (op2 eqD (opP ixDD (vP (nameM 7)) (vP (nameM 3))) (callM lenD (consP (peekM 8) nilP))))
  (appM 8 (nameM 3))
  nilM))
  (seqM (setM 9 (callM tupleD (consP (vP (shM (compM 11 [3] (iterM (frzM 8)) (nameG 3) yesM (opP ixDD (vP (opP ixDD (vP (nameM 0)) (vP (constM (.int 2))))) (vP (opP ixDD (vP (nameM 1)) (vP (nameM 3)))))))) nilP)))
  (seqM (setM 10 (callM tupleD (consP (vP (shM (compM 11 [3] (iterM (frzM 8)) (nameG 3) yesM (callM tupleD (consP (vP (shM (compM 11 [6] (iterM (opP ixDD (vP (nameM 4)) (vP (nameM 3)))) (nameG 6) yesM (opP ixDD (vP (nameM 7)) (vP (nameM 6)))))) nilP))))) nilP)))
  (retM (tupM (consA (callM tupleD (consP (vP (opP ixDD (vP (nameM 0)) (vP (constM (.int 0))))) nilP)) (consA (constM (.int 0)) (consA (nameM 9) (consA (nameM 10) nilA)))))))))))))))
abbrev S_reduce : Sc := ⟨[2, 8], [], [], fun _ _ _ => False⟩
def b_led (R : Fs) : SM :=
  (seqM (forM (iterM (nameM 2)) (nameG 3)
  (setM 1 (opP ixDD (vP (opP ixDD (vP (opP ixDD (vP (nameM 0)) (vP (constM (.int 3))))) (vP (nameM 1)))) (vP (nameM 3)))))
  (retM (nameM 1)))
abbrev S_led : Sc := ⟨[], [], [], fun _ _ _ => False⟩
def b_cover (R : Fs) : SM :=
  (seqM (setM 1 (lstM (consA (tupM nilA) nilA)))
  (seqM (setM 2 (dispM (opP ixDD (vP (nameM 0)) (vP (constM (.int 1)))) (constM (.bl true))))
  (seqM (setM 3 (constM (.int 0)))
  (seqM (whileM (testM (op2 ltD (nameM 3) (callM lenD (consP (peekM 1) nilP))))
  (seqM (forM (range1 (consA (callM lenD (consP (vP (opP ixDD (vP (nameM 0)) (vP (constM (.int 0))))) nilP)) nilA)) (nameG 4)
  (seqM (setM 5 (shM (callF R.f_led (consA (nameM 0) (consA (opP ixDD (vP (nameM 0)) (vP (constM (.int 1)))) (consA (op2 addD (opP ixDD (peekM 1) (vP (nameM 3))) (tupM (consA (nameM 4) nilA))) nilA))))))
  (iteM (testM (opP notInXD (vP (nameM 5)) (peekM 2)))
  (seqM (putDM 2 (nameM 5) (constM (.bl true)))
  (appM 1 (op2 addD (opP ixDD (peekM 1) (vP (nameM 3))) (tupM (consA (nameM 4) nilA)))))
  nilM)))
  (augM 3 iaddD (constM (.int 1)))) wf)
  (retS 1)))))
abbrev S_cover : Sc := ⟨[1, 2], [], [], fun _ _ _ => False⟩
def b_separator (R : Fs) : SM :=
  (seqM (setM 3 (lstM (consA (tupM (consA (nameM 1) (consA (nameM 2) nilA))) nilA)))
  (seqM (setM 4 (dispM (tupM (consA (nameM 1) (consA (nameM 2) nilA))) (constM (.bl true))))
  (seqM (setM 5 (lstM (consA (tupM nilA) nilA)))
  (seqM (setM 6 (constM (.int 0)))
  (seqM (whileM (testM (op2 ltD (nameM 6) (callM lenD (consP (peekM 3) nilP))))
  (seqM (asgM (tupG 2 (consG (nameG 7) (consG (nameG 8) nilG))) (opP ixDD (peekM 3) (vP (nameM 6))))
  (seqM (iteM (testM (op2 neD (opP ixDD (vP (opP ixDD (vP (nameM 0)) (vP (constM (.int 2))))) (vP (nameM 7))) (opP ixDD (vP (opP ixDD (vP (nameM 0)) (vP (constM (.int 2))))) (vP (nameM 8)))))
  (retM (opP ixDD (peekM 5) (vP (nameM 6))))
  nilM)
  (seqM (forM (range1 (consA (callM lenD (consP (vP (opP ixDD (vP (nameM 0)) (vP (constM (.int 0))))) nilP)) nilA)) (nameG 9)
  (seqM (setM 10 (tupM (consA (opP ixDD (vP (opP ixDD (vP (opP ixDD (vP (nameM 0)) (vP (constM (.int 3))))) (vP (nameM 7)))) (vP (nameM 9))) (consA (opP ixDD (vP (opP ixDD (vP (opP ixDD (vP (nameM 0)) (vP (constM (.int 3))))) (vP (nameM 8)))) (vP (nameM 9))) nilA))))
  (iteM (testM (opP notInXD (vP (nameM 10)) (peekM 4)))
  (seqM (putDM 4 (nameM 10) (constM (.bl true)))
  (seqM (appM 3 (nameM 10))
  (appM 5 (op2 addD (opP ixDD (peekM 5) (vP (nameM 6))) (tupM (consA (nameM 9) nilA))))))
  nilM)))
  (augM 6 iaddD (constM (.int 1)))))) wf)
  (retM (constM .non)))))))
abbrev S_separator : Sc := ⟨[3, 4, 5], [], [], fun _ _ _ => False⟩
def b_separators (R : Fs) : SM :=
  (seqM (setM 1 (lstM (consA (tupM nilA) nilA)))
  (seqM (forM (range1 (consA (callM lenD (consP (vP (opP ixDD (vP (nameM 0)) (vP (constM (.int 2))))) nilP)) nilA)) (nameG 2)
  (forM (range1 (consA (nameM 2) nilA)) (nameG 3)
  (seqM (setM 4 (shM (callF R.f_separator (consA (nameM 0) (consA (nameM 3) (consA (nameM 2) nilA))))))
  (iteM (andM (testM (op2 isNotD (nameM 4) (constM .non))) (testM (opP notInXD (vP (nameM 4)) (peekM 1))))
  (appM 1 (nameM 4))
  nilM))))
  (retS 1)))
abbrev S_separators : Sc := ⟨[1], [], [], fun _ _ _ => False⟩
def b_words_up_to (R : Fs) : SM :=
  (seqM (setM 2 (lstM (consA (tupM nilA) nilA)))
  (seqM (setM 3 (shM (lstM (consA (tupM nilA) nilA))))
  (seqM (forM (range1 (consA (nameM 1) nilA)) (nameG 4)
  (seqM (setM 3 (shM (compM2 7 [5, 6] [6] (iterM (nameM 3)) (nameG 5) yesM (range1 (consA (nameM 0) nilA)) (nameG 6) yesM (op2 addD (nameM 5) (tupM (consA (nameM 6) nilA))))))
  (setM 2 (opP addD (peekM 2) (vP (nameM 3))))))
  (retS 2))))
abbrev S_words_up_to : Sc := ⟨[2], [], [], fun _ _ _ => False⟩
def b_count_words (R : Fs) : SM :=
  (seqM (setM 2 (constM (.int 1)))
  (seqM (setM 3 (constM (.int 1)))
  (seqM (forM (range1 (consA (nameM 1) nilA)) (nameG 4)
  (seqM (setM 3 (op2 mulD (nameM 3) (nameM 0)))
  (augM 2 iaddD (nameM 3))))
  (retM (nameM 2)))))
abbrev S_count_words : Sc := ⟨[], [], [], fun _ _ _ => False⟩
def b_trials (R : Fs) : SM :=
  (seqM (setM 3 (shM (callF R.f_reduce (consA (nameM 0) nilA))))
  (seqM (setM 4 (shM (callF R.f_separators (consA (nameM 3) nilA))))
  (seqM (setM 5 (shM (callF R.f_cover (consA (nameM 3) nilA))))
  (seqM (iteM (testM (op2 gtD (op2 mulD (op2 mulD (callM lenD (consP (vP (opP ixDD (vP (nameM 3)) (vP (constM (.int 2))))) nilP)) (shM (callF R.f_count_words (consA (callM lenD (consP (vP (opP ixDD (vP (nameM 3)) (vP (constM (.int 0))))) nilP)) (consA (op2 addD (nameM 1) (constM (.int 1))) nilA))))) (callM lenD (consP (vP (nameM 4)) nilP))) (nameM 2)))
  (raise1 "TooMany" (.str "tests"))
  nilM)
  (seqM (setM 6 (lstM nilA))
  (seqM (setM 7 newD)
  (seqM (forM (iterM (nameM 5)) (nameG 8)
  (forM (iterM (shM (callF R.f_words_up_to (consA (callM lenD (consP (vP (opP ixDD (vP (nameM 3)) (vP (constM (.int 0))))) nilP)) (consA (op2 addD (nameM 1) (constM (.int 1))) nilA))))) (nameG 9)
  (forM (iterM (nameM 4)) (nameG 10)
  (seqM (setM 11 (op2 addD (op2 addD (nameM 8) (nameM 9)) (nameM 10)))
  (iteM (testM (opP notInXD (vP (nameM 11)) (peekM 7)))
  (seqM (putDM 7 (nameM 11) (constM (.bl true)))
  (appM 6 (shM (compM 13 [12] (iterM (nameM 11)) (nameG 12) yesM (opP ixDD (vP (opP ixDD (vP (nameM 3)) (vP (constM (.int 0))))) (vP (nameM 12)))))))
  nilM)))))
  (retS 6))))))))
abbrev S_trials : Sc := ⟨[6, 7], [], [], fun _ _ _ => False⟩
def b__law_cell (R : Fs) : SM :=
  (seqM (iteM (testM (op2 ltD (nameM 1) (callM lenD (consP (vP (nameM 0)) nilP))))
  (retM (opP ixDD (vP (nameM 0)) (vP (nameM 1))))
  nilM)
  (retM (constM (.int 0))))
abbrev S__law_cell : Sc := ⟨[], [], [], fun _ _ _ => False⟩
def b__law_draw (R : Fs) : SM :=
  (seqM (setM 3 (shM (callF R.f__law_cell (consA (nameM 0) (consA (nameM 1) nilA)))))
  (seqM (iteM (testM (op2 ltD (nameM 3) (constM (.int 0))))
  (setM 3 (op1 negD (nameM 3)))
  nilM)
  (seqM (setM 4 (lstM nilA))
  (seqM (iteM (testM (op2 geD (nameM 3) (op2 powD (constM (.int 10)) (constM (.int 18)))))
  (seqM (setM 3 (op2 subD (nameM 3) (op2 powD (constM (.int 10)) (constM (.int 18)))))
  (seqM (forM (iterM (nameM 2)) (nameG 5)
  (seqM (appM 4 (op2 modD (nameM 3) (nameM 5)))
  (setM 3 (op2 fdivD (nameM 3) (nameM 5)))))
  (retS 4)))
  nilM)
  (seqM (setM 6 (op2 modD (op2 addD (op2 addD (nameM 3) (constM (.int 1))) (op2 mulD (constM (.int 31)) (nameM 1))) (constM (.int 2147483647))))
  (seqM (forM (range1 (consA (callM lenD (consP (vP (nameM 2)) nilP)) nilA)) (nameG 7)
  (seqM (setM 6 (op2 modD (op2 addD (op2 addD (op2 mulD (nameM 6) (constM (.int 48271))) (constM (.int 11))) (nameM 7)) (constM (.int 2147483647))))
  (seqM (setM 6 (op2 modD (op2 addD (op2 mulD (nameM 6) (constM (.int 69621))) (constM (.int 3))) (constM (.int 2147483647))))
  (appM 4 (op2 modD (op2 fdivD (nameM 6) (constM (.int 7))) (opP ixDD (vP (nameM 2)) (vP (nameM 7))))))))
  (retS 4)))))))
abbrev S__law_draw : Sc := ⟨[4], [], [], fun _ _ _ => False⟩
def b__law_alike (R : Fs) : SM :=
  (seqM (iteM (testM (op2 isD (nameM 1) (constM .non)))
  (retM (op2 isD (nameM 0) (constM .non)))
  nilM)
  (seqM (iteM (testM (isiM .bool (vP (nameM 1))))
  (retM (andV (isiM .bool (vP (nameM 0))) (op2 eqD (nameM 0) (nameM 1))))
  nilM)
  (seqM (iteM (testM (isiM .int (vP (nameM 1))))
  (retM (andV (isiM .int (vP (nameM 0))) (andV (notV (isiM .bool (vP (nameM 0)))) (op2 eqD (nameM 0) (nameM 1)))))
  nilM)
  (seqM (iteM (testM (isiM .str (vP (nameM 1))))
  (retM (andV (isiM .str (vP (nameM 0))) (op2 eqD (nameM 0) (nameM 1))))
  nilM)
  (seqM (iteM (andM (testM (isiM .tuple (vP (nameM 1)))) (notM (testM (isiM .tuple (vP (nameM 0))))))
  (retM (constM (.bl false)))
  nilM)
  (seqM (iteM (andM (testM (isiM .list (vP (nameM 1)))) (notM (testM (isiM .list (vP (nameM 0))))))
  (retM (constM (.bl false)))
  nilM)
  (seqM (iteM (testM (op2 neD (callM lenD (consP (vP (nameM 0)) nilP)) (callM lenD (consP (vP (nameM 1)) nilP))))
  (retM (constM (.bl false)))
  nilM)
  (seqM (forM (range1 (consA (callM lenD (consP (vP (nameM 1)) nilP)) nilA)) (nameG 2)
  (iteM (notM (testM (shM (callF R.f__law_alike (consA (opP ixDD (vP (nameM 0)) (vP (nameM 2))) (consA (opP ixDD (vP (nameM 1)) (vP (nameM 2))) nilA))))))
  (retM (constM (.bl false)))
  nilM))
  (retM (constM (.bl true)))))))))))
abbrev S__law_alike : Sc := ⟨[], [], [], fun _ _ _ => False⟩
def b__law_pick (R : Fs) : SM :=
  (retM (opP ixDD (vP (shM (callF R.f__law_draw (consA (nameM 0) (consA (nameM 1) (consA (shM (lstM (consA (callM maxD (consP (vP (constM (.int 1))) (consP (vP (nameM 2)) nilP))) nilA))) nilA)))))) (vP (constM (.int 0)))))
abbrev S__law_pick : Sc := ⟨[], [], [], fun _ _ _ => False⟩
def b__law_some_monitor (R : Fs) : SM :=
  (seqM (setM 4 (sliceM (vP (shM (lstM (consA (tupM (consA (constM (.int 0)) nilA)) (consA (tupM (consA (constM .non) nilA)) (consA (tupM (consA (constM (.int 1)) nilA)) (consA (tupM nilA) (consA (tupM (consA (constM (.int 0)) (consA (constM (.int 1)) nilA))) (consA (tupM (consA (op1 negD (constM (.int 2000000000))) (consA (constM .non) nilA))) nilA))))))))) noO (someO (nameM 2))))
  (seqM (setM 5 (op2 addD (constM (.int 1)) (opP ixDD (vP (shM (callF R.f__law_draw (consA (nameM 0) (consA (nameM 1) (consA (shM (lstM (consA (nameM 3) nilA))) nilA)))))) (vP (constM (.int 0))))))
  (seqM (setM 6 (shM (callF R.f__law_draw (consA (nameM 0) (consA (op2 addD (nameM 1) (constM (.int 1))) (consA (op2 mulD (shM (lstM (consA (constM (.int 97)) nilA))) (constM (.int 60))) nilA))))))
  (seqM (setM 7 (lstM nilA))
  (seqM (setM 8 (lstM nilA))
  (seqM (forM (range1 (consA (nameM 5) nilA)) (nameG 9)
  (seqM (setM 10 (opP ixDD (vP (nameM 6)) (vP (op2 modD (nameM 9) (constM (.int 60))))))
  (seqM (appM 7 (opP ixDD (vP (shM (lstM (consA (constM (.str "sure")) (consA (constM (.str "never")) (consA (constM (.str "unknown")) (consA (constM (.str "impossible")) nilA))))))) (vP (op2 modD (op2 addD (nameM 10) (op2 fdivD (nameM 9) (constM (.int 60)))) (op2 addD (constM (.int 2)) (op2 modD (nameM 10) (constM (.int 3))))))))
  (seqM (setM 11 (lstM nilA))
  (seqM (forM (range1 (consA (nameM 2) nilA)) (nameG 12)
  (appM 11 (op2 modD (op2 addD (op2 mulD (opP ixDD (vP (nameM 6)) (vP (op2 modD (op2 addD (op2 addD (op2 mulD (nameM 9) (nameM 2)) (nameM 12)) (constM (.int 7))) (constM (.int 60))))) (op2 addD (constM (.int 1)) (op2 fdivD (nameM 9) (constM (.int 5))))) (nameM 12)) (nameM 5))))
  (appM 8 (callM tupleD (consP (peekM 11) nilP))))))))
  (seqM (setM 13 (opP ixDD (vP (shM (callF R.f__law_draw (consA (nameM 0) (consA (op2 addD (nameM 1) (constM (.int 2))) (consA (shM (lstM (consA (nameM 5) nilA))) nilA)))))) (vP (constM (.int 0)))))
  (retM (tupM (consA (callM tupleD (consP (vP (nameM 4)) nilP)) (consA (nameM 13) (consA (callM tupleD (consP (peekM 7) nilP)) (consA (callM tupleD (consP (peekM 8) nilP)) nilA)))))))))))))
abbrev S__law_some_monitor : Sc := ⟨[7, 8, 11], [], [], fun _ _ _ => False⟩
def b__law_apart (R : Fs) : SM :=
  (seqM (setM 2 (callM lenD (consP (vP (nameM 0)) nilP)))
  (nestB 3 (compNM 9 [4] (range1 (consA (nameM 2) nilA)) (nameG 4) (compM 9 [5] (range1 (consA (nameM 2) nilA)) (nameG 5) yesM (op2 neD (opP ixDD (vP (nameM 0)) (vP (nameM 4))) (opP ixDD (vP (nameM 0)) (vP (nameM 5))))))
  (forN (range1 (consA (nameM 2) nilA)) (nameG 6)
  (seqN (forN (range1 (consA (nameM 2) nilA)) (nameG 4)
  (seqN (forN (range1 (consA (nameM 2) nilA)) (nameG 5)
  (seqN (iteN 3 (notM (testM (opP ixDD (vP (opP ixDD (vP (nameM 3)) (vP (nameM 4)))) (vP (nameM 5)))))
  (seqN (setFlatN 3 7 (compM 9 [8] (range1 (consA (callM lenD (consP (vP (opP ixDD (vP (nameM 1)) (vP (nameM 4)))) nilP)) nilA)) (nameG 8) (testM (opP ixDD (vP (opP ixDD (vP (nameM 3)) (vP (opP ixDD (vP (opP ixDD (vP (nameM 1)) (vP (nameM 4)))) (vP (nameM 8)))))) (vP (opP ixDD (vP (opP ixDD (vP (nameM 1)) (vP (nameM 5)))) (vP (nameM 8)))))) (nameM 8)))
  (seqN (iteN 3 (testM (op2 neD (nameM 7) (shM (lstM nilA))))
  (seqN (putN (nameM 4) (nameM 5) (constM (.bl true)))
  nilN)
  nilN)
  nilN))
  nilN)
  nilN))
  nilN))
  nilN))))
abbrev S__law_apart : Sc := ⟨[], [], [], fun _ _ _ => False⟩
def b__law_reach (R : Fs) : SM :=
  (seqM (setM 2 (lstM (consA (nameM 1) nilA)))
  (seqM (forM (range1 (consA (callM lenD (consP (vP (opP ixDD (vP (nameM 0)) (vP (constM (.int 2))))) nilP)) nilA)) (nameG 3)
  (iteM (testM (op2 ltD (nameM 3) (callM lenD (consP (peekM 2) nilP))))
  (forM (iterM (opP ixDD (vP (opP ixDD (vP (nameM 0)) (vP (constM (.int 3))))) (vP (opP ixDD (peekM 2) (vP (nameM 3)))))) (nameG 4)
  (iteM (testM (opP notInXD (vP (nameM 4)) (peekM 2)))
  (appM 2 (nameM 4))
  nilM))
  nilM))
  (retS 2)))
abbrev S__law_reach : Sc := ⟨[2], [], [], fun _ _ _ => False⟩
def b__law_smallest (R : Fs) : SM :=
  (seqM (setM 1 (shM (callF R.f__law_reach (consA (nameM 0) (consA (opP ixDD (vP (nameM 0)) (vP (constM (.int 1)))) nilA)))))
  (seqM (setM 2 (shM (callF R.f__law_apart (consA (opP ixDD (vP (nameM 0)) (vP (constM (.int 2)))) (consA (opP ixDD (vP (nameM 0)) (vP (constM (.int 3)))) nilA)))))
  (seqM (setM 3 (lstM nilA))
  (seqM (forM (iterM (nameM 1)) (nameG 4)
  (iteM (testM (op2 eqD (callM lenD (consP (vP (shM (compOM 10 [5] 3 (nameG 5) (notM (testM (opP ixDD (vP (opP ixDD (vP (nameM 2)) (vP (nameM 4)))) (vP (nameM 5))))) (nameM 5)))) nilP)) (constM (.int 0))))
  (appM 3 (nameM 4))
  nilM))
  (seqM (setM 6 (lstM nilA))
  (seqM (forM (iterM (frzM 3)) (nameG 4)
  (seqM (setM 7 (lstM nilA))
  (seqM (forM (iterM (opP ixDD (vP (opP ixDD (vP (nameM 0)) (vP (constM (.int 3))))) (vP (nameM 4)))) (nameG 8)
  (appM 7 (opP ixDD (vP (shM (compM 10 [9] (range1 (consA (callM lenD (consP (peekM 3) nilP)) nilA)) (nameG 9) (notM (testM (opP ixDD (vP (opP ixDD (vP (nameM 2)) (vP (opP ixDD (peekM 3) (vP (nameM 9)))))) (vP (nameM 8))))) (nameM 9)))) (vP (constM (.int 0))))))
  (appM 6 (callM tupleD (consP (peekM 7) nilP))))))
  (retM (tupM (consA (callM tupleD (consP (vP (opP ixDD (vP (nameM 0)) (vP (constM (.int 0))))) nilP)) (consA (constM (.int 0)) (consA (callM tupleD (consP (vP (shM (compM 10 [4] (iterM (frzM 3)) (nameG 4) yesM (opP ixDD (vP (opP ixDD (vP (nameM 0)) (vP (constM (.int 2))))) (vP (nameM 4)))))) nilP)) (consA (callM tupleD (consP (peekM 6) nilP)) nilA))))))))))))
abbrev S__law_smallest : Sc := ⟨[3, 6, 7], [], [], fun _ _ _ => False⟩
def b__law_words (R : Fs) : SM :=
  (seqM (setM 2 (lstM (consA (tupM nilA) nilA)))
  (seqM (setM 3 (shM (lstM (consA (tupM nilA) nilA))))
  (seqM (forM (range1 (consA (nameM 1) nilA)) (nameG 4)
  (seqM (setM 5 (lstM nilA))
  (seqM (forM (iterM (nameM 3)) (nameG 6)
  (forM (range1 (consA (nameM 0) nilA)) (nameG 7)
  (appM 5 (op2 addD (nameM 6) (tupM (consA (nameM 7) nilA))))))
  (seqM (setM 2 (opP addD (peekM 2) (peekM 5)))
  (setM 3 (frzM 5))))))
  (retS 2))))
abbrev S__law_words : Sc := ⟨[2, 5], [], [], fun _ _ _ => False⟩
def b_law (R : Fs) : SM :=
  (seqM (setM 1 (shM (callF R.f__law_some_monitor (consA (nameM 0) (consA (constM (.int 1)) (consA (shM (callF R.f__law_pick (consA (nameM 0) (consA (constM (.int 0)) (consA (constM (.int 4)) nilA))))) (consA (constM (.int 8)) nilA)))))))
  (seqM (setM 2 (shM (callF R.f__law_draw (consA (nameM 0) (consA (constM (.int 4)) (consA (shM (lstM (consA (constM (.int 3)) (consA (constM (.int 4)) (consA (constM (.int 400)) nilA))))) nilA))))))
  (seqM (setM 3 (shM (callF R.f__law_smallest (consA (nameM 1) nilA))))
  (seqM (setM 4 (shM (callF R.f_separators (consA (nameM 3) nilA))))
  (seqM (setM 5 (shM (callF R.f__law_words (consA (callM lenD (consP (vP (opP ixDD (vP (nameM 3)) (vP (constM (.int 0))))) nilP)) (consA (op2 addD (opP ixDD (vP (nameM 2)) (vP (constM (.int 0)))) (constM (.int 1))) nilA)))))
  (seqM (setM 6 (op2 mulD (op2 mulD (callM lenD (consP (vP (opP ixDD (vP (nameM 3)) (vP (constM (.int 2))))) nilP)) (callM lenD (consP (vP (nameM 5)) nilP))) (callM lenD (consP (vP (nameM 4)) nilP))))
  (seqM (setM 7 (op2 addD (constM (.int 1)) (opP ixDD (vP (nameM 2)) (vP (constM (.int 2))))))
  (seqM (iteM (andM (testM (op2 gtD (opP ixDD (vP (nameM 2)) (vP (constM (.int 1)))) (constM (.int 1)))) (testM (op2 leD (nameM 6) (constM (.int 400)))))
  (setM 7 (callM maxD (consP (vP (constM (.int 1))) (consP (vP (op2 addD (op2 subD (nameM 6) (opP ixDD (vP (nameM 2)) (vP (constM (.int 1))))) (constM (.int 2)))) nilP))))
  nilM)
  (seqM (setM 8 (constM (.bl false)))
  (seqM (setM 9 (constM .non))
  (seqM (tryAM ["TooMany"] 10
  (setXV 9 (callX R.f_trials (consA (nameM 1) (consA (opP ixDD (vP (nameM 2)) (vP (constM (.int 0)))) (consA (nameM 7) nilA)))))
  (fun x => (setM 8 (shM (callF R.h__law_alike (consA (fldM x) (consA (constM (.str "tests")) nilA)))))))
  (seqM (iteM (testM (op2 gtD (nameM 6) (nameM 7)))
  (retS 8)
  nilM)
  (seqM (setM 11 (lstM nilA))
  (seqM (setM 12 newD)
  (seqM (forM (iterM (shM (callF R.f_cover (consA (nameM 3) nilA)))) (nameG 13)
  (forM (iterM (nameM 5)) (nameG 14)
  (forM (iterM (nameM 4)) (nameG 15)
  (seqM (setM 16 (op2 addD (op2 addD (nameM 13) (nameM 14)) (nameM 15)))
  (iteM (testM (opP notInXD (vP (nameM 16)) (peekM 12)))
  (seqM (putDM 12 (nameM 16) (constM (.bl true)))
  (appM 11 (shM (compM 18 [17] (iterM (nameM 16)) (nameG 17) yesM (opP ixDD (vP (opP ixDD (vP (nameM 3)) (vP (constM (.int 0))))) (vP (nameM 17)))))))
  nilM)))))
  (retM (andV (notV (frzM 8)) (shM (callF R.f__law_alike (consA (nameM 9) (consA (frzM 11) nilA)))))))))))))))))))))
abbrev S_law : Sc := ⟨[8, 11, 12], [], [], fun _ _ _ => False⟩
def hb__law_alike (R : Fs) : SM :=
  (seqM (iteM (testM (op2 isD (nameM 1) (constM .non)))
  (retM (op2 isD (nameM 0) (constM .non)))
  nilM)
  (seqM (iteM (testM (isiM .bool (vP (nameM 1))))
  (retM (andV (isiM .bool (vP (nameM 0))) (op2 eqD (nameM 0) (nameM 1))))
  nilM)
  (seqM (iteM (testM (isiM .int (vP (nameM 1))))
  (retM (andV (isiM .int (vP (nameM 0))) (andV (notV (isiM .bool (vP (nameM 0)))) (op2 eqD (nameM 0) (nameM 1)))))
  nilM)
  (seqM (iteM (testM (isiM .str (vP (nameM 1))))
  (retM (andV (isiM .str (vP (nameM 0))) (op2 eqD (nameM 0) (nameM 1))))
  nilM)
  (seqM (iteM (andM (testM (isiM .tuple (vP (nameM 1)))) (notM (testM (isiM .tuple (vP (nameM 0))))))
  (retM (constM (.bl false)))
  nilM)
  (seqM (iteM (andM (testM (isiM .list (vP (nameM 1)))) (notM (testM (isiM .list (vP (nameM 0))))))
  (retM (constM (.bl false)))
  nilM)
  (seqM (iteM (testM (op2 neD (callM lenD (consP (vP (nameM 0)) nilP)) (callM lenD (consP (vP (nameM 1)) nilP))))
  (retM (constM (.bl false)))
  nilM)
  (seqM (forM (range1 (consA (callM lenD (consP (vP (nameM 1)) nilP)) nilA)) (nameG 2)
  (iteM (notM (testM (shM (callF R.h__law_alike (consA (opP ixDD (vP (nameM 0)) (vP (nameM 2))) (consA (opP ixDD (vP (nameM 1)) (vP (nameM 2))) nilA))))))
  (retM (constM (.bl false)))
  nilM))
  (retM (constM (.bl true)))))))))))
def M : Nat → Fs
  | 0 => ⟨fun _ => none, fun _ => none, fun _ => none, fun _ => none, fun _ => none, fun _ => none, fun _ => none, fun _ => none, fun _ => none, fun _ => none, fun _ => none, fun _ => none, fun _ => none, fun _ => none, fun _ => none, fun _ => none, fun _ => none, fun _ => none, fun _ => none, fun _ => none, fun _ => none, fun _ => none⟩
  | k + 1 => ⟨defF 4 [] (b_reached_nodes (M k)), defF 3 [] (b_grouped (M k)), defF 5 [] (b_classes_of (M k)), defF 10 [] (b_reduce (M k)), defF 1 [] (b_led (M k)), defF 5 [] (b_cover (M k)), defF 8 [] (b_separator (M k)), defF 4 [] (b_separators (M k)), defF 5 [] (b_words_up_to (M k)), defF 3 [] (b_count_words (M k)), defX 10 (b_trials (M k)), defF 0 [] (b__law_cell (M k)), defF 5 [] (b__law_draw (M k)), defF 1 [] (b__law_alike (M k)), defF 0 [] (b__law_pick (M k)), defF 10 [] (b__law_some_monitor (M k)), defF 7 [] (b__law_apart (M k)), defF 3 [] (b__law_reach (M k)), defF 9 [] (b__law_smallest (M k)), defF 6 [] (b__law_words (M k)), defF 17 [] (b_law (M k)), defF 1 [] (hb__law_alike (M k))⟩
theorem hot_eq : ∀ k : Nat, (M k).h__law_alike = (M k).f__law_alike
  | 0 => rfl
  | k + 1 => by
    have e__law_alike := hot_eq k
    have z__law_alike : hb__law_alike (M k) = b__law_alike (M k) := by
      unfold hb__law_alike b__law_alike
      rw [e__law_alike]
    exact congrArg (defF 1 []) z__law_alike

/-! ### what the top has written -/
structure Top (K : PySem.W.Frag) (mg : Str → Option Value) where
  a_reached_nodes : Addr
  d_reached_nodes : FuncData
  F_reached_nodes : Fun K "reached_nodes" "reached_nodes" s_reached_nodes a_reached_nodes d_reached_nodes
  m_reached_nodes : mg "reached_nodes" = some (.ref a_reached_nodes)
  b_reached_nodes : Binds K d_reached_nodes ["monitor"] []
  a_grouped : Addr
  d_grouped : FuncData
  F_grouped : Fun K "grouped" "grouped" s_grouped a_grouped d_grouped
  m_grouped : mg "grouped" = some (.ref a_grouped)
  b_grouped : Binds K d_grouped ["keys"] []
  a_classes_of : Addr
  d_classes_of : FuncData
  F_classes_of : Fun K "classes_of" "classes_of" s_classes_of a_classes_of d_classes_of
  m_classes_of : mg "classes_of" = some (.ref a_classes_of)
  b_classes_of : Binds K d_classes_of ["verdicts", "edges"] []
  a_reduce : Addr
  d_reduce : FuncData
  F_reduce : Fun K "reduce" "reduce" s_reduce a_reduce d_reduce
  m_reduce : mg "reduce" = some (.ref a_reduce)
  b_reduce : Binds K d_reduce ["monitor"] []
  a_led : Addr
  d_led : FuncData
  F_led : Fun K "led" "led" s_led a_led d_led
  m_led : mg "led" = some (.ref a_led)
  b_led : Binds K d_led ["monitor", "node", "places"] []
  a_cover : Addr
  d_cover : FuncData
  F_cover : Fun K "cover" "cover" s_cover a_cover d_cover
  m_cover : mg "cover" = some (.ref a_cover)
  b_cover : Binds K d_cover ["monitor"] []
  a_separator : Addr
  d_separator : FuncData
  F_separator : Fun K "separator" "separator" s_separator a_separator d_separator
  m_separator : mg "separator" = some (.ref a_separator)
  b_separator : Binds K d_separator ["monitor", "node", "other"] []
  a_separators : Addr
  d_separators : FuncData
  F_separators : Fun K "separators" "separators" s_separators a_separators d_separators
  m_separators : mg "separators" = some (.ref a_separators)
  b_separators : Binds K d_separators ["monitor"] []
  a_words_up_to : Addr
  d_words_up_to : FuncData
  F_words_up_to : Fun K "words_up_to" "words_up_to" s_words_up_to a_words_up_to d_words_up_to
  m_words_up_to : mg "words_up_to" = some (.ref a_words_up_to)
  b_words_up_to : Binds K d_words_up_to ["count", "length"] []
  a_count_words : Addr
  d_count_words : FuncData
  F_count_words : Fun K "count_words" "count_words" s_count_words a_count_words d_count_words
  m_count_words : mg "count_words" = some (.ref a_count_words)
  b_count_words : Binds K d_count_words ["count", "length"] []
  a_trials : Addr
  d_trials : FuncData
  F_trials : Fun K "trials" "trials" s_trials a_trials d_trials
  m_trials : mg "trials" = some (.ref a_trials)
  b_trials : Binds K d_trials ["monitor", "extra", "most"] []
  a__law_cell : Addr
  d__law_cell : FuncData
  F__law_cell : Fun K "_law_cell" "_law_cell" s__law_cell a__law_cell d__law_cell
  m__law_cell : mg "_law_cell" = some (.ref a__law_cell)
  b__law_cell : Binds K d__law_cell ["_law_script", "_law_k"] []
  a__law_draw : Addr
  d__law_draw : FuncData
  F__law_draw : Fun K "_law_draw" "_law_draw" s__law_draw a__law_draw d__law_draw
  m__law_draw : mg "_law_draw" = some (.ref a__law_draw)
  b__law_draw : Binds K d__law_draw ["_law_script", "_law_k", "_law_sizes"] []
  a__law_alike : Addr
  d__law_alike : FuncData
  F__law_alike : Fun K "_law_alike" "_law_alike" s__law_alike a__law_alike d__law_alike
  m__law_alike : mg "_law_alike" = some (.ref a__law_alike)
  b__law_alike : Binds K d__law_alike ["_law_actual", "_law_expected"] []
  a__law_pick : Addr
  d__law_pick : FuncData
  F__law_pick : Fun K "_law_pick" "_law_pick" s__law_pick a__law_pick d__law_pick
  m__law_pick : mg "_law_pick" = some (.ref a__law_pick)
  b__law_pick : Binds K d__law_pick ["_law_script", "_law_k", "_law_count"] []
  a__law_some_monitor : Addr
  d__law_some_monitor : FuncData
  F__law_some_monitor : Fun K "_law_some_monitor" "_law_some_monitor" s__law_some_monitor a__law_some_monitor d__law_some_monitor
  m__law_some_monitor : mg "_law_some_monitor" = some (.ref a__law_some_monitor)
  b__law_some_monitor : Binds K d__law_some_monitor ["_law_script", "_law_k", "_law_many", "_law_nodes"] []
  a__law_apart : Addr
  d__law_apart : FuncData
  F__law_apart : Fun K "_law_apart" "_law_apart" s__law_apart a__law_apart d__law_apart
  m__law_apart : mg "_law_apart" = some (.ref a__law_apart)
  b__law_apart : Binds K d__law_apart ["_law_verdicts", "_law_edges"] []
  a__law_reach : Addr
  d__law_reach : FuncData
  F__law_reach : Fun K "_law_reach" "_law_reach" s__law_reach a__law_reach d__law_reach
  m__law_reach : mg "_law_reach" = some (.ref a__law_reach)
  b__law_reach : Binds K d__law_reach ["_law_monitor", "_law_first"] []
  a__law_smallest : Addr
  d__law_smallest : FuncData
  F__law_smallest : Fun K "_law_smallest" "_law_smallest" s__law_smallest a__law_smallest d__law_smallest
  m__law_smallest : mg "_law_smallest" = some (.ref a__law_smallest)
  b__law_smallest : Binds K d__law_smallest ["_law_monitor"] []
  a__law_words : Addr
  d__law_words : FuncData
  F__law_words : Fun K "_law_words" "_law_words" s__law_words a__law_words d__law_words
  m__law_words : mg "_law_words" = some (.ref a__law_words)
  b__law_words : Binds K d__law_words ["_law_many", "_law_length"] []
  a_law : Addr
  d_law : FuncData
  F_law : Fun K "law" "law" s_law a_law d_law
  m_law : mg "law" = some (.ref a_law)
  b_law : Binds K d_law ["_law_script"] []
  z_bool : mg "bool" = none
  z_int : mg "int" = none
  z_isinstance : mg "isinstance" = none
  z_len : mg "len" = none
  z_list : mg "list" = none
  z_max : mg "max" = none
  z_range : mg "range" = none
  z_str : mg "str" = none
  z_tuple : mg "tuple" = none
  c_TooMany : Addr
  g_TooMany : mg "TooMany" = some (.ref c_TooMany)
  k_TooMany : PySem.W.keepIn K (.ref c_TooMany) = true
  e_TooMany : PySem.W.subIn K (.ref c_TooMany) (.type "BaseException") = some true
  t_TooMany : PySem.W.typeIn K (.ref c_TooMany) = some (.type "type")
  h_TooMany : PySem.W.hasDictIn K c_TooMany = true
  i_TooMany : Addr
  l_TooMany : PySem.TooX.TooTxt K mg c_TooMany i_TooMany
  s_TooMany_TooMany : PySem.W.subIn K (.ref c_TooMany) (.ref c_TooMany) = some true
def Top.cm {K : PySem.W.Frag} {mg : Str → Option Value} (T : Top K mg) : CM := fun n => if n = "TooMany" then some (T.c_TooMany, some ("what" : Str)) else none
section
variable {K : PySem.W.Frag} {mg : Str → Option Value} (T : Top K mg)
theorem Top.cm_TooMany : T.cm "TooMany" = some (T.c_TooMany, some ("what" : Str)) := by unfold Top.cm; skip; rw [if_pos rfl]
theorem Top.catch_TooMany : Catches T.cm K T.c_TooMany ["TooMany"] := by
  intro n C f h
  unfold Top.cm at h
  split at h
  · rename_i e; cases h; subst e; exact (PySem.W.exm_ref T.e_TooMany T.h_TooMany T.t_TooMany T.s_TooMany_TooMany).trans (by decide +kernel)
  cases h
theorem Top.fld : Fields T.cm K "what" := by
  intro n C g h
  unfold Top.cm at h
  split at h
  · rename_i e; cases h; exact ⟨rfl, ⟨T.l_TooMany.ga, T.l_TooMany.gg, T.l_TooMany.exC, T.l_TooMany.hdC⟩, T.l_TooMany.noN⟩
  cases h
end
theorem sc_reached_nodes : FnScope ["monitor", "nodes", "known", "place", "later"] ["monitor"] (defScope s_reached_nodes) := ⟨rfl, rfl, rfl, by decide +kernel, rfl, by decide +kernel, by decide +kernel⟩
theorem sc_grouped : FnScope ["keys", "numbers", "groups", "key"] ["keys"] (defScope s_grouped) := ⟨rfl, rfl, rfl, by decide +kernel, rfl, by decide +kernel, by decide +kernel⟩
theorem sc_classes_of : FnScope ["verdicts", "edges", "groups", "keys", "node", "later", "finer"] ["verdicts", "edges"] (defScope s_classes_of) := ⟨rfl, rfl, rfl, by decide +kernel, rfl, by decide +kernel, by decide +kernel⟩
theorem sc_reduce : FnScope ["monitor", "nodes", "places", "k", "edges", "node", "later", "groups", "members", "verdicts", "reduced"] ["monitor"] (defScope s_reduce) := ⟨rfl, rfl, rfl, by decide +kernel, rfl, by decide +kernel, by decide +kernel⟩
theorem sc_led : FnScope ["monitor", "node", "places", "place"] ["monitor", "node", "places"] (defScope s_led) := ⟨rfl, rfl, rfl, by decide +kernel, rfl, by decide +kernel, by decide +kernel⟩
theorem sc_cover : FnScope ["monitor", "rows", "known", "at", "place", "node"] ["monitor"] (defScope s_cover) := ⟨rfl, rfl, rfl, by decide +kernel, rfl, by decide +kernel, by decide +kernel⟩
theorem sc_separator : FnScope ["monitor", "node", "other", "pairs", "known", "rows", "at", "left", "right", "place", "pair"] ["monitor", "node", "other"] (defScope s_separator) := ⟨rfl, rfl, rfl, by decide +kernel, rfl, by decide +kernel, by decide +kernel⟩
theorem sc_separators : FnScope ["monitor", "rows", "other", "node", "row"] ["monitor"] (defScope s_separators) := ⟨rfl, rfl, rfl, by decide +kernel, rfl, by decide +kernel, by decide +kernel⟩
theorem sc_words_up_to : FnScope ["count", "length", "rows", "last", "_", "row", "place"] ["count", "length"] (defScope s_words_up_to) := ⟨rfl, rfl, rfl, by decide +kernel, rfl, by decide +kernel, by decide +kernel⟩
theorem sc_count_words : FnScope ["count", "length", "many", "last", "_"] ["count", "length"] (defScope s_count_words) := ⟨rfl, rfl, rfl, by decide +kernel, rfl, by decide +kernel, by decide +kernel⟩
theorem sc_trials : FnScope ["monitor", "extra", "most", "small", "ends", "starts", "found", "known", "start", "middle", "end", "row", "place"] ["monitor", "extra", "most"] (defScope s_trials) := ⟨rfl, rfl, rfl, by decide +kernel, rfl, by decide +kernel, by decide +kernel⟩
theorem sc__law_cell : FnScope ["_law_script", "_law_k"] ["_law_script", "_law_k"] (defScope s__law_cell) := ⟨rfl, rfl, rfl, by decide +kernel, rfl, by decide +kernel, by decide +kernel⟩
theorem sc__law_draw : FnScope ["_law_script", "_law_k", "_law_sizes", "_law_cell_here", "_law_drawn", "_law_size", "_law_mixed", "_law_j"] ["_law_script", "_law_k", "_law_sizes"] (defScope s__law_draw) := ⟨rfl, rfl, rfl, by decide +kernel, rfl, by decide +kernel, by decide +kernel⟩
theorem sc__law_alike : FnScope ["_law_actual", "_law_expected", "_law_k"] ["_law_actual", "_law_expected"] (defScope s__law_alike) := ⟨rfl, rfl, rfl, by decide +kernel, rfl, by decide +kernel, by decide +kernel⟩
theorem sc__law_pick : FnScope ["_law_script", "_law_k", "_law_count"] ["_law_script", "_law_k", "_law_count"] (defScope s__law_pick) := ⟨rfl, rfl, rfl, by decide +kernel, rfl, by decide +kernel, by decide +kernel⟩
theorem sc__law_some_monitor : FnScope ["_law_script", "_law_k", "_law_many", "_law_nodes", "_law_readings", "_law_count", "_law_digits", "_law_verdicts", "_law_edges", "_law_node", "_law_kind", "_law_row", "_law_j", "_law_first"] ["_law_script", "_law_k", "_law_many", "_law_nodes"] (defScope s__law_some_monitor) := ⟨rfl, rfl, rfl, by decide +kernel, rfl, by decide +kernel, by decide +kernel⟩
theorem sc__law_apart : FnScope ["_law_verdicts", "_law_edges", "_law_count", "_law_apart_here", "_law_a", "_law_b", "_law_turn", "_law_split", "_law_k"] ["_law_verdicts", "_law_edges"] (defScope s__law_apart) := ⟨rfl, rfl, rfl, by decide +kernel, rfl, by decide +kernel, by decide +kernel⟩
theorem sc__law_reach : FnScope ["_law_monitor", "_law_first", "_law_found", "_law_k", "_law_later"] ["_law_monitor", "_law_first"] (defScope s__law_reach) := ⟨rfl, rfl, rfl, by decide +kernel, rfl, by decide +kernel, by decide +kernel⟩
theorem sc__law_smallest : FnScope ["_law_monitor", "_law_nodes", "_law_apart_here", "_law_kept", "_law_node", "_law_other", "_law_edges", "_law_row", "_law_later", "_law_k"] ["_law_monitor"] (defScope s__law_smallest) := ⟨rfl, rfl, rfl, by decide +kernel, rfl, by decide +kernel, by decide +kernel⟩
theorem sc__law_words : FnScope ["_law_many", "_law_length", "_law_words_here", "_law_last", "_law_k", "_law_longer", "_law_word", "_law_place"] ["_law_many", "_law_length"] (defScope s__law_words) := ⟨rfl, rfl, rfl, by decide +kernel, rfl, by decide +kernel, by decide +kernel⟩
theorem sc_law : FnScope ["_law_script", "_law_monitor", "_law_head", "_law_small", "_law_ends", "_law_words_here", "_law_product", "_law_most", "_law_refused", "_law_actual", "e", "_law_due", "_law_known", "_law_start", "_law_word", "_law_end", "_law_row", "_law_place"] ["_law_script"] (defScope s_law) := ⟨rfl, rfl, rfl, by decide +kernel, rfl, by decide +kernel, by decide +kernel⟩
section
variable {P : Program} {w : World} {K : PySem.W.Frag} {mg : Str → Option Value} {base : Heap} {T : Top K mg}
structure AllOk (P : Program) (w : World) (K : PySem.W.Frag) (mg : Str → Option Value) (base : Heap) (T : Top K mg) (k : Nat) (R : Fs) : Prop where
  f_reached_nodes : FnOk P w K mg base CX0 k T.a_reached_nodes T.d_reached_nodes ["monitor"] (spF ⟨P, w, K⟩ S_reached_nodes 1 4 R.f_reached_nodes)
  f_grouped : FnOk P w K mg base CX0 k T.a_grouped T.d_grouped ["keys"] (spF ⟨P, w, K⟩ S_grouped 1 3 R.f_grouped)
  f_classes_of : FnOk P w K mg base CX0 k T.a_classes_of T.d_classes_of ["verdicts", "edges"] (spF ⟨P, w, K⟩ S_classes_of 2 5 R.f_classes_of)
  f_reduce : FnOk P w K mg base CX0 k T.a_reduce T.d_reduce ["monitor"] (spF ⟨P, w, K⟩ S_reduce 1 10 R.f_reduce)
  f_led : FnOk P w K mg base CX0 k T.a_led T.d_led ["monitor", "node", "places"] (spF ⟨P, w, K⟩ S_led 3 1 R.f_led)
  f_cover : FnOk P w K mg base CX0 k T.a_cover T.d_cover ["monitor"] (spF ⟨P, w, K⟩ S_cover 1 5 R.f_cover)
  f_separator : FnOk P w K mg base CX0 k T.a_separator T.d_separator ["monitor", "node", "other"] (spF ⟨P, w, K⟩ S_separator 3 8 R.f_separator)
  f_separators : FnOk P w K mg base CX0 k T.a_separators T.d_separators ["monitor"] (spF ⟨P, w, K⟩ S_separators 1 4 R.f_separators)
  f_words_up_to : FnOk P w K mg base CX0 k T.a_words_up_to T.d_words_up_to ["count", "length"] (spF ⟨P, w, K⟩ S_words_up_to 2 5 R.f_words_up_to)
  f_count_words : FnOk P w K mg base CX0 k T.a_count_words T.d_count_words ["count", "length"] (spF ⟨P, w, K⟩ S_count_words 2 3 R.f_count_words)
  f_trials : FnOk P w K mg base (L2N.CX P w) k T.a_trials T.d_trials ["monitor", "extra", "most"] (spX T.cm ⟨P, w, K⟩ S_trials 3 10 R.f_trials)
  f__law_cell : FnOk P w K mg base CX0 k T.a__law_cell T.d__law_cell ["_law_script", "_law_k"] (spF ⟨P, w, K⟩ S__law_cell 2 0 R.f__law_cell)
  f__law_draw : FnOk P w K mg base CX0 k T.a__law_draw T.d__law_draw ["_law_script", "_law_k", "_law_sizes"] (spF ⟨P, w, K⟩ S__law_draw 3 5 R.f__law_draw)
  f__law_alike : FnOk P w K mg base CX0 k T.a__law_alike T.d__law_alike ["_law_actual", "_law_expected"] (spF ⟨P, w, K⟩ S__law_alike 2 1 R.f__law_alike)
  f__law_pick : FnOk P w K mg base CX0 k T.a__law_pick T.d__law_pick ["_law_script", "_law_k", "_law_count"] (spF ⟨P, w, K⟩ S__law_pick 3 0 R.f__law_pick)
  f__law_some_monitor : FnOk P w K mg base CX0 k T.a__law_some_monitor T.d__law_some_monitor ["_law_script", "_law_k", "_law_many", "_law_nodes"] (spF ⟨P, w, K⟩ S__law_some_monitor 4 10 R.f__law_some_monitor)
  f__law_apart : FnOk P w K mg base CX0 k T.a__law_apart T.d__law_apart ["_law_verdicts", "_law_edges"] (spF ⟨P, w, K⟩ S__law_apart 2 7 R.f__law_apart)
  f__law_reach : FnOk P w K mg base CX0 k T.a__law_reach T.d__law_reach ["_law_monitor", "_law_first"] (spF ⟨P, w, K⟩ S__law_reach 2 3 R.f__law_reach)
  f__law_smallest : FnOk P w K mg base CX0 k T.a__law_smallest T.d__law_smallest ["_law_monitor"] (spF ⟨P, w, K⟩ S__law_smallest 1 9 R.f__law_smallest)
  f__law_words : FnOk P w K mg base CX0 k T.a__law_words T.d__law_words ["_law_many", "_law_length"] (spF ⟨P, w, K⟩ S__law_words 2 6 R.f__law_words)
  f_law : FnOk P w K mg base CX0 k T.a_law T.d_law ["_law_script"] (spF ⟨P, w, K⟩ S_law 1 17 R.f_law)
  h__law_alike : L2H.FnH P w K mg base CX0 k T.a__law_alike T.d__law_alike ["_law_actual", "_law_expected"] (spF ⟨P, w, K⟩ S__law_alike 2 1 R.h__law_alike)

/-! ### each def by its body -/
theorem ok_reached_nodes {k : Nat} {R : Fs} (hR : AllOk P w K mg base T k R) : FnOk P w K mg base CX0 (k + 1) T.a_reached_nodes T.d_reached_nodes ["monitor"] (spF ⟨P, w, K⟩ S_reached_nodes 1 4 (defF 4 [] (b_reached_nodes R))) := by
  refine def_ok (S := S_reached_nodes) T.F_reached_nodes sc_reached_nodes rfl rfl fun cdv A outer s H E hr hp => ?_
  have nd := sc_reached_nodes.nd
  have hu := hu16 hr
  have hu64 := hr.units
  have huX := hu65 hr
  exact (sim_bcons (sim_setE 1 nd (sim_lst (sim_cons (sim_ix (is_ixD hu) ((sim_name 0)).p (sim_int).p) sim_nil)))
      (sim_bcons (sim_setE 2 nd (sim_disp hu (sim_ix (is_ixD hu) ((sim_name 0)).p (sim_int).p) sim_bl))
      (sim_bcons (sim_set 3 nd sim_int)
      (sim_bcons (sim_while wf hp (sim_cmpT os_lt (sim_name 3) (sim_callB cv_len (by rfl) T.z_len (by decide +kernel) (sim_consP (sim_peek 1) sim_nilP)) (nomark _))
      (sim_bcons (sim_for hp rfl (sim_iter (sim_ix (is_ixD hu) ((sim_ix (is_ixD hu) ((sim_name 0)).p (sim_int).p)).p ((sim_ix (is_ixD hu) (sim_peek 1) ((sim_name 3)).p)).p)) (sim_gname 4 nd)
      (sim_bone (sim_if (sim_cmpPT (os_notInX huX) ((sim_name 4)).p (sim_peek 2) (by rfl))
      (sim_bcons (sim_putD 2 hu (sim_name 4) sim_bl)
      (sim_bone (sim_app 1 (sim_name 4))))
      sim_bnil)))
      (sim_bone (sim_aug 3 nd ip_addS sim_int))))
      (sim_bone (sim_retS 1))))))
theorem ok_grouped {k : Nat} {R : Fs} (hR : AllOk P w K mg base T k R) : FnOk P w K mg base CX0 (k + 1) T.a_grouped T.d_grouped ["keys"] (spF ⟨P, w, K⟩ S_grouped 1 3 (defF 3 [] (b_grouped R))) := by
  refine def_ok (S := S_grouped) T.F_grouped sc_grouped rfl rfl fun cdv A outer s H E hr hp => ?_
  have nd := sc_grouped.nd
  have hu := hu16 hr
  have hu64 := hr.units
  have huX := hu65 hr
  exact (sim_bcons (sim_setE 1 nd sim_newD)
      (sim_bcons (sim_setE 2 nd (sim_lst sim_nil))
      (sim_bcons (sim_for hp rfl (sim_iter (sim_name 0)) (sim_gname 3 nd)
      (sim_bcons (sim_if (sim_cmpPT (os_notInX huX) ((sim_name 3)).p (sim_peek 1) (by rfl))
      (sim_bone (sim_putD 1 hu (sim_name 3) (sim_callB cv_len (by rfl) T.z_len (by decide +kernel) (sim_consP (sim_peek 1) sim_nilP))))
      sim_bnil)
      (sim_bone (sim_app 2 (sim_ix (is_ixD hu) (sim_peek 1) ((sim_name 3)).p)))))
      (sim_bone (sim_retS 2)))))
theorem ok_classes_of {k : Nat} {R : Fs} (hR : AllOk P w K mg base T k R) : FnOk P w K mg base CX0 (k + 1) T.a_classes_of T.d_classes_of ["verdicts", "edges"] (spF ⟨P, w, K⟩ S_classes_of 2 5 (defF 5 [] (b_classes_of R))) := by
  refine def_ok (S := S_classes_of) T.F_classes_of sc_classes_of rfl rfl fun cdv A outer s H E hr hp => ?_
  have nd := sc_classes_of.nd
  have hu := hu16 hr
  have hu64 := hr.units
  have huX := hu65 hr
  exact (sim_bcons (sim_setE 2 nd (sim_call (hR.f_grouped) hr T.m_grouped T.F_grouped.kp T.b_grouped rfl rfl (sim_cons (sim_name 0) sim_nil) (hla := (lenA_cons lenA_nil))))
      (sim_bone (sim_while wf hp (sim_test sim_bl)
      (sim_bcons (sim_setE 3 nd (sim_lst sim_nil))
      (sim_bcons (sim_for hp rfl (sim_range1 T.z_range (sim_cons (sim_callB cv_len (by rfl) T.z_len (by decide +kernel) (sim_consP ((sim_name 1)).p sim_nilP)) sim_nil)) (sim_gname 4 nd)
      (sim_bone (sim_app 3 (sim_tup (sim_cons (sim_ix (is_ixD hu) (sim_peek 2) ((sim_name 4)).p) (sim_cons (sim_callTy cv_tuple (by rfl) T.z_tuple (by decide +kernel) (sim_consP (((sim_lc (own := [("later", 5)]) (S' := ⟨[2, 3], [], [0, 1, 2, 3, 4, 6], fun _ _ _ => False⟩) (n := 7) rfl nd (sim_iter (sim_ix (is_ixD hu) ((sim_name 1)).p ((sim_name 4)).p)) (fun _ _ _ _ _ => (sim_gname 5 nd)) (fun _ _ _ _ _ => sim_ts0) (fun _ _ _ _ _ => (sim_ix (is_ixD hu) (sim_peek 2) ((sim_name 5)).p)) (by first | decide | exact of_decide_eq_true rfl) (by first | decide | exact of_decide_eq_true rfl) (blkOk_by (by rfl)))).v).p sim_nilP)) sim_nil))))))
      (sim_bcons (sim_set 6 nd ((sim_call (hR.f_grouped) hr T.m_grouped T.F_grouped.kp T.b_grouped rfl rfl (sim_cons (sim_frz 3) sim_nil) (hla := (lenA_cons lenA_nil)))).v)
      (sim_bcons (sim_if (sim_cmpT (os_eq hu64) (sim_callBK (cv_maxDef rfl huX) (by rfl) T.z_max (by decide +kernel) (sim_consP ((sim_name 6)).p sim_nilP)) (sim_callBK (cv_maxDef rfl huX) (by rfl) T.z_max (by decide +kernel) (sim_consP (sim_peek 2) sim_nilP)) (nomark _))
      (sim_bone (sim_retS 2))
      sim_bnil)
      (sim_bone (sim_setE 2 nd ((sim_name 6)).e)))))))))
theorem ok_reduce {k : Nat} {R : Fs} (hR : AllOk P w K mg base T k R) : FnOk P w K mg base CX0 (k + 1) T.a_reduce T.d_reduce ["monitor"] (spF ⟨P, w, K⟩ S_reduce 1 10 (defF 10 [] (b_reduce R))) := by
  refine def_ok (S := S_reduce) T.F_reduce sc_reduce rfl rfl fun cdv A outer s H E hr hp => ?_
  have nd := sc_reduce.nd
  have hu := hu16 hr
  have hu64 := hr.units
  have huX := hu65 hr
  exact (sim_bcons (sim_set 1 nd ((sim_call (hR.f_reached_nodes) hr T.m_reached_nodes T.F_reached_nodes.kp T.b_reached_nodes rfl rfl (sim_cons (sim_name 0) sim_nil) (hla := (lenA_cons lenA_nil)))).v)
      (sim_bcons (sim_setE 2 nd sim_newD)
      (sim_bcons (sim_for hp rfl (sim_range1 T.z_range (sim_cons (sim_callB cv_len (by rfl) T.z_len (by decide +kernel) (sim_consP ((sim_name 1)).p sim_nilP)) sim_nil)) (sim_gname 3 nd)
      (sim_bone (sim_putD 2 hu (sim_ix (is_ixD hu) ((sim_name 1)).p ((sim_name 3)).p) (sim_name 3))))
      (sim_bcons (sim_set 4 nd ((sim_lc (own := [("node", 5)]) (S' := ⟨[2, 8], [], [0, 1, 2, 3, 4, 6, 7, 8, 9, 10], fun _ _ _ => False⟩) (n := 11) rfl nd (sim_iter (sim_name 1)) (fun _ _ _ _ _ => (sim_gname 5 nd)) (fun _ _ _ _ _ => sim_ts0) (fun _ _ _ _ _ => (sim_callTy cv_tuple (by rfl) T.z_tuple (by decide +kernel) (sim_consP (((sim_lc (own := [("later", 6)]) (S' := ⟨[2, 8], [], [0, 1, 2, 3, 4, 5, 7, 8, 9, 10], fun _ _ _ => False⟩) (n := 11) rfl nd (sim_iter (sim_ix (is_ixD hu) ((sim_ix (is_ixD hu) ((sim_name 0)).p (sim_int).p)).p ((sim_name 5)).p)) (fun _ _ _ _ _ => (sim_gname 6 nd)) (fun _ _ _ _ _ => sim_ts0) (fun _ _ _ _ _ => (sim_ix (is_ixD hu) (sim_peek 2) ((sim_name 6)).p)) (by first | decide | exact of_decide_eq_true rfl) (by first | decide | exact of_decide_eq_true rfl) (blkOk_by (by rfl)))).v).p sim_nilP))) (by first | decide | exact of_decide_eq_true rfl) (by first | decide | exact of_decide_eq_true rfl) (blkOk_by (by rfl)))).v)
      (sim_bcons (sim_set 7 nd ((sim_call (hR.f_classes_of) hr T.m_classes_of T.F_classes_of.kp T.b_classes_of rfl rfl (sim_cons ((sim_lc (own := [("node", 5)]) (S' := ⟨[2, 8], [], [0, 1, 2, 3, 4, 6, 7, 8, 9, 10], fun _ _ _ => False⟩) (n := 11) rfl nd (sim_iter (sim_name 1)) (fun _ _ _ _ _ => (sim_gname 5 nd)) (fun _ _ _ _ _ => sim_ts0) (fun _ _ _ _ _ => (sim_ix (is_ixD hu) ((sim_ix (is_ixD hu) ((sim_name 0)).p (sim_int).p)).p ((sim_name 5)).p)) (by first | decide | exact of_decide_eq_true rfl) (by first | decide | exact of_decide_eq_true rfl) (blkOk_by (by rfl)))).v (sim_cons (sim_name 4) sim_nil)) (hla := (lenA_cons (lenA_cons lenA_nil))))).v)
      (sim_bcons (sim_setE 8 nd (sim_lst sim_nil))
      (sim_bcons (sim_for hp rfl (sim_range1 T.z_range (sim_cons (sim_callB cv_len (by rfl) T.z_len (by decide +kernel) (sim_consP ((sim_name 1)).p sim_nilP)) sim_nil)) (sim_gname 3 nd)
      (sim_bone (sim_if (sim_cmpT (os_eq hu64) (sim_ix (is_ixD hu) ((sim_name 7)).p ((sim_name 3)).p) (sim_callB cv_len (by rfl) T.z_len (by decide +kernel) (sim_consP (sim_peek 8) sim_nilP)) (nomark _))
      (sim_bone (sim_app 8 (sim_name 3)))
      sim_bnil)))
      (sim_bcons (sim_set 9 nd (sim_callTy cv_tuple (by rfl) T.z_tuple (by decide +kernel) (sim_consP (((sim_lc (own := [("k", 3)]) (S' := ⟨[2, 8], [], [0, 1, 2, 4, 5, 6, 7, 8, 9, 10], fun _ _ _ => False⟩) (n := 11) rfl nd (sim_iter (sim_frz 8)) (fun _ _ _ _ _ => (sim_gname 3 nd)) (fun _ _ _ _ _ => sim_ts0) (fun _ _ _ _ _ => (sim_ix (is_ixD hu) ((sim_ix (is_ixD hu) ((sim_name 0)).p (sim_int).p)).p ((sim_ix (is_ixD hu) ((sim_name 1)).p ((sim_name 3)).p)).p)) (by first | decide | exact of_decide_eq_true rfl) (by first | decide | exact of_decide_eq_true rfl) (blkOk_by (by rfl)))).v).p sim_nilP)))
      (sim_bcons (sim_set 10 nd (sim_callTy cv_tuple (by rfl) T.z_tuple (by decide +kernel) (sim_consP (((sim_lc (own := [("k", 3)]) (S' := ⟨[2, 8], [], [0, 1, 2, 4, 5, 6, 7, 8, 9, 10], fun _ _ _ => False⟩) (n := 11) rfl nd (sim_iter (sim_frz 8)) (fun _ _ _ _ _ => (sim_gname 3 nd)) (fun _ _ _ _ _ => sim_ts0) (fun _ _ _ _ _ => (sim_callTy cv_tuple (by rfl) T.z_tuple (by decide +kernel) (sim_consP (((sim_lc (own := [("later", 6)]) (S' := ⟨[2, 8], [], [0, 1, 2, 3, 4, 5, 7, 8, 9, 10], fun _ _ _ => False⟩) (n := 11) rfl nd (sim_iter (sim_ix (is_ixD hu) ((sim_name 4)).p ((sim_name 3)).p)) (fun _ _ _ _ _ => (sim_gname 6 nd)) (fun _ _ _ _ _ => sim_ts0) (fun _ _ _ _ _ => (sim_ix (is_ixD hu) ((sim_name 7)).p ((sim_name 6)).p)) (by first | decide | exact of_decide_eq_true rfl) (by first | decide | exact of_decide_eq_true rfl) (blkOk_by (by rfl)))).v).p sim_nilP))) (by first | decide | exact of_decide_eq_true rfl) (by first | decide | exact of_decide_eq_true rfl) (blkOk_by (by rfl)))).v).p sim_nilP)))
      (sim_bone (sim_ret ((sim_tup (sim_cons (sim_callTy cv_tuple (by rfl) T.z_tuple (by decide +kernel) (sim_consP ((sim_ix (is_ixD hu) ((sim_name 0)).p (sim_int).p)).p sim_nilP)) (sim_cons sim_int (sim_cons (sim_name 9) (sim_cons (sim_name 10) sim_nil)))))).e)))))))))))
theorem ok_led {k : Nat} {R : Fs} (hR : AllOk P w K mg base T k R) : FnOk P w K mg base CX0 (k + 1) T.a_led T.d_led ["monitor", "node", "places"] (spF ⟨P, w, K⟩ S_led 3 1 (defF 1 [] (b_led R))) := by
  refine def_ok (S := S_led) T.F_led sc_led rfl rfl fun cdv A outer s H E hr hp => ?_
  have nd := sc_led.nd
  have hu := hu16 hr
  have hu64 := hr.units
  have huX := hu65 hr
  exact (sim_bcons (sim_for hp rfl (sim_iter (sim_name 2)) (sim_gname 3 nd)
      (sim_bone (sim_set 1 nd (sim_ix (is_ixD hu) ((sim_ix (is_ixD hu) ((sim_ix (is_ixD hu) ((sim_name 0)).p (sim_int).p)).p ((sim_name 1)).p)).p ((sim_name 3)).p))))
      (sim_bone (sim_ret ((sim_name 1)).e)))
theorem ok_cover {k : Nat} {R : Fs} (hR : AllOk P w K mg base T k R) : FnOk P w K mg base CX0 (k + 1) T.a_cover T.d_cover ["monitor"] (spF ⟨P, w, K⟩ S_cover 1 5 (defF 5 [] (b_cover R))) := by
  refine def_ok (S := S_cover) T.F_cover sc_cover rfl rfl fun cdv A outer s H E hr hp => ?_
  have nd := sc_cover.nd
  have hu := hu16 hr
  have hu64 := hr.units
  have huX := hu65 hr
  exact (sim_bcons (sim_setE 1 nd (sim_lst (sim_cons (sim_tup sim_nil) sim_nil)))
      (sim_bcons (sim_setE 2 nd (sim_disp hu (sim_ix (is_ixD hu) ((sim_name 0)).p (sim_int).p) sim_bl))
      (sim_bcons (sim_set 3 nd sim_int)
      (sim_bcons (sim_while wf hp (sim_cmpT os_lt (sim_name 3) (sim_callB cv_len (by rfl) T.z_len (by decide +kernel) (sim_consP (sim_peek 1) sim_nilP)) (nomark _))
      (sim_bcons (sim_for hp rfl (sim_range1 T.z_range (sim_cons (sim_callB cv_len (by rfl) T.z_len (by decide +kernel) (sim_consP ((sim_ix (is_ixD hu) ((sim_name 0)).p (sim_int).p)).p sim_nilP)) sim_nil)) (sim_gname 4 nd)
      (sim_bcons (sim_set 5 nd ((sim_call (hR.f_led) hr T.m_led T.F_led.kp T.b_led rfl rfl (sim_cons (sim_name 0) (sim_cons (sim_ix (is_ixD hu) ((sim_name 0)).p (sim_int).p) (sim_cons (sim_bin os_add (sim_ix (is_ixD hu) (sim_peek 1) ((sim_name 3)).p) (sim_tup (sim_cons (sim_name 4) sim_nil))) sim_nil))) (hla := (lenA_cons (lenA_cons (lenA_cons lenA_nil)))))).v)
      (sim_bone (sim_if (sim_cmpPT (os_notInX huX) ((sim_name 5)).p (sim_peek 2) (by rfl))
      (sim_bcons (sim_putD 2 hu (sim_name 5) sim_bl)
      (sim_bone (sim_app 1 (sim_bin os_add (sim_ix (is_ixD hu) (sim_peek 1) ((sim_name 3)).p) (sim_tup (sim_cons (sim_name 4) sim_nil))))))
      sim_bnil))))
      (sim_bone (sim_aug 3 nd ip_addS sim_int))))
      (sim_bone (sim_retS 1))))))
theorem ok_separator {k : Nat} {R : Fs} (hR : AllOk P w K mg base T k R) : FnOk P w K mg base CX0 (k + 1) T.a_separator T.d_separator ["monitor", "node", "other"] (spF ⟨P, w, K⟩ S_separator 3 8 (defF 8 [] (b_separator R))) := by
  refine def_ok (S := S_separator) T.F_separator sc_separator rfl rfl fun cdv A outer s H E hr hp => ?_
  have nd := sc_separator.nd
  have hu := hu16 hr
  have hu64 := hr.units
  have huX := hu65 hr
  exact (sim_bcons (sim_setE 3 nd (sim_lst (sim_cons (sim_tup (sim_cons (sim_name 1) (sim_cons (sim_name 2) sim_nil))) sim_nil)))
      (sim_bcons (sim_setE 4 nd (sim_disp hu (sim_tup (sim_cons (sim_name 1) (sim_cons (sim_name 2) sim_nil))) sim_bl))
      (sim_bcons (sim_setE 5 nd (sim_lst (sim_cons (sim_tup sim_nil) sim_nil)))
      (sim_bcons (sim_set 6 nd sim_int)
      (sim_bcons (sim_while wf hp (sim_cmpT os_lt (sim_name 6) (sim_callB cv_len (by rfl) T.z_len (by decide +kernel) (sim_consP (sim_peek 3) sim_nilP)) (nomark _))
      (sim_bcons (sim_asg (sim_ix (is_ixD hu) (sim_peek 3) ((sim_name 6)).p) (sim_gtup rfl (sim_gcons (sim_gname 7 nd) (sim_gcons (sim_gname 8 nd) sim_gnil))))
      (sim_bcons (sim_if (sim_cmpT (os_ne hu64) (sim_ix (is_ixD hu) ((sim_ix (is_ixD hu) ((sim_name 0)).p (sim_int).p)).p ((sim_name 7)).p) (sim_ix (is_ixD hu) ((sim_ix (is_ixD hu) ((sim_name 0)).p (sim_int).p)).p ((sim_name 8)).p) (nomark _))
      (sim_bone (sim_ret ((sim_ix (is_ixD hu) (sim_peek 5) ((sim_name 6)).p)).e))
      sim_bnil)
      (sim_bcons (sim_for hp rfl (sim_range1 T.z_range (sim_cons (sim_callB cv_len (by rfl) T.z_len (by decide +kernel) (sim_consP ((sim_ix (is_ixD hu) ((sim_name 0)).p (sim_int).p)).p sim_nilP)) sim_nil)) (sim_gname 9 nd)
      (sim_bcons (sim_set 10 nd (sim_tup (sim_cons (sim_ix (is_ixD hu) ((sim_ix (is_ixD hu) ((sim_ix (is_ixD hu) ((sim_name 0)).p (sim_int).p)).p ((sim_name 7)).p)).p ((sim_name 9)).p) (sim_cons (sim_ix (is_ixD hu) ((sim_ix (is_ixD hu) ((sim_ix (is_ixD hu) ((sim_name 0)).p (sim_int).p)).p ((sim_name 8)).p)).p ((sim_name 9)).p) sim_nil))))
      (sim_bone (sim_if (sim_cmpPT (os_notInX huX) ((sim_name 10)).p (sim_peek 4) (by rfl))
      (sim_bcons (sim_putD 4 hu (sim_name 10) sim_bl)
      (sim_bcons (sim_app 3 (sim_name 10))
      (sim_bone (sim_app 5 (sim_bin os_add (sim_ix (is_ixD hu) (sim_peek 5) ((sim_name 6)).p) (sim_tup (sim_cons (sim_name 9) sim_nil)))))))
      sim_bnil))))
      (sim_bone (sim_aug 6 nd ip_addS sim_int))))))
      (sim_bone (sim_ret (sim_non).e)))))))
theorem ok_separators {k : Nat} {R : Fs} (hR : AllOk P w K mg base T k R) : FnOk P w K mg base CX0 (k + 1) T.a_separators T.d_separators ["monitor"] (spF ⟨P, w, K⟩ S_separators 1 4 (defF 4 [] (b_separators R))) := by
  refine def_ok (S := S_separators) T.F_separators sc_separators rfl rfl fun cdv A outer s H E hr hp => ?_
  have nd := sc_separators.nd
  have hu := hu16 hr
  have hu64 := hr.units
  have huX := hu65 hr
  exact (sim_bcons (sim_setE 1 nd (sim_lst (sim_cons (sim_tup sim_nil) sim_nil)))
      (sim_bcons (sim_for hp rfl (sim_range1 T.z_range (sim_cons (sim_callB cv_len (by rfl) T.z_len (by decide +kernel) (sim_consP ((sim_ix (is_ixD hu) ((sim_name 0)).p (sim_int).p)).p sim_nilP)) sim_nil)) (sim_gname 2 nd)
      (sim_bone (sim_for hp rfl (sim_range1 T.z_range (sim_cons (sim_name 2) sim_nil)) (sim_gname 3 nd)
      (sim_bcons (sim_set 4 nd ((sim_call (hR.f_separator) hr T.m_separator T.F_separator.kp T.b_separator rfl rfl (sim_cons (sim_name 0) (sim_cons (sim_name 3) (sim_cons (sim_name 2) sim_nil))) (hla := (lenA_cons (lenA_cons (lenA_cons lenA_nil)))))).v)
      (sim_bone (sim_if ((sim_andW (sim_cmpT os_isNot (sim_name 4) sim_non (nomark _)) (sim_and1 (sim_cmpPT (os_notInX huX) ((sim_name 4)).p (sim_peek 1) (by rfl))))).t
      (sim_bone (sim_app 1 (sim_name 4)))
      sim_bnil))))))
      (sim_bone (sim_retS 1))))
theorem ok_words_up_to {k : Nat} {R : Fs} (hR : AllOk P w K mg base T k R) : FnOk P w K mg base CX0 (k + 1) T.a_words_up_to T.d_words_up_to ["count", "length"] (spF ⟨P, w, K⟩ S_words_up_to 2 5 (defF 5 [] (b_words_up_to R))) := by
  refine def_ok (S := S_words_up_to) T.F_words_up_to sc_words_up_to rfl rfl fun cdv A outer s H E hr hp => ?_
  have nd := sc_words_up_to.nd
  have hu := hu16 hr
  have hu64 := hr.units
  have huX := hu65 hr
  exact (sim_bcons (sim_setE 2 nd (sim_lst (sim_cons (sim_tup sim_nil) sim_nil)))
      (sim_bcons (sim_set 3 nd ((sim_lst (sim_cons (sim_tup sim_nil) sim_nil))).v)
      (sim_bcons (sim_for hp rfl (sim_range1 T.z_range (sim_cons (sim_name 1) sim_nil)) (sim_gname 4 nd)
      (sim_bcons (sim_setLc2V 3 (own := [("row", 5), ("place", 6)]) (vs1 := [6]) (S' := ⟨[2], [], [0, 1, 2, 3, 4], fun _ _ _ => False⟩) (S1 := ⟨[2], [], [0, 1, 2, 3, 4, 5], fun _ _ _ => False⟩) (n := 7) rfl nd (sim_iter (sim_name 3)) (fun _ _ _ _ _ => (sim_gname 5 nd)) (fun _ _ _ _ _ => sim_ts0) (fun _ _ _ _ _ => (sim_range1 T.z_range (sim_cons (sim_name 0) sim_nil))) (fun _ _ _ _ _ => (sim_gname 6 nd)) (fun _ _ _ _ _ => sim_ts0) (fun _ _ _ _ _ => (sim_bin os_add (sim_name 5) (sim_tup (sim_cons (sim_name 6) sim_nil)))) (by first | decide | exact of_decide_eq_true rfl) (by first | decide | exact of_decide_eq_true rfl) (by first | decide | exact of_decide_eq_true rfl) (by first | decide | exact of_decide_eq_true rfl) (by first | decide | exact of_decide_eq_true rfl) (blkOk_by (by rfl)) (by first | decide | exact of_decide_eq_true rfl) (by first | decide | exact of_decide_eq_true rfl) rfl rfl (sw_true rfl rfl rfl (by decide +kernel)))
      (sim_bone (sim_setE 2 nd ((sim_binP os_add (sim_peek 2) ((sim_name 3)).p)).e))))
      (sim_bone (sim_retS 2)))))
theorem ok_count_words {k : Nat} {R : Fs} (hR : AllOk P w K mg base T k R) : FnOk P w K mg base CX0 (k + 1) T.a_count_words T.d_count_words ["count", "length"] (spF ⟨P, w, K⟩ S_count_words 2 3 (defF 3 [] (b_count_words R))) := by
  refine def_ok (S := S_count_words) T.F_count_words sc_count_words rfl rfl fun cdv A outer s H E hr hp => ?_
  have nd := sc_count_words.nd
  have hu := hu16 hr
  have hu64 := hr.units
  have huX := hu65 hr
  exact (sim_bcons (sim_set 2 nd sim_int)
      (sim_bcons (sim_set 3 nd sim_int)
      (sim_bcons (sim_for hp rfl (sim_range1 T.z_range (sim_cons (sim_name 1) sim_nil)) (sim_gname 4 nd)
      (sim_bcons (sim_set 3 nd (sim_bin os_mul (sim_name 3) (sim_name 0)))
      (sim_bone (sim_aug 2 nd ip_addS (sim_name 3)))))
      (sim_bone (sim_ret ((sim_name 2)).e)))))
theorem ok_trials {k : Nat} {R : Fs} (hR : AllOk P w K mg base T k R) : FnOk P w K mg base (L2N.CX P w) (k + 1) T.a_trials T.d_trials ["monitor", "extra", "most"] (spX T.cm ⟨P, w, K⟩ S_trials 3 10 (defX 10 (b_trials R))) := by
  refine def_okX (S := S_trials) (cm := T.cm) T.F_trials sc_trials rfl rfl fun cdv A outer s H E xw hr hp tk => ?_
  have nd := sc_trials.nd
  have hu := hu16 hr
  have hu64 := hr.units
  have huX := hu65 hr
  exact (sim_bcons (sim_set 3 nd ((sim_call (hR.f_reduce) hr T.m_reduce T.F_reduce.kp T.b_reduce rfl rfl (sim_cons (sim_name 0) sim_nil) (hla := (lenA_cons lenA_nil)))).v)
      (sim_bcons (sim_set 4 nd ((sim_call (hR.f_separators) hr T.m_separators T.F_separators.kp T.b_separators rfl rfl (sim_cons (sim_name 3) sim_nil) (hla := (lenA_cons lenA_nil)))).v)
      (sim_bcons (sim_set 5 nd ((sim_call (hR.f_cover) hr T.m_cover T.F_cover.kp T.b_cover rfl rfl (sim_cons (sim_name 3) sim_nil) (hla := (lenA_cons lenA_nil)))).v)
      (sim_bcons (sim_if (sim_cmpT os_gt (sim_bin os_mul (sim_bin os_mul (sim_callB cv_len (by rfl) T.z_len (by decide +kernel) (sim_consP ((sim_ix (is_ixD hu) ((sim_name 3)).p (sim_int).p)).p sim_nilP)) ((sim_call (hR.f_count_words) hr T.m_count_words T.F_count_words.kp T.b_count_words rfl rfl (sim_cons (sim_callB cv_len (by rfl) T.z_len (by decide +kernel) (sim_consP ((sim_ix (is_ixD hu) ((sim_name 3)).p (sim_int).p)).p sim_nilP)) (sim_cons (sim_bin os_add (sim_name 1) sim_int) sim_nil)) (hla := (lenA_cons (lenA_cons lenA_nil))))).v) (sim_callB cv_len (by rfl) T.z_len (by decide +kernel) (sim_consP ((sim_name 4)).p sim_nilP))) (sim_name 2) (nomark _))
      (sim_bone (sim_raise1 tk rfl (T.cm_TooMany) rfl (mk_too T.l_TooMany hr)))
      sim_bnil)
      (sim_bcons (sim_setE 6 nd (sim_lst sim_nil))
      (sim_bcons (sim_setE 7 nd sim_newD)
      (sim_bcons (sim_for hp rfl (sim_iter (sim_name 5)) (sim_gname 8 nd)
      (sim_bone (sim_for hp rfl (sim_iter ((sim_call (hR.f_words_up_to) hr T.m_words_up_to T.F_words_up_to.kp T.b_words_up_to rfl rfl (sim_cons (sim_callB cv_len (by rfl) T.z_len (by decide +kernel) (sim_consP ((sim_ix (is_ixD hu) ((sim_name 3)).p (sim_int).p)).p sim_nilP)) (sim_cons (sim_bin os_add (sim_name 1) sim_int) sim_nil)) (hla := (lenA_cons (lenA_cons lenA_nil))))).v) (sim_gname 9 nd)
      (sim_bone (sim_for hp rfl (sim_iter (sim_name 4)) (sim_gname 10 nd)
      (sim_bcons (sim_set 11 nd (sim_bin os_add (sim_bin os_add (sim_name 8) (sim_name 9)) (sim_name 10)))
      (sim_bone (sim_if (sim_cmpPT (os_notInX huX) ((sim_name 11)).p (sim_peek 7) (by rfl))
      (sim_bcons (sim_putD 7 hu (sim_name 11) sim_bl)
      (sim_bone (sim_app 6 ((sim_lc (own := [("place", 12)]) (S' := ⟨[6, 7], [], [0, 1, 2, 3, 4, 5, 6, 7, 8, 9, 10, 11], fun _ _ _ => False⟩) (n := 13) rfl nd (sim_iter (sim_name 11)) (fun _ _ _ _ _ => (sim_gname 12 nd)) (fun _ _ _ _ _ => sim_ts0) (fun _ _ _ _ _ => (sim_ix (is_ixD hu) ((sim_ix (is_ixD hu) ((sim_name 3)).p (sim_int).p)).p ((sim_name 12)).p)) (by first | decide | exact of_decide_eq_true rfl) (by first | decide | exact of_decide_eq_true rfl) (blkOk_by (by rfl)))).v)))
      sim_bnil))))))))
      (sim_bone (sim_retS 6)))))))))
theorem ok__law_cell {k : Nat} {R : Fs} (hR : AllOk P w K mg base T k R) : FnOk P w K mg base CX0 (k + 1) T.a__law_cell T.d__law_cell ["_law_script", "_law_k"] (spF ⟨P, w, K⟩ S__law_cell 2 0 (defF 0 [] (b__law_cell R))) := by
  refine def_ok (S := S__law_cell) T.F__law_cell sc__law_cell rfl rfl fun cdv A outer s H E hr hp => ?_
  have nd := sc__law_cell.nd
  have hu := hu16 hr
  have hu64 := hr.units
  have huX := hu65 hr
  exact (sim_bcons (sim_if (sim_cmpT os_lt (sim_name 1) (sim_callB cv_len (by rfl) T.z_len (by decide +kernel) (sim_consP ((sim_name 0)).p sim_nilP)) (nomark _))
      (sim_bone (sim_ret ((sim_ix (is_ixD hu) ((sim_name 0)).p ((sim_name 1)).p)).e))
      sim_bnil)
      (sim_bone (sim_ret (sim_int).e)))
theorem ok__law_draw {k : Nat} {R : Fs} (hR : AllOk P w K mg base T k R) : FnOk P w K mg base CX0 (k + 1) T.a__law_draw T.d__law_draw ["_law_script", "_law_k", "_law_sizes"] (spF ⟨P, w, K⟩ S__law_draw 3 5 (defF 5 [] (b__law_draw R))) := by
  refine def_ok (S := S__law_draw) T.F__law_draw sc__law_draw rfl rfl fun cdv A outer s H E hr hp => ?_
  have nd := sc__law_draw.nd
  have hu := hu16 hr
  have hu64 := hr.units
  have huX := hu65 hr
  exact (sim_bcons (sim_set 3 nd ((sim_call (hR.f__law_cell) hr T.m__law_cell T.F__law_cell.kp T.b__law_cell rfl rfl (sim_cons (sim_name 0) (sim_cons (sim_name 1) sim_nil)) (hla := (lenA_cons (lenA_cons lenA_nil))))).v)
      (sim_bcons (sim_if (sim_cmpT os_lt (sim_name 3) sim_int (nomark _))
      (sim_bone (sim_set 3 nd (sim_neg (sim_name 3))))
      sim_bnil)
      (sim_bcons (sim_setE 4 nd (sim_lst sim_nil))
      (sim_bcons (sim_if (sim_cmpT os_ge (sim_name 3) (sim_bin os_pow sim_int sim_int) (nomark _))
      (sim_bcons (sim_set 3 nd (sim_bin os_sub (sim_name 3) (sim_bin os_pow sim_int sim_int)))
      (sim_bcons (sim_for hp rfl (sim_iter (sim_name 2)) (sim_gname 5 nd)
      (sim_bcons (sim_app 4 (sim_bin os_mod (sim_name 3) (sim_name 5)))
      (sim_bone (sim_set 3 nd (sim_bin os_fdiv (sim_name 3) (sim_name 5))))))
      (sim_bone (sim_retS 4))))
      sim_bnil)
      (sim_bcons (sim_set 6 nd (sim_bin os_mod (sim_bin os_add (sim_bin os_add (sim_name 3) sim_int) (sim_bin os_mul sim_int (sim_name 1))) sim_int))
      (sim_bcons (sim_for hp rfl (sim_range1 T.z_range (sim_cons (sim_callB cv_len (by rfl) T.z_len (by decide +kernel) (sim_consP ((sim_name 2)).p sim_nilP)) sim_nil)) (sim_gname 7 nd)
      (sim_bcons (sim_set 6 nd (sim_bin os_mod (sim_bin os_add (sim_bin os_add (sim_bin os_mul (sim_name 6) sim_int) sim_int) (sim_name 7)) sim_int))
      (sim_bcons (sim_set 6 nd (sim_bin os_mod (sim_bin os_add (sim_bin os_mul (sim_name 6) sim_int) sim_int) sim_int))
      (sim_bone (sim_app 4 (sim_bin os_mod (sim_bin os_fdiv (sim_name 6) sim_int) (sim_ix (is_ixD hu) ((sim_name 2)).p ((sim_name 7)).p)))))))
      (sim_bone (sim_retS 4))))))))
theorem ok__law_alike {k : Nat} {R : Fs} (hR : AllOk P w K mg base T k R) : FnOk P w K mg base CX0 (k + 1) T.a__law_alike T.d__law_alike ["_law_actual", "_law_expected"] (spF ⟨P, w, K⟩ S__law_alike 2 1 (defF 1 [] (b__law_alike R))) := by
  refine def_ok (S := S__law_alike) T.F__law_alike sc__law_alike rfl rfl fun cdv A outer s H E hr hp => ?_
  have nd := sc__law_alike.nd
  have hu := hu16 hr
  have hu64 := hr.units
  have huX := hu65 hr
  exact (sim_bcons (sim_if (sim_cmpT os_is (sim_name 1) sim_non (nomark _))
      (sim_bone (sim_ret ((sim_cmp os_is (sim_name 0) sim_non (nomark _))).e))
      sim_bnil)
      (sim_bcons (sim_if (sim_test (sim_isi .bool ((sim_name 1)).p T.z_isinstance T.z_bool (by decide +kernel)))
      (sim_bone (sim_ret ((sim_andV (sim_isi .bool ((sim_name 0)).p T.z_isinstance T.z_bool (by decide +kernel)) (sim_oneV (sim_cmp (os_eq hu64) (sim_name 0) (sim_name 1) (nomark _))))).e))
      sim_bnil)
      (sim_bcons (sim_if (sim_test (sim_isi .int ((sim_name 1)).p T.z_isinstance T.z_int (by decide +kernel)))
      (sim_bone (sim_ret ((sim_andV (sim_isi .int ((sim_name 0)).p T.z_isinstance T.z_int (by decide +kernel)) (sim_andV (sim_notV (sim_isi .bool ((sim_name 0)).p T.z_isinstance T.z_bool (by decide +kernel))) (sim_oneV (sim_cmp (os_eq hu64) (sim_name 0) (sim_name 1) (nomark _)))))).e))
      sim_bnil)
      (sim_bcons (sim_if (sim_test (sim_isi .str ((sim_name 1)).p T.z_isinstance T.z_str (by decide +kernel)))
      (sim_bone (sim_ret ((sim_andV (sim_isi .str ((sim_name 0)).p T.z_isinstance T.z_str (by decide +kernel)) (sim_oneV (sim_cmp (os_eq hu64) (sim_name 0) (sim_name 1) (nomark _))))).e))
      sim_bnil)
      (sim_bcons (sim_if ((sim_andW (sim_test (sim_isi .tuple ((sim_name 1)).p T.z_isinstance T.z_tuple (by decide +kernel))) (sim_and1 (sim_notT (sim_test (sim_isi .tuple ((sim_name 0)).p T.z_isinstance T.z_tuple (by decide +kernel))))))).t
      (sim_bone (sim_ret (sim_bl).e))
      sim_bnil)
      (sim_bcons (sim_if ((sim_andW (sim_test (sim_isi .list ((sim_name 1)).p T.z_isinstance T.z_list (by decide +kernel))) (sim_and1 (sim_notT (sim_test (sim_isi .list ((sim_name 0)).p T.z_isinstance T.z_list (by decide +kernel))))))).t
      (sim_bone (sim_ret (sim_bl).e))
      sim_bnil)
      (sim_bcons (sim_if (sim_cmpT (os_ne hu64) (sim_callB cv_len (by rfl) T.z_len (by decide +kernel) (sim_consP ((sim_name 0)).p sim_nilP)) (sim_callB cv_len (by rfl) T.z_len (by decide +kernel) (sim_consP ((sim_name 1)).p sim_nilP)) (nomark _))
      (sim_bone (sim_ret (sim_bl).e))
      sim_bnil)
      (sim_bcons (sim_for hp rfl (sim_range1 T.z_range (sim_cons (sim_callB cv_len (by rfl) T.z_len (by decide +kernel) (sim_consP ((sim_name 1)).p sim_nilP)) sim_nil)) (sim_gname 2 nd)
      (sim_bone (sim_if (sim_notT (sim_test ((sim_call (hR.f__law_alike) hr T.m__law_alike T.F__law_alike.kp T.b__law_alike rfl rfl (sim_cons (sim_ix (is_ixD hu) ((sim_name 0)).p ((sim_name 2)).p) (sim_cons (sim_ix (is_ixD hu) ((sim_name 1)).p ((sim_name 2)).p) sim_nil)) (hla := (lenA_cons (lenA_cons lenA_nil))))).v))
      (sim_bone (sim_ret (sim_bl).e))
      sim_bnil)))
      (sim_bone (sim_ret (sim_bl).e))))))))))
theorem ok__law_pick {k : Nat} {R : Fs} (hR : AllOk P w K mg base T k R) : FnOk P w K mg base CX0 (k + 1) T.a__law_pick T.d__law_pick ["_law_script", "_law_k", "_law_count"] (spF ⟨P, w, K⟩ S__law_pick 3 0 (defF 0 [] (b__law_pick R))) := by
  refine def_ok (S := S__law_pick) T.F__law_pick sc__law_pick rfl rfl fun cdv A outer s H E hr hp => ?_
  have nd := sc__law_pick.nd
  have hu := hu16 hr
  have hu64 := hr.units
  have huX := hu65 hr
  exact (sim_bone (sim_ret ((sim_ix (is_ixD hu) (((sim_call (hR.f__law_draw) hr T.m__law_draw T.F__law_draw.kp T.b__law_draw rfl rfl (sim_cons (sim_name 0) (sim_cons (sim_name 1) (sim_cons ((sim_lst (sim_cons (sim_callB (cv_max rfl) (by rfl) T.z_max (by decide +kernel) (sim_consP (sim_int).p (sim_consP ((sim_name 2)).p sim_nilP))) sim_nil))).v sim_nil))) (hla := (lenA_cons (lenA_cons (lenA_cons lenA_nil)))))).v).p (sim_int).p)).e))
theorem ok__law_some_monitor {k : Nat} {R : Fs} (hR : AllOk P w K mg base T k R) : FnOk P w K mg base CX0 (k + 1) T.a__law_some_monitor T.d__law_some_monitor ["_law_script", "_law_k", "_law_many", "_law_nodes"] (spF ⟨P, w, K⟩ S__law_some_monitor 4 10 (defF 10 [] (b__law_some_monitor R))) := by
  refine def_ok (S := S__law_some_monitor) T.F__law_some_monitor sc__law_some_monitor rfl rfl fun cdv A outer s H E hr hp => ?_
  have nd := sc__law_some_monitor.nd
  have hu := hu16 hr
  have hu64 := hr.units
  have huX := hu65 hr
  exact (sim_bcons (sim_set 4 nd (sim_slice (((sim_lst (sim_cons (sim_tup (sim_cons sim_int sim_nil)) (sim_cons (sim_tup (sim_cons sim_non sim_nil)) (sim_cons (sim_tup (sim_cons sim_int sim_nil)) (sim_cons (sim_tup sim_nil) (sim_cons (sim_tup (sim_cons sim_int (sim_cons sim_int sim_nil))) (sim_cons (sim_tup (sim_cons (sim_neg sim_int) (sim_cons sim_non sim_nil))) sim_nil)))))))).v).p sim_noO (sim_someO (sim_name 2))))
      (sim_bcons (sim_set 5 nd (sim_bin os_add sim_int (sim_ix (is_ixD hu) (((sim_call (hR.f__law_draw) hr T.m__law_draw T.F__law_draw.kp T.b__law_draw rfl rfl (sim_cons (sim_name 0) (sim_cons (sim_name 1) (sim_cons ((sim_lst (sim_cons (sim_name 3) sim_nil))).v sim_nil))) (hla := (lenA_cons (lenA_cons (lenA_cons lenA_nil)))))).v).p (sim_int).p)))
      (sim_bcons (sim_set 6 nd ((sim_call (hR.f__law_draw) hr T.m__law_draw T.F__law_draw.kp T.b__law_draw rfl rfl (sim_cons (sim_name 0) (sim_cons (sim_bin os_add (sim_name 1) sim_int) (sim_cons (sim_bin os_mul ((sim_lst (sim_cons sim_int sim_nil))).v sim_int) sim_nil))) (hla := (lenA_cons (lenA_cons (lenA_cons lenA_nil)))))).v)
      (sim_bcons (sim_setE 7 nd (sim_lst sim_nil))
      (sim_bcons (sim_setE 8 nd (sim_lst sim_nil))
      (sim_bcons (sim_for hp rfl (sim_range1 T.z_range (sim_cons (sim_name 5) sim_nil)) (sim_gname 9 nd)
      (sim_bcons (sim_set 10 nd (sim_ix (is_ixD hu) ((sim_name 6)).p ((sim_bin os_mod (sim_name 9) sim_int)).p))
      (sim_bcons (sim_app 7 (sim_ix (is_ixD hu) (((sim_lst (sim_cons sim_str (sim_cons sim_str (sim_cons sim_str (sim_cons sim_str sim_nil)))))).v).p ((sim_bin os_mod (sim_bin os_add (sim_name 10) (sim_bin os_fdiv (sim_name 9) sim_int)) (sim_bin os_add sim_int (sim_bin os_mod (sim_name 10) sim_int)))).p))
      (sim_bcons (sim_setE 11 nd (sim_lst sim_nil))
      (sim_bcons (sim_for hp rfl (sim_range1 T.z_range (sim_cons (sim_name 2) sim_nil)) (sim_gname 12 nd)
      (sim_bone (sim_app 11 (sim_bin os_mod (sim_bin os_add (sim_bin os_mul (sim_ix (is_ixD hu) ((sim_name 6)).p ((sim_bin os_mod (sim_bin os_add (sim_bin os_add (sim_bin os_mul (sim_name 9) (sim_name 2)) (sim_name 12)) sim_int) sim_int)).p) (sim_bin os_add sim_int (sim_bin os_fdiv (sim_name 9) sim_int))) (sim_name 12)) (sim_name 5)))))
      (sim_bone (sim_app 8 (sim_callTy cv_tuple (by rfl) T.z_tuple (by decide +kernel) (sim_consP (sim_peek 11) sim_nilP)))))))))
      (sim_bcons (sim_set 13 nd (sim_ix (is_ixD hu) (((sim_call (hR.f__law_draw) hr T.m__law_draw T.F__law_draw.kp T.b__law_draw rfl rfl (sim_cons (sim_name 0) (sim_cons (sim_bin os_add (sim_name 1) sim_int) (sim_cons ((sim_lst (sim_cons (sim_name 5) sim_nil))).v sim_nil))) (hla := (lenA_cons (lenA_cons (lenA_cons lenA_nil)))))).v).p (sim_int).p))
      (sim_bone (sim_ret ((sim_tup (sim_cons (sim_callTy cv_tuple (by rfl) T.z_tuple (by decide +kernel) (sim_consP ((sim_name 4)).p sim_nilP)) (sim_cons (sim_name 13) (sim_cons (sim_callTy cv_tuple (by rfl) T.z_tuple (by decide +kernel) (sim_consP (sim_peek 7) sim_nilP)) (sim_cons (sim_callTy cv_tuple (by rfl) T.z_tuple (by decide +kernel) (sim_consP (sim_peek 8) sim_nilP)) sim_nil)))))).e)))))))))
theorem ok__law_apart {k : Nat} {R : Fs} (hR : AllOk P w K mg base T k R) : FnOk P w K mg base CX0 (k + 1) T.a__law_apart T.d__law_apart ["_law_verdicts", "_law_edges"] (spF ⟨P, w, K⟩ S__law_apart 2 7 (defF 7 [] (b__law_apart R))) := by
  refine def_ok (S := S__law_apart) T.F__law_apart sc__law_apart rfl rfl fun cdv A outer s H E hr hp => ?_
  have nd := sc__law_apart.nd
  have hu := hu16 hr
  have hu64 := hr.units
  have huX := hu65 hr
  exact (sim_bcons (sim_set 2 nd (sim_callB cv_len (by rfl) T.z_len (by decide +kernel) (sim_consP ((sim_name 0)).p sim_nilP)))
      (sim_nest (own := [("_law_a", 4)]) (S' := ⟨[], [], [0, 1, 2, 3, 5, 6, 7, 8], fun _ _ _ => False⟩) (n := 9) (i := 3) rfl nd (sim_range1 T.z_range (sim_cons (sim_name 2) sim_nil)) (fun _ _ _ _ _ => (sim_gname 4 nd)) (fun _ _ _ _ _ => (sim_lc (own := [("_law_b", 5)]) (S' := ⟨[], [], [0, 1, 2, 3, 4, 6, 7, 8], fun _ _ _ => False⟩) (n := 9) rfl nd (sim_range1 T.z_range (sim_cons (sim_name 2) sim_nil)) (fun _ _ _ _ _ => (sim_gname 5 nd)) (fun _ _ _ _ _ => sim_ts0) (fun _ _ _ _ _ => (sim_cmp (os_ne hu64) (sim_ix (is_ixD hu) ((sim_name 0)).p ((sim_name 4)).p) (sim_ix (is_ixD hu) ((sim_name 0)).p ((sim_name 5)).p) (nomark _))) (by first | decide | exact of_decide_eq_true rfl) (by first | decide | exact of_decide_eq_true rfl) (blkOk_by (by rfl)))) (by first | decide | exact of_decide_eq_true rfl) (by first | decide | exact of_decide_eq_true rfl) (blkOk_by (by rfl)) (by first | decide | exact of_decide_eq_true rfl) (by first | decide | exact of_decide_eq_true rfl) (by decide)
      (ns_for (S' := ⟨[], [], [3], fun _ _ _ => False⟩) hp rfl (sim_range1 T.z_range (sim_cons (sim_name 2) sim_nil)) (sim_gname 6 nd)
      (nb_cons (ns_for (S' := ⟨[], [], [3], fun _ _ _ => False⟩) hp rfl (sim_range1 T.z_range (sim_cons (sim_name 2) sim_nil)) (sim_gname 4 nd)
      (nb_cons (ns_for (S' := ⟨[], [], [3], fun _ _ _ => False⟩) hp rfl (sim_range1 T.z_range (sim_cons (sim_name 2) sim_nil)) (sim_gname 5 nd)
      (nb_cons (ns_if (S' := ⟨[], [], [3], fun _ _ _ => False⟩) (sim_notT (sim_test (sim_ix (is_ixD hu) ((sim_ix (is_ixD hu) ((sim_name 3)).p ((sim_name 4)).p)).p ((sim_name 5)).p)))
      (nb_cons (ns_setLc (S' := ⟨[], [], [3], fun _ _ _ => False⟩) (own := [("_law_k", 8)]) (S'' := ⟨[], [], [0, 1, 2, 3, 4, 5, 6, 7], fun _ _ _ => False⟩) (nn := 9) 7 rfl nd (sim_range1 T.z_range (sim_cons (sim_callB cv_len (by rfl) T.z_len (by decide +kernel) (sim_consP ((sim_ix (is_ixD hu) ((sim_name 1)).p ((sim_name 4)).p)).p sim_nilP)) sim_nil)) (fun _ _ _ _ _ => (sim_gname 8 nd)) (fun _ _ _ _ _ => (sim_ts1 (sim_test (sim_ix (is_ixD hu) ((sim_ix (is_ixD hu) ((sim_name 3)).p ((sim_ix (is_ixD hu) ((sim_ix (is_ixD hu) ((sim_name 1)).p ((sim_name 4)).p)).p ((sim_name 8)).p)).p)).p ((sim_ix (is_ixD hu) ((sim_ix (is_ixD hu) ((sim_name 1)).p ((sim_name 5)).p)).p ((sim_name 8)).p)).p)))) (fun _ _ _ _ _ => (sim_name 8)) (by first | decide | exact of_decide_eq_true rfl) (by first | decide | exact of_decide_eq_true rfl) (blkOk_by (by rfl)) (by first | decide | exact of_decide_eq_true rfl) (by decide) rfl rfl (sw_true rfl rfl rfl (by decide +kernel)))
      (nb_cons (ns_if (S' := ⟨[], [], [3], fun _ _ _ => False⟩) (sim_cmpT (os_ne hu64) (sim_name 7) ((sim_lst sim_nil)).v (nomark _))
      (nb_cons (ns_put (S' := ⟨[], [], [3], fun _ _ _ => False⟩) (i := 3) sim_bl (sim_name 4) (sim_name 5))
      nb_nil)
      nb_nil)
      nb_nil))
      nb_nil)
      nb_nil))
      nb_nil))
      nb_nil))))
theorem ok__law_reach {k : Nat} {R : Fs} (hR : AllOk P w K mg base T k R) : FnOk P w K mg base CX0 (k + 1) T.a__law_reach T.d__law_reach ["_law_monitor", "_law_first"] (spF ⟨P, w, K⟩ S__law_reach 2 3 (defF 3 [] (b__law_reach R))) := by
  refine def_ok (S := S__law_reach) T.F__law_reach sc__law_reach rfl rfl fun cdv A outer s H E hr hp => ?_
  have nd := sc__law_reach.nd
  have hu := hu16 hr
  have hu64 := hr.units
  have huX := hu65 hr
  exact (sim_bcons (sim_setE 2 nd (sim_lst (sim_cons (sim_name 1) sim_nil)))
      (sim_bcons (sim_for hp rfl (sim_range1 T.z_range (sim_cons (sim_callB cv_len (by rfl) T.z_len (by decide +kernel) (sim_consP ((sim_ix (is_ixD hu) ((sim_name 0)).p (sim_int).p)).p sim_nilP)) sim_nil)) (sim_gname 3 nd)
      (sim_bone (sim_if (sim_cmpT os_lt (sim_name 3) (sim_callB cv_len (by rfl) T.z_len (by decide +kernel) (sim_consP (sim_peek 2) sim_nilP)) (nomark _))
      (sim_bone (sim_for hp rfl (sim_iter (sim_ix (is_ixD hu) ((sim_ix (is_ixD hu) ((sim_name 0)).p (sim_int).p)).p ((sim_ix (is_ixD hu) (sim_peek 2) ((sim_name 3)).p)).p)) (sim_gname 4 nd)
      (sim_bone (sim_if (sim_cmpPT (os_notInX huX) ((sim_name 4)).p (sim_peek 2) (by rfl))
      (sim_bone (sim_app 2 (sim_name 4)))
      sim_bnil))))
      sim_bnil)))
      (sim_bone (sim_retS 2))))
theorem ok__law_smallest {k : Nat} {R : Fs} (hR : AllOk P w K mg base T k R) : FnOk P w K mg base CX0 (k + 1) T.a__law_smallest T.d__law_smallest ["_law_monitor"] (spF ⟨P, w, K⟩ S__law_smallest 1 9 (defF 9 [] (b__law_smallest R))) := by
  refine def_ok (S := S__law_smallest) T.F__law_smallest sc__law_smallest rfl rfl fun cdv A outer s H E hr hp => ?_
  have nd := sc__law_smallest.nd
  have hu := hu16 hr
  have hu64 := hr.units
  have huX := hu65 hr
  exact (sim_bcons (sim_set 1 nd ((sim_call (hR.f__law_reach) hr T.m__law_reach T.F__law_reach.kp T.b__law_reach rfl rfl (sim_cons (sim_name 0) (sim_cons (sim_ix (is_ixD hu) ((sim_name 0)).p (sim_int).p) sim_nil)) (hla := (lenA_cons (lenA_cons lenA_nil))))).v)
      (sim_bcons (sim_set 2 nd ((sim_call (hR.f__law_apart) hr T.m__law_apart T.F__law_apart.kp T.b__law_apart rfl rfl (sim_cons (sim_ix (is_ixD hu) ((sim_name 0)).p (sim_int).p) (sim_cons (sim_ix (is_ixD hu) ((sim_name 0)).p (sim_int).p) sim_nil)) (hla := (lenA_cons (lenA_cons lenA_nil))))).v)
      (sim_bcons (sim_setE 3 nd (sim_lst sim_nil))
      (sim_bcons (sim_for hp rfl (sim_iter (sim_name 1)) (sim_gname 4 nd)
      (sim_bone (sim_if (sim_cmpT (os_eq hu64) (sim_callB cv_len (by rfl) T.z_len (by decide +kernel) (sim_consP (((sim_lcO (own := [("_law_other", 5)]) (S' := ⟨[3, 6, 7], [], [0, 1, 2, 3, 4, 6, 7, 8, 9], fun _ _ _ => False⟩) (n := 10) (i := 3) rfl nd (fun _ _ _ _ _ => (sim_gname 5 nd)) (fun _ _ _ _ _ => (sim_ts1 (sim_notT (sim_test (sim_ix (is_ixD hu) ((sim_ix (is_ixD hu) ((sim_name 2)).p ((sim_name 4)).p)).p ((sim_name 5)).p))))) (fun _ _ _ _ _ => (sim_name 5)) (by first | decide | exact of_decide_eq_true rfl) (by first | decide | exact of_decide_eq_true rfl) (blkOk_by (by rfl)))).v).p sim_nilP)) sim_int (nomark _))
      (sim_bone (sim_app 3 (sim_name 4)))
      sim_bnil)))
      (sim_bcons (sim_setE 6 nd (sim_lst sim_nil))
      (sim_bcons (sim_for hp rfl (sim_iter (sim_frz 3)) (sim_gname 4 nd)
      (sim_bcons (sim_setE 7 nd (sim_lst sim_nil))
      (sim_bcons (sim_for hp rfl (sim_iter (sim_ix (is_ixD hu) ((sim_ix (is_ixD hu) ((sim_name 0)).p (sim_int).p)).p ((sim_name 4)).p)) (sim_gname 8 nd)
      (sim_bone (sim_app 7 (sim_ix (is_ixD hu) (((sim_lc (own := [("_law_k", 9)]) (S' := ⟨[3, 6, 7], [], [0, 1, 2, 3, 4, 5, 6, 7, 8], fun _ _ _ => False⟩) (n := 10) rfl nd (sim_range1 T.z_range (sim_cons (sim_callB cv_len (by rfl) T.z_len (by decide +kernel) (sim_consP (sim_peek 3) sim_nilP)) sim_nil)) (fun _ _ _ _ _ => (sim_gname 9 nd)) (fun _ _ _ _ _ => (sim_ts1 (sim_notT (sim_test (sim_ix (is_ixD hu) ((sim_ix (is_ixD hu) ((sim_name 2)).p ((sim_ix (is_ixD hu) (sim_peek 3) ((sim_name 9)).p)).p)).p ((sim_name 8)).p))))) (fun _ _ _ _ _ => (sim_name 9)) (by first | decide | exact of_decide_eq_true rfl) (by first | decide | exact of_decide_eq_true rfl) (blkOk_by (by rfl)))).v).p (sim_int).p))))
      (sim_bone (sim_app 6 (sim_callTy cv_tuple (by rfl) T.z_tuple (by decide +kernel) (sim_consP (sim_peek 7) sim_nilP)))))))
      (sim_bone (sim_ret ((sim_tup (sim_cons (sim_callTy cv_tuple (by rfl) T.z_tuple (by decide +kernel) (sim_consP ((sim_ix (is_ixD hu) ((sim_name 0)).p (sim_int).p)).p sim_nilP)) (sim_cons sim_int (sim_cons (sim_callTy cv_tuple (by rfl) T.z_tuple (by decide +kernel) (sim_consP (((sim_lc (own := [("_law_node", 4)]) (S' := ⟨[3, 6, 7], [], [0, 1, 2, 3, 5, 6, 7, 8, 9], fun _ _ _ => False⟩) (n := 10) rfl nd (sim_iter (sim_frz 3)) (fun _ _ _ _ _ => (sim_gname 4 nd)) (fun _ _ _ _ _ => sim_ts0) (fun _ _ _ _ _ => (sim_ix (is_ixD hu) ((sim_ix (is_ixD hu) ((sim_name 0)).p (sim_int).p)).p ((sim_name 4)).p)) (by first | decide | exact of_decide_eq_true rfl) (by first | decide | exact of_decide_eq_true rfl) (blkOk_by (by rfl)))).v).p sim_nilP)) (sim_cons (sim_callTy cv_tuple (by rfl) T.z_tuple (by decide +kernel) (sim_consP (sim_peek 6) sim_nilP)) sim_nil)))))).e))))))))
theorem ok__law_words {k : Nat} {R : Fs} (hR : AllOk P w K mg base T k R) : FnOk P w K mg base CX0 (k + 1) T.a__law_words T.d__law_words ["_law_many", "_law_length"] (spF ⟨P, w, K⟩ S__law_words 2 6 (defF 6 [] (b__law_words R))) := by
  refine def_ok (S := S__law_words) T.F__law_words sc__law_words rfl rfl fun cdv A outer s H E hr hp => ?_
  have nd := sc__law_words.nd
  have hu := hu16 hr
  have hu64 := hr.units
  have huX := hu65 hr
  exact (sim_bcons (sim_setE 2 nd (sim_lst (sim_cons (sim_tup sim_nil) sim_nil)))
      (sim_bcons (sim_set 3 nd ((sim_lst (sim_cons (sim_tup sim_nil) sim_nil))).v)
      (sim_bcons (sim_for hp rfl (sim_range1 T.z_range (sim_cons (sim_name 1) sim_nil)) (sim_gname 4 nd)
      (sim_bcons (sim_setE 5 nd (sim_lst sim_nil))
      (sim_bcons (sim_for hp rfl (sim_iter (sim_name 3)) (sim_gname 6 nd)
      (sim_bone (sim_for hp rfl (sim_range1 T.z_range (sim_cons (sim_name 0) sim_nil)) (sim_gname 7 nd)
      (sim_bone (sim_app 5 (sim_bin os_add (sim_name 6) (sim_tup (sim_cons (sim_name 7) sim_nil))))))))
      (sim_bcons (sim_setE 2 nd ((sim_binP os_add (sim_peek 2) (sim_peek 5))).e)
      (sim_bone (sim_set 3 nd (sim_frz 5)))))))
      (sim_bone (sim_retS 2)))))
theorem ok_law {k : Nat} {R : Fs} (hR : AllOk P w K mg base T k R) : FnOk P w K mg base CX0 (k + 1) T.a_law T.d_law ["_law_script"] (spF ⟨P, w, K⟩ S_law 1 17 (defF 17 [] (b_law R))) := by
  refine def_ok (S := S_law) T.F_law sc_law rfl rfl fun cdv A outer s H E hr hp => ?_
  have nd := sc_law.nd
  have hu := hu16 hr
  have hu64 := hr.units
  have huX := hu65 hr
  exact (sim_bcons (sim_set 1 nd ((sim_call (hR.f__law_some_monitor) hr T.m__law_some_monitor T.F__law_some_monitor.kp T.b__law_some_monitor rfl rfl (sim_cons (sim_name 0) (sim_cons sim_int (sim_cons ((sim_call (hR.f__law_pick) hr T.m__law_pick T.F__law_pick.kp T.b__law_pick rfl rfl (sim_cons (sim_name 0) (sim_cons sim_int (sim_cons sim_int sim_nil))) (hla := (lenA_cons (lenA_cons (lenA_cons lenA_nil)))))).v (sim_cons sim_int sim_nil)))) (hla := (lenA_cons (lenA_cons (lenA_cons (lenA_cons lenA_nil))))))).v)
      (sim_bcons (sim_set 2 nd ((sim_call (hR.f__law_draw) hr T.m__law_draw T.F__law_draw.kp T.b__law_draw rfl rfl (sim_cons (sim_name 0) (sim_cons sim_int (sim_cons ((sim_lst (sim_cons sim_int (sim_cons sim_int (sim_cons sim_int sim_nil))))).v sim_nil))) (hla := (lenA_cons (lenA_cons (lenA_cons lenA_nil)))))).v)
      (sim_bcons (sim_set 3 nd ((sim_call (hR.f__law_smallest) hr T.m__law_smallest T.F__law_smallest.kp T.b__law_smallest rfl rfl (sim_cons (sim_name 1) sim_nil) (hla := (lenA_cons lenA_nil)))).v)
      (sim_bcons (sim_set 4 nd ((sim_call (hR.f_separators) hr T.m_separators T.F_separators.kp T.b_separators rfl rfl (sim_cons (sim_name 3) sim_nil) (hla := (lenA_cons lenA_nil)))).v)
      (sim_bcons (sim_set 5 nd ((sim_call (hR.f__law_words) hr T.m__law_words T.F__law_words.kp T.b__law_words rfl rfl (sim_cons (sim_callB cv_len (by rfl) T.z_len (by decide +kernel) (sim_consP ((sim_ix (is_ixD hu) ((sim_name 3)).p (sim_int).p)).p sim_nilP)) (sim_cons (sim_bin os_add (sim_ix (is_ixD hu) ((sim_name 2)).p (sim_int).p) sim_int) sim_nil)) (hla := (lenA_cons (lenA_cons lenA_nil))))).v)
      (sim_bcons (sim_set 6 nd (sim_bin os_mul (sim_bin os_mul (sim_callB cv_len (by rfl) T.z_len (by decide +kernel) (sim_consP ((sim_ix (is_ixD hu) ((sim_name 3)).p (sim_int).p)).p sim_nilP)) (sim_callB cv_len (by rfl) T.z_len (by decide +kernel) (sim_consP ((sim_name 5)).p sim_nilP))) (sim_callB cv_len (by rfl) T.z_len (by decide +kernel) (sim_consP ((sim_name 4)).p sim_nilP))))
      (sim_bcons (sim_set 7 nd (sim_bin os_add sim_int (sim_ix (is_ixD hu) ((sim_name 2)).p (sim_int).p)))
      (sim_bcons (sim_if ((sim_andW (sim_cmpT os_gt (sim_ix (is_ixD hu) ((sim_name 2)).p (sim_int).p) sim_int (nomark _)) (sim_and1 (sim_cmpT os_le (sim_name 6) sim_int (nomark _))))).t
      (sim_bone (sim_set 7 nd (sim_callB (cv_max rfl) (by rfl) T.z_max (by decide +kernel) (sim_consP (sim_int).p (sim_consP ((sim_bin os_add (sim_bin os_sub (sim_name 6) (sim_ix (is_ixD hu) ((sim_name 2)).p (sim_int).p)) sim_int)).p sim_nilP)))))
      sim_bnil)
      (sim_bcons (sim_setE 8 nd (sim_bl).e)
      (sim_bcons (sim_set 9 nd sim_non)
      (sim_bcons (sim_tryA 10 (takes_none (cm := T.cm)) rfl rfl nd rfl rfl ⟨rfl, by decide, .inl T.g_TooMany⟩ T.catch_TooMany (fun xw pn xe tk hp =>
      (sim_bone (sim_setXV 9 nd (sim_callX (hR.f_trials) tk hr T.m_trials T.F_trials.kp T.b_trials rfl (sim_cons (sim_name 1) (sim_cons (sim_ix (is_ixD hu) ((sim_name 2)).p (sim_int).p) (sim_cons (sim_name 7) sim_nil))) (hla := (lenA_cons (lenA_cons (lenA_cons lenA_nil)))))))) (fun a oe pn cls d x hz hf hot => (su_set 8 nd (su_call stab_phi (hR.h__law_alike) hot ⟨hr.dp, hr.un⟩ T.m__law_alike T.F__law_alike.kp T.b__law_alike rfl (suA_cons stab_phi (su_fld hz hf T.fld) (suA_cons stab_phi (SimV.su sim_str) suA_nil)) (hla := (lenA_cons (lenA_cons lenA_nil)))))))
      (sim_bcons (sim_if (sim_cmpT os_gt (sim_name 6) (sim_name 7) (nomark _))
      (sim_bone (sim_retS 8))
      sim_bnil)
      (sim_bcons (sim_setE 11 nd (sim_lst sim_nil))
      (sim_bcons (sim_setE 12 nd sim_newD)
      (sim_bcons (sim_for hp rfl (sim_iter ((sim_call (hR.f_cover) hr T.m_cover T.F_cover.kp T.b_cover rfl rfl (sim_cons (sim_name 3) sim_nil) (hla := (lenA_cons lenA_nil)))).v) (sim_gname 13 nd)
      (sim_bone (sim_for hp rfl (sim_iter (sim_name 5)) (sim_gname 14 nd)
      (sim_bone (sim_for hp rfl (sim_iter (sim_name 4)) (sim_gname 15 nd)
      (sim_bcons (sim_set 16 nd (sim_bin os_add (sim_bin os_add (sim_name 13) (sim_name 14)) (sim_name 15)))
      (sim_bone (sim_if (sim_cmpPT (os_notInX huX) ((sim_name 16)).p (sim_peek 12) (by rfl))
      (sim_bcons (sim_putD 12 hu (sim_name 16) sim_bl)
      (sim_bone (sim_app 11 ((sim_lc (own := [("_law_place", 17)]) (S' := ⟨[8, 11, 12], [], [0, 1, 2, 3, 4, 5, 6, 7, 8, 9, 10, 11, 12, 13, 14, 15, 16], fun _ _ _ => False⟩) (n := 18) rfl nd (sim_iter (sim_name 16)) (fun _ _ _ _ _ => (sim_gname 17 nd)) (fun _ _ _ _ _ => sim_ts0) (fun _ _ _ _ _ => (sim_ix (is_ixD hu) ((sim_ix (is_ixD hu) ((sim_name 3)).p (sim_int).p)).p ((sim_name 17)).p)) (by first | decide | exact of_decide_eq_true rfl) (by first | decide | exact of_decide_eq_true rfl) (blkOk_by (by rfl)))).v)))
      sim_bnil))))))))
      (sim_bone (sim_ret ((sim_andV (sim_notV (sim_frz 8)) (sim_oneV ((sim_call (hR.f__law_alike) hr T.m__law_alike T.F__law_alike.kp T.b__law_alike rfl rfl (sim_cons (sim_name 9) (sim_cons (sim_frz 11) sim_nil)) (hla := (lenA_cons (lenA_cons lenA_nil))))).v))).e)))))))))))))))))
theorem okH__law_alike {k : Nat} {R : Fs} (hR : AllOk P w K mg base T k R) : L2H.FnH P w K mg base CX0 (k + 1) T.a__law_alike T.d__law_alike ["_law_actual", "_law_expected"] (spF ⟨P, w, K⟩ S__law_alike 2 1 (defF 1 [] (hb__law_alike R))) := by
  refine def_okH (S := S__law_alike) T.F__law_alike sc__law_alike rfl rfl fun cdv A outer s H E p hr hot => ?_
  have nd := sc__law_alike.nd
  have hu := hu16H hr
  have hu64 := hu64H hr
  have huX := hu65H hr
  exact (sim_bcons (sim_if (sim_cmpT os_is (sim_name 1) sim_non (nomark _))
      (sim_bone (sim_ret ((sim_cmp os_is (sim_name 0) sim_non (nomark _))).e))
      sim_bnil)
      (sim_bcons (sim_if (sim_test (sim_isi .bool ((sim_name 1)).p T.z_isinstance T.z_bool (by decide +kernel)))
      (sim_bone (sim_ret ((sim_andV (sim_isi .bool ((sim_name 0)).p T.z_isinstance T.z_bool (by decide +kernel)) (sim_oneV (sim_cmp (os_eq hu64) (sim_name 0) (sim_name 1) (nomark _))))).e))
      sim_bnil)
      (sim_bcons (sim_if (sim_test (sim_isi .int ((sim_name 1)).p T.z_isinstance T.z_int (by decide +kernel)))
      (sim_bone (sim_ret ((sim_andV (sim_isi .int ((sim_name 0)).p T.z_isinstance T.z_int (by decide +kernel)) (sim_andV (sim_notV (sim_isi .bool ((sim_name 0)).p T.z_isinstance T.z_bool (by decide +kernel))) (sim_oneV (sim_cmp (os_eq hu64) (sim_name 0) (sim_name 1) (nomark _)))))).e))
      sim_bnil)
      (sim_bcons (sim_if (sim_test (sim_isi .str ((sim_name 1)).p T.z_isinstance T.z_str (by decide +kernel)))
      (sim_bone (sim_ret ((sim_andV (sim_isi .str ((sim_name 0)).p T.z_isinstance T.z_str (by decide +kernel)) (sim_oneV (sim_cmp (os_eq hu64) (sim_name 0) (sim_name 1) (nomark _))))).e))
      sim_bnil)
      (sim_bcons (sim_if ((sim_andW (sim_test (sim_isi .tuple ((sim_name 1)).p T.z_isinstance T.z_tuple (by decide +kernel))) (sim_and1 (sim_notT (sim_test (sim_isi .tuple ((sim_name 0)).p T.z_isinstance T.z_tuple (by decide +kernel))))))).t
      (sim_bone (sim_ret (sim_bl).e))
      sim_bnil)
      (sim_bcons (sim_if ((sim_andW (sim_test (sim_isi .list ((sim_name 1)).p T.z_isinstance T.z_list (by decide +kernel))) (sim_and1 (sim_notT (sim_test (sim_isi .list ((sim_name 0)).p T.z_isinstance T.z_list (by decide +kernel))))))).t
      (sim_bone (sim_ret (sim_bl).e))
      sim_bnil)
      (sim_bcons (sim_if (sim_cmpT (os_ne hu64) (sim_callB cv_len (by rfl) T.z_len (by decide +kernel) (sim_consP ((sim_name 0)).p sim_nilP)) (sim_callB cv_len (by rfl) T.z_len (by decide +kernel) (sim_consP ((sim_name 1)).p sim_nilP)) (nomark _))
      (sim_bone (sim_ret (sim_bl).e))
      sim_bnil)
      (sim_bcons (sim_forH PassesOwn.never (by exact hot) (sim_range1H T.z_range (sim_cons (sim_callB cv_len (by rfl) T.z_len (by decide +kernel) (sim_consP ((sim_name 1)).p sim_nilP)) sim_nil)) (sim_gname 2 nd)
      (sim_bone (sim_if (sim_notT (sim_test ((sim_callH (hR.h__law_alike) (by exact hot) hr T.m__law_alike T.F__law_alike.kp T.b__law_alike rfl rfl (sim_cons (sim_ix (is_ixD hu) ((sim_name 0)).p ((sim_name 2)).p) (sim_cons (sim_ix (is_ixD hu) ((sim_name 1)).p ((sim_name 2)).p) sim_nil)) (hla := (lenA_cons (lenA_cons lenA_nil))))).v))
      (sim_bone (sim_ret (sim_bl).e))
      sim_bnil)))
      (sim_bone (sim_ret (sim_bl).e))))))))))
theorem all_ok : ∀ k : Nat, AllOk P w K mg base T k (M k)
  | 0 => ⟨none_ok, none_ok, none_ok, none_ok, none_ok, none_ok, none_ok, none_ok, none_ok, none_ok, none_okX, none_ok, none_ok, none_ok, none_ok, none_ok, none_ok, none_ok, none_ok, none_ok, none_ok, none_okH⟩
  | k + 1 => by
    have hR := all_ok k
    exact ⟨ok_reached_nodes hR, ok_grouped hR, ok_classes_of hR, ok_reduce hR, ok_led hR, ok_cover hR, ok_separator hR, ok_separators hR, ok_words_up_to hR, ok_count_words hR, ok_trials hR, ok__law_cell hR, ok__law_draw hR, ok__law_alike hR, ok__law_pick hR, ok__law_some_monitor hR, ok__law_apart hR, ok__law_reach hR, ok__law_smallest hR, ok__law_words hR, ok_law hR, okH__law_alike hR⟩
end
theorem top_mk {K : PySem.W.Frag} {h : Heap} {mg : Str → Option Value} (X : K.In h) (G : h.Ns mainGlobals mg)
    {f0 : Addr} {od0 an0 : Option Addr} {sl0 : Array (Option Value)} {oc0 kV0 dc0 pm0 cd0 ct0 : Value}
    (a0 : PySem.W.nsIn K mainGlobals "reached_nodes" = some (some (.ref f0))) (l0 : K.lookup f0 = some ⟨oc0, od0, .func (PySem.W.fnOf "reached_nodes" "reached_nodes" (defArgs s_reached_nodes) (defBody s_reached_nodes) (defScope s_reached_nodes) .none kV0 dc0 pm0 an0 cd0 ct0), sl0⟩) (c0 : PySem.W.codeIn K cd0 "reached_nodes" = true) (k0 : PySem.W.keepIn K (.ref f0) = true)
    {f1 : Addr} {od1 an1 : Option Addr} {sl1 : Array (Option Value)} {oc1 kV1 dc1 pm1 cd1 ct1 : Value}
    (a1 : PySem.W.nsIn K mainGlobals "grouped" = some (some (.ref f1))) (l1 : K.lookup f1 = some ⟨oc1, od1, .func (PySem.W.fnOf "grouped" "grouped" (defArgs s_grouped) (defBody s_grouped) (defScope s_grouped) .none kV1 dc1 pm1 an1 cd1 ct1), sl1⟩) (c1 : PySem.W.codeIn K cd1 "grouped" = true) (k1 : PySem.W.keepIn K (.ref f1) = true)
    {f2 : Addr} {od2 an2 : Option Addr} {sl2 : Array (Option Value)} {oc2 kV2 dc2 pm2 cd2 ct2 : Value}
    (a2 : PySem.W.nsIn K mainGlobals "classes_of" = some (some (.ref f2))) (l2 : K.lookup f2 = some ⟨oc2, od2, .func (PySem.W.fnOf "classes_of" "classes_of" (defArgs s_classes_of) (defBody s_classes_of) (defScope s_classes_of) .none kV2 dc2 pm2 an2 cd2 ct2), sl2⟩) (c2 : PySem.W.codeIn K cd2 "classes_of" = true) (k2 : PySem.W.keepIn K (.ref f2) = true)
    {f3 : Addr} {od3 an3 : Option Addr} {sl3 : Array (Option Value)} {oc3 kV3 dc3 pm3 cd3 ct3 : Value}
    (a3 : PySem.W.nsIn K mainGlobals "reduce" = some (some (.ref f3))) (l3 : K.lookup f3 = some ⟨oc3, od3, .func (PySem.W.fnOf "reduce" "reduce" (defArgs s_reduce) (defBody s_reduce) (defScope s_reduce) .none kV3 dc3 pm3 an3 cd3 ct3), sl3⟩) (c3 : PySem.W.codeIn K cd3 "reduce" = true) (k3 : PySem.W.keepIn K (.ref f3) = true)
    {f4 : Addr} {od4 an4 : Option Addr} {sl4 : Array (Option Value)} {oc4 kV4 dc4 pm4 cd4 ct4 : Value}
    (a4 : PySem.W.nsIn K mainGlobals "led" = some (some (.ref f4))) (l4 : K.lookup f4 = some ⟨oc4, od4, .func (PySem.W.fnOf "led" "led" (defArgs s_led) (defBody s_led) (defScope s_led) .none kV4 dc4 pm4 an4 cd4 ct4), sl4⟩) (c4 : PySem.W.codeIn K cd4 "led" = true) (k4 : PySem.W.keepIn K (.ref f4) = true)
    {f5 : Addr} {od5 an5 : Option Addr} {sl5 : Array (Option Value)} {oc5 kV5 dc5 pm5 cd5 ct5 : Value}
    (a5 : PySem.W.nsIn K mainGlobals "cover" = some (some (.ref f5))) (l5 : K.lookup f5 = some ⟨oc5, od5, .func (PySem.W.fnOf "cover" "cover" (defArgs s_cover) (defBody s_cover) (defScope s_cover) .none kV5 dc5 pm5 an5 cd5 ct5), sl5⟩) (c5 : PySem.W.codeIn K cd5 "cover" = true) (k5 : PySem.W.keepIn K (.ref f5) = true)
    {f6 : Addr} {od6 an6 : Option Addr} {sl6 : Array (Option Value)} {oc6 kV6 dc6 pm6 cd6 ct6 : Value}
    (a6 : PySem.W.nsIn K mainGlobals "separator" = some (some (.ref f6))) (l6 : K.lookup f6 = some ⟨oc6, od6, .func (PySem.W.fnOf "separator" "separator" (defArgs s_separator) (defBody s_separator) (defScope s_separator) .none kV6 dc6 pm6 an6 cd6 ct6), sl6⟩) (c6 : PySem.W.codeIn K cd6 "separator" = true) (k6 : PySem.W.keepIn K (.ref f6) = true)
    {f7 : Addr} {od7 an7 : Option Addr} {sl7 : Array (Option Value)} {oc7 kV7 dc7 pm7 cd7 ct7 : Value}
    (a7 : PySem.W.nsIn K mainGlobals "separators" = some (some (.ref f7))) (l7 : K.lookup f7 = some ⟨oc7, od7, .func (PySem.W.fnOf "separators" "separators" (defArgs s_separators) (defBody s_separators) (defScope s_separators) .none kV7 dc7 pm7 an7 cd7 ct7), sl7⟩) (c7 : PySem.W.codeIn K cd7 "separators" = true) (k7 : PySem.W.keepIn K (.ref f7) = true)
    {f8 : Addr} {od8 an8 : Option Addr} {sl8 : Array (Option Value)} {oc8 kV8 dc8 pm8 cd8 ct8 : Value}
    (a8 : PySem.W.nsIn K mainGlobals "words_up_to" = some (some (.ref f8))) (l8 : K.lookup f8 = some ⟨oc8, od8, .func (PySem.W.fnOf "words_up_to" "words_up_to" (defArgs s_words_up_to) (defBody s_words_up_to) (defScope s_words_up_to) .none kV8 dc8 pm8 an8 cd8 ct8), sl8⟩) (c8 : PySem.W.codeIn K cd8 "words_up_to" = true) (k8 : PySem.W.keepIn K (.ref f8) = true)
    {f9 : Addr} {od9 an9 : Option Addr} {sl9 : Array (Option Value)} {oc9 kV9 dc9 pm9 cd9 ct9 : Value}
    (a9 : PySem.W.nsIn K mainGlobals "count_words" = some (some (.ref f9))) (l9 : K.lookup f9 = some ⟨oc9, od9, .func (PySem.W.fnOf "count_words" "count_words" (defArgs s_count_words) (defBody s_count_words) (defScope s_count_words) .none kV9 dc9 pm9 an9 cd9 ct9), sl9⟩) (c9 : PySem.W.codeIn K cd9 "count_words" = true) (k9 : PySem.W.keepIn K (.ref f9) = true)
    {f10 : Addr} {od10 an10 : Option Addr} {sl10 : Array (Option Value)} {oc10 kV10 dc10 pm10 cd10 ct10 : Value}
    (a10 : PySem.W.nsIn K mainGlobals "trials" = some (some (.ref f10))) (l10 : K.lookup f10 = some ⟨oc10, od10, .func (PySem.W.fnOf "trials" "trials" (defArgs s_trials) (defBody s_trials) (defScope s_trials) .none kV10 dc10 pm10 an10 cd10 ct10), sl10⟩) (c10 : PySem.W.codeIn K cd10 "trials" = true) (k10 : PySem.W.keepIn K (.ref f10) = true)
    {f11 : Addr} {od11 an11 : Option Addr} {sl11 : Array (Option Value)} {oc11 kV11 dc11 pm11 cd11 ct11 : Value}
    (a11 : PySem.W.nsIn K mainGlobals "_law_cell" = some (some (.ref f11))) (l11 : K.lookup f11 = some ⟨oc11, od11, .func (PySem.W.fnOf "_law_cell" "_law_cell" (defArgs s__law_cell) (defBody s__law_cell) (defScope s__law_cell) .none kV11 dc11 pm11 an11 cd11 ct11), sl11⟩) (c11 : PySem.W.codeIn K cd11 "_law_cell" = true) (k11 : PySem.W.keepIn K (.ref f11) = true)
    {f12 : Addr} {od12 an12 : Option Addr} {sl12 : Array (Option Value)} {oc12 kV12 dc12 pm12 cd12 ct12 : Value}
    (a12 : PySem.W.nsIn K mainGlobals "_law_draw" = some (some (.ref f12))) (l12 : K.lookup f12 = some ⟨oc12, od12, .func (PySem.W.fnOf "_law_draw" "_law_draw" (defArgs s__law_draw) (defBody s__law_draw) (defScope s__law_draw) .none kV12 dc12 pm12 an12 cd12 ct12), sl12⟩) (c12 : PySem.W.codeIn K cd12 "_law_draw" = true) (k12 : PySem.W.keepIn K (.ref f12) = true)
    {f13 : Addr} {od13 an13 : Option Addr} {sl13 : Array (Option Value)} {oc13 kV13 dc13 pm13 cd13 ct13 : Value}
    (a13 : PySem.W.nsIn K mainGlobals "_law_alike" = some (some (.ref f13))) (l13 : K.lookup f13 = some ⟨oc13, od13, .func (PySem.W.fnOf "_law_alike" "_law_alike" (defArgs s__law_alike) (defBody s__law_alike) (defScope s__law_alike) .none kV13 dc13 pm13 an13 cd13 ct13), sl13⟩) (c13 : PySem.W.codeIn K cd13 "_law_alike" = true) (k13 : PySem.W.keepIn K (.ref f13) = true)
    {f14 : Addr} {od14 an14 : Option Addr} {sl14 : Array (Option Value)} {oc14 kV14 dc14 pm14 cd14 ct14 : Value}
    (a14 : PySem.W.nsIn K mainGlobals "_law_pick" = some (some (.ref f14))) (l14 : K.lookup f14 = some ⟨oc14, od14, .func (PySem.W.fnOf "_law_pick" "_law_pick" (defArgs s__law_pick) (defBody s__law_pick) (defScope s__law_pick) .none kV14 dc14 pm14 an14 cd14 ct14), sl14⟩) (c14 : PySem.W.codeIn K cd14 "_law_pick" = true) (k14 : PySem.W.keepIn K (.ref f14) = true)
    {f15 : Addr} {od15 an15 : Option Addr} {sl15 : Array (Option Value)} {oc15 kV15 dc15 pm15 cd15 ct15 : Value}
    (a15 : PySem.W.nsIn K mainGlobals "_law_some_monitor" = some (some (.ref f15))) (l15 : K.lookup f15 = some ⟨oc15, od15, .func (PySem.W.fnOf "_law_some_monitor" "_law_some_monitor" (defArgs s__law_some_monitor) (defBody s__law_some_monitor) (defScope s__law_some_monitor) .none kV15 dc15 pm15 an15 cd15 ct15), sl15⟩) (c15 : PySem.W.codeIn K cd15 "_law_some_monitor" = true) (k15 : PySem.W.keepIn K (.ref f15) = true)
    {f16 : Addr} {od16 an16 : Option Addr} {sl16 : Array (Option Value)} {oc16 kV16 dc16 pm16 cd16 ct16 : Value}
    (a16 : PySem.W.nsIn K mainGlobals "_law_apart" = some (some (.ref f16))) (l16 : K.lookup f16 = some ⟨oc16, od16, .func (PySem.W.fnOf "_law_apart" "_law_apart" (defArgs s__law_apart) (defBody s__law_apart) (defScope s__law_apart) .none kV16 dc16 pm16 an16 cd16 ct16), sl16⟩) (c16 : PySem.W.codeIn K cd16 "_law_apart" = true) (k16 : PySem.W.keepIn K (.ref f16) = true)
    {f17 : Addr} {od17 an17 : Option Addr} {sl17 : Array (Option Value)} {oc17 kV17 dc17 pm17 cd17 ct17 : Value}
    (a17 : PySem.W.nsIn K mainGlobals "_law_reach" = some (some (.ref f17))) (l17 : K.lookup f17 = some ⟨oc17, od17, .func (PySem.W.fnOf "_law_reach" "_law_reach" (defArgs s__law_reach) (defBody s__law_reach) (defScope s__law_reach) .none kV17 dc17 pm17 an17 cd17 ct17), sl17⟩) (c17 : PySem.W.codeIn K cd17 "_law_reach" = true) (k17 : PySem.W.keepIn K (.ref f17) = true)
    {f18 : Addr} {od18 an18 : Option Addr} {sl18 : Array (Option Value)} {oc18 kV18 dc18 pm18 cd18 ct18 : Value}
    (a18 : PySem.W.nsIn K mainGlobals "_law_smallest" = some (some (.ref f18))) (l18 : K.lookup f18 = some ⟨oc18, od18, .func (PySem.W.fnOf "_law_smallest" "_law_smallest" (defArgs s__law_smallest) (defBody s__law_smallest) (defScope s__law_smallest) .none kV18 dc18 pm18 an18 cd18 ct18), sl18⟩) (c18 : PySem.W.codeIn K cd18 "_law_smallest" = true) (k18 : PySem.W.keepIn K (.ref f18) = true)
    {f19 : Addr} {od19 an19 : Option Addr} {sl19 : Array (Option Value)} {oc19 kV19 dc19 pm19 cd19 ct19 : Value}
    (a19 : PySem.W.nsIn K mainGlobals "_law_words" = some (some (.ref f19))) (l19 : K.lookup f19 = some ⟨oc19, od19, .func (PySem.W.fnOf "_law_words" "_law_words" (defArgs s__law_words) (defBody s__law_words) (defScope s__law_words) .none kV19 dc19 pm19 an19 cd19 ct19), sl19⟩) (c19 : PySem.W.codeIn K cd19 "_law_words" = true) (k19 : PySem.W.keepIn K (.ref f19) = true)
    {f20 : Addr} {od20 an20 : Option Addr} {sl20 : Array (Option Value)} {oc20 kV20 dc20 pm20 cd20 ct20 : Value}
    (a20 : PySem.W.nsIn K mainGlobals "law" = some (some (.ref f20))) (l20 : K.lookup f20 = some ⟨oc20, od20, .func (PySem.W.fnOf "law" "law" (defArgs s_law) (defBody s_law) (defScope s_law) .none kV20 dc20 pm20 an20 cd20 ct20), sl20⟩) (c20 : PySem.W.codeIn K cd20 "law" = true) (k20 : PySem.W.keepIn K (.ref f20) = true)
    (z_bool : PySem.W.nsIn K mainGlobals "bool" = some none)
    (z_int : PySem.W.nsIn K mainGlobals "int" = some none)
    (z_isinstance : PySem.W.nsIn K mainGlobals "isinstance" = some none)
    (z_len : PySem.W.nsIn K mainGlobals "len" = some none)
    (z_list : PySem.W.nsIn K mainGlobals "list" = some none)
    (z_max : PySem.W.nsIn K mainGlobals "max" = some none)
    (z_range : PySem.W.nsIn K mainGlobals "range" = some none)
    (z_str : PySem.W.nsIn K mainGlobals "str" = some none)
    (z_tuple : PySem.W.nsIn K mainGlobals "tuple" = some none)
    {C_TooMany : Addr} (ca_TooMany : PySem.W.nsIn K mainGlobals "TooMany" = some (some (.ref C_TooMany))) (ck_TooMany : PySem.W.keepIn K (.ref C_TooMany) = true) (ce_TooMany : PySem.W.subIn K (.ref C_TooMany) (.type "BaseException") = some true) (ct_TooMany : PySem.W.typeIn K (.ref C_TooMany) = some (.type "type")) (ch_TooMany : PySem.W.hasDictIn K C_TooMany = true)
    {nm_TooMany qn_TooMany : Str} {N_TooMany : Addr} {bs_TooMany bm_TooMany : List Value} {sn_TooMany : List Str} {sub_TooMany : List Value} {ab_TooMany : Bool} {col_TooMany : Option Bool} {dd_TooMany : Option Addr} {m0_TooMany m1_TooMany m2_TooMany m3_TooMany m5_TooMany : Option Value} {fi_TooMany : Addr} {od_TooMany an_TooMany : Option Addr} {sl_TooMany : Array (Option Value)} {oc_TooMany dc_TooMany pm_TooMany cd_TooMany ctt_TooMany : Value}
    (xl_TooMany : K.lookup C_TooMany = some (excClassObj nm_TooMany qn_TooMany C_TooMany N_TooMany bs_TooMany bm_TooMany true sn_TooMany sub_TooMany ab_TooMany col_TooMany dd_TooMany m0_TooMany m1_TooMany m2_TooMany m3_TooMany m5_TooMany "ValueError.__new__")) (xr_TooMany : PySem.HandSPX.refsVE bm_TooMany = true)
    (sa_TooMany : PySem.W.findIn K (.ref C_TooMany) "__setattr__" = some (some (.builtin "object.__setattr__"))) (ga_TooMany : PySem.W.findIn K (.ref C_TooMany) "__getattribute__" = some (some (.builtin "BaseException.__getattribute__"))) (gg_TooMany : PySem.W.findIn K (.ref C_TooMany) "__getattr__" = some none) (nb_TooMany : PySem.W.findIn K (.ref C_TooMany) "what" = some none)
    (in_TooMany : PySem.W.findIn K (.ref C_TooMany) "__init__" = some (some (.ref fi_TooMany))) (ti_TooMany : PySem.W.typeIn K (.ref fi_TooMany) = some (.type "function"))
    (li_TooMany : K.lookup fi_TooMany = some ⟨oc_TooMany, od_TooMany, .func (PySem.W.fnOf "__init__" "TooMany.__init__" (PySem.TooX.iA ⟨6, 17, 6, 21⟩ ⟨6, 23, 6, 27⟩) (PySem.TooX.iB ⟨7, 8, 7, 12⟩ ⟨7, 8, 7, 17⟩ ⟨7, 20, 7, 24⟩ ⟨7, 8, 7, 24⟩) PySem.TooX.iS .none .none dc_TooMany pm_TooMany an_TooMany cd_TooMany ctt_TooMany), sl_TooMany⟩) (ci_TooMany : PySem.W.codeIn K cd_TooMany "TooMany.__init__" = true) (se_TooMany : PySem.W.subIn K (.ref C_TooMany) (.ref C_TooMany) = some true)
    (s_TooMany_TooMany : PySem.W.subIn K (.ref C_TooMany) (.ref C_TooMany) = some true)
    {C : Prop} (fin : ∀ T : Top K mg, mg "law" = some (.ref T.a_law) → (∀ (s : Shared) (v : Value), BindsTo s T.d_law ⟨[v], []⟩ [("_law_script", v)]) → C) : C := by
  have F0 := fun_mk (st := s_reached_nodes) l0 c0 k0
  have b0 := F0.binds (ps := ["monitor"]) fun _ _ _ _ _ _ us hl => match us, hl with | [_], _ => rfl
  have F1 := fun_mk (st := s_grouped) l1 c1 k1
  have b1 := F1.binds (ps := ["keys"]) fun _ _ _ _ _ _ us hl => match us, hl with | [_], _ => rfl
  have F2 := fun_mk (st := s_classes_of) l2 c2 k2
  have b2 := F2.binds (ps := ["verdicts", "edges"]) fun _ _ _ _ _ _ us hl => match us, hl with | [_, _], _ => rfl
  have F3 := fun_mk (st := s_reduce) l3 c3 k3
  have b3 := F3.binds (ps := ["monitor"]) fun _ _ _ _ _ _ us hl => match us, hl with | [_], _ => rfl
  have F4 := fun_mk (st := s_led) l4 c4 k4
  have b4 := F4.binds (ps := ["monitor", "node", "places"]) fun _ _ _ _ _ _ us hl => match us, hl with | [_, _, _], _ => rfl
  have F5 := fun_mk (st := s_cover) l5 c5 k5
  have b5 := F5.binds (ps := ["monitor"]) fun _ _ _ _ _ _ us hl => match us, hl with | [_], _ => rfl
  have F6 := fun_mk (st := s_separator) l6 c6 k6
  have b6 := F6.binds (ps := ["monitor", "node", "other"]) fun _ _ _ _ _ _ us hl => match us, hl with | [_, _, _], _ => rfl
  have F7 := fun_mk (st := s_separators) l7 c7 k7
  have b7 := F7.binds (ps := ["monitor"]) fun _ _ _ _ _ _ us hl => match us, hl with | [_], _ => rfl
  have F8 := fun_mk (st := s_words_up_to) l8 c8 k8
  have b8 := F8.binds (ps := ["count", "length"]) fun _ _ _ _ _ _ us hl => match us, hl with | [_, _], _ => rfl
  have F9 := fun_mk (st := s_count_words) l9 c9 k9
  have b9 := F9.binds (ps := ["count", "length"]) fun _ _ _ _ _ _ us hl => match us, hl with | [_, _], _ => rfl
  have F10 := fun_mk (st := s_trials) l10 c10 k10
  have b10 := F10.binds (ps := ["monitor", "extra", "most"]) fun _ _ _ _ _ _ us hl => match us, hl with | [_, _, _], _ => rfl
  have F11 := fun_mk (st := s__law_cell) l11 c11 k11
  have b11 := F11.binds (ps := ["_law_script", "_law_k"]) fun _ _ _ _ _ _ us hl => match us, hl with | [_, _], _ => rfl
  have F12 := fun_mk (st := s__law_draw) l12 c12 k12
  have b12 := F12.binds (ps := ["_law_script", "_law_k", "_law_sizes"]) fun _ _ _ _ _ _ us hl => match us, hl with | [_, _, _], _ => rfl
  have F13 := fun_mk (st := s__law_alike) l13 c13 k13
  have b13 := F13.binds (ps := ["_law_actual", "_law_expected"]) fun _ _ _ _ _ _ us hl => match us, hl with | [_, _], _ => rfl
  have F14 := fun_mk (st := s__law_pick) l14 c14 k14
  have b14 := F14.binds (ps := ["_law_script", "_law_k", "_law_count"]) fun _ _ _ _ _ _ us hl => match us, hl with | [_, _, _], _ => rfl
  have F15 := fun_mk (st := s__law_some_monitor) l15 c15 k15
  have b15 := F15.binds (ps := ["_law_script", "_law_k", "_law_many", "_law_nodes"]) fun _ _ _ _ _ _ us hl => match us, hl with | [_, _, _, _], _ => rfl
  have F16 := fun_mk (st := s__law_apart) l16 c16 k16
  have b16 := F16.binds (ps := ["_law_verdicts", "_law_edges"]) fun _ _ _ _ _ _ us hl => match us, hl with | [_, _], _ => rfl
  have F17 := fun_mk (st := s__law_reach) l17 c17 k17
  have b17 := F17.binds (ps := ["_law_monitor", "_law_first"]) fun _ _ _ _ _ _ us hl => match us, hl with | [_, _], _ => rfl
  have F18 := fun_mk (st := s__law_smallest) l18 c18 k18
  have b18 := F18.binds (ps := ["_law_monitor"]) fun _ _ _ _ _ _ us hl => match us, hl with | [_], _ => rfl
  have F19 := fun_mk (st := s__law_words) l19 c19 k19
  have b19 := F19.binds (ps := ["_law_many", "_law_length"]) fun _ _ _ _ _ _ us hl => match us, hl with | [_, _], _ => rfl
  have F20 := fun_mk (st := s_law) l20 c20 k20
  have b20 := F20.binds (ps := ["_law_script"]) fun _ _ _ _ _ _ us hl => match us, hl with | [_], _ => rfl
  have too_TooMany : PySem.TooX.TooTxt K mg C_TooMany fi_TooMany := { gC := PySem.W.mg_of X G ca_TooMany, cls := ⟨nm_TooMany, qn_TooMany, N_TooMany, bs_TooMany, _, sn_TooMany, sub_TooMany, ab_TooMany, col_TooMany, dd_TooMany, m0_TooMany, m1_TooMany, m2_TooMany, m3_TooMany, m5_TooMany, xl_TooMany, xr_TooMany⟩, sa := sa_TooMany, ga := ga_TooMany, gg := gg_TooMany, noN := nb_TooMany, iC := in_TooMany, tC := ti_TooMany, kC := ck_TooMany, exC := ce_TooMany, tyC := ct_TooMany, hdC := ch_TooMany, te := PySem.W.exm_ref ce_TooMany ch_TooMany ct_TooMany se_TooMany, fn := ⟨_, _, _, _, _, _, _, _, _, _, _, _, _, _, li_TooMany, ci_TooMany⟩ }
  exact fin ⟨_, _, F0, PySem.W.mg_of X G a0, b0, _, _, F1, PySem.W.mg_of X G a1, b1, _, _, F2, PySem.W.mg_of X G a2, b2, _, _, F3, PySem.W.mg_of X G a3, b3, _, _, F4, PySem.W.mg_of X G a4, b4, _, _, F5, PySem.W.mg_of X G a5, b5, _, _, F6, PySem.W.mg_of X G a6, b6, _, _, F7, PySem.W.mg_of X G a7, b7, _, _, F8, PySem.W.mg_of X G a8, b8, _, _, F9, PySem.W.mg_of X G a9, b9, _, _, F10, PySem.W.mg_of X G a10, b10, _, _, F11, PySem.W.mg_of X G a11, b11, _, _, F12, PySem.W.mg_of X G a12, b12, _, _, F13, PySem.W.mg_of X G a13, b13, _, _, F14, PySem.W.mg_of X G a14, b14, _, _, F15, PySem.W.mg_of X G a15, b15, _, _, F16, PySem.W.mg_of X G a16, b16, _, _, F17, PySem.W.mg_of X G a17, b17, _, _, F18, PySem.W.mg_of X G a18, b18, _, _, F19, PySem.W.mg_of X G a19, b19, _, _, F20, PySem.W.mg_of X G a20, b20, PySem.W.mg_none_of X G z_bool, PySem.W.mg_none_of X G z_int, PySem.W.mg_none_of X G z_isinstance, PySem.W.mg_none_of X G z_len, PySem.W.mg_none_of X G z_list, PySem.W.mg_none_of X G z_max, PySem.W.mg_none_of X G z_range, PySem.W.mg_none_of X G z_str, PySem.W.mg_none_of X G z_tuple, C_TooMany, PySem.W.mg_of X G ca_TooMany, ck_TooMany, ce_TooMany, ct_TooMany, ch_TooMany, fi_TooMany, too_TooMany, s_TooMany_TooMany⟩ (PySem.W.mg_of X G a20) (fun s v => .of_eq rfl)
end Law

namespace Law
open PySem PySem.Spec PyProof.Rows L2 Sim
local macro_rules | `(tactic| simp! only [$args,*] $[$l:location]?) => `(tactic| simp only [Z0, Z1, Z2, Z3, Z4, Z5, Z6, Z7, Z8, Z9, Z10, Z11, Z12, Z13, Z14, Z15, Z16, Z17, Z18, Z19, Z20, Z21, Z22, Z23, Z24, Z25, Z26, Z27, Z28, Z29, Z30, Z31, Z32, Z33, Z34, Z35, Z36, Z37, Z38, Z39, Z40, Z41, Z42, Z43, Z44, Z45, Z46, Z47, Z48, Z49, Z50, Z51, Z52, Z53, Z54, Z55, Z56, Z57, Z58, Z59, Z60, Z61, Z62, Z63, Z64, Z65, Z66, Z67, Z68, Z69, Z70, Z71, Z72, Z73, Z74, Sim.wipeR, Z75, Z76, Z77, Z78, Z79, Z80, Z81, Z82, Z83, Z84, Z85, Z86, Z87, Z88, Z89, Z90, Z91, Z92, Z93, Z94, Z95, Z96, Z97, Z98, Z99, Z100, Z101, Z102, Z103, Z104, Z105, Z106, Z107, Z108, Z109, Z110, Z111, Z112, Z113, Z114, Z115, Z116, Z117, Z118, Z119, Z120, Z121, Z122, Z123, Z124, Z125, Z126, Z127, Z128, Z129, Z130, Z131, Z132, Z133, Z134, Z135, Z136, Z137, Z138, Z139, Z140, Z141, Z142, Z143, Z144, Z145, Z146, Z147, Z148, Z149, Z150, Z151, Z152, Z153, Z154, Z155, Z156, Z157, Z158, Sim.T_sliceO, Sim.sliceO_lst, Sim.T_sliceS, Sim.EndX_nxt, Sim.EndX_ret, Sim.EndX_exc, Sim.rq_ok, Sim.rq_ex, Sim.T_callX, Sim.T_okM, Sim.T_setX, Sim.T_setXV, Sim.T_retX, Sim.T_dropX, Sim.T_raise0, Sim.T_raise1, Sim.T_try, Sim.TryQ_nxt, Sim.TryQ_ret, Sim.TryQ_brk, Sim.TryQ_cnt, Sim.TryQ_exc, Sim.SeqQ_exc, Sim.LoopQ_exc, Sim.BehQ_nxt, Sim.BehQ_ret, Sim.T_tryA, Sim.TryAQ_nxt, Sim.TryAQ_ret, Sim.TryAQ_exc, Sim.T_fld, Sim.T_compO, T_okX, Sim.T_nilX, Sim.T_consX, Sim.T_callFX, Sim.T_callXX, Sim.T_callBX, Sim.XQ_ok, Sim.XQ_ex, Sim.AQ_ok, Sim.AQ_ex, Sim.cap, Z159, Z160, Nat.zero_le, Z161, Z162, Z163, Z164, Z165, Z166, Z167, Z168, Z169, Z170, Z171, Z172, Z173, Z174, Z175, Z176, Z177, List.getElem?_cons_zero, List.getElem?_cons_succ, List.set_cons_zero, List.set_cons_succ, List.map_cons, List.map_nil, List.cons_append, List.nil_append, Option.map_some, List.length_cons, List.length_nil, Int.zero_add, Nat.zero_add, Nat.reduceAdd, Nat.reduceLeDiff, Nat.reduceMul, true_and, and_true, decide_eq_true_eq, decide_eq_false_iff_not, Bool.false_eq_true, Bool.true_eq_false, false_implies, true_implies, implies_true, eq_self, decide_true, decide_false, not_true_eq_false, not_false_eq_true, Bool.not_true, Bool.not_false, Int.reduceLT, Int.reduceLE, Int.reduceNeg, Int.reducePow, Int.reduceToNat, $args,*] $[$l:location]?)
/-! ### helpers of the laws -/
theorem cell_ok {R : Fs} (ns : List Int) (k : Nat) : FT (defF 0 [] (b__law_cell R)) [.scr ns, .int k] fun d fs => fs = [] ∧ ∃ c, d = .int c := by
  refine FT_def ?_
  simp! only [Sim.T_ite, b__law_cell]
  refine ⟨fun h => ?_, fun h => ⟨_, rfl⟩⟩
  have h : k < ns.length := by omega
  exact ⟨ns[k], by simp [h], _, rfl⟩
/-- what a draw gives: as many as asked, each below its size -/
def Drawn (ms : List Int) (xs : List Int) : Prop := xs.length = ms.length ∧ ∀ (j : Nat) (x m : Int), xs[j]? = some x → ms[j]? = some m → 0 ≤ x ∧ x < m
theorem Drawn.snoc {ms xs : List Int} {x m : Int} (h : Drawn (ms.take xs.length) xs) (hm : ms[xs.length]? = some m) (h0 : 0 ≤ x) (h1 : x < m) : Drawn (ms.take (xs.length + 1)) (xs ++ [x]) := by
  have hl : xs.length < ms.length := (List.getElem?_eq_some_iff.mp hm).1
  refine ⟨by simp; omega, fun j y n hy hn => ?_⟩
  rw [List.getElem?_take] at hn
  split at hn
  · by_cases hj : j < xs.length
    · rw [List.getElem?_append_left hj] at hy
      exact h.2 j y n hy (by rw [List.getElem?_take, if_pos hj]; exact hn)
    · have : j = xs.length := by omega
      subst this
      simp at hy
      rw [hm] at hn
      cases hn
      exact hy ▸ ⟨h0, h1⟩
  · cases hn
theorem draw_ok {R : Fs} (hc : ∀ (ns : List Int) (k : Nat), FT R.f__law_cell [.scr ns, .int k] fun d fs => fs = [] ∧ ∃ c, d = .int c) (ns : List Int) (k : Nat) (ms : List Int) (hl : ms.length ≤ 1000) (hm : ∀ m ∈ ms, 0 < m ∧ m < 1073741824) :
    FT (defF 5 [] (b__law_draw R)) [.scr ns, .int k, .lst .sh (ms.map .int)] fun d fs => fs = [] ∧ ∃ xs, d = .lst .own (xs.map .int) ∧ Drawn ms xs := by
  refine FT_def ?_
  simp! only [b__law_draw]
  refine FT_mono (hc ns k) ?_
  rintro _ _ ⟨rfl, c, rfl⟩
  simp! only []
  refine T_cut (fun ρ => ∃ c : Int, ρ = [some (.scr ns), some (.int k), some (.lst .sh (ms.map .int)), some (.int c), none, none, none, none]) ?_ ?_
  · simp! only [Sim.T_ite]
    exact ⟨fun _ => ⟨_, rfl⟩, fun _ => ⟨_, rfl⟩⟩
  rintro _ ⟨c0, rfl⟩
  simp! only [Sim.T_ite]
  refine ⟨fun h => ?_, fun h => ⟨.inl trivial, by simp; omega, ?_⟩⟩
  · refine T_goIx (fun j ρ => ∃ (c : Int) (xs : List Int) (o : Option D), ρ = [some (.scr ns), some (.int k), some (.lst .sh (ms.map .int)), some (.int c), some (.lst .own (xs.map .int)), o, none, none] ∧ xs.length = j ∧ Drawn (ms.take j) xs) ⟨_, [], none, rfl, rfl, rfl, by simp⟩ ?_ ?_
    · rintro j d ρ hd ⟨c, xs, o, rfl, hj, hx⟩
      obtain ⟨m, hm', rfl⟩ : ∃ m, ms[j]? = some m ∧ d = .int m := by
        rw [List.getElem?_map] at hd
        obtain ⟨m, h1, h2⟩ := Option.map_eq_some_iff.mp hd
        exact ⟨m, h1, h2.symm⟩
      have hr := hm m (List.mem_of_getElem? hm')
      have hjl : j < ms.length := (List.getElem?_eq_some_iff.mp hm').1
      simp! only [Sim.T_ite]
      refine ⟨hr.1, by simp; omega, hr, ?_⟩
      refine ⟨c / m, xs ++ [c % m], some (.int m), by simp, by simp [hj], ?_⟩
      subst hj
      exact hx.snoc hm' (Int.emod_nonneg _ (by omega)) (Int.emod_lt_of_pos _ hr.1)
    · rintro ρ ⟨c, xs, o, rfl, hj, hx⟩
      simp! only [Sim.T_ite]
      refine ⟨xs, rfl, ?_⟩
      simpa using hx
  · simp only [List.length_map]
    refine T_goR (fun j ρ => ∃ (c : Int) (xs : List Int) (o : Option D), ρ = [some (.scr ns), some (.int k), some (.lst .sh (ms.map .int)), some (.int c0), some (.lst .own (xs.map .int)), none, some (.int c), o] ∧ xs.length = j ∧ Drawn (ms.take j) xs) ⟨_, [], none, rfl, rfl, rfl, by simp⟩ ?_ ?_
    · rintro j ρ hj ⟨c, xs, o, rfl, hl', hx⟩
      obtain ⟨m, hm'⟩ : ∃ m, ms[j]? = some m := ⟨_, List.getElem?_eq_getElem hj⟩
      have hr := hm m (List.mem_of_getElem? hm')
      simp! only [Sim.T_ite, List.getElem?_map, hm']
      refine ⟨.inr trivial, .inr trivial, hr.1, by simp; omega, ?_⟩
      refine ⟨_, xs ++ [_], some (D.int j), by rw [List.map_append]; rfl, by simp [hl'], ?_⟩
      subst hl'
      exact hx.snoc hm' (Int.emod_nonneg _ (by omega)) (Int.emod_lt_of_pos _ hr.1)
    · rintro ρ ⟨c, xs, o, rfl, hj, hx⟩
      simp! only [Sim.T_ite]
      refine ⟨xs, rfl, ?_⟩
      simpa using hx
end Law

namespace Law
open PySem PySem.Spec PyProof.Rows L2 Sim
abbrev IsTrue : D → List D → Prop := fun d fs => fs = [] ∧ d = .bl true
end Law

namespace Law
open PySem PySem.Spec PyProof.Rows L2 Sim
/-! ### plain data of few levels -/
structure Dat (n : Nat) (d : D) : Prop where
  rank : Sim.rank d ≤ n
  plain : Sim.plain d = true
  short : Sim.short d = true
  laid : Sim.laid d = true
theorem Dat.int (n : Nat) (i : Int) : Dat n (.int i) := ⟨Nat.zero_le _, rfl, rfl, rfl⟩
theorem Dat.bl (n : Nat) (i : Bool) : Dat n (.bl i) := ⟨Nat.zero_le _, rfl, rfl, rfl⟩
theorem Dat.non (n : Nat) : Dat n .non := ⟨Nat.zero_le _, rfl, rfl, rfl⟩
theorem Dat.str (n : Nat) {x : Str} (h : PyData.strOk x = true) : Dat n (.str x) := ⟨Nat.zero_le _, rfl, rfl, h⟩
theorem Dat.tup {n : Nat} {ds : List D} (h : ∀ d ∈ ds, Dat n d) (hl : ds.length ≤ 1000000) : Dat (n + 1) (.tup ds) :=
  ⟨Nat.succ_le_succ (ranks_of fun d hd => (h d hd).rank), plains_of fun d hd => (h d hd).plain, by rw [Sim.short, shorts_of fun d hd => (h d hd).short]; simp [hl], laids_of fun d hd => (h d hd).laid⟩
theorem Dat.lst {n : Nat} {ds : List D} (h : ∀ d ∈ ds, Dat n d) (hl : ds.length ≤ 1000000) : Dat (n + 1) (.lst .sh ds) :=
  ⟨Nat.succ_le_succ (ranks_of fun d hd => (h d hd).rank), plains_of fun d hd => (h d hd).plain, by rw [Sim.short, shorts_of fun d hd => (h d hd).short]; simp [hl], laids_of fun d hd => (h d hd).laid⟩
theorem Dat.up {n m : Nat} {d : D} (h : Dat n d) (l : n ≤ m) : Dat m d := ⟨Nat.le_trans h.rank l, h.plain, h.short, h.laid⟩
theorem Dat.ints {n : Nat} (xs : List Int) (hl : xs.length ≤ 1000000) : Dat (n + 1) (.tup (xs.map .int)) := .tup (fun d hd => by
  obtain ⟨i, _, rfl⟩ := List.mem_map.mp hd
  exact .int _ _) (by simpa using hl)
theorem Dat.intsL {n : Nat} (xs : List Int) (hl : xs.length ≤ 1000000) : Dat (n + 1) (.lst .sh (xs.map .int)) := .lst (fun d hd => by
  obtain ⟨i, _, rfl⟩ := List.mem_map.mp hd
  exact .int _ _) (by simpa using hl)
theorem Dat.rows {n : Nat} (xs : List (List Int)) (hl : xs.length ≤ 1000000) (h : ∀ x ∈ xs, x.length ≤ 1000000) : Dat (n + 2) (.lst .sh (xs.map fun v => .tup (v.map .int))) := .lst (fun d hd => by
  obtain ⟨i, hi, rfl⟩ := List.mem_map.mp hd
  exact .ints _ (h i hi)) (by simpa using hl)
theorem Dat.bls {n : Nat} (xs : List Bool) (hl : xs.length ≤ 1000000) : Dat (n + 1) (.lst .sh (xs.map .bl)) := .lst (fun d hd => by
  obtain ⟨i, _, rfl⟩ := List.mem_map.mp hd
  exact .bl _ _) (by simpa using hl)
abbrev tooD (x : Str) : D := .tup [.str "TooMany", .str x]
abbrev AlikeOk (f : Fn) : Prop := ∀ (d : D), Dat 20 d → FT f [d, d] IsTrue
theorem eqvs_ints : ∀ xs ys : List Int, Sim.eqvs (xs.map .int) (ys.map .int) = decide (xs = ys)
  | [], [] => rfl
  | [], _ :: _ => rfl
  | _ :: _, [] => rfl
  | x :: xs, y :: ys => by
    rw [List.map_cons, List.map_cons, Sim.eqvs, eqvs_ints xs ys, Sim.eqv]
    by_cases h : x = y
    · subst h; simp
    · simp [h]
theorem eqv_VL (xs ys : List Int) : Sim.eqv (.tup (xs.map .int)) (.tup (ys.map .int)) = decide (xs = ys) := by rw [Sim.eqv]; exact eqvs_ints xs ys
mutual
theorem eqv_self : ∀ d : D, Sim.plain d = true → Sim.eqv d d = true
  | .non, _ => rfl
  | .bl b, _ => by simp [Sim.eqv]
  | .int b, _ => by simp [Sim.eqv]
  | .str b, _ => by simp [Sim.eqv]
  | .tup ds, h => by rw [Sim.eqv]; exact eqvs_self ds h
  | .lst .sh ds, h => by rw [Sim.eqv]; exact eqvs_self ds h
  | .lst .own _, h => by cases h
  | .lst .brw _, h => by cases h
  | .dct _ _ _, h => by cases h
  | .scr _, h => by cases h
theorem eqvs_self : ∀ ds : List D, Sim.plains ds = true → Sim.eqvs ds ds = true
  | [], _ => rfl
  | d :: ds, h => by
    rw [Sim.plains, Bool.and_eq_true] at h
    rw [Sim.eqvs, eqv_self d h.1, eqvs_self ds h.2]
    rfl
end
theorem eqF_eqv (d x : D) (h1 : Sim.inD.flat d = true) (h2 : Sim.inD.flat x = true) : Sim.inD.eqF d x = Sim.eqv d x := by
  cases d <;> cases x <;> first | rfl | cases h1 | cases h2
/-- x in a list of data -/
theorem in_dat (x : D) (m : Md) (ds : List D) (hx : Dat 20 x) (hd : ∀ d ∈ ds, Dat 20 d) : inX x (.lst m ds) = some (ds.any fun z => Sim.eqv z x) := by
  by_cases h : Sim.inD.flat x = true ∧ ds.all Sim.inD.flat = true
  · refine inX_some ?_
    show Sim.inD.inL x ds = _
    unfold Sim.inD.inL
    rw [if_pos h]
    have : ∀ d ∈ ds, Sim.inD.eqF d x = Sim.eqv d x := fun d hd => eqF_eqv d x (List.all_eq_true.mp h.2 d hd) h.1
    congr 1
    clear hd h
    induction ds with
    | nil => rfl
    | cons d ds ih => rw [List.any_cons, List.any_cons, this d (.head _), ih fun e he => this e (.tail _ he)]
  · refine inX_data x m ds hx.laid (laids_of fun d h => (hd d h).laid) (by have := hx.rank; omega) ?_ ?_
    · have := ranks_of (n := 20) fun d h => (hd d h).rank
      omega
    · show Sim.inD.inL x ds = _
      unfold Sim.inD.inL
      rw [if_neg h]
theorem in_rows (x : List Int) (m : Md) (xs : List (List Int)) (hx : x.length ≤ 1000000) (h : ∀ x ∈ xs, x.length ≤ 1000000) : inX (.tup (x.map .int)) (.lst m (xs.map fun v => .tup (v.map .int))) = some (decide (x ∈ xs)) := by
  rw [in_dat _ _ _ (.up (Dat.ints (n := 0) x hx) (by decide)) fun d hd => by
    obtain ⟨v, hv, rfl⟩ := List.mem_map.mp hd
    exact .up (Dat.ints (n := 0) v (h v hv)) (by decide)]
  congr 1
  rw [List.any_map]
  clear h
  induction xs with
  | nil => simp
  | cons v xs ih =>
    rw [List.any_cons, ih]
    show (Sim.eqv _ _ || _) = _
    rw [eqv_VL]
    by_cases h : v = x
    · subst h; simp
    · simp [h, Ne.symm h]
end Law

namespace Law
open PySem PySem.Spec PyProof.Rows L2 Sim
/-! ### data that serve as keys -/
structure Keys {α : Type} [DecidableEq α] (enc : α → D) : Prop where
  same : ∀ a b, sameK (enc a) (enc b) = decide (a = b)
  ok : ∀ a, keyOk (enc a) = true
  leaf : ∀ a b, (Sim.leafOf (enc a)).isSome = (Sim.leafOf (enc b)).isSome
section
variable {α : Type} [DecidableEq α] {enc : α → D}
theorem Keys.sort1 (K : Keys enc) (v : α) (ks : List α) : Sim.sort1 (enc v) (ks.map enc) = true := by
  cases ks with
  | nil => rfl
  | cons k ks =>
    show ((Sim.leafOf (enc k)).isSome == (Sim.leafOf (enc v)).isSome) = true
    rw [K.leaf k v]
    exact beq_self_eq_true _
theorem Keys.look (K : Keys enc) (v : α) : ∀ (ks : List α) (ds : List D), ks.length = ds.length → (lookD (enc v) (ks.map enc) ds).isSome = decide (v ∈ ks)
  | [], _, _ => by simp [lookD]
  | k :: ks, d :: ds, h => by
    simp only [List.map_cons, lookD, K.same]
    by_cases e : k = v
    · subst e; simp
    · have : ¬ v = k := fun x => e x.symm
      simp [e, this, K.look v ks ds (by simpa using h)]
theorem Keys.store (K : Keys enc) (v : α) (d : D) (ks : List α) (ds : List D) (h : ks.length = ds.length) (hk : v ∉ ks) : storeD (enc v) d (ks.map enc) ds = ((ks ++ [v]).map enc, ds ++ [d]) := by
  unfold storeD
  rw [K.look v ks ds h, if_neg (by simpa using hk)]
  simp
theorem Keys.at (K : Keys enc) (v : α) : ∀ (ks : List α) (ds : List D) {i : Nat} {d : D}, ks.Nodup → ks[i]? = some v → ds[i]? = some d → lookD (enc v) (ks.map enc) ds = some d
  | [], _, _, _, _, h, _ => by simp at h
  | _ :: _, [], _, _, _, _, h => by simp at h
  | k :: ks, d' :: ds, 0, d, _, h1, h2 => by
    simp at h1 h2
    subst h1 h2
    simp [lookD, K.same]
  | k :: ks, d' :: ds, i + 1, d, hn, h1, h2 => by
    simp at h1 h2
    have : k ≠ v := fun e => (List.nodup_cons.mp hn).1 (e ▸ List.mem_of_getElem? h1)
    simp only [List.map_cons, lookD, K.same]
    rw [if_neg (by simpa using this)]
    exact K.at v ks ds (List.nodup_cons.mp hn).2 h1 h2
/-- a set of keys as a dict -/
abbrev setD (enc : α → D) (f : List α) : D := .dct .own (f.map enc) (f.map fun _ => .bl true)
theorem Keys.put (K : Keys enc) {f : List α} {v : α} (h : v ∉ f) (hl : f.length < 16777216) : Sim.stored (setD enc f) (enc v) (.bl true) = some (setD enc (f ++ [v])) := by
  have e1 := K.store v (.bl true) f (f.map fun _ => D.bl true) (by simp) h
  rw [stored_dct, if_pos ⟨K.ok v, K.sort1 v f, by rw [List.length_map]; exact hl⟩, e1]
  simp [setD]
theorem Keys.notIn (K : Keys enc) (f : List α) (ds : List D) (hd : f.length = ds.length) (m : Md) (v : α) : notInXD (enc v) (.dct m (f.map enc) ds) = some (.bl (!decide (v ∈ f))) := by
  rw [notInXD_of, inX_dct, if_pos ⟨K.ok v, K.sort1 v f⟩, K.look v f ds hd]
  rfl
/-! ### lists without doubles -/
def addG : List α → List α → List α
  | f, [] => f
  | f, r :: rs => addG (if r ∈ f then f else f ++ [r]) rs
theorem addG_pre : ∀ (rs f : List α), ∃ t, addG f rs = f ++ t
  | [], f => ⟨[], by simp [addG]⟩
  | r :: rs, f => by
    obtain ⟨t, h⟩ := addG_pre rs (if r ∈ f then f else f ++ [r])
    rw [addG, h]
    split
    · exact ⟨t, rfl⟩
    · exact ⟨r :: t, by simp⟩
theorem mem_addG : ∀ {rs f : List α} {x : α}, x ∈ addG f rs ↔ x ∈ f ∨ x ∈ rs
  | [], f, x => by simp [addG]
  | r :: rs, f, x => by
    rw [addG, mem_addG]
    by_cases h : r ∈ f
    · rw [if_pos h, List.mem_cons]
      constructor
      · rintro (h1 | h1)
        · exact .inl h1
        · exact .inr (.inr h1)
      · rintro (h1 | rfl | h1)
        · exact .inl h1
        · exact .inl h
        · exact .inr h1
    · rw [if_neg h, List.mem_append, List.mem_singleton, List.mem_cons]
      constructor
      · rintro ((h1 | h1) | h1)
        · exact .inl h1
        · exact .inr (.inl h1)
        · exact .inr (.inr h1)
      · rintro (h1 | h1 | h1)
        · exact .inl (.inl h1)
        · exact .inl (.inr h1)
        · exact .inr h1
theorem addG_nodup : ∀ (rs f : List α), f.Nodup → (addG f rs).Nodup
  | [], _, h => h
  | r :: rs, f, h => by
    rw [addG]
    refine addG_nodup rs _ ?_
    split
    · exact h
    · rename_i hr
      rw [List.nodup_append]
      exact ⟨h, by simp, fun a ha b hb => by rw [List.mem_singleton] at hb; subst hb; exact fun e => hr (e ▸ ha)⟩
theorem addG_len : ∀ (rs f : List α), (addG f rs).length ≤ f.length + rs.length
  | [], f => by simp [addG]
  | r :: rs, f => by
    have := addG_len rs (if r ∈ f then f else f ++ [r])
    rw [addG, List.length_cons]
    split at this
    · rename_i h; rw [if_pos h]; omega
    · rename_i h; rw [List.length_append, List.length_singleton] at this; rw [if_neg h]; omega
theorem lenG_sub : ∀ {xs ys : List α}, xs.Nodup → (∀ x ∈ xs, x ∈ ys) → xs.length ≤ ys.length
  | [], _, _, _ => Nat.zero_le _
  | x :: xs, ys, hn, h => by
    rw [List.nodup_cons] at hn
    have hx := h x (.head _)
    have := lenG_sub (ys := ys.erase x) hn.2 fun y hy => (List.mem_erase_of_ne (show y ≠ x from fun e => hn.1 (by rw [← e]; exact hy))).mpr (h y (.tail _ hy))
    rw [List.length_erase_of_mem hx] at this
    have hp := List.length_pos_of_mem hx
    rw [List.length_cons]
    omega
end
end Law

namespace Law
open PySem PySem.Spec PyProof.Rows L2 Sim
abbrev numsD (n : Nat) : List D := (List.range n).map fun (k : Nat) => D.int k
theorem nums_get {n k : Nat} (h : k < n) : (numsD n)[k]? = some (.int k) := by
  rw [List.getElem?_map, List.getElem?_range h]; rfl
/-! ### numbering -/
section
variable {α : Type} [DecidableEq α] {enc : α → D}
abbrev numD (enc : α → D) (f : List α) : D := .dct .own (f.map enc) (numsD f.length)
def add1 (f : List α) (x : α) : List α := if x ∈ f then f else f ++ [x]
theorem Keys.num (K : Keys enc) {f : List α} {v : α} (h : v ∉ f) (hl : f.length < 16777216) : Sim.stored (numD enc f) (enc v) (.int f.length) = some (numD enc (f ++ [v])) := by
  have e1 := K.store v (.int f.length) f (numsD f.length) (by simp) h
  rw [stored_dct, if_pos ⟨K.ok v, K.sort1 v f, by rw [List.length_map]; exact hl⟩, e1]
  simp [numD, numsD, List.range_succ]
theorem idxG {f : List α} {w : α} (h : w ∈ f) : f.idxOf w < f.length ∧ f[f.idxOf w]? = some w := by
  have hl := List.idxOf_lt_length_of_mem h
  exact ⟨hl, by rw [List.getElem?_eq_getElem hl, List.getElem_idxOf hl]⟩
theorem Keys.idx (K : Keys enc) {f : List α} (hn : f.Nodup) {w : α} (h : w ∈ f) : lookD (enc w) (f.map enc) (numsD f.length) = some (.int (f.idxOf w)) := by
  obtain ⟨h1, h2⟩ := idxG h
  exact K.at w f _ hn h2 (nums_get h1)
theorem add1_nodup {f : List α} (h : f.Nodup) (x : α) : (add1 f x).Nodup := addG_nodup [x] f h
theorem mem_add1 (f : List α) (x : α) : x ∈ add1 f x := (mem_addG (rs := [x]) (f := f) (x := x)).mpr (.inr (.head _))
theorem add1_pre (f : List α) (x : α) : ∃ t, add1 f x = f ++ t := addG_pre [x] f
theorem addG_cons (f : List α) (x : α) (rs : List α) : addG f (x :: rs) = addG (add1 f x) rs := rfl
theorem add1_len (f : List α) (x : α) : (add1 f x).length ≤ f.length + 1 := addG_len [x] f
theorem idx_pre {f t : List α} {w : α} (h : w ∈ f) : (f ++ t).idxOf w = f.idxOf w := by rw [List.idxOf_append, if_pos h]
end
theorem addG_snoc {α : Type} [DecidableEq α] : ∀ (xs f : List α) (y : α), addG f (xs ++ [y]) = add1 (addG f xs) y
  | [], f, y => rfl
  | x :: xs, f, y => addG_snoc xs _ y
theorem num_step {α β : Type} [DecidableEq α] (F : β → α) (g0 : List α) (dn : List β) (t : β) :
    add1 (addG g0 (dn.map F)) (F t) = addG g0 ((dn ++ [t]).map F) ∧ (dn.map fun u => (addG g0 (dn.map F)).idxOf (F u)) ++ [(add1 (addG g0 (dn.map F)) (F t)).idxOf (F t)] = (dn ++ [t]).map fun u => (addG g0 ((dn ++ [t]).map F)).idxOf (F u) := by
  have e : add1 (addG g0 (dn.map F)) (F t) = addG g0 ((dn ++ [t]).map F) := by rw [List.map_append, List.map_singleton, addG_snoc]
  refine ⟨e, ?_⟩
  rw [← e, List.map_append, List.map_singleton]
  obtain ⟨u, hu⟩ := add1_pre (addG g0 (dn.map F)) (F t)
  congr 1
  rw [hu]
  refine List.map_congr_left fun x hx => (idx_pre ?_).symm
  exact mem_addG.mpr (.inr (List.mem_map.mpr ⟨x, hx, rfl⟩))
end Law

namespace Law
open PySem PySem.Spec PyProof.Rows L2 Sim
/-! ### breadth first with the rows that lead there -/
section
variable {α : Type} [DecidableEq α]
abbrev LZ (α : Type) := List (α × List Nat)
def exK (nx : α → Nat → α) (v : α) (row : List Nat) (Z : LZ α) (k : Nat) : LZ α := if nx v k ∈ Z.map Prod.fst then Z else Z ++ [(nx v k, row ++ [k])]
def exF (nx : α → Nat → α) (v : α) (row : List Nat) (Z : LZ α) (n : Nat) : LZ α := (List.range n).foldl (exK nx v row) Z
theorem exF_succ (nx : α → Nat → α) (v : α) (row : List Nat) (Z : LZ α) (n : Nat) : exF nx v row Z (n + 1) = exK nx v row (exF nx v row Z n) n := by
  unfold exF
  rw [List.range_succ, List.foldl_append]
  rfl
def lbGo (nx : α → Nat → α) (N : Nat) (stop : α → Bool) : Nat → Nat → LZ α → LZ α × Option (List Nat)
  | 0, _, Z => (Z, none)
  | n + 1, i, Z => match Z[i]? with
    | none => lbGo nx N stop n (i + 1) Z
    | some p => if stop p.1 = true then (Z, some p.2) else lbGo nx N stop n (i + 1) (exF nx p.1 p.2 Z N)
theorem lb_end {nx : α → Nat → α} {N : Nat} {stop : α → Bool} : ∀ (n i : Nat) (Z : LZ α), Z.length ≤ i → lbGo nx N stop n i Z = (Z, none)
  | 0, _, _, _ => rfl
  | n + 1, i, Z, h => by
    unfold lbGo
    rw [List.getElem?_eq_none h]
    exact lb_end n (i + 1) Z (by omega)
theorem lb_hit {nx : α → Nat → α} {N : Nat} {stop : α → Bool} {n i : Nat} {Z : LZ α} {p : α × List Nat} (h : Z[i]? = some p) (hs : stop p.1 = true) : lbGo nx N stop (n + 1) i Z = (Z, some p.2) := by
  unfold lbGo
  rw [h]
  exact if_pos hs
theorem lb_go {nx : α → Nat → α} {N : Nat} {stop : α → Bool} {n i : Nat} {Z : LZ α} {p : α × List Nat} (h : Z[i]? = some p) (hs : stop p.1 = false) : lbGo nx N stop (n + 1) i Z = lbGo nx N stop n (i + 1) (exF nx p.1 p.2 Z N) := by
  rw [lbGo, h]
  exact if_neg (by rw [hs]; exact Bool.false_ne_true)
theorem exK_pre (nx : α → Nat → α) (v : α) (row : List Nat) (Z : LZ α) (k : Nat) : ∃ t, exK nx v row Z k = Z ++ t := by
  unfold exK
  split
  · exact ⟨[], (List.append_nil _).symm⟩
  · exact ⟨_, rfl⟩
theorem exF_pre (nx : α → Nat → α) (v : α) (row : List Nat) (Z : LZ α) : ∀ n, ∃ t, exF nx v row Z n = Z ++ t
  | 0 => ⟨[], (List.append_nil _).symm⟩
  | n + 1 => by
    obtain ⟨t, e⟩ := exF_pre nx v row Z n
    obtain ⟨u, e2⟩ := exK_pre nx v row (exF nx v row Z n) n
    exact ⟨t ++ u, by rw [exF_succ, e2, e, List.append_assoc]⟩
/-- what holds of all rows found -/
structure LbOk (nx : α → Nat → α) (N : Nat) (v0 : α) (p : α → Prop) (Z : LZ α) : Prop where
  nod : (Z.map Prod.fst).Nodup
  good : ∀ q ∈ Z, p q.1 ∧ (∀ k ∈ q.2, k < N) ∧ q.1 = q.2.foldl nx v0
theorem LbOk.exK {nx : α → Nat → α} {N : Nat} {v0 : α} {p : α → Prop} {Z : LZ α} (h : LbOk nx N v0 p Z) {q : α × List Nat} (hq : q ∈ Z) (hp : ∀ v, p v → ∀ k, k < N → p (nx v k)) {k : Nat} (hk : k < N) {Z' : LZ α} (h' : LbOk nx N v0 p Z') : LbOk nx N v0 p (exK nx q.1 q.2 Z' k) := by
  obtain ⟨h1, h2, h3⟩ := h.good q hq
  unfold Law.exK
  split
  · exact h'
  · rename_i hn
    refine ⟨?_, fun r hr => ?_⟩
    · rw [List.map_append, List.nodup_append]
      exact ⟨h'.nod, by simp, fun a ha b hb e => by rw [List.map_singleton, List.mem_singleton] at hb; subst hb; subst e; exact hn ha⟩
    · rcases List.mem_append.mp hr with hr | hr
      · exact h'.good r hr
      · rw [List.mem_singleton] at hr
        subst hr
        refine ⟨hp _ h1 k hk, fun j hj => ?_, ?_⟩
        · rcases List.mem_append.mp hj with hj | hj
          · exact h2 j hj
          · rw [List.mem_singleton] at hj; omega
        · show nx q.1 k = (q.2 ++ [k]).foldl nx v0
          rw [List.foldl_append, ← h3]
          rfl
theorem LbOk.exF {nx : α → Nat → α} {N : Nat} {v0 : α} {p : α → Prop} {Z : LZ α} (h : LbOk nx N v0 p Z) {q : α × List Nat} (hq : q ∈ Z) (hp : ∀ v, p v → ∀ k, k < N → p (nx v k)) : ∀ n, n ≤ N → LbOk nx N v0 p (exF nx q.1 q.2 Z n)
  | 0, _ => h
  | n + 1, hn => by
    rw [exF_succ]
    exact h.exK hq hp (by omega) (h.exF hq hp n (by omega))
theorem LbOk.few {nx : α → Nat → α} {N : Nat} {v0 : α} {p : α → Prop} {Z : LZ α} (h : LbOk nx N v0 p Z) {all : List α} (ha : ∀ v, p v → v ∈ all) : Z.length ≤ all.length := by
  have := lenG_sub (ys := all) h.nod fun v hv => by
    obtain ⟨q, hq, rfl⟩ := List.mem_map.mp hv
    exact ha _ (h.good q hq).1
  rwa [List.length_map] at this
theorem exF_short {nx : α → Nat → α} {Z : LZ α} {i : Nat} {q : α × List Nat} (h : ∀ r ∈ Z, r.2.length ≤ i) (hq : q.2.length ≤ i) : ∀ j, ∀ r ∈ exF nx q.1 q.2 Z j, r.2.length ≤ i + 1 := by
  intro j
  induction j with
  | zero => intro r hr; have := h r hr; omega
  | succ j ih =>
    intro r hr
    rw [exF_succ] at hr
    unfold exK at hr
    split at hr
    · exact ih r hr
    · rcases List.mem_append.mp hr with hr | hr
      · exact ih r hr
      · rw [List.mem_singleton] at hr
        subst hr
        show (q.2 ++ [j]).length ≤ i + 1
        rw [List.length_append, List.length_singleton]; omega
/-- the answer does not depend on the rounds, if they are enough -/
theorem lb_more {nx : α → Nat → α} {N : Nat} {stop : α → Bool} {v0 : α} {p : α → Prop} {all : List α} (ha : ∀ v, p v → v ∈ all) (hp : ∀ v, p v → ∀ k, k < N → p (nx v k)) : ∀ (n i d : Nat) (Z : LZ α), LbOk nx N v0 p Z → all.length ≤ n + i → lbGo nx N stop (n + d) i Z = lbGo nx N stop n i Z
  | 0, i, d, Z, h, hl => by
    have := h.few ha
    rw [lb_end _ _ _ (by omega), lb_end _ _ _ (by omega)]
  | n + 1, i, d, Z, h, hl => by
    rw [show n + 1 + d = (n + d) + 1 by omega]
    cases e : Z[i]? with
    | none =>
      have hz := List.getElem?_eq_none_iff.mp e
      rw [lb_end _ _ _ hz, lb_end _ _ _ hz]
    | some q =>
      cases hs : stop q.1 with
      | true => rw [lb_hit e hs, lb_hit e hs]
      | false =>
        rw [lb_go e hs, lb_go e hs]
        exact lb_more ha hp n (i + 1) d _ (h.exF (List.mem_of_getElem? e) hp N (Nat.le_refl _)) (by omega)
end
end Law

namespace Law
open PySem PySem.Spec PyProof.Rows L2 Sim
def six : List D := [.tup [.int 0], .tup [.non], .tup [.int 1], .tup [], .tup [.int 0, .int 1], .tup [.int (-2000000000), .non]]
def monD (rs : List D) (first : Nat) (vs : List Str) (es : List (List Nat)) : D := .tup [.tup rs, .int first, .tup (vs.map .str), .tup (es.map fun r => .tup (r.map fun (x : Nat) => .int x))]
structure MonOk (many nodes : Nat) (rs : List D) (first : Nat) (vs : List Str) (es : List (List Nat)) : Prop where
  rs : rs = six.take many
  few : 1 ≤ vs.length ∧ vs.length ≤ nodes
  same : es.length = vs.length
  first : first < vs.length
  word : ∀ v ∈ vs, v = "sure" ∨ v = "never" ∨ v = "unknown" ∨ v = "impossible"
  wide : ∀ r ∈ es, r.length = many
  low : ∀ r ∈ es, ∀ x ∈ r, x < vs.length
end Law

namespace Law
open PySem PySem.Spec PyProof.Rows L2 Sim
/-! ### breadth first over keys -/
section
variable {α : Type} [DecidableEq α]
def trGo (nx : α → List α) (most : Nat) : Nat → Nat → List α → List α
  | 0, _, f => f
  | n + 1, k, f => trGo nx most n (k + 1) (match f[k]? with
    | some v => if f.length ≤ most then addG f (nx v) else f
    | none => f)
def tr (nx : α → List α) (most : Nat) (F : List α) : List α := trGo nx most (most + 1) 0 F
theorem tr_stop {nx : α → List α} {most : Nat} : ∀ (n k : Nat) (f : List α), f.length ≤ k ∨ most < f.length → trGo nx most n k f = f
  | 0, _, _, _ => rfl
  | n + 1, k, f, h => by
    have e : (match f[k]? with
      | some v => if f.length ≤ most then addG f (nx v) else f
      | none => f) = f := by
      rcases h with h | h
      · rw [List.getElem?_eq_none h]
      · cases f[k]? with
        | none => rfl
        | some v => exact if_neg (by omega)
    rw [trGo, e]
    exact tr_stop n (k + 1) f (by omega)
theorem tr_step {nx : α → List α} {most n k : Nat} {f : List α} {v : α} (h : f[k]? = some v) (hm : f.length ≤ most) : trGo nx most (n + 1) k f = trGo nx most n (k + 1) (addG f (nx v)) := by
  rw [trGo, h]
  show trGo nx most n (k + 1) (if f.length ≤ most then addG f (nx v) else f) = _
  rw [if_pos hm]
theorem trGo_all {nx : α → List α} {most : Nat} {p : α → Prop} (hnx : ∀ v, p v → ∀ w ∈ nx v, p w) : ∀ (n k : Nat) (f : List α), (∀ x ∈ f, p x) → f.Nodup → (∀ x ∈ trGo nx most n k f, p x) ∧ (trGo nx most n k f).Nodup
  | 0, _, _, h, h2 => ⟨h, h2⟩
  | n + 1, k, f, h, h2 => by
    rw [trGo]
    refine trGo_all hnx n (k + 1) _ ?_ ?_
    · cases e : f[k]? with
      | none => exact h
      | some v =>
        show ∀ x ∈ (if f.length ≤ most then addG f (nx v) else f), p x
        split
        · intro x hx
          rcases mem_addG.mp hx with hx | hx
          · exact h x hx
          · exact hnx v (h v (List.mem_of_getElem? e)) x hx
        · exact h
    · cases e : f[k]? with
      | none => exact h2
      | some v =>
        show (if f.length ≤ most then addG f (nx v) else f).Nodup
        split
        · exact addG_nodup _ _ h2
        · exact h2
theorem tr_all {nx : α → List α} {most : Nat} {p : α → Prop} (hnx : ∀ v, p v → ∀ w ∈ nx v, p w) {F : List α} (h : ∀ x ∈ F, p x) (h2 : F.Nodup) : (∀ x ∈ tr nx most F, p x) ∧ (tr nx most F).Nodup := trGo_all hnx _ _ _ h h2
/-- the rows of steps, by the places in f -/
def rowsG (nx : α → List α) (f : List α) (k : Nat) : List (List Nat) := (f.take k).map fun v => (nx v).map fun w => f.idxOf w
theorem rowsG_len {nx : α → List α} {f : List α} {k : Nat} (h : k ≤ f.length) : (rowsG nx f k).length = k := by
  unfold rowsG
  rw [List.length_map, List.length_take]; omega
theorem rowsG_grow {nx : α → List α} {f t : List α} {k : Nat} (hk : k ≤ f.length) (hc : ∀ v ∈ f.take k, ∀ w ∈ nx v, w ∈ f) : rowsG nx (f ++ t) k = rowsG nx f k := by
  unfold rowsG
  rw [List.take_append_of_le_length hk]
  refine List.map_congr_left fun v hv => List.map_congr_left fun w hw => ?_
  exact idx_pre (hc v hv w hw)
theorem rowsG_next {nx : α → List α} {f : List α} {k : Nat} {v : α} (h : f[k]? = some v) : rowsG nx f (k + 1) = rowsG nx f k ++ [(nx v).map fun w => f.idxOf w] := by
  unfold rowsG
  rw [List.take_succ, h, List.map_append]
  rfl
theorem trGo_closed {nx : α → List α} {most : Nat} : ∀ (n k : Nat) (f : List α), most + 1 ≤ n + k → k ≤ f.length → (∀ v ∈ f.take k, ∀ w ∈ nx v, w ∈ f) → (trGo nx most n k f).length ≤ most → ∀ v ∈ trGo nx most n k f, ∀ w ∈ nx v, w ∈ trGo nx most n k f
  | 0, k, f, h1, h2, _, h4 => by
    have h4 : f.length ≤ most := h4
    omega
  | n + 1, k, f, h1, h2, h3, h4 => by
    by_cases hk : f.length ≤ k
    · rw [tr_stop _ _ _ (.inl hk)]
      rw [List.take_of_length_le hk] at h3
      exact h3
    by_cases hm : most < f.length
    · rw [tr_stop _ _ _ (.inr hm)] at h4
      omega
    obtain ⟨p, hp⟩ : ∃ p, f[k]? = some p := ⟨_, List.getElem?_eq_getElem (by omega)⟩
    rw [tr_step hp (by omega)] at h4 ⊢
    obtain ⟨t, ht⟩ := addG_pre (nx p) f
    refine trGo_closed n (k + 1) _ (by omega) (by rw [ht, List.length_append]; omega) (fun v hv w hw => ?_) h4
    have e0 : (addG f (nx p)).take (k + 1) = f.take k ++ [p] := by
      rw [ht, List.take_append_of_le_length (by omega), List.take_succ, hp]; rfl
    rw [e0] at hv
    rcases List.mem_append.mp hv with hv | hv
    · rw [ht]; exact List.mem_append_left _ (h3 v hv w hw)
    · rw [List.mem_singleton] at hv
      subst hv
      exact mem_addG.mpr (.inr hw)
theorem trGo_pre {nx : α → List α} {most : Nat} : ∀ (n k : Nat) (f : List α), ∃ t, trGo nx most n k f = f ++ t
  | 0, _, f => ⟨[], (List.append_nil f).symm⟩
  | n + 1, k, f => by
    show ∃ t, trGo nx most n (k + 1) (match f[k]? with
      | some v => if f.length ≤ most then addG f (nx v) else f
      | none => f) = f ++ t
    have step : ∃ u, (match f[k]? with
      | some v => if f.length ≤ most then addG f (nx v) else f
      | none => f) = f ++ u := by
      cases f[k]? with
      | none => exact ⟨[], (List.append_nil f).symm⟩
      | some v =>
        show ∃ u, (if f.length ≤ most then addG f (nx v) else f) = f ++ u
        split
        · exact addG_pre _ _
        · exact ⟨[], (List.append_nil f).symm⟩
    obtain ⟨u, hu⟩ := step
    rw [hu]
    obtain ⟨t, ht⟩ := trGo_pre n (k + 1) (f ++ u)
    exact ⟨u ++ t, by rw [ht, List.append_assoc]⟩
theorem tr_closed {nx : α → List α} {most : Nat} {F : List α} (h : (tr nx most F).length ≤ most) : ∀ v ∈ tr nx most F, ∀ w ∈ nx v, w ∈ tr nx most F :=
  trGo_closed (most + 1) 0 F (by omega) (Nat.zero_le _) (by simp) h
theorem tr_starts {nx : α → List α} {most : Nat} {F : List α} : ∀ x ∈ F, x ∈ tr nx most F := fun x hx => by
  obtain ⟨t, ht⟩ := trGo_pre (nx := nx) (most := most) (most + 1) 0 F
  show x ∈ trGo nx most (most + 1) 0 F
  rw [ht]
  exact List.mem_append_left _ hx
end
end Law

namespace Law
open PySem PySem.Spec PyProof.Rows L2 Sim
/-! ### readings as rows of numbers or nothing -/
def oI : Option Int → D
  | none => .non
  | some i => .int i
abbrev RD (r : List (Option Int)) : D := .tup (r.map oI)
def oK : Option Int → NestedKey
  | none => .none
  | some i => .num i
theorem keysOf_o (v : List (Option Int)) : Sim.keysOf (v.map oI) = some (v.map oK) := by
  induction v with
  | nil => rfl
  | cons x v ih => cases x <;> simp [Sim.keysOf, Sim.keyOf, ih, oI, oK]
theorem keyOf_RD (v : List (Option Int)) : Sim.keyOf (RD v) = some (.tup (v.map oK)) := by rw [Sim.keyOf, keysOf_o]
theorem oK_inj : ∀ {v w : List (Option Int)}, v.map oK = w.map oK → v = w
  | [], [], _ => rfl
  | [], _ :: _, h => by cases h
  | _ :: _, [], h => by cases h
  | x :: v, y :: w, h => by
    rw [List.map_cons, List.map_cons, List.cons.injEq] at h
    rw [oK_inj h.2]
    cases x <;> cases y
    · rfl
    · cases h.1
    · cases h.1
    · have := h.1
      simp [oK] at this
      rw [this]
theorem depth_o (v : List (Option Int)) : (NestedKey.tup (v.map oK)).depth ≤ 8 := by
  have : ∀ v : List (Option Int), NestedKey.depthAll (v.map oK) = 0 := fun v => by
    induction v with
    | nil => rfl
    | cons x v ih => cases x <;> simp [NestedKey.depthAll, NestedKey.depth, ih, oK]
  simp [NestedKey.depth, this]
theorem keys_RD : Keys RD := by
  refine ⟨fun v w => ?_, fun v => ?_, fun v w => rfl⟩
  · unfold sameK
    rw [keyOf_RD, keyOf_RD]
    by_cases h : v = w
    · subst h; simp
    · have : ¬ (some (NestedKey.tup (v.map oK)) = some (NestedKey.tup (w.map oK))) := fun e => h (oK_inj (by injection e with e; injection e))
      rw [decide_eq_false h, decide_eq_false this]
  · exact keyOk_of (keyOf_RD v) rfl (depth_o v)
end Law

namespace Law
open PySem PySem.Spec PyProof.Rows L2 Sim
/-! ### monitors -/
abbrev natsD (xs : List Nat) : List D := xs.map fun (k : Nat) => D.int k
structure Mon where
  rs : List (List (Option Int))
  first : Nat
  vs : List Str
  es : List (List Nat)
abbrev Mon.enc (m : Mon) : D := monD (m.rs.map RD) m.first m.vs m.es
abbrev Word (v : Str) : Prop := v = "sure" ∨ v = "never" ∨ v = "unknown" ∨ v = "impossible"
structure Mon.Ok (n : Nat) (m : Mon) : Prop where
  few : m.vs.length ≤ n
  same : m.es.length = m.vs.length
  first : m.first < m.vs.length
  word : ∀ v ∈ m.vs, Word v
  wide : ∀ r ∈ m.es, r.length = m.rs.length
  low : ∀ r ∈ m.es, ∀ x ∈ r, x < m.vs.length
  nod : m.rs.Nodup
def Mon.nx (m : Mon) (v : Nat) : List Nat := m.es.getD v []
def Mon.sel (m : Mon) (v k : Nat) : Nat := (m.nx v).getD k 0
def Mon.go (m : Mon) (v : Nat) (row : List Nat) : Nat := row.foldl m.sel v
def Mon.say (m : Mon) (v : Nat) : Str := m.vs.getD v ""
/-- the readings that are drawn -/
def sixR : List (List (Option Int)) := [[some 0], [none], [some 1], [], [some 0, some 1], [some (-2000000000), none]]
theorem six_R : six = sixR.map RD := rfl
theorem mon_of {many nodes : Nat} {rs : List D} {first : Nat} {vs : List Str} {es : List (List Nat)} (h : MonOk many nodes rs first vs es) (hm : many ≤ 6) : ∃ m : Mon, monD rs first vs es = m.enc ∧ m.Ok nodes ∧ m.rs = sixR.take many ∧ m.rs.length = many := by
  have hl : (sixR.take many).length = many := by rw [List.length_take]; have : sixR.length = 6 := rfl; omega
  refine ⟨⟨sixR.take many, first, vs, es⟩, ?_, ⟨h.few.2, h.same, h.first, h.word, fun r hr => by rw [h.wide r hr, hl], h.low, ?_⟩, rfl, hl⟩
  · have : rs = (sixR.take many).map RD := by rw [h.rs, six_R, List.map_take]
    subst this
    rfl
  · exact (List.take_sublist _ _).nodup (by decide)
section
variable {m : Mon} {n : Nat}
theorem Mon.Ok.row (h : m.Ok n) {v : Nat} (hv : v < m.vs.length) : (m.nx v).length = m.rs.length ∧ ∀ x ∈ m.nx v, x < m.vs.length := by
  have he : v < m.es.length := by rw [h.same]; exact hv
  unfold Mon.nx
  rw [List.getD_eq_getElem?_getD, List.getElem?_eq_getElem he]
  exact ⟨h.wide _ (List.getElem_mem _), h.low _ (List.getElem_mem _)⟩
theorem Mon.Ok.sel (h : m.Ok n) {v k : Nat} (hv : v < m.vs.length) (hk : k < m.rs.length) : m.sel v k < m.vs.length := by
  obtain ⟨h1, h2⟩ := h.row hv
  unfold Mon.sel
  rw [List.getD_eq_getElem?_getD, List.getElem?_eq_getElem (by omega)]
  exact h2 _ (List.getElem_mem _)
theorem Mon.Ok.go (h : m.Ok n) : ∀ (row : List Nat) {v : Nat}, v < m.vs.length → (∀ k ∈ row, k < m.rs.length) → m.go v row < m.vs.length
  | [], _, hv, _ => hv
  | k :: row, _, hv, hr => Mon.Ok.go h row (h.sel hv (hr k (.head _))) fun j hj => hr j (.tail _ hj)
theorem Mon.Ok.at (h : m.Ok n) {v : Nat} (hv : v < m.vs.length) : (m.es.map fun r => D.tup (r.map fun (x : Nat) => .int x))[v]? = some (.tup (natsD (m.nx v))) := by
  have he : v < m.es.length := by rw [h.same]; exact hv
  unfold Mon.nx
  rw [List.getElem?_map, List.getD_eq_getElem?_getD, List.getElem?_eq_getElem he]; rfl
theorem Mon.verd {v : Nat} (hv : v < m.vs.length) : (m.vs.map D.str)[v]? = some (.str (m.say v)) := by
  unfold Mon.say
  rw [List.getElem?_map, List.getD_eq_getElem?_getD, List.getElem?_eq_getElem hv]; rfl
theorem Mon.say_mem {v : Nat} (hv : v < m.vs.length) : m.say v ∈ m.vs := by
  unfold Mon.say
  rw [List.getD_eq_getElem?_getD, List.getElem?_eq_getElem hv]
  exact List.getElem_mem _
end
theorem nats_at {xs : List Nat} {k : Nat} (h : k < xs.length) : (natsD xs)[k]? = some (.int (xs.getD k 0)) := by
  rw [List.getElem?_map, List.getD_eq_getElem?_getD, List.getElem?_eq_getElem h]; rfl
abbrev natE : Nat → D := fun k => .int k
theorem natKeys : Keys natE := ⟨fun a b => by
  unfold sameK
  show decide (some (NestedKey.num a) = some (NestedKey.num b)) = _
  refine decide_eq_decide.mpr ⟨fun h => ?_, fun h => by rw [h]⟩
  injection h with h
  injection h with h
  omega, fun a => keyOk_of (n := .num a) rfl rfl (by simp [NestedKey.depth]), fun _ _ => rfl⟩
theorem strKeys : Keys D.str := ⟨fun a b => by
  unfold sameK
  show decide (some (NestedKey.text a) = some (NestedKey.text b)) = _
  refine decide_eq_decide.mpr ⟨fun h => ?_, fun h => by rw [h]⟩
  injection h with h
  injection h, fun a => keyOk_of (n := .text a) rfl rfl (by simp [NestedKey.depth]), fun _ _ => rfl⟩
abbrev pairE : Nat × List Nat → D := fun p => .tup [.int p.1, .tup (natsD p.2)]
theorem keysOf_nats (xs : List Nat) : Sim.keysOf (natsD xs) = some (xs.map fun (k : Nat) => NestedKey.num k) := by
  induction xs with
  | nil => rfl
  | cons x xs ih => simp [Sim.keysOf, Sim.keyOf, ih]
theorem keyOf_pair (p : Nat × List Nat) : Sim.keyOf (pairE p) = some (.tup [.num p.1, .tup (p.2.map fun (k : Nat) => NestedKey.num k)]) := by
  simp [Sim.keyOf, Sim.keysOf, keysOf_nats]
theorem natnum_inj : ∀ {xs ys : List Nat}, xs.map (fun (k : Nat) => NestedKey.num k) = ys.map (fun (k : Nat) => NestedKey.num k) → xs = ys
  | [], [], _ => rfl
  | [], _ :: _, h => by cases h
  | _ :: _, [], h => by cases h
  | x :: xs, y :: ys, h => by
    rw [List.map_cons, List.map_cons, List.cons.injEq] at h
    have h1 := h.1
    injection h1 with h1
    rw [natnum_inj h.2]
    congr 1
    omega
theorem pairKeys : Keys pairE := by
  refine ⟨fun p q => ?_, fun p => ?_, fun p q => rfl⟩
  · unfold sameK
    rw [keyOf_pair, keyOf_pair]
    refine decide_eq_decide.mpr ⟨fun h => ?_, fun h => by rw [h]⟩
    injection h with h
    injection h with h
    rw [List.cons.injEq, List.cons.injEq] at h
    obtain ⟨h1, h2, _⟩ := h
    injection h1 with h1
    injection h2 with h2
    exact Prod.ext (by omega) (natnum_inj h2)
  · refine keyOk_of (keyOf_pair p) rfl ?_
    have : ∀ xs : List Nat, NestedKey.depthAll (xs.map fun (k : Nat) => NestedKey.num k) = 0 := fun xs => by
      induction xs with
      | nil => rfl
      | cons x v ih => simp [NestedKey.depthAll, NestedKey.depth, ih]
    simp [NestedKey.depth, NestedKey.depthAll, this]
end Law

namespace Law
open PySem PySem.Spec PyProof.Rows L2 Sim
/-! ### the reached nodes; numbering by first places -/
def Mon.nodes (m : Mon) : List Nat := tr m.nx m.vs.length [m.first]
theorem nodup_few {n : Nat} {f : List Nat} (h : f.Nodup) (hl : ∀ x ∈ f, x < n) : f.length ≤ n := by
  have := lenG_sub (ys := List.range n) h fun x hx => List.mem_range.mpr (hl x hx)
  simpa using this
section
variable {m : Mon} {n : Nat}
theorem Mon.Ok.nodes (h : m.Ok n) : (∀ x ∈ m.nodes, x < m.vs.length) ∧ m.nodes.Nodup ∧ m.nodes.length ≤ m.vs.length ∧ m.first ∈ m.nodes ∧ (∀ v ∈ m.nodes, ∀ w ∈ m.nx v, w ∈ m.nodes) ∧ m.nodes[0]? = some m.first := by
  have h1 := tr_all (nx := m.nx) (most := m.vs.length) (p := fun x => x < m.vs.length) (fun v hv w hw => (h.row hv).2 w hw) (F := [m.first]) (fun x hx => by rw [List.mem_singleton] at hx; rw [hx]; exact h.first) (by simp)
  have h2 := nodup_few h1.2 h1.1
  refine ⟨h1.1, h1.2, h2, tr_starts _ (.head _), tr_closed h2, ?_⟩
  obtain ⟨t, ht⟩ := trGo_pre (nx := m.nx) (most := m.vs.length) (m.vs.length + 1) 0 [m.first]
  show (trGo m.nx m.vs.length (m.vs.length + 1) 0 [m.first])[0]? = _
  rw [ht]; rfl
end
theorem nats_snoc (xs : List Nat) (x : Nat) : natsD (xs ++ [x]) = natsD xs ++ [D.int x] := List.map_append
def grpL {α : Type} [DecidableEq α] (ks : List α) : List Nat := ks.map fun k => (addG [] ks).idxOf k
end Law

namespace Law
open PySem PySem.Spec PyProof.Rows L2 Sim
/-! ### classes: numbers by first places, made finer -/
def cntG (g : List Nat) : Nat := (addG [] g).length
/-- a numbering: the numbers come in order -/
structure Num (g : List Nat) : Prop where
  idx : ∀ k, k < g.length → (addG [] g).idxOf (g.getD k 0) = g.getD k 0
theorem getD_map_lt {α β : Type} {f : α → β} {xs : List α} {k : Nat} (d : β) (h : k < xs.length) : (xs.map f).getD k d = f xs[k] := by
  rw [List.getD_eq_getElem?_getD, List.getElem?_map, List.getElem?_eq_getElem h]; rfl
theorem grp_len {α : Type} [DecidableEq α] (ks : List α) : (grpL ks).length = ks.length := List.length_map ..
theorem addG_map {α β : Type} [DecidableEq α] [DecidableEq β] (F : α → β) : ∀ (ks f : List α), (∀ a, a ∈ f ++ ks → ∀ b, b ∈ f ++ ks → F a = F b → a = b) → addG (f.map F) (ks.map F) = (addG f ks).map F
  | [], f, _ => rfl
  | k :: ks, f, h => by
    rw [List.map_cons, addG, addG]
    have e : (F k ∈ f.map F) ↔ k ∈ f := by
      rw [List.mem_map]
      refine ⟨fun ⟨a, ha, he⟩ => ?_, fun hk => ⟨k, hk, rfl⟩⟩
      rw [← h a (List.mem_append_left _ ha) k (List.mem_append_right _ (.head _)) he]
      exact ha
    by_cases hk : k ∈ f
    · rw [if_pos (e.mpr hk), if_pos hk]
      exact addG_map F ks f fun a ha b hb => h a (by
        rcases List.mem_append.mp ha with ha | ha
        · exact List.mem_append_left _ ha
        · exact List.mem_append_right _ (.tail _ ha)) b (by
        rcases List.mem_append.mp hb with hb | hb
        · exact List.mem_append_left _ hb
        · exact List.mem_append_right _ (.tail _ hb))
    · rw [if_neg (fun z => hk (e.mp z)), if_neg hk]
      have := addG_map F ks (f ++ [k]) fun a ha b hb => h a (by
        rw [List.append_assoc] at ha
        rcases List.mem_append.mp ha with ha | ha
        · exact List.mem_append_left _ ha
        · exact List.mem_append_right _ (by simpa using ha)) b (by
        rw [List.append_assoc] at hb
        rcases List.mem_append.mp hb with hb | hb
        · exact List.mem_append_left _ hb
        · exact List.mem_append_right _ (by simpa using hb))
      rw [List.map_append] at this
      exact this
theorem idx_inj {α : Type} [DecidableEq α] {f : List α} {a b : α} (ha : a ∈ f) (hb : b ∈ f) (h : f.idxOf a = f.idxOf b) : a = b := by
  have h1 := (idxG ha).2
  rw [h, (idxG hb).2] at h1
  cases h1
  rfl
section
variable {α : Type} [DecidableEq α] {ks : List α}
theorem grp_eq {a b : Nat} (ha : a < ks.length) (hb : b < ks.length) : (grpL ks).getD a 0 = (grpL ks).getD b 0 ↔ ks[a] = ks[b] := by
  unfold grpL
  rw [getD_map_lt 0 ha, getD_map_lt 0 hb]
  refine ⟨fun h => idx_inj (mem_addG.mpr (.inr (List.getElem_mem ha))) (mem_addG.mpr (.inr (List.getElem_mem hb))) h, fun h => by rw [h]⟩
theorem grp_found : addG [] (grpL ks) = List.range (addG [] ks).length := by
  have h := addG_map (fun k => (addG [] ks).idxOf k) ks [] fun a ha b hb e => idx_inj (mem_addG.mpr (.inr (by simpa using ha))) (mem_addG.mpr (.inr (by simpa using hb))) e
  rw [List.map_nil] at h
  rw [show grpL ks = ks.map fun k => (addG [] ks).idxOf k from rfl, h]
  have hn := addG_nodup ks [] List.nodup_nil
  generalize addG [] ks = F at hn
  apply List.ext_getElem
  · simp
  · intro i h1 h2
    rw [List.length_map] at h1
    rw [List.getElem_map, List.getElem_range]
    exact hn.idxOf_getElem _ h1
theorem grp_cnt : cntG (grpL ks) = (addG [] ks).length := by
  unfold cntG
  rw [grp_found, List.length_range]
theorem grp_lt {a : Nat} (ha : a < ks.length) : (grpL ks).getD a 0 < cntG (grpL ks) := by
  rw [grp_cnt]
  unfold grpL
  rw [getD_map_lt 0 ha]
  exact (idxG (mem_addG.mpr (.inr (List.getElem_mem ha)))).1
theorem grp_first (h : 0 < ks.length) : (grpL ks).getD 0 0 = 0 := by
  unfold grpL
  rw [getD_map_lt 0 h]
  cases ks with
  | nil => simp at h
  | cons k ks =>
    obtain ⟨t, ht⟩ := addG_pre ks ([] ++ [k])
    have : addG [] (k :: ks) = k :: t := by
      rw [addG, if_neg (by simp), ht]; rfl
    rw [this]
    simp
theorem grp_num : Num (grpL ks) := ⟨fun k hk => by
  rw [grp_found]
  rw [grp_len] at hk
  have h := grp_lt hk
  rw [grp_cnt] at h
  have := (List.nodup_range (n := (addG [] ks).length)).idxOf_getElem ((grpL ks).getD k 0) (by rw [List.length_range]; exact h)
  rw [List.getElem_range] at this
  exact this⟩
theorem grp_max (h : 0 < ks.length) (md : Md) : maxDef 0 [.lst md (natsD (grpL ks))] = some (.int (cntG (grpL ks) - 1 : Nat)) := by
  have e : natsD (grpL ks) = ((grpL ks).map fun (k : Nat) => (k : Int)).map D.int := by rw [List.map_map]; rfl
  have hi : intsOf (((grpL ks).map fun (k : Nat) => (k : Int)).map D.int) = some ((grpL ks).map fun (k : Nat) => (k : Int)) := by
    generalize ((grpL ks).map fun (k : Nat) => (k : Int)) = is
    induction is with
    | nil => rfl
    | cons i is ih => simp [intsOf, ih]
  have hl : (grpL ks).length = ks.length := grp_len ks
  unfold maxDef
  rw [e]
  simp only [hi]
  cases hg : grpL ks with
  | nil => rw [hg] at hl; simp at hl; omega
  | cons x xs =>
    rw [List.map_cons]
    simp only
    congr 2
    refine (mostI_eq (m := ((cntG (x :: xs) - 1 : Nat) : Int)) ?_ ?_).symm
    · have hc : cntG (x :: xs) - 1 ∈ addG [] (grpL ks) := by
        rw [← hg, grp_found, List.mem_range, grp_cnt]
        have : 0 < (addG [] ks).length := by
          obtain ⟨k, hk⟩ : ∃ k, k ∈ ks := ⟨ks[0], List.getElem_mem h⟩
          exact List.length_pos_of_mem (mem_addG.mpr (.inr hk))
        omega
      rcases mem_addG.mp hc with hc | hc
      · cases hc
      · rw [hg] at hc
        have := List.mem_map_of_mem (f := fun (k : Nat) => (k : Int)) hc
        rw [List.map_cons] at this
        exact this
    · intro y hy
      rw [← List.map_cons (f := fun (k : Nat) => (k : Int))] at hy
      obtain ⟨z, hz, rfl⟩ := List.mem_map.mp hy
      rw [← hg] at hz ⊢
      obtain ⟨i, hi', rfl⟩ := List.getElem_of_mem hz
      rw [grp_len] at hi'
      have := grp_lt hi'
      rw [List.getD_eq_getElem?_getD, List.getElem?_eq_getElem (by rw [grp_len]; exact hi')] at this
      have this : (grpL ks)[i] < cntG (grpL ks) := this
      omega
end
end Law

namespace Law
open PySem PySem.Spec PyProof.Rows L2 Sim
theorem pigeon {β γ : Type} [DecidableEq β] [DecidableEq γ] {F : List β} {G : List γ} (f : β → γ) (hG : G.Nodup) (hs : ∀ x ∈ G, ∃ y ∈ F, f y = x) : G.length ≤ F.length ∧ (G.length = F.length → ∀ y ∈ F, ∀ z ∈ F, f y = f z → y = z) := by
  have sub : ∀ F' : List β, (∀ x ∈ G, ∃ y ∈ F', f y = x) → G.length ≤ F'.length := fun F' h => by
    have := lenG_sub (ys := F'.map f) hG fun x hx => by
      obtain ⟨y, hy, e⟩ := h x hx
      exact List.mem_map.mpr ⟨y, hy, e⟩
    rwa [List.length_map] at this
  refine ⟨sub F hs, fun e y hy z hz hf => Classical.byContradiction fun hne => ?_⟩
  have := sub (F.erase z) fun x hx => by
    obtain ⟨w, hw, ew⟩ := hs x hx
    by_cases h : w = z
    · exact ⟨y, (List.mem_erase_of_ne hne).mpr hy, by rw [hf, ← h]; exact ew⟩
    · exact ⟨w, (List.mem_erase_of_ne h).mpr hw, ew⟩
  rw [List.length_erase_of_mem hz] at this
  have hp := List.length_pos_of_mem hz
  omega
abbrev selE (es : List (List Nat)) (a k : Nat) : Nat := (es.getD a []).getD k 0
structure Bis (vs : List Str) (es : List (List Nat)) (many : Nat) (E : Nat → Nat → Prop) : Prop where
  verd : ∀ a b, a < vs.length → b < vs.length → E a b → vs.getD a "" = vs.getD b ""
  step : ∀ a b k, a < vs.length → b < vs.length → k < many → E a b → E (selE es a k) (selE es b k)
structure Gra (vs : List Str) (es : List (List Nat)) (many : Nat) : Prop where
  same : es.length = vs.length
  some_ : 0 < vs.length
  few : vs.length ≤ 1000
  wide : ∀ r ∈ es, r.length = many
  low : ∀ r ∈ es, ∀ x ∈ r, x < vs.length
theorem Gra.row {vs : List Str} {es : List (List Nat)} {many : Nat} (h : Gra vs es many) {a : Nat} (ha : a < vs.length) : (es.getD a []).length = many ∧ ∀ x ∈ es.getD a [], x < vs.length := by
  rw [List.getD_eq_getElem?_getD, List.getElem?_eq_getElem (by rw [h.same]; exact ha)]
  exact ⟨h.wide _ (List.getElem_mem _), h.low _ (List.getElem_mem _)⟩
theorem Gra.sel {vs : List Str} {es : List (List Nat)} {many : Nat} (h : Gra vs es many) {a k : Nat} (ha : a < vs.length) (hk : k < many) : selE es a k < vs.length := by
  obtain ⟨h1, h2⟩ := h.row ha
  unfold selE
  rw [List.getD_eq_getElem?_getD, List.getElem?_eq_getElem (by omega)]
  exact h2 _ (List.getElem_mem _)
structure Part_ (vs : List Str) (es : List (List Nat)) (many : Nat) (g : List Nat) : Prop where
  len : g.length = vs.length
  found : addG [] g = List.range (cntG g)
  lt : ∀ a, a < vs.length → g.getD a 0 < cntG g
  first : g.getD 0 0 = 0
  most : ∀ md, maxDef 0 [.lst md (natsD g)] = some (.int (cntG g - 1 : Nat))
  verd : ∀ a b, a < vs.length → b < vs.length → g.getD a 0 = g.getD b 0 → vs.getD a "" = vs.getD b ""
  coarse : ∀ E, Bis vs es many E → ∀ a b, a < vs.length → b < vs.length → E a b → g.getD a 0 = g.getD b 0
structure Cls (vs : List Str) (es : List (List Nat)) (many : Nat) (g : List Nat) : Prop extends Part_ vs es many g where
  stable : ∀ a b k, a < vs.length → b < vs.length → k < many → g.getD a 0 = g.getD b 0 → g.getD (selE es a k) 0 = g.getD (selE es b k) 0
def keysG (es : List (List Nat)) (g : List Nat) : List (Nat × List Nat) := (List.range es.length).map fun i => (g.getD i 0, (es.getD i []).map fun l => g.getD l 0)
theorem keys_at {es : List (List Nat)} {g : List Nat} {a : Nat} (h : a < (keysG es g).length) : (keysG es g)[a] = (g.getD a 0, (es.getD a []).map fun l => g.getD l 0) := by
  have h1 : a < es.length := by unfold keysG at h; simpa using h
  have e : (keysG es g)[a]? = some (g.getD a 0, (es.getD a []).map fun l => g.getD l 0) := by
    unfold keysG
    rw [List.getElem?_map, List.getElem?_range h1]; rfl
  exact (List.getElem?_eq_some_iff.mp e).2
theorem keys_len (es : List (List Nat)) (g : List Nat) : (keysG es g).length = es.length := by
  unfold keysG; simp
section
variable {vs : List Str} {es : List (List Nat)} {many : Nat} {g : List Nat}
theorem part_first (h : Gra vs es many) : Part_ vs es many (grpL vs) := by
  refine ⟨grp_len vs, by rw [grp_cnt]; exact grp_found, fun a ha => grp_lt ha, grp_first h.some_, fun md => grp_max h.some_ md, fun a b ha hb he => ?_, fun E B a b ha hb he => ?_⟩
  · have := (grp_eq ha hb).mp he
    rw [List.getD_eq_getElem?_getD, List.getD_eq_getElem?_getD, List.getElem?_eq_getElem ha, List.getElem?_eq_getElem hb, this]
  · refine (grp_eq ha hb).mpr ?_
    have := B.verd a b ha hb he
    rwa [List.getD_eq_getElem?_getD, List.getD_eq_getElem?_getD, List.getElem?_eq_getElem ha, List.getElem?_eq_getElem hb] at this
theorem finer_eq (h : Gra vs es many) {a b : Nat} (ha : a < vs.length) (hb : b < vs.length) : (grpL (keysG es g)).getD a 0 = (grpL (keysG es g)).getD b 0 ↔ g.getD a 0 = g.getD b 0 ∧ ∀ k, k < many → g.getD (selE es a k) 0 = g.getD (selE es b k) 0 := by
  have ka : a < (keysG es g).length := by rw [keys_len, h.same]; exact ha
  have kb : b < (keysG es g).length := by rw [keys_len, h.same]; exact hb
  rw [grp_eq ka kb, keys_at ka, keys_at kb, Prod.mk.injEq]
  obtain ⟨la, _⟩ := h.row ha
  obtain ⟨lb, _⟩ := h.row hb
  refine and_congr_right fun _ => ⟨fun e k hk => ?_, fun e => ?_⟩
  · have t : ((es.getD a []).map fun l => g.getD l 0).getD k 0 = ((es.getD b []).map fun l => g.getD l 0).getD k 0 := by rw [e]
    rw [getD_map_lt 0 (by omega), getD_map_lt 0 (by omega)] at t
    unfold selE
    rw [List.getD_eq_getElem?_getD (l := es.getD a []), List.getElem?_eq_getElem (by omega), List.getD_eq_getElem?_getD (l := es.getD b []), List.getElem?_eq_getElem (by omega)]
    exact t
  · apply List.ext_getElem
    · simp only [List.length_map]; omega
    · intro k h1 h2
      rw [List.length_map] at h1 h2
      rw [List.getElem_map, List.getElem_map]
      have := e k (by omega)
      unfold selE at this
      rwa [List.getD_eq_getElem?_getD (l := es.getD a []), List.getElem?_eq_getElem h1, List.getD_eq_getElem?_getD (l := es.getD b []), List.getElem?_eq_getElem h2] at this
theorem part_next (h : Gra vs es many) (P : Part_ vs es many g) : Part_ vs es many (grpL (keysG es g)) := by
  have hk : (keysG es g).length = vs.length := by rw [keys_len, h.same]
  have h0 : 0 < (keysG es g).length := by rw [hk]; exact h.some_
  refine ⟨(grp_len _).trans hk, by rw [grp_cnt]; exact grp_found, fun a ha => grp_lt (by rw [hk]; exact ha), grp_first h0, fun md => grp_max h0 md, fun a b ha hb he => ?_, fun E B a b ha hb he => ?_⟩
  · exact P.verd a b ha hb ((finer_eq h ha hb).mp he).1
  · refine (finer_eq h ha hb).mpr ⟨P.coarse E B a b ha hb he, fun k hk => ?_⟩
    exact P.coarse E B _ _ (h.sel ha hk) (h.sel hb hk) (B.step a b k ha hb hk he)
theorem finer_cnt (h : Gra vs es many) (P : Part_ vs es many g) : cntG g ≤ cntG (grpL (keysG es g)) ∧ (cntG g = cntG (grpL (keysG es g)) → Cls vs es many g) := by
  have hk : (keysG es g).length = vs.length := by rw [keys_len, h.same]
  have hp := pigeon (F := addG [] (keysG es g)) (G := addG [] g) Prod.fst (addG_nodup _ _ List.nodup_nil) fun x hx => by
    rcases mem_addG.mp hx with hx | hx
    · cases hx
    · obtain ⟨i, hi, rfl⟩ := List.getElem_of_mem hx
      have hi' : i < (keysG es g).length := by rw [hk, ← P.len]; exact hi
      refine ⟨(keysG es g)[i], mem_addG.mpr (.inr (List.getElem_mem hi')), ?_⟩
      rw [keys_at hi']
      show g.getD i 0 = g[i]
      rw [List.getD_eq_getElem?_getD, List.getElem?_eq_getElem hi]; rfl
  rw [grp_cnt]
  refine ⟨hp.1, fun e => ⟨P, fun a b k ha hb hkm he => ?_⟩⟩
  have ka : a < (keysG es g).length := by rw [hk]; exact ha
  have kb : b < (keysG es g).length := by rw [hk]; exact hb
  have := hp.2 e _ (mem_addG.mpr (.inr (List.getElem_mem ka))) _ (mem_addG.mpr (.inr (List.getElem_mem kb))) (by rw [keys_at ka, keys_at kb]; exact he)
  exact ((finer_eq h ha hb).mp ((grp_eq ka kb).mpr this)).2 k hkm
abbrev GrpOk (f : Fn) : Prop := ∀ {α : Type} [DecidableEq α] {enc : α → D}, Keys enc → ∀ ks : List α, ks.length ≤ 1000000 → FT f [.lst .sh (ks.map enc)] fun d fs => fs = [] ∧ d = .lst .own (natsD (grpL ks))
end
end Law

namespace Law
open PySem PySem.Spec PyProof.Rows L2 Sim
/-! ### the smallest monitor -/
/-- s is m's smallest monitor: cl gives the class of each reached node, rep the first node of each class -/
structure Red (m s : Mon) (cl rep : Nat → Nat) : Prop where
  rs : s.rs = m.rs
  first : s.first = 0
  clf : cl m.first = 0
  lt : ∀ v ∈ m.nodes, cl v < s.vs.length
  say : ∀ v ∈ m.nodes, s.say (cl v) = m.say v
  step : ∀ v ∈ m.nodes, ∀ k, k < m.rs.length → s.sel (cl v) k = cl (m.sel v k)
  rep_at : ∀ c, c < s.vs.length → rep c ∈ m.nodes ∧ cl (rep c) = c ∧ ∀ v ∈ m.nodes, cl v = c → m.nodes.idxOf (rep c) ≤ m.nodes.idxOf v
  nx : ∀ c, c < s.vs.length → s.nx c = (m.nx (rep c)).map cl
  coarse : ∀ E, Bis m.vs m.es m.rs.length E → ∀ v ∈ m.nodes, ∀ w ∈ m.nodes, E v w → cl v = cl w
  few : s.vs.length ≤ m.nodes.length
  ord : ∀ c, c < s.vs.length → ∀ v ∈ m.nodes, m.nodes.idxOf v < m.nodes.idxOf (rep c) → cl v < c
theorem take_nodup {α : Type} {f : List α} (h : f.Nodup) {k : Nat} (hk : k < f.length) : f[k] ∉ f.take k := fun hm => by
  obtain ⟨i, hi, e⟩ := List.getElem_of_mem hm
  rw [List.length_take] at hi
  rw [List.getElem_take] at e
  exact (List.pairwise_iff_getElem.mp (List.nodup_iff_pairwise_ne.mp h) i k (by omega) hk (by omega)) e
theorem range_pre {c n : Nat} {x : Nat} {t : List Nat} (h : List.range c ++ x :: t = List.range n) : x = c := by
  have h1 : (List.range n)[c]? = some x := by
    rw [← h, List.getElem?_append_right (by rw [List.length_range]; exact Nat.le_refl _), List.length_range, Nat.sub_self]; rfl
  have hc : c < n := by
    have := congrArg List.length h
    simp at this
    omega
  rw [List.getElem?_range hc] at h1
  cases h1
  rfl
/-- the first ones of the classes among the first k -/
structure Fst (g M : List Nat) (k : Nat) : Prop where
  found : addG [] (g.take k) = List.range M.length
  at_ : ∀ c, c < M.length → M.getD c 0 < k ∧ g.getD (M.getD c 0) 0 = c ∧ ∀ i, i < M.getD c 0 → g.getD i 0 < c
theorem Fst.step {g M : List Nat} {k n : Nat} (h : Fst g M k) (hk : k < g.length) (hf : addG [] g = List.range n) : (g.getD k 0 = M.length → Fst g (M ++ [k]) (k + 1)) ∧ (g.getD k 0 ≠ M.length → Fst g M (k + 1)) ∧ M.length ≤ n := by
  have hgk : g.getD k 0 = g[k] := by rw [List.getD_eq_getElem?_getD, List.getElem?_eq_getElem hk]; rfl
  have e1 : addG [] (g.take (k + 1)) = add1 (List.range M.length) (g.getD k 0) := by
    rw [List.take_succ, List.getElem?_eq_getElem hk, Option.toList_some, addG_snoc, h.found, hgk]
  have hpre : ∃ t, addG [] (g.take (k + 1)) ++ t = List.range n := by
    have : addG [] (g.take (k + 1) ++ g.drop (k + 1)) = List.range n := by rw [List.take_append_drop]; exact hf
    have go : ∀ (xs ys f : List Nat), addG f (xs ++ ys) = addG (addG f xs) ys := by
      intro xs
      induction xs with
      | nil => intro ys f; rfl
      | cons x xs ih => intro ys f; exact ih ys _
    rw [go] at this
    obtain ⟨t, ht⟩ := addG_pre (g.drop (k + 1)) (addG [] (g.take (k + 1)))
    exact ⟨t, by rw [← ht]; exact this⟩
  obtain ⟨t, ht⟩ := hpre
  rw [e1] at ht
  unfold add1 at ht e1
  refine ⟨fun e => ?_, fun e => ?_, ?_⟩
  · have hnot : g.getD k 0 ∉ List.range M.length := by rw [List.mem_range]; omega
    rw [if_neg hnot] at e1
    refine ⟨?_, fun c hc => ?_⟩
    · rw [e1, e, List.length_append, List.length_singleton, List.range_succ]
    · rw [List.length_append, List.length_singleton] at hc
      by_cases hcM : c < M.length
      · have e2 : (M ++ [k]).getD c 0 = M.getD c 0 := by rw [List.getD_eq_getElem?_getD, List.getD_eq_getElem?_getD, List.getElem?_append_left hcM]
        rw [e2]
        obtain ⟨a1, a2, a3⟩ := h.at_ c hcM
        exact ⟨by omega, a2, a3⟩
      · have e0 : c = M.length := by omega
        subst e0
        have e2 : (M ++ [k]).getD M.length 0 = k := by rw [List.getD_eq_getElem?_getD, List.getElem?_append_right (Nat.le_refl _), Nat.sub_self]; rfl
        rw [e2]
        refine ⟨by omega, e, fun i hi => ?_⟩
        have : g.getD i 0 ∈ addG [] (g.take k) := by
          refine mem_addG.mpr (.inr ?_)
          rw [List.getD_eq_getElem?_getD, List.getElem?_eq_getElem (by omega)]
          exact List.mem_take_iff_getElem.mpr ⟨i, by omega, rfl⟩
        rw [h.found, List.mem_range] at this
        exact this
  · have hin : g.getD k 0 ∈ List.range M.length := Classical.byContradiction fun hnot => by
      rw [if_neg hnot, List.append_assoc] at ht
      exact e (range_pre (t := t) ht)
    rw [if_pos hin] at e1
    exact ⟨e1, fun c hc => by
      obtain ⟨a1, a2, a3⟩ := h.at_ c hc
      exact ⟨by omega, a2, a3⟩⟩
  · have := congrArg List.length ht
    rw [List.length_append, List.length_range] at this
    split at this
    · rw [List.length_range] at this; omega
    · rw [List.length_append, List.length_range] at this; omega
abbrev NodesOk (f : Fn) : Prop := ∀ {m : Mon} {n : Nat}, m.Ok n → n ≤ 1000 → FT f [m.enc] fun d fs => fs = [] ∧ d = .lst .own (natsD m.nodes)
abbrev ClsOk (f : Fn) : Prop := ∀ {vs : List Str} {es : List (List Nat)} {many : Nat}, Gra vs es many → many ≤ 1000 → FT f [.lst .sh (vs.map .str), .lst .sh (es.map fun r => .tup (natsD r))] fun d fs => fs = [] ∧ ∃ g md, d = .lst md (natsD g) ∧ Cls vs es many g
end Law

namespace Law
open PySem PySem.Spec PyProof.Rows L2 Sim
/-! ### what a monitor says of a row -/
abbrev idxD {α : Type} [DecidableEq α] (x : α) (f : List α) : Nat := f.idxOf x
theorem idxD_at {α : Type} [DecidableEq α] {f : List α} (h : f.Nodup) {k : Nat} (hk : k < f.length) : idxD f[k] f = k := h.idxOf_getElem _ hk
def Mon.says (m : Mon) : Nat → List (List (Option Int)) → Str
  | v, [] => m.say v
  | v, r :: row => if r ∈ m.rs then m.says (m.sel v (idxD r m.rs)) row else "impossible"
theorem says_in {m : Mon} : ∀ (row : List Nat) (v : Nat), m.rs.Nodup → (∀ k ∈ row, k < m.rs.length) → m.says v (row.map fun k => m.rs.getD k []) = m.say (m.go v row)
  | [], _, _, _ => rfl
  | k :: row, v, hn, hr => by
    have hk := hr k (.head _)
    have e : m.rs.getD k [] = m.rs[k] := by rw [List.getD_eq_getElem?_getD, List.getElem?_eq_getElem hk]; rfl
    have e2 : idxD m.rs[k] m.rs = k := idxD_at hn hk
    rw [List.map_cons, Mon.says, e, if_pos (List.getElem_mem hk), e2]
    exact says_in row _ hn fun j hj => hr j (.tail _ hj)
theorem says_out {m : Mon} {r : List (Option Int)} (hr : r ∉ m.rs) : ∀ (row : List (List (Option Int))) (v : Nat), m.says v (row ++ [r]) = "impossible"
  | [], _ => by
    show m.says _ [r] = _
    rw [Mon.says, if_neg hr]
  | q :: row, v => by
    rw [List.cons_append, Mon.says]
    split
    · exact says_out hr row _
    · rfl
end Law

namespace Law
open PySem PySem.Spec PyProof.Rows L2 Sim
section
variable {m s : Mon} {n : Nat} {cl rep : Nat → Nat}
theorem Red.go (r : Red m s cl rep) (h : m.Ok n) : ∀ (row : List Nat) (v : Nat), v ∈ m.nodes → (∀ k ∈ row, k < m.rs.length) → s.go (cl v) row = cl (m.go v row) ∧ m.go v row ∈ m.nodes
  | [], v, hv, _ => ⟨rfl, hv⟩
  | k :: row, v, hv, hr => by
    have hk := hr k (.head _)
    have hs : m.sel v k ∈ m.nodes := by
      obtain ⟨h1, _⟩ := h.row (h.nodes.1 v hv)
      refine h.nodes.2.2.2.2.1 v hv _ ?_
      unfold Mon.sel
      rw [List.getD_eq_getElem?_getD, List.getElem?_eq_getElem (by omega)]
      exact List.getElem_mem _
    have e : s.go (cl v) (k :: row) = s.go (s.sel (cl v) k) row := rfl
    rw [e, r.step v hv k hk]
    exact r.go h row _ hs fun j hj => hr j (.tail _ hj)
end
abbrev SaysOk (f : Fn) : Prop := ∀ {m : Mon} {n : Nat}, m.Ok n → m.rs.length ≤ 1000 → ∀ (c : D) (row : List (List (Option Int))), itemsD c = some (row.map RD) → FT f [m.enc, c] fun d fs => fs = [] ∧ d = .str (m.says m.first row)
abbrev RedOk (f : Fn) : Prop := ∀ {m : Mon} {n : Nat}, m.Ok n → n ≤ 1000 → m.rs.length ≤ 1000 → FT f [m.enc] fun d fs => fs = [] ∧ ∃ (s : Mon) (cl rep : Nat → Nat), d = s.enc ∧ s.Ok n ∧ Red m s cl rep
end Law

namespace Law
open PySem PySem.Spec PyProof.Rows L2 Sim
theorem dat_RD {n : Nat} (r : List (Option Int)) (h : r.length ≤ 1000) : Dat (n + 1) (RD r) := .tup (fun d hd => by
  obtain ⟨o, _, rfl⟩ := List.mem_map.mp hd
  cases o with
  | none => exact .non _
  | some i => exact .int _ _) (by rw [List.length_map]; omega)
theorem dat_rs {n : Nat} (rs : List (List (Option Int))) (hl : rs.length ≤ 1000) (h : ∀ r ∈ rs, r.length ≤ 1000) : Dat (n + 2) (.tup (rs.map RD)) := .tup (fun d hd => by
  obtain ⟨r, hr, rfl⟩ := List.mem_map.mp hd
  exact dat_RD r (h r hr)) (by rw [List.length_map]; omega)
theorem Dat.eqB_self {n : Nat} {d : D} (h : Dat n d) (hn : n ≤ 64) : eqB d d = some true := by
  rw [eqB_data _ _ h.laid h.laid (Nat.le_trans h.rank hn) (Nat.le_trans h.rank hn), eqv_self _ h.plain]
end Law

namespace Law
open PySem PySem.Spec PyProof.Rows L2 Sim
abbrev pE : Nat × Nat → D := fun p => .tup [.int p.1, .int p.2]
theorem keyOf_pE (p : Nat × Nat) : Sim.keyOf (pE p) = some (.tup [.num p.1, .num p.2]) := by
  simp [Sim.keyOf, Sim.keysOf]
theorem pKeys : Keys pE := by
  refine ⟨fun p q => ?_, fun p => ?_, fun p q => rfl⟩
  · unfold sameK
    rw [keyOf_pE, keyOf_pE]
    refine decide_eq_decide.mpr ⟨fun h => ?_, fun h => by rw [h]⟩
    injection h with h
    injection h with h
    rw [List.cons.injEq, List.cons.injEq] at h
    have h1 := h.1
    have h2 := h.2.1
    injection h1 with h1
    injection h2 with h2
    exact Prod.ext (by omega) (by omega)
  · exact keyOk_of (keyOf_pE p) rfl (by simp [NestedKey.depth, NestedKey.depthAll])
abbrev rowT (ks : List Nat) : D := .tup (natsD ks)
end Law

namespace Law
open PySem PySem.Spec PyProof.Rows L2 Sim
/-! ### where a node of the breadth first search comes from -/
section
variable {α : Type} [DecidableEq α]
theorem addG_app : ∀ (xs ys f : List α), addG f (xs ++ ys) = addG (addG f xs) ys
  | [], _, _ => rfl
  | x :: xs, ys, f => by
    rw [List.cons_append, addG, addG]
    exact addG_app xs ys _
/-- a new element is one of the list, and all before it are found earlier -/
theorem addG_new : ∀ (xs f : List α) (p : Nat) (y : α), f.length ≤ p → (addG f xs)[p]? = some y → ∃ k, xs[k]? = some y ∧ (addG f (xs.take k)).length ≤ p
  | [], f, p, y, hp, h => by
    have h : f[p]? = some y := h
    rw [List.getElem?_eq_none hp] at h
    cases h
  | x :: xs, f, p, y, hp, h => by
    rw [addG] at h
    by_cases hx : x ∈ f
    · rw [if_pos hx] at h
      obtain ⟨k, h1, h2⟩ := addG_new xs f p y hp h
      refine ⟨k + 1, h1, ?_⟩
      rw [List.take_succ_cons, addG, if_pos hx]
      exact h2
    · rw [if_neg hx] at h
      by_cases hp2 : p = f.length
      · refine ⟨0, ?_, hp⟩
        obtain ⟨t, ht⟩ := addG_pre xs (f ++ [x])
        rw [ht, hp2, List.getElem?_append_left (by simp), List.getElem?_append_right (Nat.le_refl _), Nat.sub_self] at h
        exact h
      · obtain ⟨k, h1, h2⟩ := addG_new xs (f ++ [x]) p y (by rw [List.length_append, List.length_singleton]; omega) h
        refine ⟨k + 1, h1, ?_⟩
        rw [List.take_succ_cons, addG, if_neg hx]
        exact h2
/-- the parent of the node at place p -/
def Par (nx : α → List α) (f : List α) (k p : Nat) : Prop := ∃ (q j : Nat) (v y : α), q < p ∧ q < k ∧ f[q]? = some v ∧ f[p]? = some y ∧ (nx v)[j]? = some y ∧ ∀ (q' j' : Nat) (v' x : α), (q' < q ∨ (q' = q ∧ j' < j)) → f[q']? = some v' → (nx v')[j']? = some x → x ∈ f.take p
theorem Par.grow {nx : α → List α} {f t : List α} {k k' p : Nat} (h : Par nx f k p) (hk : k ≤ k') : Par nx (f ++ t) k' p := by
  obtain ⟨q, j, v, y, h1, h2, h3, h4, h5, h6⟩ := h
  have hp := (List.getElem?_eq_some_iff.mp h4).1
  have hq := (List.getElem?_eq_some_iff.mp h3).1
  refine ⟨q, j, v, y, h1, by omega, by rw [List.getElem?_append_left hq]; exact h3, by rw [List.getElem?_append_left hp]; exact h4, h5, fun q' j' v' x g1 g2 g3 => ?_⟩
  rw [List.getElem?_append_left (by omega)] at g2
  rw [List.take_append_of_le_length (by omega)]
  exact h6 q' j' v' x g1 g2 g3
theorem trGo_par {nx : α → List α} {most : Nat} : ∀ (n k : Nat) (f : List α) (s : Nat), k ≤ f.length → (∀ v ∈ f.take k, ∀ w ∈ nx v, w ∈ f) → (∀ p, s ≤ p → p < f.length → Par nx f k p) → ∀ p, s ≤ p → p < (trGo nx most n k f).length → ∃ K, Par nx (trGo nx most n k f) K p
  | 0, k, f, s, _, _, h, p, h1, h2 => ⟨k, h p h1 h2⟩
  | n + 1, k, f, s, hk, hc, h, p, h1, h2 => by
    by_cases hs : f.length ≤ k ∨ most < f.length
    · rw [tr_stop _ _ _ hs] at h2 ⊢
      exact ⟨k, h p h1 h2⟩
    obtain ⟨v, hv⟩ : ∃ v, f[k]? = some v := ⟨_, List.getElem?_eq_getElem (by omega)⟩
    have hkl := (List.getElem?_eq_some_iff.mp hv).1
    rw [tr_step hv (by omega)] at h2 ⊢
    obtain ⟨t, ht⟩ := addG_pre (nx v) f
    refine trGo_par n (k + 1) _ s (by rw [ht, List.length_append]; omega) (fun u hu w hw => ?_) (fun p g1 g2 => ?_) p h1 h2
    · have e0 : (addG f (nx v)).take (k + 1) = f.take k ++ [v] := by
        rw [ht, List.take_append_of_le_length (by omega), List.take_succ, hv]; rfl
      rw [e0] at hu
      rcases List.mem_append.mp hu with hu | hu
      · rw [ht]; exact List.mem_append_left _ (hc u hu w hw)
      · rw [List.mem_singleton] at hu
        subst hu
        exact mem_addG.mpr (.inr hw)
    · by_cases hp : p < f.length
      · rw [ht]
        exact (h p g1 hp).grow (by omega)
      obtain ⟨y, hy⟩ : ∃ y, (addG f (nx v))[p]? = some y := ⟨_, List.getElem?_eq_getElem g2⟩
      obtain ⟨j, hj, hl⟩ := addG_new (nx v) f p y (by omega) hy
      refine ⟨k, j, v, y, by omega, by omega, by rw [ht, List.getElem?_append_left hkl]; exact hv, hy, hj, fun q' j' v' x c g2 g3 => ?_⟩
      have htake : ∀ k', (addG f ((nx v).take k')).length ≤ p → ∀ x ∈ addG f ((nx v).take k'), x ∈ (addG f (nx v)).take p := fun k' hk' x hx => by
        have e := addG_app ((nx v).take k') ((nx v).drop k') f
        rw [List.take_append_drop] at e
        obtain ⟨t2, ht2⟩ := addG_pre ((nx v).drop k') (addG f ((nx v).take k'))
        rw [e, ht2, List.take_append]
        exact List.mem_append_left _ (by rw [List.take_of_length_le hk']; exact hx)
      refine htake j hl x ?_
      rcases c with c | ⟨c, c2⟩
      · rw [ht, List.getElem?_append_left (by omega)] at g2
        refine mem_addG.mpr (.inl (hc v' ?_ x (List.mem_of_getElem? g3)))
        refine List.mem_of_getElem? (i := q') ?_
        rw [List.getElem?_take_of_lt c]
        exact g2
      · subst c
        rw [ht, List.getElem?_append_left hkl, hv] at g2
        cases g2
        refine mem_addG.mpr (.inr (List.mem_of_getElem? (i := j') ?_))
        rw [List.getElem?_take_of_lt c2]
        exact g3
theorem tr_par {nx : α → List α} {most : Nat} {F : List α} {p : Nat} (h1 : F.length ≤ p) (h2 : p < (tr nx most F).length) : ∃ K, Par nx (tr nx most F) K p :=
  trGo_par (most + 1) 0 F F.length (Nat.zero_le _) (by simp) (fun p g1 g2 => by omega) p h1 h2
end
end Law

namespace Law
open PySem PySem.Spec PyProof.Rows L2 Sim
/-! ### the smallest monitor is one for its meaning -/
theorem idx_take {α : Type} [DecidableEq α] {f : List α} {p : Nat} {x : α} (h : x ∈ f.take p) : f.idxOf x < p := by
  have e : f.idxOf x = (f.take p).idxOf x := by
    have := idx_pre (t := f.drop p) h
    rw [List.take_append_drop] at this
    exact this
  rw [e]
  have := (idxG h).1
  rw [List.length_take] at this
  omega
theorem idx_at {α : Type} [DecidableEq α] {f : List α} (hn : f.Nodup) {p : Nat} {x : α} (h : f[p]? = some x) : f.idxOf x = p := by
  obtain ⟨hp, rfl⟩ := List.getElem?_eq_some_iff.mp h
  exact hn.idxOf_getElem _ hp
section
variable {m s : Mon} {n : Nat} {cl rep : Nat → Nat}
theorem Mon.Ok.sel_mem (h : m.Ok n) {v k : Nat} (hv : v ∈ m.nodes) (hk : k < m.rs.length) : m.sel v k ∈ m.nodes ∧ (m.nx v)[k]? = some (m.sel v k) := by
  obtain ⟨h1, _⟩ := h.row (h.nodes.1 v hv)
  have e : (m.nx v)[k]? = some (m.sel v k) := by
    unfold Mon.sel
    rw [List.getD_eq_getElem?_getD, List.getElem?_eq_getElem (by omega)]; rfl
  exact ⟨h.nodes.2.2.2.2.1 v hv _ (List.mem_of_getElem? e), e⟩
/-- the numbers of the classes come in the order of the search -/
theorem Red.canon (r : Red m s cl rep) (h : m.Ok n) {i : Nat} (hi0 : 0 < i) (hi : i < s.vs.length) : ∃ j k, j < i ∧ k < m.rs.length ∧ s.sel j k = i ∧ ∀ j' k', k' < m.rs.length → (j' < j ∨ (j' = j ∧ k' < k)) → s.sel j' k' < i := by
  obtain ⟨hlt, hnd, _, hf0, hclo, hat0⟩ := h.nodes
  obtain ⟨hr1, hr2, hr3⟩ := r.rep_at i hi
  have hp := idxG hr1
  have hp0 : 0 < m.nodes.idxOf (rep i) := by
    rcases Nat.eq_zero_or_pos (m.nodes.idxOf (rep i)) with e | e
    · have := hp.2
      rw [e, hat0] at this
      have := Option.some.inj this
      rw [← this, r.clf] at hr2
      omega
    · exact e
  obtain ⟨K, q, k, v, y, h1, _, h3, h4, h5, h6⟩ := tr_par (nx := m.nx) (most := m.vs.length) (F := [m.first]) (p := m.nodes.idxOf (rep i)) (by show 1 ≤ _; omega) hp.1
  have h3 : m.nodes[q]? = some v := h3
  have h4 : m.nodes[m.nodes.idxOf (rep i)]? = some y := h4
  have h6 : ∀ (q' j' : Nat) (v' x : Nat), (q' < q ∨ (q' = q ∧ j' < k)) → m.nodes[q']? = some v' → (m.nx v')[j']? = some x → x ∈ m.nodes.take (m.nodes.idxOf (rep i)) := h6
  have hy : y = rep i := by rw [hp.2] at h4; exact (Option.some.inj h4).symm
  subst hy
  have hv := List.mem_of_getElem? h3
  have hqv := idx_at hnd h3
  have hk : k < m.rs.length := by
    have := (List.getElem?_eq_some_iff.mp h5).1
    rw [(h.row (hlt v hv)).1] at this
    exact this
  have hsel : m.sel v k = rep i := by
    have := (h.sel_mem hv hk).2
    rw [h5] at this
    exact (Option.some.inj this).symm
  have hcv := r.lt v hv
  obtain ⟨g1, g2, g3⟩ := r.rep_at (cl v) hcv
  have hjk : s.sel (cl v) k = i := by rw [r.step v hv k hk, hsel, hr2]
  have hcl : ∀ x ∈ m.nodes.take (m.nodes.idxOf (rep i)), cl x < i := fun x hx => r.ord i hi x (List.mem_of_mem_take hx) (idx_take hx)
  have hq : m.nodes.idxOf (rep (cl v)) = q := by
    have := g3 v hv rfl
    rw [hqv] at this
    rcases Nat.lt_or_eq_of_le this with c | c
    · obtain ⟨x1, x2⟩ := h.sel_mem g1 hk
      have hx := hcl _ (h6 _ k _ _ (.inl c) (idxG g1).2 x2)
      rw [← r.step _ g1 k hk, g2, hjk] at hx
      omega
    · exact c
  have hrv : rep (cl v) = v := by
    have := (idxG g1).2
    rw [hq, h3] at this
    exact (Option.some.inj this).symm
  have hji : cl v < i := r.ord i hi v hv (by rw [hqv]; exact h1)
  refine ⟨cl v, k, hji, hk, hjk, fun j' k' hk' c => ?_⟩
  have hj' : j' < s.vs.length := by omega
  obtain ⟨a1, a2, a3⟩ := r.rep_at j' hj'
  obtain ⟨x1, x2⟩ := h.sel_mem a1 hk'
  have : cl (m.sel (rep j') k') < i := by
    refine hcl _ (h6 (m.nodes.idxOf (rep j')) k' _ _ ?_ (idxG a1).2 x2)
    rcases c with c | ⟨c, c2⟩
    · left
      rcases Nat.lt_trichotomy (m.nodes.idxOf (rep j')) q with z | z | z
      · exact z
      · have e : rep j' = rep (cl v) := idx_inj a1 g1 (by rw [z, hq])
        rw [← a2, e, g2] at c
        omega
      · have := r.ord j' hj' _ g1 (by rw [hq]; exact z)
        rw [g2] at this
        omega
    · right
      subst c
      exact ⟨hq, c2⟩
  rw [← r.step _ a1 k' hk', a2] at this
  exact this
/-- classes of one meaning are one -/
theorem Red.sep (r : Red m s cl rep) (h : m.Ok n) {c d : Nat} (hc : c < s.vs.length) (hd : d < s.vs.length) (hs : ∀ us : List Nat, (∀ k ∈ us, k < m.rs.length) → s.say (s.go c us) = s.say (s.go d us)) : c = d := by
  obtain ⟨c1, c2, _⟩ := r.rep_at c hc
  obtain ⟨d1, d2, _⟩ := r.rep_at d hd
  have e := r.coarse (fun v w => ∀ us : List Nat, (∀ k ∈ us, k < m.rs.length) → m.say (m.go v us) = m.say (m.go w us)) ⟨fun a b _ _ E => E [] (by simp), fun a b k _ _ hk E us hus => E (k :: us) (by
    intro j hj
    rcases List.mem_cons.mp hj with rfl | hj
    · exact hk
    · exact hus j hj)⟩ _ c1 _ d1 fun us hus => by
    obtain ⟨g1, g2⟩ := r.go h us _ c1 hus
    obtain ⟨g3, g4⟩ := r.go h us _ d1 hus
    have := hs us hus
    rw [← r.say _ g2, ← r.say _ g4, ← g1, ← g3, c2, d2]
    exact this
  rw [c2, d2] at e
  exact e
theorem Mon.go_app (m : Mon) (v : Nat) (xs ys : List Nat) : m.go v (xs ++ ys) = m.go (m.go v xs) ys := List.foldl_append
end
section
variable {m1 m2 s1 s2 : Mon} {n1 n2 n3 n4 : Nat} {cl1 rep1 cl2 rep2 : Nat → Nat}
def BW (N : Nat) (s1 s2 : Mon) (c d : Nat) : Prop := ∃ ks : List Nat, (∀ k ∈ ks, k < N) ∧ c = s1.go 0 ks ∧ d = s2.go 0 ks
def Alk (N : Nat) (s1 s2 : Mon) : Prop := ∀ ks : List Nat, (∀ k ∈ ks, k < N) → s1.say (s1.go 0 ks) = s2.say (s2.go 0 ks)
theorem BW.step {N : Nat} {c d k : Nat} (h : BW N s1 s2 c d) (hk : k < N) : BW N s1 s2 (s1.sel c k) (s2.sel d k) := by
  obtain ⟨ks, h1, rfl, rfl⟩ := h
  refine ⟨ks ++ [k], fun j hj => ?_, by rw [Mon.go_app]; rfl, by rw [Mon.go_app]; rfl⟩
  rcases List.mem_append.mp hj with hj | hj
  · exact h1 j hj
  · rw [List.mem_singleton] at hj; omega
theorem BW.say {N : Nat} {c d : Nat} (h : BW N s1 s2 c d) (hw : Alk N s1 s2) (us : List Nat) (hu : ∀ k ∈ us, k < N) : s1.say (s1.go c us) = s2.say (s2.go d us) := by
  obtain ⟨ks, h1, rfl, rfl⟩ := h
  rw [← Mon.go_app, ← Mon.go_app]
  refine hw _ fun j hj => ?_
  rcases List.mem_append.mp hj with hj | hj
  · exact h1 j hj
  · exact hu j hj
theorem BW.lt {N : Nat} {c d : Nat} (h : BW N s1 s2 c d) (o1 : s1.Ok n3) (o2 : s2.Ok n4) (f1 : s1.first = 0) (f2 : s2.first = 0) (l1 : s1.rs.length = N) (l2 : s2.rs.length = N) : c < s1.vs.length ∧ d < s2.vs.length := by
  obtain ⟨ks, h1, rfl, rfl⟩ := h
  have g1 := o1.first
  have g2 := o2.first
  rw [f1] at g1
  rw [f2] at g2
  exact ⟨o1.go ks g1 (by rw [l1]; exact h1), o2.go ks g2 (by rw [l2]; exact h1)⟩
theorem same_num (r1 : Red m1 s1 cl1 rep1) (r2 : Red m2 s2 cl2 rep2) (h1 : m1.Ok n1) (h2 : m2.Ok n2) (o1 : s1.Ok n3) (o2 : s2.Ok n4) (hrs : m1.rs = m2.rs) (hw : Alk m1.rs.length s1 s2) : ∀ i, i < s1.vs.length → BW m1.rs.length s1 s2 i i := by
  intro i
  induction i using Nat.strongRecOn with
  | _ i ih =>
    intro hi
    have hl1 : s1.rs.length = m1.rs.length := by rw [r1.rs]
    have hl2 : s2.rs.length = m1.rs.length := by rw [r2.rs, hrs]
    rcases Nat.eq_zero_or_pos i with rfl | hi0
    · exact ⟨[], by simp, rfl, rfl⟩
    obtain ⟨j, k, hj, hk, e, hmin⟩ := r1.canon h1 hi0 hi
    have hB := (ih j hj (by omega)).step hk
    rw [e] at hB
    have hd := (hB.lt o1 o2 r1.first r2.first hl1 hl2).2
    rcases Nat.lt_trichotomy (s2.sel j k) i with c | c | c
    · have hBd := ih _ c (by omega)
      have := r1.sep h1 hi (show s2.sel j k < s1.vs.length by omega) fun us hu => (hB.say hw us hu).trans (hBd.say hw us hu).symm
      omega
    · rw [c] at hB
      exact hB
    · obtain ⟨j2, k2, hj2, hk2, e2, hmin2⟩ := r2.canon h2 hi0 (show i < s2.vs.length by omega)
      rw [← hrs] at hk2 hmin2
      rcases Nat.lt_trichotomy j j2 with z | z | z
      · have := hmin2 j k hk (.inl z); omega
      · subst z
        rcases Nat.lt_trichotomy k k2 with z | z | z
        · have := hmin2 j k hk (.inr ⟨rfl, z⟩); omega
        · subst z; omega
        · have hc := hmin j k2 hk2 (.inr ⟨rfl, z⟩)
          have hB2 := (ih j hj (by omega)).step hk2
          rw [e2] at hB2
          have hBc := ih _ hc (by omega)
          have hlt := (hBc.lt o1 o2 r1.first r2.first hl1 hl2).2
          have := r2.sep h2 hlt (show i < s2.vs.length by omega) fun us hu => by
            rw [← hrs] at hu
            exact (hBc.say hw us hu).symm.trans (hB2.say hw us hu)
          omega
      · have hc := hmin j2 k2 hk2 (.inl z)
        have hB2 := (ih j2 (by omega) (by omega)).step hk2
        rw [e2] at hB2
        have hBc := ih _ hc (by omega)
        have hlt := (hBc.lt o1 o2 r1.first r2.first hl1 hl2).2
        have := r2.sep h2 hlt (show i < s2.vs.length by omega) fun us hu => by
          rw [← hrs] at hu
          exact (hBc.say hw us hu).symm.trans (hB2.say hw us hu)
        omega
theorem Mon.ext_ {a b : Mon} (o1 : a.Ok n3) (o2 : b.Ok n4) (hrs : a.rs = b.rs) (hf : a.first = b.first) (hl : a.vs.length = b.vs.length) (hs : ∀ i, i < a.vs.length → a.say i = b.say i) (hn : ∀ i k, i < a.vs.length → k < a.rs.length → a.sel i k = b.sel i k) : a = b := by
  have hvs : a.vs = b.vs := List.ext_getElem hl fun i h1 h2 => by
    have := hs i h1
    unfold Mon.say at this
    rw [List.getD_eq_getElem?_getD, List.getD_eq_getElem?_getD, List.getElem?_eq_getElem h1, List.getElem?_eq_getElem h2] at this
    exact this
  have hel : a.es.length = b.es.length := by rw [o1.same, o2.same, hl]
  have hes : a.es = b.es := List.ext_getElem hel fun i h1 h2 => by
    have hi : i < a.vs.length := by rw [← o1.same]; exact h1
    have e1 : a.es[i] = a.nx i := by unfold Mon.nx; rw [List.getD_eq_getElem?_getD, List.getElem?_eq_getElem h1]; rfl
    have e2 : b.es[i] = b.nx i := by unfold Mon.nx; rw [List.getD_eq_getElem?_getD, List.getElem?_eq_getElem h2]; rfl
    rw [e1, e2]
    have r1 := (o1.row hi).1
    have r2 := (o2.row (show i < b.vs.length by omega)).1
    refine List.ext_getElem (by rw [r1, r2, hrs]) fun k g1 g2 => ?_
    have := hn i k hi (by omega)
    unfold Mon.sel at this
    rw [List.getD_eq_getElem?_getD, List.getD_eq_getElem?_getD, List.getElem?_eq_getElem g1, List.getElem?_eq_getElem g2] at this
    exact this
  cases a
  cases b
  simp only at hrs hf hvs hes
  subst hrs hf hvs hes
  rfl
theorem red_one (r1 : Red m1 s1 cl1 rep1) (r2 : Red m2 s2 cl2 rep2) (h1 : m1.Ok n1) (h2 : m2.Ok n2) (o1 : s1.Ok n3) (o2 : s2.Ok n4) (hrs : m1.rs = m2.rs) (hw : Alk m1.rs.length s1 s2) : s1 = s2 := by
  have hl1 : s1.rs.length = m1.rs.length := by rw [r1.rs]
  have hl2 : s2.rs.length = m1.rs.length := by rw [r2.rs, hrs]
  have B1 := same_num r1 r2 h1 h2 o1 o2 hrs hw
  have hw2 : Alk m2.rs.length s2 s1 := fun ks hk => (hw ks (by rw [hrs]; exact hk)).symm
  have B2 := same_num r2 r1 h2 h1 o2 o1 hrs.symm hw2
  have c1 : ∀ i, i < s1.vs.length → i < s2.vs.length := fun i hi => ((B1 i hi).lt o1 o2 r1.first r2.first hl1 hl2).2
  have c2 : ∀ i, i < s2.vs.length → i < s1.vs.length := fun i hi => ((B2 i hi).lt o2 o1 r2.first r1.first (by rw [hl2, hrs]) (by rw [hl1, hrs])).2
  have hl : s1.vs.length = s2.vs.length := by
    rcases Nat.lt_trichotomy s1.vs.length s2.vs.length with c | c | c
    · have := c2 _ c; omega
    · exact c
    · have := c1 _ c; omega
  refine Mon.ext_ o1 o2 (by rw [r1.rs, r2.rs, hrs]) (by rw [r1.first, r2.first]) hl (fun i hi => (B1 i hi).say hw [] (by simp)) fun i k hi hk => ?_
  rw [hl1] at hk
  have hB := (B1 i hi).step hk
  obtain ⟨l1, l2⟩ := hB.lt o1 o2 r1.first r2.first hl1 hl2
  have hBc := B1 _ l1
  exact r2.sep h2 (by omega) l2 fun us hu => by
    rw [← hrs] at hu
    exact (hBc.say hw us hu).symm.trans (hB.say hw us hu)
end
end Law

namespace Law
open PySem PySem.Spec PyProof.Rows L2 Sim
/-! ### the levels of telling apart -/
def gS (vs : List Str) (es : List (List Nat)) : Nat → List Nat
  | 0 => grpL vs
  | t + 1 => grpL (keysG es (gS vs es t))
section
variable {vs : List Str} {es : List (List Nat)} {many : Nat}
theorem gS_part (h : Gra vs es many) : ∀ t, Part_ vs es many (gS vs es t)
  | 0 => part_first h
  | t + 1 => part_next h (gS_part h t)
theorem part_few {g : List Nat} (P : Part_ vs es many g) : cntG g ≤ vs.length := by
  have := addG_len g []
  unfold cntG
  rw [P.len] at this
  simpa using this
theorem gS_up (h : Gra vs es many) {a b : Nat} (ha : a < vs.length) (hb : b < vs.length) : ∀ (d t : Nat), (gS vs es (t + d)).getD a 0 = (gS vs es (t + d)).getD b 0 → (gS vs es t).getD a 0 = (gS vs es t).getD b 0
  | 0, _, e => e
  | d + 1, t, e => gS_up h ha hb d t ((finer_eq (g := gS vs es (t + d)) h ha hb).mp e).1
theorem gS_stop (h : Gra vs es many) : ∃ t, t ≤ vs.length ∧ Cls vs es many (gS vs es t) := by
  refine Classical.byContradiction fun z => ?_
  have hgrow : ∀ t, t ≤ vs.length + 1 → t ≤ cntG (gS vs es t) := by
    intro t
    induction t with
    | zero => intro _; exact Nat.zero_le _
    | succ t ih =>
      intro ht
      have h1 := ih (by omega)
      obtain ⟨h2, h3⟩ := finer_cnt h (gS_part h t)
      have hne : cntG (gS vs es t) ≠ cntG (grpL (keysG es (gS vs es t))) := fun e => z ⟨t, by omega, h3 e⟩
      show t + 1 ≤ cntG (grpL (keysG es (gS vs es t)))
      omega
  have h1 := hgrow (vs.length + 1) (Nat.le_refl _)
  have h2 := part_few (gS_part h (vs.length + 1))
  omega
/-- which nodes are told apart -/
structure Apt (vs : List Str) (es : List (List Nat)) (many : Nat) (B : Nat → Nat → Bool) : Prop where
  bis : ∃ E, Bis vs es many E ∧ ∀ a b, a < vs.length → b < vs.length → (B a b = false ↔ E a b)
  most : ∀ E, Bis vs es many E → ∀ a b, a < vs.length → b < vs.length → E a b → B a b = false
  equ : ∃ g : List Nat, Cls vs es many g ∧ ∀ a b, a < vs.length → b < vs.length → (B a b = false ↔ g.getD a 0 = g.getD b 0)
theorem cls_bis {g : List Nat} (h : Gra vs es many) (C : Cls vs es many g) : Bis vs es many fun a b => a < vs.length ∧ b < vs.length ∧ g.getD a 0 = g.getD b 0 :=
  ⟨fun a b ha hb e => C.verd a b ha hb e.2.2, fun a b k ha hb hk e => ⟨h.sel ha hk, h.sel hb hk, C.stable a b k ha hb hk e.2.2⟩⟩
theorem apt_of (h : Gra vs es many) {B : Nat → Nat → Bool} (hs : ∀ E, Bis vs es many E → ∀ a b, a < vs.length → b < vs.length → E a b → B a b = false)
    (hl : ∀ a b, a < vs.length → b < vs.length → B a b = false → (gS vs es vs.length).getD a 0 = (gS vs es vs.length).getD b 0) : Apt vs es many B := by
  obtain ⟨t, ht, C⟩ := gS_stop h
  have hB := cls_bis h C
  have hiff : ∀ a b, a < vs.length → b < vs.length → (B a b = false ↔ (gS vs es t).getD a 0 = (gS vs es t).getD b 0) := fun a b ha hb => by
    refine ⟨fun e => ?_, fun e => hs _ hB a b ha hb ⟨ha, hb, e⟩⟩
    have := hl a b ha hb e
    rw [show vs.length = t + (vs.length - t) by omega] at this
    exact gS_up h ha hb _ t this
  exact ⟨⟨_, hB, fun a b ha hb => (hiff a b ha hb).trans ⟨fun e => ⟨ha, hb, e⟩, fun e => e.2.2⟩⟩, hs, _, C, hiff⟩
end
/-- a square of truth values -/
abbrev sqB (n : Nat) (B : Nat → Nat → Bool) : List (List D) := (List.range n).map fun a => (List.range n).map fun b => D.bl (B a b)
def setB (B : Nat → Nat → Bool) (a b : Nat) : Nat → Nat → Bool := fun x y => if x = a ∧ y = b then true else B x y
theorem sqB_put {n : Nat} {B : Nat → Nat → Bool} {a b : Nat} (ha : a < n) (hb : b < n) : putRows (sqB n B) a b (.bl true) = some (sqB n (setB B a b)) := by
  have hx : ∀ (m k : Nat), k < m → ixN m (k : Int) = some k := fun m k hk => by
    unfold ixN
    rw [if_pos (by omega), if_pos (by omega), Int.toNat_natCast]
  unfold putRows
  rw [List.length_map, List.length_range, hx n a ha]
  simp only
  rw [List.getElem?_map, List.getElem?_range ha]
  simp only [Option.map_some]
  rw [List.length_map, List.length_range, hx n b hb]
  simp only
  have hrow : ((List.range n).map fun j => D.bl (B a j)).set b (.bl true) = (List.range n).map fun j => D.bl (setB B a b a j) := by
    apply List.ext_getElem
    · simp
    · intro j g1 g2
      rw [List.length_set, List.length_map, List.length_range] at g1
      rw [List.getElem_set, List.getElem_map, List.getElem_map, List.getElem_range]
      unfold setB
      split
      · rename_i e; subst e; simp
      · rename_i e; rw [if_neg (fun z => e z.2.symm)]
  rw [hrow]
  congr 1
  apply List.ext_getElem
  · simp
  · intro i h1 h2
    rw [List.length_set, List.length_map, List.length_range] at h1
    have e2 : (sqB n (setB B a b))[i] = (List.range n).map fun j => D.bl (setB B a b i j) := by
      rw [List.getElem_map, List.getElem_range]
    rw [e2, List.getElem_set, List.getElem_map, List.getElem_range]
    split
    · rename_i e
      subst e
      rfl
    · rename_i e
      refine List.map_congr_left fun j _ => ?_
      unfold setB
      rw [if_neg (fun z => e z.1.symm)]
end Law

namespace Law
open PySem PySem.Spec PyProof.Rows L2 Sim
/-! ### more of smallest monitors -/
section
variable {m s s1 s2 : Mon} {n n1 n2 : Nat} {cl rep cl1 rep1 cl2 rep2 : Nat → Nat}
theorem Red.word (r : Red m s cl rep) (h : m.Ok n) (ks : List Nat) (hk : ∀ k ∈ ks, k < m.rs.length) : s.say (s.go 0 ks) = m.say (m.go m.first ks) := by
  obtain ⟨g1, g2⟩ := r.go h ks _ h.nodes.2.2.2.1 hk
  rw [r.clf] at g1
  rw [g1, r.say _ g2]
theorem red_same (r1 : Red m s1 cl1 rep1) (r2 : Red m s2 cl2 rep2) (h : m.Ok n) (o1 : s1.Ok n1) (o2 : s2.Ok n2) : s1 = s2 :=
  red_one r1 r2 h h o1 o2 rfl fun ks hk => (r1.word h ks hk).trans (r2.word h ks hk).symm
/-- the smallest monitor of a smallest monitor is itself -/
theorem red_again (r : Red m s cl rep) (r2 : Red s s2 cl2 rep2) (h : m.Ok n) (o : s.Ok n1) (o2 : s2.Ok n2) : s2 = s :=
  red_one r2 r o h o2 o r.rs fun ks hk => by
    rw [r2.word o ks hk, r.first]
theorem Red.all (r : Red m s cl rep) (h : m.Ok n) (o : s.Ok n1) : s.nodes.length = s.vs.length := by
  obtain ⟨hlt, hnd, hnl, hf0, hclo, _⟩ := o.nodes
  have hin : ∀ w ∈ m.nodes, cl w ∈ s.nodes := by
    have := tr_all (nx := m.nx) (most := m.vs.length) (p := fun w => w ∈ m.nodes ∧ cl w ∈ s.nodes) (fun w hw u hu => by
      refine ⟨h.nodes.2.2.2.2.1 w hw.1 u hu, hclo (cl w) hw.2 (cl u) ?_⟩
      obtain ⟨k, hk, rfl⟩ := List.getElem_of_mem hu
      have hk' : k < m.rs.length := by rw [← (h.row (h.nodes.1 w hw.1)).1]; exact hk
      have hs := r.step w hw.1 k hk'
      have e1 : m.sel w k = (m.nx w)[k] := by unfold Mon.sel; rw [List.getD_eq_getElem?_getD, List.getElem?_eq_getElem hk]; rfl
      rw [e1] at hs
      rw [← hs]
      have := (o.sel_mem hw.2 (k := k) (by rw [r.rs]; exact hk')).2
      exact List.mem_of_getElem? this) (F := [m.first]) (fun w hw => by
      rw [List.mem_singleton] at hw
      rw [hw]
      refine ⟨h.nodes.2.2.2.1, ?_⟩
      rw [r.clf, ← r.first]
      exact hf0) (by simp)
    exact fun w hw => (this.1 w hw).2
  have h1 := nodup_few hnd hlt
  have h2 := lenG_sub (ys := s.nodes) (xs := List.range s.vs.length) List.nodup_range fun c hc => by
    obtain ⟨c1, c2, _⟩ := r.rep_at c (List.mem_range.mp hc)
    rw [← c2]
    exact hin _ c1
  rw [List.length_range] at h2
  omega
/-- its nodes are told apart -/
theorem Red.apart (r : Red m s cl rep) (h : m.Ok n) {B : Nat → Nat → Bool} (A : Apt s.vs s.es s.rs.length B) (o : s.Ok n1) {a b : Nat} (ha : a < s.vs.length) (hb : b < s.vs.length) (hne : a ≠ b) : B a b = true := by
  cases hB : B a b with
  | true => rfl
  | false =>
    obtain ⟨E, hE, hEB⟩ := A.bis
    have hab := (hEB a b ha hb).mp hB
    refine absurd (r.sep h ha hb fun us hus => ?_) hne
    have key : ∀ (us : List Nat) (x y : Nat), x < s.vs.length → y < s.vs.length → E x y → (∀ k ∈ us, k < s.rs.length) → s.say (s.go x us) = s.say (s.go y us) := by
      intro us
      induction us with
      | nil => intro x y hx hy e _; exact hE.verd x y hx hy e
      | cons k us ih =>
        intro x y hx hy e hk
        have hk0 := hk k (.head _)
        exact ih _ _ (o.sel hx hk0) (o.sel hy hk0) (hE.step x y k hx hy hk0 e) fun j hj => hk j (.tail _ hj)
    exact key us a b ha hb hab fun k hk => by rw [r.rs]; exact hus k hk
end
end Law

namespace Law
open PySem PySem.Spec PyProof.Rows L2 Sim
local macro_rules | `(tactic| simp! only [$args,*] $[$l:location]?) => `(tactic| simp only [Z0, Z1, Z2, Z3, Z4, Z5, Z6, Z7, Z8, Z9, Z10, Z11, Z12, Z13, Z14, Z15, Z16, Z17, Z18, Z19, Z20, Z21, Z22, Z23, Z24, Z25, Z26, Z27, Z28, Z29, Z30, Z31, Z32, Z33, Z34, Z35, Z36, Z37, Z38, Z39, Z40, Z41, Z42, Z43, Z44, Z45, Z46, Z47, Z48, Z49, Z50, Z51, Z52, Z53, Z54, Z55, Z56, Z57, Z58, Z59, Z60, Z61, Z62, Z63, Z64, Z65, Z66, Z67, Z68, Z69, Z70, Z71, Z72, Z73, Z74, Sim.wipeR, Z75, Z76, Z77, Z78, Z79, Z80, Z81, Z82, Z83, Z84, Z85, Z86, Z87, Z88, Z89, Z90, Z91, Z92, Z93, Z94, Z95, Z96, Z97, Z98, Z99, Z100, Z101, Z102, Z103, Z104, Z105, Z106, Z107, Z108, Z109, Z110, Z111, Z112, Z113, Z114, Z115, Z116, Z117, Z118, Z119, Z120, Z121, Z122, Z123, Z124, Z125, Z126, Z127, Z128, Z129, Z130, Z131, Z132, Z133, Z134, Z135, Z136, Z137, Z138, Z139, Z140, Z141, Z142, Z143, Z144, Z145, Z146, Z147, Z148, Z149, Z150, Z151, Z152, Z153, Z154, Z155, Z156, Z157, Z158, Sim.T_sliceO, Sim.sliceO_lst, Sim.T_sliceS, Sim.EndX_nxt, Sim.EndX_ret, Sim.EndX_exc, Sim.rq_ok, Sim.rq_ex, Sim.T_callX, Sim.T_okM, Sim.T_setX, Sim.T_setXV, Sim.T_retX, Sim.T_dropX, Sim.T_raise0, Sim.T_raise1, Sim.T_try, Sim.TryQ_nxt, Sim.TryQ_ret, Sim.TryQ_brk, Sim.TryQ_cnt, Sim.TryQ_exc, Sim.SeqQ_exc, Sim.LoopQ_exc, Sim.BehQ_nxt, Sim.BehQ_ret, Sim.T_tryA, Sim.TryAQ_nxt, Sim.TryAQ_ret, Sim.TryAQ_exc, Sim.T_fld, Sim.T_compO, T_okX, Sim.T_nilX, Sim.T_consX, Sim.T_callFX, Sim.T_callXX, Sim.T_callBX, Sim.XQ_ok, Sim.XQ_ex, Sim.AQ_ok, Sim.AQ_ex, Sim.cap, Z159, Z160, Nat.zero_le, Z161, Z162, Z163, Z164, Z165, Z166, Z167, Z168, Z169, Z170, Z171, Z172, Z173, Z174, Z175, Z176, Z177, List.getElem?_cons_zero, List.getElem?_cons_succ, List.set_cons_zero, List.set_cons_succ, List.map_cons, List.map_nil, List.cons_append, List.nil_append, Option.map_some, List.length_cons, List.length_nil, Int.zero_add, Nat.zero_add, Nat.reduceAdd, Nat.reduceLeDiff, Nat.reduceMul, true_and, and_true, decide_eq_true_eq, decide_eq_false_iff_not, Bool.false_eq_true, Bool.true_eq_false, false_implies, true_implies, implies_true, eq_self, decide_true, decide_false, not_true_eq_false, not_false_eq_true, Bool.not_true, Bool.not_false, Int.reduceLT, Int.reduceLE, Int.reduceNeg, Int.reducePow, Int.reduceToNat, $args,*] $[$l:location]?)
/-! ### separators -/
def nxS (s : Mon) : Nat × Nat → Nat → Nat × Nat := fun p k => (s.sel p.1 k, s.sel p.2 k)
def stopS (s : Mon) (p : Nat × Nat) : Bool := decide (s.say p.1 ≠ s.say p.2)
abbrev pS (s : Mon) (p : Nat × Nat) : Prop := p.1 < s.vs.length ∧ p.2 < s.vs.length
def allS (s : Mon) : List (Nat × Nat) := (List.range s.vs.length).flatMap fun a => (List.range s.vs.length).map fun b => (a, b)
theorem allS_len (s : Mon) : (allS s).length = s.vs.length * s.vs.length := by
  unfold allS
  rw [List.length_flatMap]
  simp only [List.length_map, List.length_range, List.map_const', List.sum_replicate_nat]
theorem mem_allS {s : Mon} (p : Nat × Nat) (h : pS s p) : p ∈ allS s := List.mem_flatMap.mpr ⟨p.1, List.mem_range.mpr h.1, List.mem_map.mpr ⟨p.2, List.mem_range.mpr h.2, rfl⟩⟩
noncomputable def sepR (s : Mon) (a b : Nat) : Option (List Nat) := (lbGo (nxS s) s.rs.length (stopS s) (s.vs.length * s.vs.length) 0 [((a, b), [])]).2
def oRow : Option (List Nat) → D
  | none => .non
  | some r => rowT r
section
variable {s : Mon} {n : Nat}
theorem nxS_in (o : s.Ok n) : ∀ v, pS s v → ∀ k, k < s.rs.length → pS s (nxS s v k) := fun v h k hk => ⟨o.sel h.1 hk, o.sel h.2 hk⟩
theorem lbS (o : s.Ok n) {a b : Nat} (ha : a < s.vs.length) (hb : b < s.vs.length) : LbOk (nxS s) s.rs.length (a, b) (pS s) [((a, b), [])] := ⟨by simp, fun q hq => by rw [List.mem_singleton] at hq; subst hq; exact ⟨⟨ha, hb⟩, by simp, rfl⟩⟩
theorem sep_ok {R : Fs} (o : s.Ok n) (hn : n ≤ 100) (hr : s.rs.length ≤ 100) {a b : Nat} (ha : a < s.vs.length) (hb : b < s.vs.length) :
    FT (defF 8 [] (b_separator R)) [s.enc, .int a, .int b] fun d fs => fs = [] ∧ d = oRow (sepR s a b) := by
  refine FT_def ?_
  have hfew := o.few
  have hall := allS_len s
  have hsq : s.vs.length * s.vs.length ≤ 10000 := Nat.mul_le_mul (Nat.le_trans hfew hn) (Nat.le_trans hfew hn)
  obtain ⟨sD, hsD⟩ : ∃ sD, s.enc = sD := ⟨_, rfl⟩
  have s0 : ixDD sD (.int 0) = some (.tup (s.rs.map RD)) := by rw [← hsD]; rfl
  have s2 : ixDD sD (.int 2) = some (.tup (s.vs.map .str)) := by rw [← hsD]; rfl
  have s3 : ixDD sD (.int 3) = some (.tup (s.es.map fun r => D.tup (r.map fun (x : Nat) => .int x))) := by rw [← hsD]; rfl
  rw [hsD]
  simp! only [b_separator]
  refine ⟨pKeys.ok (a, b), ?_⟩
  obtain ⟨L, hL⟩ : ∃ L, L = s.vs.length * s.vs.length := ⟨_, rfl⟩
  refine T_while (fun z ρ => ∃ (i : Nat) (Z : LZ (Nat × Nat)) (o7 o8 o9 o10 : Option D), ρ = [some sD, some (.int a), some (.int b), some (.lst .own ((Z.map Prod.fst).map pE)), some (setD pE (Z.map Prod.fst)), some (.lst .own ((Z.map Prod.snd).map rowT)), some (.int i), o7, o8, o9, o10] ∧ LbOk (nxS s) s.rs.length (a, b) (pS s) Z ∧ i ≤ Z.length ∧
    (lbGo (nxS s) s.rs.length (stopS s) (L - i) i Z).2 = sepR s a b ∧ (∀ q ∈ Z, q.2.length ≤ i) ∧ z = L + 1 - i) ?_ wf (L + 1) _ (by unfold wf; omega) ⟨0, [((a, b), [])], _, _, _, _, rfl, lbS o ha hb, Nat.zero_le _, by rw [hL]; rfl, by simp, rfl⟩
  rintro z ρ ⟨i, Z, o7, o8, o9, o10, rfl, hZ, hi, hgo, hrl, rfl⟩
  have hZf := hZ.few mem_allS
  simp! only [List.length_map]
  refine ⟨fun hig => ?_, fun hig => ?_⟩
  · rw [lb_end _ _ _ (by omega)] at hgo
    rw [← hgo]
    first | exact ⟨rfl, rfl⟩ | rfl
  have hil : i < Z.length := by omega
  clear hig
  obtain ⟨q, hq⟩ : ∃ q, Z[i]? = some q := ⟨_, List.getElem?_eq_getElem hil⟩
  have hqm := List.mem_of_getElem? hq
  obtain ⟨hqp, hqk, _⟩ := hZ.good q hqm
  have hql := hrl q hqm
  have hgp : ((Z.map Prod.fst).map pE)[i]? = some (pE q.1) := by rw [List.getElem?_map, List.getElem?_map, hq]; rfl
  have hgr : ((Z.map Prod.snd).map rowT)[i]? = some (rowT q.2) := by rw [List.getElem?_map, List.getElem?_map, hq]; rfl
  have hLi : L - i = (L - (i + 1)) + 1 := by omega
  rw [hLi] at hgo
  simp! only [hgp]
  refine T_iteTo (fun b => b = stopS s q.1) ?_ (fun c => ?_) (fun c => ?_)
  · simp! only [s2, Mon.verd hqp.1, Mon.verd hqp.2, stopS]
    first
      | done
      | rfl
      | (simp; done)
      | trace_state
  · rw [lb_hit hq c.symm] at hgo
    simp! only [hgr]
    rw [← hgo]
    first | exact ⟨rfl, rfl⟩ | rfl
  rw [lb_go hq c.symm] at hgo
  simp! only [s0, List.length_map]
  refine ⟨by omega, ?_⟩
  rw [Int.toNat_natCast]
  refine T_goR (fun j ρ => ∃ (o9 o10 : Option D), ρ = [some sD, some (.int a), some (.int b), some (.lst .own (((exF (nxS s) q.1 q.2 Z j).map Prod.fst).map pE)), some (setD pE ((exF (nxS s) q.1 q.2 Z j).map Prod.fst)), some (.lst .own (((exF (nxS s) q.1 q.2 Z j).map Prod.snd).map rowT)), some (.int i), some (.int q.1.1), some (.int q.1.2), o9, o10]) ⟨_, _, rfl⟩ ?_ ?_
  · rintro j ρ hj ⟨o9, o10, rfl⟩
    have ej : (0 : Int) + (j : Int) = (j : Int) := by omega
    rw [ej]
    have hH := hZ.exF hqm (nxS_in o) j (by omega)
    have hHf := hH.few mem_allS
    have hes := exF_succ (nxS s) q.1 q.2 Z j
    obtain ⟨t, ht⟩ := exF_pre (nxS s) q.1 q.2 Z j
    have hq' : (exF (nxS s) q.1 q.2 Z j)[i]? = some q := by rw [ht, List.getElem?_append_left hil]; exact hq
    have hgr' : (((exF (nxS s) q.1 q.2 Z j).map Prod.snd).map rowT)[i]? = some (rowT q.2) := by rw [List.getElem?_map, List.getElem?_map, hq']; rfl
    have hg1 := nats_at (xs := s.nx q.1.1) (k := j) (by rw [(o.row hqp.1).1]; exact hj)
    have hg2 := nats_at (xs := s.nx q.1.2) (k := j) (by rw [(o.row hqp.2).1]; exact hj)
    obtain ⟨x, hx⟩ : ∃ x, x = nxS s q.1 j := ⟨_, rfl⟩
    have hxe : D.tup [.int ((s.nx q.1.1).getD j 0), .int ((s.nx q.1.2).getD j 0)] = pE x := by rw [hx]; rfl
    rw [exK, ← hx] at hes
    generalize exF (nxS s) q.1 q.2 Z j = H at *
    simp! only [s3, o.at hqp.1, o.at hqp.2, hg1, hg2]
    rw [hxe]
    refine T_iteTo (fun b => b = !decide (x ∈ H.map Prod.fst)) ?_ (fun c => ?_) (fun c => ?_)
    · simp! only [pKeys.ok, pKeys.sort1, pKeys.look x (H.map Prod.fst) ((H.map Prod.fst).map fun _ => D.bl true) (by simp)]
      first
        | done
        | rfl
        | exact congrArg _ (decide_eq_decide.mpr Iff.rfl)
    · have c : x ∉ H.map Prod.fst := by simpa using c
      rw [if_neg c] at hes
      have hml : (H.map Prod.fst).length = H.length := List.length_map _
      simp! only []
      refine ⟨_, pKeys.put c (by omega), ?_⟩
      simp! only [hgr', List.length_map]
      refine ⟨by omega, by first | omega | (rw [List.length_map]; omega), by omega, some (.int j), some (pE x), ?_⟩
      rw [hes, List.map_append, List.map_append, List.map_append, List.map_append]
      have e3 : natsD q.2 ++ [D.int j] = natsD (q.2 ++ [j]) := (nats_snoc q.2 j).symm
      rw [e3]
      rfl
    · have c : x ∈ H.map Prod.fst := by simpa using c
      rw [if_pos c] at hes
      simp! only []
      exact ⟨some (.int j), some (pE x), by rw [hes]⟩
  · rintro ρ ⟨o9, o10, rfl⟩
    have hH := hZ.exF hqm (nxS_in o) s.rs.length (Nat.le_refl _)
    obtain ⟨t, ht⟩ := exF_pre (nxS s) q.1 q.2 Z s.rs.length
    have hlen : i + 1 ≤ (exF (nxS s) q.1 q.2 Z s.rs.length).length := by rw [ht, List.length_append]; omega
    simp! only []
    refine ⟨L + 1 - (i + 1), by omega, i + 1, exF (nxS s) q.1 q.2 Z s.rs.length, _, _, _, _, by first | rfl | simp, hH, hlen, hgo, ?_, rfl⟩
    have key : ∀ j, ∀ r ∈ exF (nxS s) q.1 q.2 Z j, r.2.length ≤ i + 1 := by
      intro j
      induction j with
      | zero => intro r hr; have := hrl r hr; omega
      | succ j ih =>
        intro r hr
        rw [exF_succ] at hr
        unfold exK at hr
        split at hr
        · exact ih r hr
        · rcases List.mem_append.mp hr with hr | hr
          · exact ih r hr
          · rw [List.mem_singleton] at hr
            subst hr
            show (q.2 ++ [j]).length ≤ i + 1
            rw [List.length_append, List.length_singleton]; omega
    exact key s.rs.length
end
end Law

namespace Law
open PySem PySem.Spec PyProof.Rows L2 Sim
/-! ### membership and equality by value -/
section
variable {α : Type} [DecidableEq α] {enc : α → D}
theorem in_enc (he : ∀ a b, Sim.eqv (enc a) (enc b) = decide (a = b)) (x : α) (m : Md) (xs : List α) (hx : Dat 20 (enc x)) (h : ∀ y ∈ xs, Dat 20 (enc y)) : inX (enc x) (.lst m (xs.map enc)) = some (decide (x ∈ xs)) := by
  rw [in_dat _ _ _ hx fun d hd => by
    obtain ⟨v, hv, rfl⟩ := List.mem_map.mp hd
    exact h v hv]
  congr 1
  rw [List.any_map]
  clear h
  induction xs with
  | nil => simp
  | cons v xs ih =>
    rw [List.any_cons, ih]
    show (Sim.eqv _ _ || _) = _
    rw [he]
    by_cases hv : v = x
    · subst hv; simp
    · have hv' : ¬ x = v := fun z => hv z.symm
      simp [hv, hv']
theorem eqB_enc (he : ∀ a b, Sim.eqv (enc a) (enc b) = decide (a = b)) {x y : α} (hx : Dat 20 (enc x)) (hy : Dat 20 (enc y)) : eqB (enc x) (enc y) = some (decide (x = y)) := by
  rw [eqB_data _ _ hx.laid hy.laid (Nat.le_trans hx.rank (by omega)) (Nat.le_trans hy.rank (by omega)), he]
theorem eqvs_enc (he : ∀ a b, Sim.eqv (enc a) (enc b) = decide (a = b)) : ∀ xs ys : List α, Sim.eqvs (xs.map enc) (ys.map enc) = decide (xs = ys)
  | [], [] => rfl
  | [], _ :: _ => rfl
  | _ :: _, [] => rfl
  | x :: xs, y :: ys => by
    rw [List.map_cons, List.map_cons, Sim.eqvs, eqvs_enc he xs ys, he]
    by_cases h : x = y
    · subst h; simp
    · simp [h]
end
theorem eqv_oI (a b : Option Int) : Sim.eqv (oI a) (oI b) = decide (a = b) := by
  cases a with
  | none => cases b <;> rfl
  | some i =>
    cases b with
    | none => rfl
    | some j =>
      show (i == j) = _
      by_cases h : i = j
      · subst h; simp
      · simp [h]
theorem eqv_RD (a b : List (Option Int)) : Sim.eqv (RD a) (RD b) = decide (a = b) := by
  show Sim.eqvs _ _ = _
  exact eqvs_enc eqv_oI a b
theorem eqv_natD (a b : Nat) : Sim.eqv (.int (a : Int)) (.int (b : Int)) = decide (a = b) := by
  show ((a : Int) == (b : Int)) = _
  by_cases h : a = b
  · subst h; simp
  · have h' : ¬ (a : Int) = b := fun z => h (by omega)
    simp [h, h']
theorem first_filter {n j : Nat} {p : Nat → Bool} (hj : j < n) (h1 : p j = true) (h2 : ∀ i, i < j → p i = false) : ((List.range n).filter p)[0]? = some j := by
  rw [← List.head?_eq_getElem?, List.head?_filter, List.find?_range_eq_some]
  exact ⟨h1, List.mem_range.mpr hj, fun i hi => by rw [h2 i hi]; rfl⟩
end Law

namespace Law
open PySem PySem.Spec PyProof.Rows L2 Sim
theorem eqv_pE (a b : Nat × Nat) : Sim.eqv (pE a) (pE b) = decide (a = b) := by
  show (((a.1 : Int) == (b.1 : Int)) && (((a.2 : Int) == (b.2 : Int)) && true)) = _
  rw [Bool.and_true]
  by_cases h : a = b
  · subst h; simp
  · rw [decide_eq_false h, Bool.and_eq_false_iff]
    rcases Nat.decEq a.1 b.1 with h1 | h1
    · left
      have : ¬ (a.1 : Int) = (b.1 : Int) := fun z => h1 (by omega)
      simp [this]
    · right
      have : ¬ (a.2 : Int) = (b.2 : Int) := fun z => h (Prod.ext h1 (by omega))
      simp [this]
theorem dat_pE (p : Nat × Nat) : Dat 20 (pE p) := .tup (n := 19) (fun d hd => by
  simp only [List.mem_cons, List.not_mem_nil, or_false] at hd
  rcases hd with rfl | rfl <;> exact .int _ _) (by show 2 ≤ 1000000; omega)
abbrev tE (q : (Nat × Nat) × List Nat) : D := .tup [.int q.1.1, .int q.1.2, rowT q.2]
theorem sq_le {a : Nat} (h : a ≤ 100) : a * a ≤ 10000 := Nat.mul_le_mul h h
end Law

namespace Law
open PySem PySem.Spec PyProof.Rows L2 Sim
section
variable {α : Type} [DecidableEq α] {nx : α → Nat → α} {N : Nat} {stop : α → Bool} {v0 : α} {p : α → Prop}
theorem lb_row (hp : ∀ v, p v → ∀ k, k < N → p (nx v k)) : ∀ (n i : Nat) (Z : LZ α) (row : List Nat), LbOk nx N v0 p Z → (∀ q ∈ Z, q.2.length ≤ i) → (lbGo nx N stop n i Z).2 = some row → row.length ≤ n + i ∧ ∀ k ∈ row, k < N
  | 0, i, Z, row, _, _, e => by cases e
  | n + 1, i, Z, row, h, hl, e => by
    cases ez : Z[i]? with
    | none =>
      rw [lb_end _ _ _ (List.getElem?_eq_none_iff.mp ez)] at e
      cases e
    | some q =>
      have hq := List.mem_of_getElem? ez
      cases hs : stop q.1 with
      | true =>
        rw [lb_hit ez hs] at e
        cases e
        exact ⟨by have := hl q hq; omega, (h.good q hq).2.1⟩
      | false =>
        rw [lb_go ez hs] at e
        obtain ⟨h1, h2⟩ := lb_row hp n (i + 1) _ row (h.exF hq hp N (Nat.le_refl _)) (exF_short hl (hl q hq) N) e
        exact ⟨by omega, h2⟩
theorem exF_all (v : α) (row : List Nat) (Z : LZ α) : ∀ n, ∀ k, k < n → nx v k ∈ (exF nx v row Z n).map Prod.fst
  | 0, k, hk => absurd hk (Nat.not_lt_zero _)
  | n + 1, k, hk => by
    rw [exF_succ]
    obtain ⟨t, ht⟩ := exK_pre nx v row (exF nx v row Z n) n
    by_cases h : k < n
    · rw [ht, List.map_append]
      exact List.mem_append_left _ (exF_all v row Z n k h)
    · have : k = n := by omega
      subst this
      unfold exK
      split
      · assumption
      · rw [List.map_append]; simp
/-- no row: the keys found are closed, and none stops -/
theorem lb_none {all : List α} (ha : ∀ v, p v → v ∈ all) (hp : ∀ v, p v → ∀ k, k < N → p (nx v k)) : ∀ (n i : Nat) (Z : LZ α), LbOk nx N v0 p Z → all.length ≤ n + i → (∀ q ∈ Z.take i, stop q.1 = false ∧ ∀ k, k < N → nx q.1 k ∈ Z.map Prod.fst) → (lbGo nx N stop n i Z).2 = none →
    ∃ Z', (∃ t, Z' = Z ++ t) ∧ ∀ v ∈ Z'.map Prod.fst, stop v = false ∧ ∀ k, k < N → nx v k ∈ Z'.map Prod.fst
  | 0, i, Z, h, hl, hc, _ => by
    have := h.few ha
    rw [List.take_of_length_le (by omega)] at hc
    exact ⟨Z, ⟨[], (List.append_nil _).symm⟩, fun v hv => by
      obtain ⟨q, hq, rfl⟩ := List.mem_map.mp hv
      exact hc q hq⟩
  | n + 1, i, Z, h, hl, hc, e => by
    cases ez : Z[i]? with
    | none =>
      rw [List.take_of_length_le (List.getElem?_eq_none_iff.mp ez)] at hc
      exact ⟨Z, ⟨[], (List.append_nil _).symm⟩, fun v hv => by
        obtain ⟨q, hq, rfl⟩ := List.mem_map.mp hv
        exact hc q hq⟩
    | some q =>
      have hq := List.mem_of_getElem? ez
      cases hs : stop q.1 with
      | true => rw [lb_hit ez hs] at e; cases e
      | false =>
        rw [lb_go ez hs] at e
        have hil := (List.getElem?_eq_some_iff.mp ez).1
        obtain ⟨t, ht⟩ := exF_pre nx q.1 q.2 Z N
        obtain ⟨Z', ⟨u, hu⟩, h2⟩ := lb_none ha hp n (i + 1) _ (h.exF hq hp N (Nat.le_refl _)) (by omega) (fun r hr => by
          have e0 : (exF nx q.1 q.2 Z N).take (i + 1) = Z.take i ++ [q] := by
            rw [ht, List.take_append_of_le_length (by omega), List.take_succ, ez]; rfl
          rw [e0] at hr
          rcases List.mem_append.mp hr with hr | hr
          · obtain ⟨a, b⟩ := hc r hr
            exact ⟨a, fun k hk => by rw [ht, List.map_append]; exact List.mem_append_left _ (b k hk)⟩
          · rw [List.mem_singleton] at hr
            subst hr
            exact ⟨hs, fun k hk => exF_all _ _ _ N k hk⟩) e
        exact ⟨Z', ⟨t ++ u, by rw [hu, ht, List.append_assoc]⟩, h2⟩
end
section
variable {m s : Mon} {n n1 : Nat} {cl rep : Nat → Nat}
theorem sep_some (r : Red m s cl rep) (h : m.Ok n) (o : s.Ok n1) {a b : Nat} (ha : a < s.vs.length) (hb : b < s.vs.length) (hne : a ≠ b) : ∃ row, sepR s a b = some row ∧ row.length ≤ s.vs.length * s.vs.length ∧ ∀ k ∈ row, k < s.rs.length := by
  cases e : sepR s a b with
  | some row =>
    obtain ⟨h1, h2⟩ := lb_row (nxS_in o) (s.vs.length * s.vs.length) 0 [((a, b), [])] row (lbS o ha hb) (by simp) e
    exact ⟨row, rfl, by omega, h2⟩
  | none =>
    obtain ⟨Z', ⟨t, ht⟩, hc⟩ := lb_none mem_allS (nxS_in o) (s.vs.length * s.vs.length) 0 [((a, b), [])] (lbS o ha hb) (by rw [allS_len]; omega) (by simp) e
    refine absurd (r.sep h ha hb fun us hus => ?_) hne
    have key : ∀ (us : List Nat) (v : Nat × Nat), v ∈ Z'.map Prod.fst → (∀ k ∈ us, k < s.rs.length) → s.say (s.go v.1 us) = s.say (s.go v.2 us) := by
      intro us
      induction us with
      | nil =>
        intro v hv _
        have := (hc v hv).1
        exact Classical.byContradiction fun z => by
          unfold stopS at this
          have z : s.say v.1 ≠ s.say v.2 := z
          rw [decide_eq_true z] at this
          cases this
      | cons k us ih =>
        intro v hv hk
        exact ih _ ((hc v hv).2 k (hk k (.head _))) fun j hj => hk j (.tail _ hj)
    exact key us (a, b) (by rw [ht]; simp) fun k hk => by rw [r.rs]; exact hus k hk
end
end Law

namespace Law
open PySem PySem.Spec PyProof.Rows L2 Sim
/-! ### the first node of each class -/
theorem snocInd {motive : List Nat → Prop} (nil : motive []) (snoc : ∀ (l : List Nat) (v : Nat), motive l → motive (l ++ [v])) (l : List Nat) : motive l := by
  have : ∀ r : List Nat, motive r.reverse := fun r => by
    induction r with
    | nil => exact nil
    | cons v r ih => rw [List.reverse_cons]; exact snoc _ v ih
  have := this l.reverse
  rwa [List.reverse_reverse] at this
section
variable (g : Nat → Nat)
def kpS (acc : List Nat) (v : Nat) : List Nat := if g v ∈ acc.map g then acc else acc ++ [v]
def kpF (l : List Nat) : List Nat := l.foldl (kpS g) []
theorem kpF_snoc (l : List Nat) (v : Nat) : kpF g (l ++ [v]) = kpS g (kpF g l) v := by
  unfold kpF
  rw [List.foldl_append]
  rfl
theorem kpS_pre (acc : List Nat) (v : Nat) : ∃ t, kpS g acc v = acc ++ t := by
  unfold kpS
  split
  · exact ⟨[], (List.append_nil _).symm⟩
  · exact ⟨[v], rfl⟩
theorem kpF_pre (l : List Nat) : ∀ r : List Nat, ∃ t, kpF g (l ++ r) = kpF g l ++ t := by
  intro r
  induction r using snocInd with
  | nil => exact ⟨[], by simp⟩
  | snoc r v ih =>
    obtain ⟨t, e⟩ := ih
    rw [← List.append_assoc, kpF_snoc, e]
    obtain ⟨u, e2⟩ := kpS_pre g (kpF g l ++ t) v
    exact ⟨t ++ u, by rw [e2, List.append_assoc]⟩
theorem kpF_mem (l : List Nat) : ∀ v ∈ kpF g l, v ∈ l := by
  induction l using snocInd with
  | nil => intro v h; cases h
  | snoc l v ih =>
    intro u hu
    rw [kpF_snoc] at hu
    unfold kpS at hu
    split at hu
    · exact List.mem_append_left _ (ih u hu)
    · rcases List.mem_append.mp hu with hu | hu
      · exact List.mem_append_left _ (ih u hu)
      · exact List.mem_append_right _ hu
theorem kpF_all (l : List Nat) : ∀ v ∈ l, g v ∈ (kpF g l).map g := by
  induction l using snocInd with
  | nil => intro v h; cases h
  | snoc l v ih =>
    intro u hu
    rw [kpF_snoc]
    obtain ⟨t, e⟩ := kpS_pre g (kpF g l) v
    rcases List.mem_append.mp hu with hu | hu
    · rw [e, List.map_append]
      exact List.mem_append_left _ (ih u hu)
    · rw [List.mem_singleton] at hu
      subst hu
      unfold kpS
      split
      · assumption
      · simp
theorem kpF_nodup (l : List Nat) : ((kpF g l).map g).Nodup := by
  induction l using snocInd with
  | nil => exact List.nodup_nil
  | snoc l v ih =>
    rw [kpF_snoc]
    unfold kpS
    split
    · exact ih
    · rename_i h
      rw [List.map_append, List.nodup_append]
      exact ⟨ih, by simp, fun a ha b hb e => by rw [List.map_singleton, List.mem_singleton] at hb; subst hb; subst e; exact h ha⟩
theorem kpF_len (l : List Nat) : (kpF g l).length ≤ l.length := by
  induction l using snocInd with
  | nil => exact Nat.le_refl _
  | snoc l v ih =>
    rw [kpF_snoc, List.length_append, List.length_singleton]
    unfold kpS
    split
    · omega
    · rw [List.length_append, List.length_singleton]; omega
/-- where the c-th one stands -/
theorem kpF_place (l : List Nat) : l.Nodup → ∀ (c u : Nat), (kpF g l)[c]? = some u → (kpF g (l.take (l.idxOf u))).length = c := by
  induction l using snocInd with
  | nil => intro _ c u h; simp [kpF] at h
  | snoc l v ih =>
    intro hn c u h
    rw [List.nodup_append] at hn
    have hv : v ∉ l := fun z => hn.2.2 v z v (by simp) rfl
    have old : (kpF g l)[c]? = some u → (kpF g ((l ++ [v]).take ((l ++ [v]).idxOf u))).length = c := fun h => by
      have hu := kpF_mem g l u (List.mem_of_getElem? h)
      rw [idx_pre hu, List.take_append_of_le_length (Nat.le_of_lt (idxG hu).1)]
      exact ih hn.1 c u h
    rw [kpF_snoc] at h
    unfold kpS at h
    split at h
    · exact old h
    · by_cases hc : c < (kpF g l).length
      · rw [List.getElem?_append_left hc] at h
        exact old h
      · rw [List.getElem?_append_right (by omega)] at h
        have hc0 : c - (kpF g l).length = 0 := by
          have := (List.getElem?_eq_some_iff.mp h).1
          simpa using this
        rw [hc0] at h
        cases h
        have e : (l ++ [v]).idxOf v = l.length := by
          rw [List.idxOf_append, if_neg hv]
          simp
        rw [e, List.take_left']
        · omega
        · rfl
end
section
variable {m : Mon} {n : Nat}
/-- the law's smallest monitor -/
def slM (m : Mon) (g : Nat → Nat) : Mon := ⟨m.rs, 0, (kpF g m.nodes).map m.say, (kpF g m.nodes).map fun v => (m.nx v).map fun w => idxD (g w) ((kpF g m.nodes).map g)⟩
theorem idxN {f : List Nat} (h : f.Nodup) {c : Nat} (hc : c < f.length) : idxD f[c] f = c := idx_at h (List.getElem?_eq_getElem hc)
theorem slM_red {G : List Nat} (h : m.Ok n) (C : Cls m.vs m.es m.rs.length G) {g : Nat → Nat} (hg : g = fun v => G.getD v 0) : Red m (slM m g) (fun v => idxD (g v) ((kpF g m.nodes).map g)) (fun c => (kpF g m.nodes).getD c 0) ∧ (slM m g).Ok n := by
  obtain ⟨hlt, hnd, hnl, hf0, hclo, hat0⟩ := h.nodes
  obtain ⟨K, hK⟩ : ∃ K, K = kpF g m.nodes := ⟨_, rfl⟩
  have hKm : ∀ v ∈ K, v ∈ m.nodes := by rw [hK]; exact kpF_mem g _
  have hKa : ∀ v ∈ m.nodes, g v ∈ K.map g := by rw [hK]; exact kpF_all g _
  have hKn : (K.map g).Nodup := by rw [hK]; exact kpF_nodup g _
  have hKl : K.length ≤ m.nodes.length := by rw [hK]; exact kpF_len g _
  have hlen : (K.map g).length = K.length := List.length_map ..
  have hcl : ∀ v ∈ m.nodes, idxD (g v) (K.map g) < K.length := fun v hv => by
    have := (idxG (hKa v hv)).1
    rw [hlen] at this
    exact this
  have hat : ∀ v ∈ m.nodes, ∃ u, K[idxD (g v) (K.map g)]? = some u ∧ g u = g v := fun v hv => by
    have := (idxG (hKa v hv)).2
    rw [List.getElem?_map] at this
    exact Option.map_eq_some_iff.mp this
  have hrep : ∀ c, c < K.length → ∃ u, K[c]? = some u ∧ K.getD c 0 = u ∧ u ∈ m.nodes ∧ idxD (g u) (K.map g) = c := fun c hc => by
    refine ⟨K[c], List.getElem?_eq_getElem hc, by rw [List.getD_eq_getElem?_getD, List.getElem?_eq_getElem hc]; rfl, hKm _ (List.getElem_mem hc), ?_⟩
    have := idxN hKn (c := c) (by rw [hlen]; exact hc)
    rw [List.getElem_map] at this
    exact this
  have hgv : ∀ a b, a < m.vs.length → b < m.vs.length → g a = g b → m.say a = m.say b := fun a b ha hb e => by rw [hg] at e; exact C.verd a b ha hb e
  have hgs : ∀ a b k, a < m.vs.length → b < m.vs.length → k < m.rs.length → g a = g b → g (m.sel a k) = g (m.sel b k) := fun a b k ha hb hk e => by rw [hg] at e ⊢; exact C.stable a b k ha hb hk e
  have hgc : ∀ E, Bis m.vs m.es m.rs.length E → ∀ a b, a < m.vs.length → b < m.vs.length → E a b → g a = g b := fun E hE a b ha hb e => by rw [hg]; exact C.coarse E hE a b ha hb e
  have hord : ∀ c, c < K.length → ∀ v ∈ m.nodes, m.nodes.idxOf v < m.nodes.idxOf (K.getD c 0) → idxD (g v) (K.map g) < c := fun c hc v hv hlt' => by
    obtain ⟨u, hu, e1, hum, _⟩ := hrep c hc
    rw [e1] at hlt'
    have hpl := kpF_place g m.nodes hnd c u (by rw [← hK]; exact hu)
    have hv1 : v ∈ m.nodes.take (m.nodes.idxOf v + 1) := by
      refine List.mem_of_getElem? (i := m.nodes.idxOf v) ?_
      rw [List.getElem?_take_of_lt (by omega)]
      exact (idxG hv).2
    have h1 := kpF_all g _ v hv1
    have e2 : m.nodes.take (m.nodes.idxOf u) = m.nodes.take (m.nodes.idxOf v + 1) ++ (m.nodes.take (m.nodes.idxOf u)).drop (m.nodes.idxOf v + 1) := by
      have := List.take_append_drop (m.nodes.idxOf v + 1) (m.nodes.take (m.nodes.idxOf u))
      rw [List.take_take, Nat.min_eq_left (by omega)] at this
      exact this.symm
    have e3 : m.nodes = m.nodes.take (m.nodes.idxOf u) ++ m.nodes.drop (m.nodes.idxOf u) := (List.take_append_drop _ _).symm
    obtain ⟨t1, p1⟩ := kpF_pre g (m.nodes.take (m.nodes.idxOf v + 1)) ((m.nodes.take (m.nodes.idxOf u)).drop (m.nodes.idxOf v + 1))
    rw [← e2] at p1
    obtain ⟨t2, p2⟩ := kpF_pre g (m.nodes.take (m.nodes.idxOf u)) (m.nodes.drop (m.nodes.idxOf u))
    rw [← e3, ← hK, p1] at p2
    have e4 : idxD (g v) (K.map g) = idxD (g v) ((kpF g (m.nodes.take (m.nodes.idxOf v + 1))).map g) := by
      rw [p2, List.append_assoc, List.map_append]
      exact idx_pre h1
    rw [e4]
    have h2 := (idxG h1).1
    rw [List.length_map] at h2
    have h3 : (kpF g (m.nodes.take (m.nodes.idxOf u))).length = (kpF g (m.nodes.take (m.nodes.idxOf v + 1))).length + t1.length := by rw [p1, List.length_append]
    have h2 : idxD (g v) ((kpF g (m.nodes.take (m.nodes.idxOf v + 1))).map g) < (kpF g (m.nodes.take (m.nodes.idxOf v + 1))).length := h2
    omega
  have hvs : (slM m g).vs.length = K.length := by unfold slM; rw [List.length_map, hK]
  have hsay : ∀ c, c < K.length → (slM m g).say c = m.say (K.getD c 0) := fun c hc => by
    obtain ⟨u, hu, e1, _⟩ := hrep c hc
    unfold Mon.say slM
    rw [← hK, List.getD_eq_getElem?_getD, List.getElem?_map, hu, e1]
    rfl
  have hnx : ∀ c, c < K.length → (slM m g).nx c = (m.nx (K.getD c 0)).map fun w => idxD (g w) (K.map g) := fun c hc => by
    obtain ⟨u, hu, e1, _⟩ := hrep c hc
    unfold Mon.nx slM
    rw [← hK, List.getD_eq_getElem?_getD, List.getElem?_map, hu, e1]
    rfl
  have hsel : ∀ c k, c < K.length → k < m.rs.length → (slM m g).sel c k = idxD (g (m.sel (K.getD c 0) k)) (K.map g) := fun c k hc hk => by
    obtain ⟨u, hu, e1, hum, _⟩ := hrep c hc
    have hs := (h.sel_mem (v := K.getD c 0) (by rw [e1]; exact hum) hk).2
    have e : (slM m g).sel c k = ((slM m g).nx c).getD k 0 := rfl
    rw [e, hnx c hc, List.getD_eq_getElem?_getD, List.getElem?_map, hs]
    rfl
  rw [← hK]
  constructor
  · refine ⟨rfl, rfl, ?_, fun v hv => by rw [hvs]; exact hcl v hv, fun v hv => ?_, fun v hv k hk => ?_, fun c hc => ?_, fun c hc => ?_, fun E hE v hv w hw e => ?_, by rw [hvs]; exact hKl, fun c hc v hv => hord c (by rw [hvs] at hc; exact hc) v hv⟩
    · have hp := hcl _ hf0
      rcases Nat.eq_zero_or_pos (idxD (g m.first) (K.map g)) with z | z
      · exact z
      · obtain ⟨u, hu, e1, hum, e2⟩ := hrep _ hp
        have h0 : m.nodes.idxOf m.first = 0 := idx_at hnd hat0
        obtain ⟨w, hw, hgw⟩ := hat _ hf0
        have hwm := hKm w (List.mem_of_getElem? hw)
        obtain ⟨u0, hu0, e10, hum0, e20⟩ := hrep 0 (by omega)
        rcases Nat.eq_zero_or_pos (m.nodes.idxOf u0) with y | y
        · have : u0 = m.first := idx_inj hum0 hf0 (by rw [y, h0])
          rw [this] at e20
          exact e20
        · have := hord 0 (by omega) m.first hf0 (by rw [e10, h0]; exact y)
          omega
    · rw [hsay _ (hcl v hv)]
      obtain ⟨u, hu, e⟩ := hat v hv
      have hum := hKm u (List.mem_of_getElem? hu)
      have e1 : K.getD (idxD (g v) (K.map g)) 0 = u := by rw [List.getD_eq_getElem?_getD, hu]; rfl
      rw [e1]
      exact hgv u v (hlt u hum) (hlt v hv) e
    · rw [hsel _ k (hcl v hv) hk]
      obtain ⟨u, hu, e⟩ := hat v hv
      have hum := hKm u (List.mem_of_getElem? hu)
      have e1 : K.getD (idxD (g v) (K.map g)) 0 = u := by rw [List.getD_eq_getElem?_getD, hu]; rfl
      rw [e1, hgs u v k (hlt u hum) (hlt v hv) hk e]
    · rw [hvs] at hc
      obtain ⟨u, hu, e1, hum, e2⟩ := hrep c hc
      refine ⟨by rw [e1]; exact hum, by rw [e1]; exact e2, fun v hv e => ?_⟩
      rcases Nat.lt_or_ge (m.nodes.idxOf v) (m.nodes.idxOf (K.getD c 0)) with z | z
      · have := hord c hc v hv z
        omega
      · exact z
    · rw [hvs] at hc
      exact hnx c hc
    · rw [hgc E hE v w (hlt v hv) (hlt w hw) e]
  · have hpos : 0 < K.length := by have := hcl _ hf0; omega
    refine ⟨by rw [hvs]; have := h.few; omega, by unfold slM; rw [List.length_map, List.length_map], by rw [hvs]; exact hpos, fun v hv => ?_, fun r hr => ?_, fun r hr x hx => ?_, h.nod⟩
    · unfold slM at hv
      obtain ⟨u, hu, rfl⟩ := List.mem_map.mp hv
      exact h.word _ (Mon.say_mem (hlt u (kpF_mem g _ u hu)))
    · unfold slM at hr
      obtain ⟨u, hu, rfl⟩ := List.mem_map.mp hr
      rw [List.length_map]
      exact (h.row (hlt u (kpF_mem g _ u hu))).1
    · unfold slM at hr
      obtain ⟨u, hu, rfl⟩ := List.mem_map.mp hr
      obtain ⟨w, hw, rfl⟩ := List.mem_map.mp hx
      rw [hvs, ← hK]
      exact hcl w (hclo u (kpF_mem g _ u hu) w hw)
end
end Law

namespace Law
open PySem PySem.Spec PyProof.Rows L2 Sim
/-! ### reading the statements over a list of lists -/
def TN (r : Option (Rho × List (List D))) (Q : Rho → List (List D) → Prop) : Prop := ∃ ρ' rows', r = some (ρ', rows') ∧ Q ρ' rows'
section
variable {ρ : Rho} {rows : List (List D)} {Q : Rho → List (List D) → Prop} {m n : NM}
theorem TN_nil (q : Q ρ rows) : TN (nilN ρ rows) Q := ⟨_, _, rfl, q⟩
theorem TN_seq (h : TN (m ρ rows) fun ρ1 rows1 => TN (n ρ1 rows1) Q) : TN (seqN m n ρ rows) Q := by
  obtain ⟨ρ1, rows1, e, ρ2, rows2, e2, q⟩ := h
  exact ⟨ρ2, rows2, by unfold seqN; rw [e]; exact e2, q⟩
theorem TN_ite {i : Nat} {c : TM} (C : Bool → Prop) (hno : noOwnR ρ = true) (hc : T (c (viewR i ρ rows)) fun b _ => C b) (h1 : C true → TN (m ρ rows) Q) (h2 : C false → TN (n ρ rows) Q) : TN (iteN i c m n ρ rows) Q := by
  unfold iteN
  rw [if_pos hno]
  unfold T at hc
  split at hc
  · rename_i b ρ1 e
    rw [e]
    cases b with
    | true => exact h1 hc
    | false => exact h2 hc
  · exact hc.elim
theorem TN_go {g : GM} {b : NM} {lo : Int} (I : Nat → Rho → List (List D) → Prop) : ∀ (k n : Nat) {ρ : Rho} {rows : List (List D)}, I n ρ rows →
    (∀ (j : Nat) (ρ : Rho) (rows : List (List D)), n ≤ j → j < n + k → I j ρ rows → T (g (.int (lo + j)) ρ) fun _ ρ1 => TN (b ρ1 rows) (I (j + 1))) → (∀ ρ rows, I (n + k) ρ rows → Q ρ rows) →
    TN (forNGo g b ((List.range k).map fun (j : Nat) => D.int (lo + ((n + j : Nat) : Int))) ρ rows) Q
  | 0, n, ρ, rows, h, _, q => ⟨_, _, rfl, q _ _ h⟩
  | k + 1, n, ρ, rows, h, hs, q => by
    rw [List.range_succ_eq_map, List.map_cons, List.map_map]
    unfold forNGo
    have h0 := hs n ρ rows (Nat.le_refl _) (by omega) h
    unfold T at h0
    split at h0
    · rename_i u ρ1 e
      have e' : g (.int (lo + ((n + 0 : Nat) : Int))) ρ = .ok u ρ1 := e
      rw [e']
      obtain ⟨ρ2, rows2, e2, h2⟩ := h0
      show TN (match b ρ1 rows with
        | some (ρ2, rows2) => forNGo g b _ ρ2 rows2
        | none => none) Q
      rw [e2]
      have := TN_go (g := g) (b := b) (lo := lo) I k (n + 1) h2 (fun j ρ rows a c d => hs j ρ rows (by omega) (by omega) d) (fun ρ rows d => q ρ rows (by rw [show n + (k + 1) = n + 1 + k by omega]; exact d))
      have e3 : ((fun (j : Nat) => D.int (lo + ((n + j : Nat) : Int))) ∘ Nat.succ) = fun (j : Nat) => D.int (lo + ((n + 1 + j : Nat) : Int)) := by
        funext j
        show D.int (lo + ((n + (j + 1) : Nat) : Int)) = _
        rw [show n + (j + 1) = n + 1 + j by omega]
      rw [e3]
      exact this
    · exact h0.elim
theorem TN_forR {it : AM} {g : GM} {b : NM} {k : Nat} (I : Nat → Rho → List (List D) → Prop) (hit : T (it ρ) fun ds ρ1 => ds = rangeL 0 k ∧ I 0 ρ1 rows)
    (hs : ∀ (j : Nat) (ρ : Rho) (rows : List (List D)), j < k → I j ρ rows → T (g (.int (0 + j)) ρ) fun _ ρ1 => TN (b ρ1 rows) (I (j + 1))) (q : ∀ ρ rows, I k ρ rows → Q ρ rows) : TN (forN it g b ρ rows) Q := by
  unfold forN
  unfold T at hit
  split at hit
  · rename_i ds ρ1 e
    rw [e]
    obtain ⟨rfl, h0⟩ := hit
    have := TN_go (g := g) (b := b) (lo := 0) (Q := Q) I k 0 h0 (fun j ρ rows _ c d => hs j ρ rows (by omega) d) (fun ρ rows d => q ρ rows (by rw [show 0 + k = k by omega] at d; exact d))
    have e3 : (fun (j : Nat) => D.int (0 + ((0 + j : Nat) : Int))) = fun (j : Nat) => D.int (0 + (j : Int)) := by
      funext j
      rw [Nat.zero_add]
    rw [e3] at this
    exact this
  · exact hit.elim
theorem TN_put {mk1 mk2 me : EM} (h : T (me ρ) fun d ρ1 => T (mk1 ρ1) fun p ρ2 => T (mk2 ρ2) fun q ρ3 => ∃ (p' q' : Int) (rows' : List (List D)), p = .int p' ∧ q = .int q' ∧ putRows rows p' q' d = some rows' ∧ Q ρ3 rows') : TN (putN mk1 mk2 me ρ rows) Q := by
  unfold putN
  unfold T at h
  split at h
  · rename_i d ρ1 e1
    rw [e1]
    split at h
    · rename_i p ρ2 e2
      split at h
      · rename_i q ρ3 e3
        obtain ⟨p', q', rows', rfl, rfl, e4, hq⟩ := h
        simp only [e2, e3, e4]
        exact ⟨_, _, rfl, hq⟩
      · exact h.elim
    · exact h.elim
  · exact h.elim
theorem TN_flat {i k : Nat} {me : EM} (hno : noOwnR ρ = true) (h : T (me (viewR i ρ rows)) fun d _ => ∃ ds, d = .lst .own ds ∧ ds.all flatD = true ∧ Q (ρ.set k (some (.lst .sh ds))) rows) : TN (setFlatN i k me ρ rows) Q := by
  unfold setFlatN
  rw [if_pos hno]
  unfold T at h
  split at h
  · rename_i d ρ1 e
    obtain ⟨ds, rfl, hf, q⟩ := h
    rw [e]
    show TN (if ds.all flatD = true then _ else none) Q
    rw [if_pos hf]
    exact ⟨_, _, rfl, q⟩
  · exact h.elim
theorem T_compNF {α : Type} {vs : List Nat} {g : GM} {e : EM} {Q : List (List D) → Rho → Prop} (F : α → D) (G : α → List D) : ∀ (r : List α) (acc : List (List D)),
    (∀ x ∈ r, T (g (F x) ρ) fun _ ρ1 => T (e ρ1) fun y ρ2 => wipeR ρ2 vs = ρ ∧ y = .lst .own (G x)) → Q (acc ++ r.map G) ρ → T (compNGo vs g e (r.map F) acc ρ) Q
  | [], acc, _, q => by rw [List.map_nil]; unfold compNGo; simpa [T_ok] using q
  | x :: r, acc, hs, q => by
    rw [List.map_cons]
    unfold compNGo
    have h0 := hs x (.head _)
    rw [T_bind]
    refine T_mono h0 fun _ ρ1 h1 => ?_
    rw [T_bind]
    refine T_mono h1 fun y ρ2 h2 => ?_
    obtain ⟨h2, rfl⟩ := h2
    show T (compNGo vs g e (r.map F) (acc ++ [G x]) (wipeR ρ2 vs)) Q
    rw [h2]
    exact T_compNF F G r _ (fun y hy => hs y (.tail _ hy)) (by rw [List.map_cons] at q; rw [List.append_assoc]; exact q)
theorem T_compNM {N : Nat} {vs : List Nat} {it : AM} {g : GM} {e : EM} {Q : List (List D) → Rho → Prop} : T (compNM N vs it g e ρ) Q = T (it ρ) (fun ds ρ1 => (ρ1.length = N ∧ ds.length ≤ Sim.cap) ∧ T (compNGo vs g e ds [] (wipeR ρ1 vs)) (fun acc ρ2 => Q acc (wipeR ρ2 vs))) := by
  unfold compNM; simp only [T_bind, T_if, T_ok]
end
end Law

namespace Law
open PySem PySem.Spec PyProof.Rows L2 Sim
local macro_rules | `(tactic| simp! only [$args,*] $[$l:location]?) => `(tactic| simp only [Z0, Z1, Z2, Z3, Z4, Z5, Z6, Z7, Z8, Z9, Z10, Z11, Z12, Z13, Z14, Z15, Z16, Z17, Z18, Z19, Z20, Z21, Z22, Z23, Z24, Z25, Z26, Z27, Z28, Z29, Z30, Z31, Z32, Z33, Z34, Z35, Z36, Z37, Z38, Z39, Z40, Z41, Z42, Z43, Z44, Z45, Z46, Z47, Z48, Z49, Z50, Z51, Z52, Z53, Z54, Z55, Z56, Z57, Z58, Z59, Z60, Z61, Z62, Z63, Z64, Z65, Z66, Z67, Z68, Z69, Z70, Z71, Z72, Z73, Z74, Sim.wipeR, Z75, Z76, Z77, Z78, Z79, Z80, Z81, Z82, Z83, Z84, Z85, Z86, Z87, Z88, Z89, Z90, Z91, Z92, Z93, Z94, Z95, Z96, Z97, Z98, Z99, Z100, Z101, Z102, Z103, Z104, Z105, Z106, Z107, Z108, Z109, Z110, Z111, Z112, Z113, Z114, Z115, Z116, Z117, Z118, Z119, Z120, Z121, Z122, Z123, Z124, Z125, Z126, Z127, Z128, Z129, Z130, Z131, Z132, Z133, Z134, Z135, Z136, Z137, Z138, Z139, Z140, Z141, Z142, Z143, Z144, Z145, Z146, Z147, Z148, Z149, Z150, Z151, Z152, Z153, Z154, Z155, Z156, Z157, Z158, Sim.T_sliceO, Sim.sliceO_lst, Sim.T_sliceS, Sim.EndX_nxt, Sim.EndX_ret, Sim.EndX_exc, Sim.rq_ok, Sim.rq_ex, Sim.T_callX, Sim.T_okM, Sim.T_setX, Sim.T_setXV, Sim.T_retX, Sim.T_dropX, Sim.T_raise0, Sim.T_raise1, Sim.T_try, Sim.TryQ_nxt, Sim.TryQ_ret, Sim.TryQ_brk, Sim.TryQ_cnt, Sim.TryQ_exc, Sim.SeqQ_exc, Sim.LoopQ_exc, Sim.BehQ_nxt, Sim.BehQ_ret, Sim.T_tryA, Sim.TryAQ_nxt, Sim.TryAQ_ret, Sim.TryAQ_exc, Sim.T_fld, Sim.T_compO, T_okX, Sim.T_nilX, Sim.T_consX, Sim.T_callFX, Sim.T_callXX, Sim.T_callBX, Sim.XQ_ok, Sim.XQ_ex, Sim.AQ_ok, Sim.AQ_ex, Sim.cap, Z159, Z160, Nat.zero_le, Z161, Z162, Z163, Z164, Z165, Z166, Z167, Z168, Z169, Z170, Z171, Z172, Z173, Z174, Z175, Z176, Z177, List.getElem?_cons_zero, List.getElem?_cons_succ, List.set_cons_zero, List.set_cons_succ, List.map_cons, List.map_nil, List.cons_append, List.nil_append, Option.map_some, List.length_cons, List.length_nil, Int.zero_add, Nat.zero_add, Nat.reduceAdd, Nat.reduceLeDiff, Nat.reduceMul, true_and, and_true, decide_eq_true_eq, decide_eq_false_iff_not, Bool.false_eq_true, Bool.true_eq_false, false_implies, true_implies, implies_true, eq_self, decide_true, decide_false, not_true_eq_false, not_false_eq_true, Bool.not_true, Bool.not_false, Int.reduceLT, Int.reduceLE, Int.reduceNeg, Int.reducePow, Int.reduceToNat, $args,*] $[$l:location]?)
theorem sqB_at {n : Nat} {B : Nat → Nat → Bool} {a b : Nat} (ha : a < n) (hb : b < n) : ((sqB n B).map (D.lst .sh))[a]? = some (.lst .sh ((List.range n).map fun b => D.bl (B a b))) ∧ ((List.range n).map fun b => D.bl (B a b))[b]? = some (.bl (B a b)) := by
  refine ⟨?_, by rw [List.getElem?_map, List.getElem?_range hb]; rfl⟩
  rw [List.getElem?_map, List.getElem?_map, List.getElem?_range ha]
  rfl
theorem eqB_ints_nil (xs : List Int) (h : xs.length ≤ 1000000) : eqB (.lst .sh (xs.map .int)) (.lst .sh []) = some xs.isEmpty := by
  have d1 := Dat.intsL (n := 0) xs h
  have d2 := Dat.intsL (n := 0) [] (by simp)
  have := eqB_data _ _ d1.laid d2.laid (Nat.le_trans d1.rank (by omega)) (Nat.le_trans d2.rank (by omega))
  rw [List.map_nil] at this
  rw [this]
  cases xs <;> rfl
def SndB (vs : List Str) (es : List (List Nat)) (many : Nat) (B : Nat → Nat → Bool) : Prop := ∀ E, Bis vs es many E → ∀ a b, a < vs.length → b < vs.length → E a b → B a b = false
def LevB (vs : List Str) (es : List (List Nat)) (t : Nat) (B : Nat → Nat → Bool) : Prop := ∀ a b, a < vs.length → b < vs.length → B a b = false → (gS vs es t).getD a 0 = (gS vs es t).getD b 0
theorem setB_false {B : Nat → Nat → Bool} {a b x y : Nat} (h : setB B a b x y = false) : B x y = false ∧ ¬ (x = a ∧ y = b) := by
  unfold setB at h
  split at h
  · cases h
  · rename_i z; exact ⟨h, z⟩
theorem noOwn_cons {o : Option D} {ρ : Rho} (h : ∀ d, o = some d → d.owned = false) (t : noOwnR ρ = true) : noOwnR (o :: ρ) = true := by
  unfold noOwnR at t ⊢
  rw [List.all_cons, t, Bool.and_true]
  cases o with
  | none => rfl
  | some d => simp [h d rfl]
theorem apart_ok {R : Fs} {vs : List Str} {es : List (List Nat)} {many : Nat} (h : Gra vs es many) (hm : many ≤ 1000) :
    FT (defF 7 [] (b__law_apart R)) [.tup (vs.map .str), .tup (es.map fun r => .tup (natsD r))] fun d fs => fs = [] ∧ ∃ B, d = .lst .own ((sqB vs.length B).map (D.lst .sh)) ∧ Apt vs es many B := by
  refine FT_def ?_
  have hfew := h.few
  obtain ⟨vD, hvD⟩ : ∃ vD, D.tup (vs.map .str) = vD := ⟨_, rfl⟩
  obtain ⟨eD, heD⟩ : ∃ eD, D.tup (es.map fun r => D.tup (natsD r)) = eD := ⟨_, rfl⟩
  have hlen : lenD [vD] = some (.int vs.length) := by rw [← hvD]; simp! only [List.length_map]
  have hv : ∀ a, a < vs.length → ixDD vD (.int a) = some (.str (vs.getD a "")) := fun a ha => by
    rw [← hvD, ixDD_tup, Sim.atI_nat, List.getElem?_map, List.getD_eq_getElem?_getD, List.getElem?_eq_getElem ha]; rfl
  have he : ∀ a, a < vs.length → ixDD eD (.int a) = some (.tup (natsD (es.getD a []))) := fun a ha => by
    rw [← heD, ixDD_tup, Sim.atI_nat, List.getElem?_map, List.getD_eq_getElem?_getD, List.getElem?_eq_getElem (by rw [h.same]; exact ha)]; rfl
  rw [hvD, heD]
  simp! only [b__law_apart, hlen]
  rw [T_nestB, T_compNM]
  simp! only []
  refine ⟨by omega, by rw [Int.toNat_natCast]; simp [rangeL]; omega, ?_⟩
  rw [Int.toNat_natCast]
  obtain ⟨n, hn⟩ : ∃ n, n = vs.length := ⟨_, rfl⟩
  obtain ⟨B0, hB0⟩ : ∃ B0 : Nat → Nat → Bool, B0 = fun a b => !decide (vs.getD a "" = vs.getD b "") := ⟨_, rfl⟩
  rw [← hn]
  refine T_compNF (fun (a : Nat) => D.int (0 + (a : Int))) (fun a => (List.range n).map fun b => D.bl (B0 a b)) (List.range n) [] (fun a ha => ?_) ?_
  · have ha : a < n := List.mem_range.mp ha
    have ea : (0 : Int) + (a : Int) = (a : Int) := by omega
    have hva := hv a (by omega)
    simp! only [ea]
    refine ⟨by omega, by rw [Int.toNat_natCast]; simp [rangeL]; omega, ?_⟩
    rw [Int.toNat_natCast]
    refine T_compF (fun (b : Nat) => D.int (0 + (b : Int))) (fun _ => true) (fun b => D.bl (B0 a b)) (List.range n) [] (fun b hb => ?_) ?_
    · have hb : b < n := List.mem_range.mp hb
      have eb : (0 : Int) + (b : Int) = (b : Int) := by omega
      have hvb := hv b (by omega)
      simp! only [eb, hva, hvb, hB0]
    · rw [List.filter_eq_self.mpr (fun _ _ => rfl)]
      simp! only []
      first | done | exact ⟨rfl, rfl⟩ | rfl
  have hvo : vD.owned = false := by rw [← hvD]; rfl
  have heo : eD.owned = false := by rw [← heD]; rfl
  have hB0s : SndB vs es many B0 := fun E hE a b ha hb e => by
    have := hE.verd a b ha hb e
    rw [hB0]
    show (!decide (vs.getD a "" = vs.getD b "")) = false
    rw [decide_eq_true this]
    rfl
  have hB0l : LevB vs es 0 B0 := fun a b ha hb e => by
    rw [hB0] at e
    have e : vs.getD a "" = vs.getD b "" := by
      cases hd : decide (vs.getD a "" = vs.getD b "") with
      | true => exact of_decide_eq_true hd
      | false =>
        have e : (!decide (vs.getD a "" = vs.getD b "")) = false := e
        rw [hd] at e
        cases e
    refine (grp_eq ha hb).mpr ?_
    rwa [List.getD_eq_getElem?_getD, List.getD_eq_getElem?_getD, List.getElem?_eq_getElem ha, List.getElem?_eq_getElem hb] at e
  show TN _ _
  simp! only []
  have hno : ∀ o4 o5 o6 o7 : Option D, (∀ d, o4 = some d → d.owned = false) → (∀ d, o5 = some d → d.owned = false) → (∀ d, o6 = some d → d.owned = false) → (∀ d, o7 = some d → d.owned = false) → noOwnR [some vD, some eD, some (.int n), none, o4, o5, o6, o7, none] = true := fun o4 o5 o6 o7 h4 h5 h6 h7 => by
    have hi : ∀ d, some (D.int (n : Int)) = some d → d.owned = false := fun d e => by cases e; rfl
    have hnn : ∀ d, (none : Option D) = some d → d.owned = false := fun d e => by cases e
    exact noOwn_cons (fun d e => by cases e; exact hvo) (noOwn_cons (fun d e => by cases e; exact heo) (noOwn_cons hi (noOwn_cons hnn (noOwn_cons h4 (noOwn_cons h5 (noOwn_cons h6 (noOwn_cons h7 (noOwn_cons hnn rfl))))))))
  have hio : ∀ (j : Nat) (d : D), some (D.int (j : Int)) = some d → d.owned = false := fun j d e => by cases e; rfl
  refine TN_forR (k := n) (fun t ρ rows => ∃ (o4 o5 o6 o7 : Option D) (B : Nat → Nat → Bool), ρ = [some vD, some eD, some (.int n), none, o4, o5, o6, o7, none] ∧ rows = sqB n B ∧ (∀ d, o4 = some d → d.owned = false) ∧ (∀ d, o5 = some d → d.owned = false) ∧ (∀ d, o7 = some d → d.owned = false) ∧ SndB vs es many B ∧ LevB vs es t B) ?_ ?_ ?_
  · simp! only []
    refine ⟨by omega, by rw [Int.toNat_natCast], none, none, none, none, B0, rfl, ?_, (by simp), (by simp), (by simp), hB0s, hB0l⟩
    simp
  · rintro t ρ rows ht ⟨o4, o5, o6, o7, B, rfl, rfl, h4, h5, h7, hS, hL⟩
    have et : (0 : Int) + (t : Int) = (t : Int) := by omega
    rw [et]
    simp! only []
    have hsel : ∀ a k, a < n → k < many → selE es a k < n := fun a k ha hk => by rw [hn] at ha ⊢; exact h.sel ha hk
    have hrl : ∀ a, a < n → (es.getD a []).length = many := fun a ha => (h.row (by omega)).1
    have hfin : ∀ a b, a < n → b < n → ∀ B' : Nat → Nat → Bool, LevB vs es t B' → B' a b = false → (∀ k, k < many → B' (selE es a k) (selE es b k) = false) → (gS vs es (t + 1)).getD a 0 = (gS vs es (t + 1)).getD b 0 := fun a b ha hb B' hL' e hk => by
      refine (finer_eq h (by omega) (by omega)).mpr ⟨hL' a b (by omega) (by omega) e, fun k hkm => ?_⟩
      exact hL' _ _ (by have := hsel a k ha hkm; omega) (by have := hsel b k hb hkm; omega) (hk k hkm)
    refine TN_seq (TN_forR (k := n) (fun a ρ rows => ∃ (o4 o5 o7 : Option D) (B : Nat → Nat → Bool), ρ = [some vD, some eD, some (.int n), none, o4, o5, some (.int t), o7, none] ∧ rows = sqB n B ∧ (∀ d, o4 = some d → d.owned = false) ∧ (∀ d, o5 = some d → d.owned = false) ∧ (∀ d, o7 = some d → d.owned = false) ∧ SndB vs es many B ∧ LevB vs es t B ∧ ∀ x y, x < a → y < n → B x y = false → (gS vs es (t + 1)).getD x 0 = (gS vs es (t + 1)).getD y 0) ?_ ?_ ?_)
    · simp! only []
      exact ⟨by omega, by rw [Int.toNat_natCast], o4, o5, o7, B, rfl, rfl, h4, h5, h7, hS, hL, fun x y hx => absurd hx (Nat.not_lt_zero _)⟩
    · clear hS hL h4 h5 h7
      rintro a ρ rows ha ⟨o4, o5, o7, B, rfl, rfl, h4, h5, h7, hS, hL, hF⟩
      have ea : (0 : Int) + (a : Int) = (a : Int) := by omega
      rw [ea]
      simp! only []
      refine TN_seq (TN_forR (k := n) (fun b ρ rows => ∃ (o5 o7 : Option D) (B : Nat → Nat → Bool), ρ = [some vD, some eD, some (.int n), none, some (.int a), o5, some (.int t), o7, none] ∧ rows = sqB n B ∧ (∀ d, o5 = some d → d.owned = false) ∧ (∀ d, o7 = some d → d.owned = false) ∧ SndB vs es many B ∧ LevB vs es t B ∧ (∀ x y, x < a → y < n → B x y = false → (gS vs es (t + 1)).getD x 0 = (gS vs es (t + 1)).getD y 0) ∧ ∀ y, y < b → B a y = false → (gS vs es (t + 1)).getD a 0 = (gS vs es (t + 1)).getD y 0) ?_ ?_ ?_)
      · simp! only []
        exact ⟨by omega, by rw [Int.toNat_natCast], o5, o7, B, rfl, rfl, h5, h7, hS, hL, hF, fun y hy => absurd hy (Nat.not_lt_zero _)⟩
      · clear hS hL h5 h7 hF
        rintro b ρ rows hb ⟨o5, o7, B, rfl, rfl, h5, h7, hS, hL, hF, hG⟩
        have eb : (0 : Int) + (b : Int) = (b : Int) := by omega
        rw [eb]
        simp! only []
        have hno1 := hno (some (.int a)) (some (.int b)) (some (.int t)) o7 (hio a) (hio b) (hio t) h7
        obtain ⟨q1, q2⟩ := sqB_at (B := B) ha hb
        refine TN_seq (TN_ite (fun c => c = !B a b) hno1 ?_ (fun c => ?_) (fun c => ?_))
        · unfold viewR
          simp! only [q1, q2]
        · have hBab : B a b = false := by simpa using c.symm
          refine TN_seq (TN_flat hno1 ?_)
          unfold viewR
          have hea := he a (by omega)
          have heb := he b (by omega)
          have hla := hrl a ha
          simp! only [hea, List.length_map, hla]
          refine ⟨by omega, by rw [Int.toNat_natCast]; simp [rangeL]; omega, ?_⟩
          rw [Int.toNat_natCast]
          refine T_compF (fun (k : Nat) => D.int (0 + (k : Int))) (fun k => B (selE es a k) (selE es b k)) (fun k => D.int (k : Int)) (List.range many) [] (fun k hk => ?_) ?_
          · have hk : k < many := List.mem_range.mp hk
            have ek : (0 : Int) + (k : Int) = (k : Int) := by omega
            have g1 := nats_at (xs := es.getD a []) (k := k) (by omega)
            have g2 := nats_at (xs := es.getD b []) (k := k) (by rw [hrl b hb]; exact hk)
            obtain ⟨p1, p2⟩ := sqB_at (B := B) (hsel a k ha hk) (hsel b k hb hk)
            simp! only [ek, hea, heb, g1, g2, p1, p2]
          · rw [List.nil_append]
            have hfk : ∀ k, k ∈ (List.range many).filter (fun k => B (selE es a k) (selE es b k)) ↔ k < many ∧ B (selE es a k) (selE es b k) = true := fun k => by rw [List.mem_filter, List.mem_range]
            have hfl : ((List.range many).filter fun k => B (selE es a k) (selE es b k)).length ≤ many := by
              have := List.length_filter_le (fun k => B (selE es a k) (selE es b k)) (List.range many)
              rwa [List.length_range] at this
            generalize (List.range many).filter (fun k => B (selE es a k) (selE es b k)) = fl at *
            refine ⟨_, rfl, ?_, ?_⟩
            · rw [List.all_eq_true]
              intro d hd
              obtain ⟨k, _, rfl⟩ := List.mem_map.mp hd
              rfl
            have heqb : eqB (.lst .sh (fl.map fun (k : Nat) => D.int (k : Int))) (.lst .sh []) = some fl.isEmpty := by
              have := eqB_ints_nil (fl.map fun (k : Nat) => (k : Int)) (by rw [List.length_map]; omega)
              rw [List.map_map] at this
              rw [show (fl.map fun (k : Nat) => D.int (k : Int)) = fl.map (D.int ∘ fun (k : Nat) => (k : Int)) from rfl, this]
              cases fl <;> rfl
            have hno2 := hno (some (.int a)) (some (.int b)) (some (.int t)) (some (.lst .sh (fl.map fun (k : Nat) => D.int (k : Int)))) (hio a) (hio b) (hio t) (fun d e => by cases e; rfl)
            refine TN_seq (TN_ite (fun c => c = !fl.isEmpty) hno2 ?_ (fun c => ?_) (fun c => ?_))
            · unfold viewR
              simp! only [heqb]
            · obtain ⟨k, hk⟩ : ∃ k, k ∈ fl := by
                cases fl with
                | nil => cases c
                | cons k r => exact ⟨k, .head _⟩
              obtain ⟨hkm, hkB⟩ := (hfk k).mp hk
              refine TN_seq (TN_put ?_)
              simp! only []
              refine ⟨_, _, _, rfl, rfl, sqB_put ha hb, TN_nil (TN_nil (TN_nil ⟨_, _, setB B a b, rfl, rfl, hio b, fun d e => by cases e; rfl, fun E hE x y hx hy e => ?_, fun x y hx hy e => hL x y hx hy (setB_false e).1, fun x y hx hy e => hF x y hx hy (setB_false e).1, fun y hy e => ?_⟩))⟩
              · unfold setB
                rw [if_neg]
                · exact hS E hE x y hx hy e
                · rintro ⟨rfl, rfl⟩
                  have := hS E hE _ _ (h.sel hx hkm) (h.sel hy hkm) (hE.step _ _ k hx hy hkm e)
                  rw [hkB] at this
                  cases this
              · obtain ⟨e1, e2⟩ := setB_false e
                rcases Nat.lt_or_eq_of_le (Nat.le_of_lt_succ hy) with z | z
                · exact hG y z e1
                · exact absurd ⟨rfl, z⟩ e2
            · have hfe : fl = [] := by
                cases fl with
                | nil => rfl
                | cons k r => cases c
              refine TN_nil (TN_nil (TN_nil ⟨_, _, B, rfl, rfl, hio b, fun d e => by cases e; rfl, hS, hL, hF, fun y hy e => ?_⟩))
              rcases Nat.lt_or_eq_of_le (Nat.le_of_lt_succ hy) with z | z
              · exact hG y z e
              · subst z
                refine hfin a y ha hb B hL e fun k hk => ?_
                cases hB : B (selE es a k) (selE es y k) with
                | false => rfl
                | true =>
                  have := (hfk k).mpr ⟨hk, hB⟩
                  rw [hfe] at this
                  cases this
        · have hBab : B a b = true := by simpa using c.symm
          refine TN_nil (TN_nil ⟨_, _, B, rfl, rfl, hio b, h7, hS, hL, hF, fun y hy e => ?_⟩)
          rcases Nat.lt_or_eq_of_le (Nat.le_of_lt_succ hy) with z | z
          · exact hG y z e
          · subst z
            rw [hBab] at e
            cases e
      · clear hS hL h5 h7 hF
        rintro ρ rows ⟨o5, o7, B, rfl, rfl, h5, h7, hS, hL, hF, hG⟩
        refine TN_nil ⟨_, _, _, B, rfl, rfl, hio a, h5, h7, hS, hL, fun x y hx hy e => ?_⟩
        rcases Nat.lt_or_eq_of_le (Nat.le_of_lt_succ hx) with z | z
        · exact hF x y z hy e
        · subst z
          exact hG y hy e
    · clear hS hL h4 h5 h7
      rintro ρ rows ⟨o4, o5, o7, B, rfl, rfl, h4, h5, h7, hS, hL, hF⟩
      refine TN_nil ⟨_, _, _, _, B, rfl, rfl, h4, h5, h7, hS, fun a b ha hb e => ?_⟩
      rw [← hn] at ha hb
      exact hF a b ha hb e
  · rintro ρ rows ⟨o4, o5, o6, o7, B, rfl, rfl, h4, h5, h7, hS, hL⟩
    rw [hn]
    refine ⟨B, rfl, apt_of h hS ?_⟩
    rw [hn] at hL
    exact hL
end Law

namespace Law
open PySem PySem.Spec PyProof.Rows L2 Sim
local macro_rules | `(tactic| simp! only [$args,*] $[$l:location]?) => `(tactic| simp only [Z0, Z1, Z2, Z3, Z4, Z5, Z6, Z7, Z8, Z9, Z10, Z11, Z12, Z13, Z14, Z15, Z16, Z17, Z18, Z19, Z20, Z21, Z22, Z23, Z24, Z25, Z26, Z27, Z28, Z29, Z30, Z31, Z32, Z33, Z34, Z35, Z36, Z37, Z38, Z39, Z40, Z41, Z42, Z43, Z44, Z45, Z46, Z47, Z48, Z49, Z50, Z51, Z52, Z53, Z54, Z55, Z56, Z57, Z58, Z59, Z60, Z61, Z62, Z63, Z64, Z65, Z66, Z67, Z68, Z69, Z70, Z71, Z72, Z73, Z74, Sim.wipeR, Z75, Z76, Z77, Z78, Z79, Z80, Z81, Z82, Z83, Z84, Z85, Z86, Z87, Z88, Z89, Z90, Z91, Z92, Z93, Z94, Z95, Z96, Z97, Z98, Z99, Z100, Z101, Z102, Z103, Z104, Z105, Z106, Z107, Z108, Z109, Z110, Z111, Z112, Z113, Z114, Z115, Z116, Z117, Z118, Z119, Z120, Z121, Z122, Z123, Z124, Z125, Z126, Z127, Z128, Z129, Z130, Z131, Z132, Z133, Z134, Z135, Z136, Z137, Z138, Z139, Z140, Z141, Z142, Z143, Z144, Z145, Z146, Z147, Z148, Z149, Z150, Z151, Z152, Z153, Z154, Z155, Z156, Z157, Z158, Sim.T_sliceO, Sim.sliceO_lst, Sim.T_sliceS, Sim.EndX_nxt, Sim.EndX_ret, Sim.EndX_exc, Sim.rq_ok, Sim.rq_ex, Sim.T_callX, Sim.T_okM, Sim.T_setX, Sim.T_setXV, Sim.T_retX, Sim.T_dropX, Sim.T_raise0, Sim.T_raise1, Sim.T_try, Sim.TryQ_nxt, Sim.TryQ_ret, Sim.TryQ_brk, Sim.TryQ_cnt, Sim.TryQ_exc, Sim.SeqQ_exc, Sim.LoopQ_exc, Sim.BehQ_nxt, Sim.BehQ_ret, Sim.T_tryA, Sim.TryAQ_nxt, Sim.TryAQ_ret, Sim.TryAQ_exc, Sim.T_fld, Sim.T_compO, T_okX, Sim.T_nilX, Sim.T_consX, Sim.T_callFX, Sim.T_callXX, Sim.T_callBX, Sim.XQ_ok, Sim.XQ_ex, Sim.AQ_ok, Sim.AQ_ex, Sim.cap, Z159, Z160, Nat.zero_le, Z161, Z162, Z163, Z164, Z165, Z166, Z167, Z168, Z169, Z170, Z171, Z172, Z173, Z174, Z175, Z176, Z177, List.getElem?_cons_zero, List.getElem?_cons_succ, List.set_cons_zero, List.set_cons_succ, List.map_cons, List.map_nil, List.cons_append, List.nil_append, Option.map_some, List.length_cons, List.length_nil, Int.zero_add, Nat.zero_add, Nat.reduceAdd, Nat.reduceLeDiff, Nat.reduceMul, true_and, and_true, decide_eq_true_eq, decide_eq_false_iff_not, Bool.false_eq_true, Bool.true_eq_false, false_implies, true_implies, implies_true, eq_self, decide_true, decide_false, not_true_eq_false, not_false_eq_true, Bool.not_true, Bool.not_false, Int.reduceLT, Int.reduceLE, Int.reduceNeg, Int.reducePow, Int.reduceToNat, $args,*] $[$l:location]?)
/-! ### the law's own nodes reached -/
theorem inL_nats (t : Nat) (r : List Nat) : inD.inL (.int t) (natsD r) = some (decide (t ∈ r)) := by
  have e : natsD r = (r.map fun (k : Nat) => (k : Int)).map D.int := by rw [List.map_map]; rfl
  rw [e, inL_int]
  congr 1
  refine decide_eq_decide.mpr ?_
  rw [List.mem_map]
  refine ⟨fun ⟨k, hk, h⟩ => ?_, fun h => ⟨t, h, rfl⟩⟩
  have : k = t := by omega
  exact this ▸ hk
theorem inX_nats (t : Nat) (m : Md) (r : List Nat) : inX (.int t) (.lst m (natsD r)) = some (decide (t ∈ r)) := by
  have : inD (.int t) (.lst m (natsD r)) = some (decide (t ∈ r)) := inL_nats t r
  unfold inX
  rw [this]
theorem lreach_ok {R : Fs} {m : Mon} {n : Nat} (h : m.Ok n) (hn : n ≤ 1000) {v : Nat} (hv : v < m.vs.length) :
    FT (defF 3 [] (b__law_reach R)) [m.enc, .int v] fun d fs => fs = [] ∧ d = .lst .own (natsD (tr m.nx m.vs.length [v])) := by
  refine FT_def ?_
  have hfew := h.few
  obtain ⟨mD, hmD⟩ : ∃ mD, m.enc = mD := ⟨_, rfl⟩
  have m2 : ixDD mD (.int 2) = some (.tup (m.vs.map .str)) := by rw [← hmD]; rfl
  have m3 : ixDD mD (.int 3) = some (.tup (m.es.map fun r => D.tup (r.map fun (x : Nat) => .int x))) := by rw [← hmD]; rfl
  rw [hmD]
  simp! only [b__law_reach, m2, List.length_map]
  refine ⟨by omega, ?_⟩
  rw [Int.toNat_natCast]
  refine T_goR (fun k ρ => ∃ (f : List Nat) (o3 o4 : Option D), ρ = [some mD, some (.int v), some (.lst .own (natsD f)), o3, o4] ∧ f.Nodup ∧ (∀ x ∈ f, x < m.vs.length) ∧ k ≤ m.vs.length ∧ trGo m.nx m.vs.length (m.vs.length + 1 - k) k f = tr m.nx m.vs.length [v]) ⟨[v], _, _, rfl, by simp, by simpa using hv, Nat.zero_le _, rfl⟩ ?_ ?_
  · rintro k ρ hk ⟨f, o3, o4, rfl, hnd, hlt, hkl, hgo⟩
    have ek : (0 : Int) + (k : Int) = (k : Int) := by omega
    rw [ek]
    have hfl := nodup_few hnd hlt
    have hgo2 : trGo m.nx m.vs.length (m.vs.length - k + 1) k f = tr m.nx m.vs.length [v] := by rw [← hgo, show m.vs.length + 1 - k = m.vs.length - k + 1 by omega]
    simp! only []
    refine T_iteTo (fun b => b = decide (k < f.length)) ?_ (fun c => ?_) (fun c => ?_)
    · simp! only [List.length_map]
      exact decide_eq_decide.mpr (by omega)
    · have c := of_decide_eq_true c.symm
      have hfk : (natsD f)[k]? = some (.int (f.getD k 0)) := nats_at c
      have hfk2 : f[k]? = some (f.getD k 0) := by rw [List.getD_eq_getElem?_getD, List.getElem?_eq_getElem c]; rfl
      have hw : f.getD k 0 < m.vs.length := hlt _ (List.mem_of_getElem? hfk2)
      rw [tr_step hfk2 hfl] at hgo2
      have hrow := h.row hw
      simp! only [hfk, m3, h.at hw]
      refine T_go (fun q ρ => ∃ (dn rest : List Nat) (o4 : Option D), q = natsD rest ∧ m.nx (f.getD k 0) = dn ++ rest ∧ ρ = [some mD, some (.int v), some (.lst .own (natsD (addG f dn))), some (.int k), o4]) ?_ ?_ _ _ ⟨[], m.nx (f.getD k 0), o4, rfl, rfl, rfl⟩
      · intro d q ρ hI
        obtain ⟨dn, rest, o4, hq, hD, hρ⟩ := hI
        subst hρ
        cases rest with
        | nil => cases hq
        | cons x rest =>
          cases hq
          have hin := inX_nats x .own (addG f dn)
          have hxl : x < m.vs.length := hrow.2 x (by rw [hD]; simp)
          have hal : (addG f dn).length ≤ m.vs.length := nodup_few (addG_nodup _ _ hnd) fun y hy => by
            rcases mem_addG.mp hy with hy | hy
            · exact hlt y hy
            · exact hrow.2 y (by rw [hD]; exact List.mem_append_left _ hy)
          have es : addG f (dn ++ [x]) = add1 (addG f dn) x := addG_snoc dn f x
          simp! only []
          refine T_iteTo (fun b => b = !decide (x ∈ addG f dn)) ?_ (fun c => ?_) (fun c => ?_)
          · simp! only [hin]
          · have c : x ∉ addG f dn := by simpa using c
            simp! only [List.length_map]
            refine ⟨by omega, dn ++ [x], rest, some (.int x), rfl, by rw [hD]; simp, ?_⟩
            rw [es, add1, if_neg c, nats_snoc]
          · have c : x ∈ addG f dn := by simpa using c
            simp! only []
            refine ⟨dn ++ [x], rest, some (.int x), rfl, by rw [hD]; simp, ?_⟩
            rw [es, add1, if_pos c]
      · intro ρ hI
        obtain ⟨dn, rest, o4, hq, hD, hρ⟩ := hI
        subst hρ
        cases rest with
        | cons _ _ => cases hq
        | nil =>
          rw [List.append_nil] at hD
          rw [hD] at hgo2
          refine ⟨addG f dn, _, _, rfl, addG_nodup _ _ hnd, fun y hy => ?_, by omega, by rw [← hgo2, show m.vs.length + 1 - (k + 1) = m.vs.length - k by omega]⟩
          rcases mem_addG.mp hy with hy | hy
          · exact hlt y hy
          · exact hrow.2 y (by rw [hD]; exact hy)
    · have c := of_decide_eq_false c.symm
      simp! only []
      refine ⟨f, _, _, rfl, hnd, hlt, by omega, ?_⟩
      rw [← hgo2, tr_stop _ _ _ (.inl (by omega)), tr_stop _ _ _ (.inl (by omega))]
  · rintro ρ ⟨f, o3, o4, rfl, hnd, hlt, hkl, hgo⟩
    have hfl := nodup_few hnd hlt
    rw [tr_stop _ _ _ (.inl hfl)] at hgo
    simp! only []
    rw [hgo]
end Law

namespace Law
open PySem PySem.Spec PyProof.Rows L2 Sim
local macro_rules | `(tactic| simp! only [$args,*] $[$l:location]?) => `(tactic| simp only [Z0, Z1, Z2, Z3, Z4, Z5, Z6, Z7, Z8, Z9, Z10, Z11, Z12, Z13, Z14, Z15, Z16, Z17, Z18, Z19, Z20, Z21, Z22, Z23, Z24, Z25, Z26, Z27, Z28, Z29, Z30, Z31, Z32, Z33, Z34, Z35, Z36, Z37, Z38, Z39, Z40, Z41, Z42, Z43, Z44, Z45, Z46, Z47, Z48, Z49, Z50, Z51, Z52, Z53, Z54, Z55, Z56, Z57, Z58, Z59, Z60, Z61, Z62, Z63, Z64, Z65, Z66, Z67, Z68, Z69, Z70, Z71, Z72, Z73, Z74, Sim.wipeR, Z75, Z76, Z77, Z78, Z79, Z80, Z81, Z82, Z83, Z84, Z85, Z86, Z87, Z88, Z89, Z90, Z91, Z92, Z93, Z94, Z95, Z96, Z97, Z98, Z99, Z100, Z101, Z102, Z103, Z104, Z105, Z106, Z107, Z108, Z109, Z110, Z111, Z112, Z113, Z114, Z115, Z116, Z117, Z118, Z119, Z120, Z121, Z122, Z123, Z124, Z125, Z126, Z127, Z128, Z129, Z130, Z131, Z132, Z133, Z134, Z135, Z136, Z137, Z138, Z139, Z140, Z141, Z142, Z143, Z144, Z145, Z146, Z147, Z148, Z149, Z150, Z151, Z152, Z153, Z154, Z155, Z156, Z157, Z158, Sim.T_sliceO, Sim.sliceO_lst, Sim.T_sliceS, Sim.EndX_nxt, Sim.EndX_ret, Sim.EndX_exc, Sim.rq_ok, Sim.rq_ex, Sim.T_callX, Sim.T_okM, Sim.T_setX, Sim.T_setXV, Sim.T_retX, Sim.T_dropX, Sim.T_raise0, Sim.T_raise1, Sim.T_try, Sim.TryQ_nxt, Sim.TryQ_ret, Sim.TryQ_brk, Sim.TryQ_cnt, Sim.TryQ_exc, Sim.SeqQ_exc, Sim.LoopQ_exc, Sim.BehQ_nxt, Sim.BehQ_ret, Sim.T_tryA, Sim.TryAQ_nxt, Sim.TryAQ_ret, Sim.TryAQ_exc, Sim.T_fld, Sim.T_compO, T_okX, Sim.T_nilX, Sim.T_consX, Sim.T_callFX, Sim.T_callXX, Sim.T_callBX, Sim.XQ_ok, Sim.XQ_ex, Sim.AQ_ok, Sim.AQ_ex, Sim.cap, Z159, Z160, Nat.zero_le, Z161, Z162, Z163, Z164, Z165, Z166, Z167, Z168, Z169, Z170, Z171, Z172, Z173, Z174, Z175, Z176, Z177, List.getElem?_cons_zero, List.getElem?_cons_succ, List.set_cons_zero, List.set_cons_succ, List.map_cons, List.map_nil, List.cons_append, List.nil_append, Option.map_some, List.length_cons, List.length_nil, Int.zero_add, Nat.zero_add, Nat.reduceAdd, Nat.reduceLeDiff, Nat.reduceMul, true_and, and_true, decide_eq_true_eq, decide_eq_false_iff_not, Bool.false_eq_true, Bool.true_eq_false, false_implies, true_implies, implies_true, eq_self, decide_true, decide_false, not_true_eq_false, not_false_eq_true, Bool.not_true, Bool.not_false, Int.reduceLT, Int.reduceLE, Int.reduceNeg, Int.reducePow, Int.reduceToNat, $args,*] $[$l:location]?)
/-! ### covers -/
section
variable {s : Mon} {n : Nat}
abbrev LedOk (f : Fn) : Prop := ∀ {s : Mon} {n : Nat}, s.Ok n → ∀ {v : Nat}, v < s.vs.length → ∀ row : List Nat, (∀ k ∈ row, k < s.rs.length) → FT f [s.enc, .int v, rowT row] fun d fs => fs = [] ∧ d = .int (s.go v row)
theorem led_ok {R : Fs} : LedOk (defF 1 [] (b_led R)) := fun {s n} o {v} hv row hrow => by
  refine FT_def ?_
  generalize hsD : s.enc = sD
  have s3 : ixDD sD (.int 3) = some (.tup (s.es.map fun r => D.tup (r.map fun (x : Nat) => .int x))) := by rw [← hsD]; rfl
  simp! only [b_led]
  refine T_go (fun q ρ => ∃ (dn rest : List Nat) (o3 : Option D), q = natsD rest ∧ row = dn ++ rest ∧ ρ = [some sD, some (.int (s.go v dn)), some (rowT row), o3]) ?_ ?_ _ _ ⟨[], row, _, rfl, rfl, rfl⟩
  · intro d q ρ hI
    obtain ⟨dn, rest, o3, hq, hD, hρ⟩ := hI
    subst hρ
    cases rest with
    | nil => cases hq
    | cons x rest =>
      cases hq
      have hdk : ∀ k ∈ dn, k < s.rs.length := fun k hk => hrow k (by rw [hD]; exact List.mem_append_left _ hk)
      have hx : x < s.rs.length := hrow x (by rw [hD]; simp)
      have hg := o.go dn hv hdk
      have hg1 := nats_at (xs := s.nx (s.go v dn)) (k := x) (by rw [(o.row hg).1]; exact hx)
      simp! only [s3, o.at hg, hg1]
      refine ⟨dn ++ [x], rest, some (.int x), rfl, by rw [hD]; simp, ?_⟩
      rw [Mon.go_app]
      rfl
  · intro ρ hI
    obtain ⟨dn, rest, o3, hq, hD, hρ⟩ := hI
    subst hρ
    cases rest with
    | cons _ _ => cases hq
    | nil =>
      rw [List.append_nil] at hD
      subst hD
      simp! only []
def covR (s : Mon) : LZ Nat := (lbGo s.sel s.rs.length (fun _ => false) s.vs.length 0 [(s.first, [])]).1
theorem lbC (o : s.Ok n) : LbOk s.sel s.rs.length s.first (fun v => v < s.vs.length) [(s.first, [])] := ⟨by simp, fun q hq => by rw [List.mem_singleton] at hq; subst hq; exact ⟨o.first, by simp, rfl⟩⟩
theorem mem_rng (s : Mon) : ∀ v, v < s.vs.length → v ∈ List.range s.vs.length := fun v h => List.mem_range.mpr h
theorem cover_ok {R : Fs} (hled : LedOk R.f_led) (o : s.Ok n) (hn : n ≤ 100) (hr : s.rs.length ≤ 100) :
    FT (defF 5 [] (b_cover R)) [s.enc] fun d fs => fs = [] ∧ d = .lst .own ((covR s).map fun q => rowT q.2) := by
  refine FT_def ?_
  have hfew := o.few
  have hle := fun row hk => hled o o.first row hk
  generalize hsD : s.enc = sD at *
  have s0 : ixDD sD (.int 0) = some (.tup (s.rs.map RD)) := by rw [← hsD]; rfl
  have s1 : ixDD sD (.int 1) = some (.int s.first) := by rw [← hsD]; rfl
  simp! only [b_cover, s1]
  refine ⟨natKeys.ok s.first, ?_⟩
  refine T_while (fun z ρ => ∃ (i : Nat) (Z : LZ Nat) (o4 o5 : Option D), ρ = [some sD, some (.lst .own (Z.map fun q => rowT q.2)), some (setD natE (Z.map Prod.fst)), some (.int i), o4, o5] ∧ LbOk s.sel s.rs.length s.first (fun v => v < s.vs.length) Z ∧ i ≤ Z.length ∧
    (lbGo s.sel s.rs.length (fun _ => false) (s.vs.length - i) i Z).1 = covR s ∧ (∀ q ∈ Z, q.2.length ≤ i) ∧ z = s.vs.length + 1 - i) ?_ wf (s.vs.length + 1) _ (by unfold wf; omega) ⟨0, [(s.first, [])], _, _, rfl, lbC o, Nat.zero_le _, rfl, by simp, rfl⟩
  rintro z ρ ⟨i, Z, o4, o5, rfl, hZ, hi, hgo, hrl, rfl⟩
  have hZf := hZ.few (mem_rng s)
  rw [List.length_range] at hZf
  simp! only [List.length_map]
  refine ⟨fun hig => ?_, fun hig => ?_⟩
  · rw [lb_end _ _ _ (by omega)] at hgo
    rw [← hgo]
  have hil : i < Z.length := by omega
  clear hig
  obtain ⟨q, hq⟩ : ∃ q, Z[i]? = some q := ⟨_, List.getElem?_eq_getElem hil⟩
  have hqm := List.mem_of_getElem? hq
  obtain ⟨hqp, hqk, hqg⟩ := hZ.good q hqm
  have hql := hrl q hqm
  have hLi : s.vs.length - i = (s.vs.length - (i + 1)) + 1 := by omega
  rw [hLi, lb_go hq rfl] at hgo
  simp! only [s0, List.length_map]
  refine ⟨by omega, ?_⟩
  rw [Int.toNat_natCast]
  refine T_goR (fun j ρ => ∃ (o4 o5 : Option D), ρ = [some sD, some (.lst .own ((exF s.sel q.1 q.2 Z j).map fun q => rowT q.2)), some (setD natE ((exF s.sel q.1 q.2 Z j).map Prod.fst)), some (.int i), o4, o5]) ⟨_, _, rfl⟩ ?_ ?_
  · rintro j ρ hj ⟨o4, o5, rfl⟩
    have ej : (0 : Int) + (j : Int) = (j : Int) := by omega
    rw [ej]
    have hin : ∀ v, v < s.vs.length → ∀ k, k < s.rs.length → s.sel v k < s.vs.length := fun v hv k hk => o.sel hv hk
    have hH := hZ.exF hqm hin j (by omega)
    have hHf := hH.few (mem_rng s)
    rw [List.length_range] at hHf
    have hes := exF_succ s.sel q.1 q.2 Z j
    obtain ⟨t, ht⟩ := exF_pre s.sel q.1 q.2 Z j
    have hq' : (exF s.sel q.1 q.2 Z j)[i]? = some q := by rw [ht, List.getElem?_append_left hil]; exact hq
    have hgr' : ((exF s.sel q.1 q.2 Z j).map fun q => rowT q.2)[i]? = some (rowT q.2) := by rw [List.getElem?_map, hq']; rfl
    have hkr : ∀ k ∈ q.2 ++ [j], k < s.rs.length := fun k hk => by
      rcases List.mem_append.mp hk with hk | hk
      · exact hqk k hk
      · rw [List.mem_singleton] at hk; omega
    have hle1 := hle (q.2 ++ [j]) hkr
    obtain ⟨x, hx⟩ : ∃ x, x = s.sel q.1 j := ⟨_, rfl⟩
    have hxg : s.go s.first (q.2 ++ [j]) = x := by
      rw [Mon.go_app, hx]
      have : s.go s.first q.2 = q.1 := hqg.symm
      rw [this]
      rfl
    rw [hxg] at hle1
    have e3 : natsD q.2 ++ [D.int j] = natsD (q.2 ++ [j]) := (nats_snoc q.2 j).symm
    rw [exK, ← hx] at hes
    generalize exF s.sel q.1 q.2 Z j = H at *
    simp! only [s1, hgr', List.length_map, e3]
    refine ⟨by omega, ?_⟩
    refine FT_mono hle1 ?_
    rintro _ _ ⟨rfl, rfl⟩
    simp! only []
    refine T_iteTo (fun b => b = !decide (x ∈ H.map Prod.fst)) ?_ (fun c => ?_) (fun c => ?_)
    · simp! only [natKeys.ok, natKeys.sort1, natKeys.look x (H.map Prod.fst) ((H.map Prod.fst).map fun _ => D.bl true) (by simp)]
      first
        | done
        | rfl
        | exact congrArg _ (decide_eq_decide.mpr Iff.rfl)
    · have c : x ∉ H.map Prod.fst := by simpa using c
      rw [if_neg c] at hes
      have hml : (H.map Prod.fst).length = H.length := List.length_map _
      simp! only []
      refine ⟨_, natKeys.put c (by omega), ?_⟩
      simp! only [hgr', List.length_map, e3]
      refine ⟨by omega, by omega, some (.int j), some (.int x), ?_⟩
      rw [hes, List.map_append, List.map_append]
      rfl
    · have c : x ∈ H.map Prod.fst := by simpa using c
      rw [if_pos c] at hes
      simp! only []
      exact ⟨some (.int j), some (.int x), by rw [hes]⟩
  · rintro ρ ⟨o4, o5, rfl⟩
    have hin : ∀ v, v < s.vs.length → ∀ k, k < s.rs.length → s.sel v k < s.vs.length := fun v hv k hk => o.sel hv hk
    have hH := hZ.exF hqm hin s.rs.length (Nat.le_refl _)
    obtain ⟨t, ht⟩ := exF_pre s.sel q.1 q.2 Z s.rs.length
    have hlen : i + 1 ≤ (exF s.sel q.1 q.2 Z s.rs.length).length := by rw [ht, List.length_append]; omega
    simp! only []
    refine ⟨s.vs.length + 1 - (i + 1), by omega, i + 1, exF s.sel q.1 q.2 Z s.rs.length, _, _, by first | rfl | simp, hH, hlen, hgo, ?_, rfl⟩
    exact exF_short hrl hql s.rs.length
end
end Law

namespace Law
open PySem PySem.Spec PyProof.Rows L2 Sim
local macro_rules | `(tactic| simp! only [$args,*] $[$l:location]?) => `(tactic| simp only [Z0, Z1, Z2, Z3, Z4, Z5, Z6, Z7, Z8, Z9, Z10, Z11, Z12, Z13, Z14, Z15, Z16, Z17, Z18, Z19, Z20, Z21, Z22, Z23, Z24, Z25, Z26, Z27, Z28, Z29, Z30, Z31, Z32, Z33, Z34, Z35, Z36, Z37, Z38, Z39, Z40, Z41, Z42, Z43, Z44, Z45, Z46, Z47, Z48, Z49, Z50, Z51, Z52, Z53, Z54, Z55, Z56, Z57, Z58, Z59, Z60, Z61, Z62, Z63, Z64, Z65, Z66, Z67, Z68, Z69, Z70, Z71, Z72, Z73, Z74, Sim.wipeR, Z75, Z76, Z77, Z78, Z79, Z80, Z81, Z82, Z83, Z84, Z85, Z86, Z87, Z88, Z89, Z90, Z91, Z92, Z93, Z94, Z95, Z96, Z97, Z98, Z99, Z100, Z101, Z102, Z103, Z104, Z105, Z106, Z107, Z108, Z109, Z110, Z111, Z112, Z113, Z114, Z115, Z116, Z117, Z118, Z119, Z120, Z121, Z122, Z123, Z124, Z125, Z126, Z127, Z128, Z129, Z130, Z131, Z132, Z133, Z134, Z135, Z136, Z137, Z138, Z139, Z140, Z141, Z142, Z143, Z144, Z145, Z146, Z147, Z148, Z149, Z150, Z151, Z152, Z153, Z154, Z155, Z156, Z157, Z158, Sim.T_sliceO, Sim.sliceO_lst, Sim.T_sliceS, Sim.EndX_nxt, Sim.EndX_ret, Sim.EndX_exc, Sim.rq_ok, Sim.rq_ex, Sim.T_callX, Sim.T_okM, Sim.T_setX, Sim.T_setXV, Sim.T_retX, Sim.T_dropX, Sim.T_raise0, Sim.T_raise1, Sim.T_try, Sim.TryQ_nxt, Sim.TryQ_ret, Sim.TryQ_brk, Sim.TryQ_cnt, Sim.TryQ_exc, Sim.SeqQ_exc, Sim.LoopQ_exc, Sim.BehQ_nxt, Sim.BehQ_ret, Sim.T_tryA, Sim.TryAQ_nxt, Sim.TryAQ_ret, Sim.TryAQ_exc, Sim.T_fld, Sim.T_compO, T_okX, Sim.T_nilX, Sim.T_consX, Sim.T_callFX, Sim.T_callXX, Sim.T_callBX, Sim.XQ_ok, Sim.XQ_ex, Sim.AQ_ok, Sim.AQ_ex, Sim.cap, Z159, Z160, Nat.zero_le, Z161, Z162, Z163, Z164, Z165, Z166, Z167, Z168, Z169, Z170, Z171, Z172, Z173, Z174, Z175, Z176, Z177, List.getElem?_cons_zero, List.getElem?_cons_succ, List.set_cons_zero, List.set_cons_succ, List.map_cons, List.map_nil, List.cons_append, List.nil_append, Option.map_some, List.length_cons, List.length_nil, Int.zero_add, Nat.zero_add, Nat.reduceAdd, Nat.reduceLeDiff, Nat.reduceMul, true_and, and_true, decide_eq_true_eq, decide_eq_false_iff_not, Bool.false_eq_true, Bool.true_eq_false, false_implies, true_implies, implies_true, eq_self, decide_true, decide_false, not_true_eq_false, not_false_eq_true, Bool.not_true, Bool.not_false, Int.reduceLT, Int.reduceLE, Int.reduceNeg, Int.reducePow, Int.reduceToNat, $args,*] $[$l:location]?)
/-! ### all separators -/
theorem eqv_rowT (a b : List Nat) : Sim.eqv (rowT a) (rowT b) = decide (a = b) := by
  show Sim.eqvs _ _ = _
  exact eqvs_enc (enc := fun (k : Nat) => D.int (k : Int)) eqv_natD a b
theorem dat_rowT (r : List Nat) (h : r.length ≤ 10000) : Dat 20 (rowT r) := .tup (n := 19) (fun d hd => by
  obtain ⟨k, _, rfl⟩ := List.mem_map.mp hd
  exact .int _ _) (by rw [List.length_map]; omega)
noncomputable def sq (s : Mon) (a b : Nat) : List Nat := (sepR s a b).getD []
noncomputable def endsP (s : Mon) (b a : Nat) : List (List Nat) := addG [[]] (((List.range b).flatMap fun b => (List.range b).map fun a => sq s a b) ++ (List.range a).map fun a => sq s a b)
theorem endsP_row (s : Mon) (b a : Nat) : endsP s b (a + 1) = add1 (endsP s b a) (sq s a b) := by
  unfold endsP
  rw [List.range_succ, List.map_append, ← List.append_assoc, List.map_singleton, addG_snoc]
theorem endsP_col (s : Mon) (b : Nat) : endsP s (b + 1) 0 = endsP s b b := by
  unfold endsP
  rw [List.range_succ, List.flatMap_append]
  simp
/-- what is wanted of the separators -/
def SepG (s : Mon) : Prop := ∀ a b, a < s.vs.length → b < s.vs.length → a ≠ b → sepR s a b = some (sq s a b) ∧ (sq s a b).length ≤ 10000 ∧ ∀ k ∈ sq s a b, k < s.rs.length
theorem sepG_of {m s : Mon} {n n1 : Nat} {cl rep : Nat → Nat} (r : Red m s cl rep) (h : m.Ok n) (o : s.Ok n1) (hn : n1 ≤ 100) : SepG s := fun a b ha hb hne => by
  obtain ⟨row, e, h1, h2⟩ := sep_some r h o ha hb hne
  have hsq := sq_le (Nat.le_trans o.few hn)
  unfold sq
  rw [e]
  exact ⟨rfl, by show row.length ≤ 10000; omega, h2⟩
theorem endsP_all {s : Mon} (G : SepG s) : ∀ (b a : Nat), b ≤ s.vs.length → a ≤ b → (a = 0 ∨ b < s.vs.length) → ∀ r ∈ endsP s b a, r.length ≤ 10000 ∧ ∀ k ∈ r, k < s.rs.length := fun b a hb ha hab r hr => by
  unfold endsP at hr
  rcases mem_addG.mp hr with hr | hr
  · rw [List.mem_singleton] at hr
    subst hr
    exact ⟨Nat.zero_le _, by simp⟩
  rcases List.mem_append.mp hr with hr | hr
  · obtain ⟨y, hy, hr⟩ := List.mem_flatMap.mp hr
    obtain ⟨x, hx, rfl⟩ := List.mem_map.mp hr
    have hy := List.mem_range.mp hy
    have hx := List.mem_range.mp hx
    exact (G x y (by omega) (by omega) (by omega)).2
  · obtain ⟨x, hx, rfl⟩ := List.mem_map.mp hr
    have hx := List.mem_range.mp hx
    exact (G x b (by omega) (by omega) (by omega)).2
theorem endsP_few (s : Mon) (b a : Nat) (hb : b ≤ 100) (ha : a ≤ 100) : (endsP s b a).length ≤ 20000 := by
  have h := addG_len (((List.range b).flatMap fun b => (List.range b).map fun a => sq s a b) ++ (List.range a).map fun a => sq s a b) [[]]
  have h2 : ((List.range b).flatMap fun b => (List.range b).map fun a => sq s a b).length ≤ b * 100 := by
    have : ∀ l : List Nat, (∀ x ∈ l, x ≤ 100) → (l.flatMap fun b => (List.range b).map fun a => sq s a b).length ≤ l.length * 100 := by
      intro l
      induction l with
      | nil => intro _; simp
      | cons x l ih =>
        intro hl
        rw [List.flatMap_cons, List.length_append, List.length_map, List.length_range, List.length_cons]
        have := ih fun y hy => hl y (.tail _ hy)
        have := hl x (.head _)
        omega
    have := this (List.range b) fun x hx => by have := List.mem_range.mp hx; omega
    rwa [List.length_range] at this
  have h3 : b * 100 ≤ 10000 := by omega
  unfold endsP
  rw [List.length_append, List.length_map, List.length_range] at h
  simp only [List.length_singleton] at h
  omega
abbrev SepOk (f : Fn) : Prop := ∀ {s : Mon} {n : Nat}, s.Ok n → n ≤ 100 → s.rs.length ≤ 100 → ∀ {a b : Nat}, a < s.vs.length → b < s.vs.length → FT f [s.enc, .int a, .int b] fun d fs => fs = [] ∧ d = oRow (sepR s a b)
theorem seps_ok {R : Fs} (hsep : SepOk R.f_separator) {s : Mon} {n : Nat} (o : s.Ok n) (hn : n ≤ 100) (hr : s.rs.length ≤ 100) (G : SepG s) :
    FT (defF 4 [] (b_separators R)) [s.enc] fun d fs => fs = [] ∧ d = .lst .own ((endsP s s.vs.length 0).map rowT) := by
  refine FT_def ?_
  have hfew := o.few
  have hs := fun {a b : Nat} (ha : a < s.vs.length) (hb : b < s.vs.length) => hsep o hn hr ha hb
  generalize hsD : s.enc = sD at *
  have s2 : ixDD sD (.int 2) = some (.tup (s.vs.map .str)) := by rw [← hsD]; rfl
  simp! only [b_separators, s2, List.length_map]
  refine ⟨by omega, ?_⟩
  rw [Int.toNat_natCast]
  refine T_goR (fun b ρ => ∃ (o2 o3 o4 : Option D), ρ = [some sD, some (.lst .own ((endsP s b 0).map rowT)), o2, o3, o4]) ⟨_, _, _, rfl⟩ ?_ ?_
  · rintro b ρ hb ⟨o2, o3, o4, rfl⟩
    have eb : (0 : Int) + (b : Int) = (b : Int) := by omega
    rw [eb]
    simp! only []
    refine ⟨by omega, ?_⟩
    rw [Int.toNat_natCast]
    refine T_goR (fun a ρ => ∃ (o3 o4 : Option D), ρ = [some sD, some (.lst .own ((endsP s b a).map rowT)), some (.int b), o3, o4]) ⟨_, _, rfl⟩ ?_ ?_
    · rintro a ρ ha ⟨o3, o4, rfl⟩
      have ea : (0 : Int) + (a : Int) = (a : Int) := by omega
      rw [ea]
      obtain ⟨g1, g2, g3⟩ := G a b (by omega) hb (by omega)
      have hs1 := hs (a := a) (b := b) (by omega) hb
      rw [g1] at hs1
      have hE := endsP_all G b a (by omega) (by omega) (.inr hb)
      have hEl := endsP_few s b a (by omega) (by omega)
      have hin := in_enc eqv_rowT (sq s a b) .own (endsP s b a) (dat_rowT _ g2) (fun y hy => dat_rowT y (hE y hy).1)
      have es := endsP_row s b a
      generalize endsP s b a = E at *
      generalize sq s a b = q at *
      simp! only []
      refine FT_mono hs1 ?_
      rintro _ _ ⟨rfl, rfl⟩
      simp! only [oRow]
      refine T_iteTo (fun c => c = !decide (q ∈ E)) ?_ (fun c => ?_) (fun c => ?_)
      · simp! only [hin]
        first
          | done
          | exact congrArg _ (decide_eq_decide.mpr Iff.rfl)
          | trace_state
      · have c : q ∉ E := by simpa using c
        rw [add1, if_neg c] at es
        simp! only [List.length_map]
        refine ⟨by omega, some (.int a), some (rowT q), ?_⟩
        rw [es, List.map_append]
        rfl
      · have c : q ∈ E := by simpa using c
        rw [add1, if_pos c] at es
        simp! only []
        exact ⟨some (.int a), some (rowT q), by rw [es]⟩
    · rintro ρ ⟨o3, o4, rfl⟩
      exact ⟨some (.int b), o3, o4, by rw [endsP_col]⟩
  · rintro ρ ⟨o2, o3, o4, rfl⟩
    simp! only []
end Law

namespace Law
open PySem PySem.Spec PyProof.Rows L2 Sim
/-! ### words -/
def words (N : Nat) : Nat → List (List Nat)
  | 0 => [[]]
  | l + 1 => (words N l).flatMap fun w => (List.range N).map fun k => w ++ [k]
theorem words_len (N : Nat) : ∀ l, (words N l).length = N ^ l
  | 0 => rfl
  | l + 1 => by
    show ((words N l).flatMap fun w => (List.range N).map fun k => w ++ [k]).length = _
    rw [List.length_flatMap]
    simp only [List.length_map, List.length_range, List.map_const', List.sum_replicate_nat, words_len N l]
    rw [Nat.pow_succ]
theorem words_all (N : Nat) : ∀ l, ∀ w ∈ words N l, w.length = l
  | 0, w, h => by rw [List.mem_singleton.mp h]; rfl
  | l + 1, w, h => by
    obtain ⟨v, hv, h⟩ := List.mem_flatMap.mp h
    obtain ⟨k, _, rfl⟩ := List.mem_map.mp h
    rw [List.length_append, words_all N l v hv]; rfl
theorem mem_words (N : Nat) (w : List Nat) : (∀ k ∈ w, k < N) → w ∈ words N w.length := by
  induction w using snocInd with
  | nil => intro _; exact .head _
  | snoc w k ih =>
    intro h
    rw [List.length_append]
    show w ++ [k] ∈ (words N w.length).flatMap fun w => (List.range N).map fun k => w ++ [k]
    exact List.mem_flatMap.mpr ⟨w, ih fun j hj => h j (List.mem_append_left _ hj), List.mem_map.mpr ⟨k, List.mem_range.mpr (h k (by simp)), rfl⟩⟩
end Law

namespace Law
open PySem PySem.Spec PyProof.Rows L2 Sim
local macro_rules | `(tactic| simp! only [$args,*] $[$l:location]?) => `(tactic| simp only [Z0, Z1, Z2, Z3, Z4, Z5, Z6, Z7, Z8, Z9, Z10, Z11, Z12, Z13, Z14, Z15, Z16, Z17, Z18, Z19, Z20, Z21, Z22, Z23, Z24, Z25, Z26, Z27, Z28, Z29, Z30, Z31, Z32, Z33, Z34, Z35, Z36, Z37, Z38, Z39, Z40, Z41, Z42, Z43, Z44, Z45, Z46, Z47, Z48, Z49, Z50, Z51, Z52, Z53, Z54, Z55, Z56, Z57, Z58, Z59, Z60, Z61, Z62, Z63, Z64, Z65, Z66, Z67, Z68, Z69, Z70, Z71, Z72, Z73, Z74, Sim.wipeR, Z75, Z76, Z77, Z78, Z79, Z80, Z81, Z82, Z83, Z84, Z85, Z86, Z87, Z88, Z89, Z90, Z91, Z92, Z93, Z94, Z95, Z96, Z97, Z98, Z99, Z100, Z101, Z102, Z103, Z104, Z105, Z106, Z107, Z108, Z109, Z110, Z111, Z112, Z113, Z114, Z115, Z116, Z117, Z118, Z119, Z120, Z121, Z122, Z123, Z124, Z125, Z126, Z127, Z128, Z129, Z130, Z131, Z132, Z133, Z134, Z135, Z136, Z137, Z138, Z139, Z140, Z141, Z142, Z143, Z144, Z145, Z146, Z147, Z148, Z149, Z150, Z151, Z152, Z153, Z154, Z155, Z156, Z157, Z158, Sim.T_sliceO, Sim.sliceO_lst, Sim.T_sliceS, Sim.EndX_nxt, Sim.EndX_ret, Sim.EndX_exc, Sim.rq_ok, Sim.rq_ex, Sim.T_callX, Sim.T_okM, Sim.T_setX, Sim.T_setXV, Sim.T_retX, Sim.T_dropX, Sim.T_raise0, Sim.T_raise1, Sim.T_try, Sim.TryQ_nxt, Sim.TryQ_ret, Sim.TryQ_brk, Sim.TryQ_cnt, Sim.TryQ_exc, Sim.SeqQ_exc, Sim.LoopQ_exc, Sim.BehQ_nxt, Sim.BehQ_ret, Sim.T_tryA, Sim.TryAQ_nxt, Sim.TryAQ_ret, Sim.TryAQ_exc, Sim.T_fld, Sim.T_compO, T_okX, Sim.T_nilX, Sim.T_consX, Sim.T_callFX, Sim.T_callXX, Sim.T_callBX, Sim.XQ_ok, Sim.XQ_ex, Sim.AQ_ok, Sim.AQ_ex, Sim.cap, Z159, Z160, Nat.zero_le, Z161, Z162, Z163, Z164, Z165, Z166, Z167, Z168, Z169, Z170, Z171, Z172, Z173, Z174, Z175, Z176, Z177, List.getElem?_cons_zero, List.getElem?_cons_succ, List.set_cons_zero, List.set_cons_succ, List.map_cons, List.map_nil, List.cons_append, List.nil_append, Option.map_some, List.length_cons, List.length_nil, Int.zero_add, Nat.zero_add, Nat.reduceAdd, Nat.reduceLeDiff, Nat.reduceMul, true_and, and_true, decide_eq_true_eq, decide_eq_false_iff_not, Bool.false_eq_true, Bool.true_eq_false, false_implies, true_implies, implies_true, eq_self, decide_true, decide_false, not_true_eq_false, not_false_eq_true, Bool.not_true, Bool.not_false, Int.reduceLT, Int.reduceLE, Int.reduceNeg, Int.reducePow, Int.reduceToNat, $args,*] $[$l:location]?)
/-! ### words up to a length -/
def wordsU (N : Nat) : Nat → List (List Nat)
  | 0 => [[]]
  | l + 1 => wordsU N l ++ words N (l + 1)
theorem wordsU_few (N : Nat) (hN : N ≤ 6) : ∀ l, l ≤ 4 → (wordsU N l).length ≤ 2000 ∧ (words N l).length ≤ 1296 := by
  have hw : ∀ l, l ≤ 4 → (words N l).length ≤ 6 ^ l := fun l hl => by
    rw [words_len]
    exact Nat.pow_le_pow_left hN l
  intro l hl
  have h0 := hw 0 (by omega)
  have h1 := hw 1 (by omega)
  have h2 := hw 2 (by omega)
  have h3 := hw 3 (by omega)
  have h4 := hw 4 (by omega)
  match l, hl with
  | 0, _ => exact ⟨by show 1 ≤ 2000; omega, by omega⟩
  | 1, _ => exact ⟨by show ([[]] ++ words N 1).length ≤ 2000; rw [List.length_append]; simp only [List.length_singleton]; omega, by omega⟩
  | 2, _ => exact ⟨by show (([[]] ++ words N 1) ++ words N 2).length ≤ 2000; rw [List.length_append, List.length_append]; simp only [List.length_singleton]; omega, by omega⟩
  | 3, _ => exact ⟨by show ((([[]] ++ words N 1) ++ words N 2) ++ words N 3).length ≤ 2000; rw [List.length_append, List.length_append, List.length_append]; simp only [List.length_singleton]; omega, by omega⟩
  | 4, _ => exact ⟨by show (((([[]] ++ words N 1) ++ words N 2) ++ words N 3) ++ words N 4).length ≤ 2000; rw [List.length_append, List.length_append, List.length_append, List.length_append]; simp only [List.length_singleton]; omega, by omega⟩
theorem words_up_ok {R : Fs} (N l : Nat) (hN : N ≤ 6) (hl : l ≤ 4) : FT (defF 5 [] (b_words_up_to R)) [.int N, .int l] fun d fs => fs = [] ∧ ∃ md, (md = .own ∨ md = .sh) ∧ d = .lst md ((wordsU N l).map rowT) := by
  refine FT_def ?_
  simp! only [b_words_up_to]
  refine ⟨by omega, ?_⟩
  rw [Int.toNat_natCast]
  refine T_goR (fun j ρ => ∃ (md : Md) (o4 : Option D), (md = .own ∨ md = .sh) ∧ ρ = [some (.int N), some (.int l), some (.lst md ((wordsU N j).map rowT)), some (.lst .sh ((words N j).map rowT)), o4, none, none]) ⟨.own, _, .inl rfl, rfl⟩ ?_ ?_
  · rintro j ρ hj ⟨md, o4, hmd, rfl⟩
    have ej : (0 : Int) + (j : Int) = (j : Int) := by omega
    rw [ej]
    obtain ⟨h1, h2⟩ := wordsU_few N hN (j + 1) (by omega)
    obtain ⟨h3, h4⟩ := wordsU_few N hN j (by omega)
    have hwl := words_all N j
    have hw : words N (j + 1) = (words N j).flatMap fun w => (List.range N).map fun k => w ++ [k] := rfl
    have hu : wordsU N (j + 1) = wordsU N j ++ words N (j + 1) := rfl
    simp! only []
    generalize hW : words N j = W at *
    refine T_compGo2 (fun d => match d with | .tup r => (List.range N).map fun (k : Nat) => .tup (r ++ [D.int (k : Int)]) | _ => []) _ _ (fun d hd => ?_) ?_
    · obtain ⟨r, hr1, rfl⟩ := List.mem_map.mp hd
      have hrl := hwl r hr1
      simp! only []
      refine ⟨by omega, fun acc Q' hQ => ?_⟩
      rw [Int.toNat_natCast]
      refine T_compF (fun (k : Nat) => D.int (0 + (k : Int))) (fun _ => true) (fun (k : Nat) => D.tup (natsD r ++ [D.int (k : Int)])) (List.range N) acc (fun k hk => ?_) ?_
      · have ek : (0 : Int) + (k : Int) = (k : Int) := by omega
        simp! only [ek, List.length_map]
        first | done | omega | exact ⟨by omega, by omega⟩
      · rw [List.filter_eq_self.mpr (fun _ _ => rfl)]
        exact hQ _ rfl
    · have e : (List.flatMap (fun d => match d with | .tup r => (List.range N).map fun (k : Nat) => D.tup (r ++ [D.int (k : Int)]) | _ => []) (W.map rowT)) = (words N (j + 1)).map rowT := by
        rw [hw, List.flatMap_map, List.map_flatMap]
        congr 1
        funext w
        rw [List.map_map]
        refine List.map_congr_left fun k _ => ?_
        show D.tup (natsD w ++ [D.int (k : Int)]) = D.tup (natsD (w ++ [k]))
        rw [nats_snoc]
      rw [List.nil_append, e]
      simp! only [List.length_map]
      exact ⟨by omega, by omega, .sh, _, .inr rfl, by rw [hu, List.map_append]⟩
  · rintro ρ ⟨md, o4, hmd, rfl⟩
    simp! only []
    exact ⟨md, hmd, rfl⟩
end Law

namespace Law
open PySem PySem.Spec PyProof.Rows L2 Sim
local macro_rules | `(tactic| simp! only [$args,*] $[$l:location]?) => `(tactic| simp only [Z0, Z1, Z2, Z3, Z4, Z5, Z6, Z7, Z8, Z9, Z10, Z11, Z12, Z13, Z14, Z15, Z16, Z17, Z18, Z19, Z20, Z21, Z22, Z23, Z24, Z25, Z26, Z27, Z28, Z29, Z30, Z31, Z32, Z33, Z34, Z35, Z36, Z37, Z38, Z39, Z40, Z41, Z42, Z43, Z44, Z45, Z46, Z47, Z48, Z49, Z50, Z51, Z52, Z53, Z54, Z55, Z56, Z57, Z58, Z59, Z60, Z61, Z62, Z63, Z64, Z65, Z66, Z67, Z68, Z69, Z70, Z71, Z72, Z73, Z74, Sim.wipeR, Z75, Z76, Z77, Z78, Z79, Z80, Z81, Z82, Z83, Z84, Z85, Z86, Z87, Z88, Z89, Z90, Z91, Z92, Z93, Z94, Z95, Z96, Z97, Z98, Z99, Z100, Z101, Z102, Z103, Z104, Z105, Z106, Z107, Z108, Z109, Z110, Z111, Z112, Z113, Z114, Z115, Z116, Z117, Z118, Z119, Z120, Z121, Z122, Z123, Z124, Z125, Z126, Z127, Z128, Z129, Z130, Z131, Z132, Z133, Z134, Z135, Z136, Z137, Z138, Z139, Z140, Z141, Z142, Z143, Z144, Z145, Z146, Z147, Z148, Z149, Z150, Z151, Z152, Z153, Z154, Z155, Z156, Z157, Z158, Sim.T_sliceO, Sim.sliceO_lst, Sim.T_sliceS, Sim.EndX_nxt, Sim.EndX_ret, Sim.EndX_exc, Sim.rq_ok, Sim.rq_ex, Sim.T_callX, Sim.T_okM, Sim.T_setX, Sim.T_setXV, Sim.T_retX, Sim.T_dropX, Sim.T_raise0, Sim.T_raise1, Sim.T_try, Sim.TryQ_nxt, Sim.TryQ_ret, Sim.TryQ_brk, Sim.TryQ_cnt, Sim.TryQ_exc, Sim.SeqQ_exc, Sim.LoopQ_exc, Sim.BehQ_nxt, Sim.BehQ_ret, Sim.T_tryA, Sim.TryAQ_nxt, Sim.TryAQ_ret, Sim.TryAQ_exc, Sim.T_fld, Sim.T_compO, T_okX, Sim.T_nilX, Sim.T_consX, Sim.T_callFX, Sim.T_callXX, Sim.T_callBX, Sim.XQ_ok, Sim.XQ_ex, Sim.AQ_ok, Sim.AQ_ex, Sim.cap, Z159, Z160, Nat.zero_le, Z161, Z162, Z163, Z164, Z165, Z166, Z167, Z168, Z169, Z170, Z171, Z172, Z173, Z174, Z175, Z176, Z177, List.getElem?_cons_zero, List.getElem?_cons_succ, List.set_cons_zero, List.set_cons_succ, List.map_cons, List.map_nil, List.cons_append, List.nil_append, Option.map_some, List.length_cons, List.length_nil, Int.zero_add, Nat.zero_add, Nat.reduceAdd, Nat.reduceLeDiff, Nat.reduceMul, true_and, and_true, decide_eq_true_eq, decide_eq_false_iff_not, Bool.false_eq_true, Bool.true_eq_false, false_implies, true_implies, implies_true, eq_self, decide_true, decide_false, not_true_eq_false, not_false_eq_true, Bool.not_true, Bool.not_false, Int.reduceLT, Int.reduceLE, Int.reduceNeg, Int.reducePow, Int.reduceToNat, $args,*] $[$l:location]?)
theorem lwords_ok {R : Fs} (N l : Nat) (hN : N ≤ 6) (hl : l ≤ 4) : FT (defF 6 [] (b__law_words R)) [.int N, .int l] fun d fs => fs = [] ∧ ∃ md, (md = .own ∨ md = .sh) ∧ d = .lst md ((wordsU N l).map rowT) := by
  refine FT_def ?_
  simp! only [b__law_words]
  refine ⟨by omega, ?_⟩
  rw [Int.toNat_natCast]
  refine T_goR (fun j ρ => ∃ (md : Md) (o4 o5 o6 o7 : Option D), (md = .own ∨ md = .sh) ∧ ρ = [some (.int N), some (.int l), some (.lst md ((wordsU N j).map rowT)), some (.lst .sh ((words N j).map rowT)), o4, o5, o6, o7]) ⟨.own, _, _, _, _, .inl rfl, rfl⟩ ?_ ?_
  · rintro j ρ hj ⟨md, o4, o5, o6, o7, hmd, rfl⟩
    have ej : (0 : Int) + (j : Int) = (j : Int) := by omega
    rw [ej]
    have hA := wordsU_few N hN (j + 1) (by omega)
    have hB := wordsU_few N hN j (by omega)
    have h2 := hA.2
    have h0 := words_all N j
    have hw : words N (j + 1) = (words N j).flatMap fun w => (List.range N).map fun k => w ++ [k] := rfl
    have hu : wordsU N (j + 1) = wordsU N j ++ words N (j + 1) := rfl
    simp! only []
    generalize words N j = W at *
    refine T_cut (fun ρ => ∃ (o6 o7 : Option D), ρ = [some (.int N), some (.int l), some (.lst md ((wordsU N j).map rowT)), some (.lst .sh (W.map rowT)), some (.int (j : Int)), some (.lst .own ((W.flatMap fun w => (List.range N).map fun k => w ++ [k]).map rowT)), o6, o7]) ?_ ?_
    · refine T_go (fun q ρ => ∃ (dn rest : List (List Nat)) (o6 o7 : Option D), q = rest.map rowT ∧ W = dn ++ rest ∧ ρ = [some (.int N), some (.int l), some (.lst md ((wordsU N j).map rowT)), some (.lst .sh (W.map rowT)), some (.int (j : Int)), some (.lst .own ((dn.flatMap fun w => (List.range N).map fun k => w ++ [k]).map rowT)), o6, o7]) ?_ ?_ _ _ ⟨[], W, _, _, rfl, rfl, rfl⟩
      · intro d q ρ hI
        obtain ⟨dn, rest, o6, o7, hq, hD, hρ⟩ := hI
        subst hρ
        cases rest with
        | nil => cases hq
        | cons w rest =>
          cases hq
          have hwl : w.length = j := h0 w (by rw [hD]; simp)
          have hdn : (dn.flatMap fun w => (List.range N).map fun k => w ++ [k]).length + N ≤ 1296 := by
            rw [hw, hD, List.flatMap_append, List.flatMap_cons, List.length_append, List.length_append, List.length_map, List.length_range] at h2
            omega
          simp! only []
          refine ⟨by omega, ?_⟩
          rw [Int.toNat_natCast]
          refine T_goR (fun k ρ => ∃ (o7 : Option D), ρ = [some (.int N), some (.int l), some (.lst md ((wordsU N j).map rowT)), some (.lst .sh (W.map rowT)), some (.int (j : Int)), some (.lst .own (((dn.flatMap fun w => (List.range N).map fun k => w ++ [k]) ++ (List.range k).map fun k => w ++ [k]).map rowT)), some (rowT w), o7]) ⟨o7, by simp⟩ ?_ ?_
          · rintro k ρ hk ⟨o7, rfl⟩
            have ek : (0 : Int) + (k : Int) = (k : Int) := by omega
            rw [ek]
            have e3 : natsD w ++ [D.int k] = natsD (w ++ [k]) := (nats_snoc w k).symm
            simp! only [List.length_map, List.length_append, List.length_range, e3]
            refine ⟨by omega, by omega, some (.int k), ?_⟩
            rw [List.range_succ, List.map_append (l₁ := List.range k), ← List.append_assoc, List.map_append (l₂ := List.map _ [k])]
            rfl
          · rintro ρ ⟨o7, rfl⟩
            exact ⟨dn ++ [w], rest, some (rowT w), o7, rfl, by rw [hD]; simp, by rw [List.flatMap_append]; simp⟩
      · intro ρ hI
        obtain ⟨dn, rest, o6, o7, hq, hD, hρ⟩ := hI
        subst hρ
        cases rest with
        | cons _ _ => cases hq
        | nil =>
          rw [List.append_nil] at hD
          subst hD
          exact ⟨rfl, _, _, rfl⟩
    rintro _ ⟨o6, o7, rfl⟩
    rw [← hw]
    simp! only [List.length_map]
    first
      | exact ⟨by omega, .sh, _, _, _, _, .inr rfl, by rw [hu, List.map_append]⟩
      | trace_state
  · rintro ρ ⟨md, o4, o5, o6, o7, hmd, rfl⟩
    simp! only []
    exact ⟨md, hmd, rfl⟩
end Law

namespace Law
open PySem PySem.Spec PyProof.Rows L2 Sim
local macro_rules | `(tactic| simp! only [$args,*] $[$l:location]?) => `(tactic| simp only [Z0, Z1, Z2, Z3, Z4, Z5, Z6, Z7, Z8, Z9, Z10, Z11, Z12, Z13, Z14, Z15, Z16, Z17, Z18, Z19, Z20, Z21, Z22, Z23, Z24, Z25, Z26, Z27, Z28, Z29, Z30, Z31, Z32, Z33, Z34, Z35, Z36, Z37, Z38, Z39, Z40, Z41, Z42, Z43, Z44, Z45, Z46, Z47, Z48, Z49, Z50, Z51, Z52, Z53, Z54, Z55, Z56, Z57, Z58, Z59, Z60, Z61, Z62, Z63, Z64, Z65, Z66, Z67, Z68, Z69, Z70, Z71, Z72, Z73, Z74, Sim.wipeR, Z75, Z76, Z77, Z78, Z79, Z80, Z81, Z82, Z83, Z84, Z85, Z86, Z87, Z88, Z89, Z90, Z91, Z92, Z93, Z94, Z95, Z96, Z97, Z98, Z99, Z100, Z101, Z102, Z103, Z104, Z105, Z106, Z107, Z108, Z109, Z110, Z111, Z112, Z113, Z114, Z115, Z116, Z117, Z118, Z119, Z120, Z121, Z122, Z123, Z124, Z125, Z126, Z127, Z128, Z129, Z130, Z131, Z132, Z133, Z134, Z135, Z136, Z137, Z138, Z139, Z140, Z141, Z142, Z143, Z144, Z145, Z146, Z147, Z148, Z149, Z150, Z151, Z152, Z153, Z154, Z155, Z156, Z157, Z158, Sim.T_sliceO, Sim.sliceO_lst, Sim.T_sliceS, Sim.EndX_nxt, Sim.EndX_ret, Sim.EndX_exc, Sim.rq_ok, Sim.rq_ex, Sim.T_callX, Sim.T_okM, Sim.T_setX, Sim.T_setXV, Sim.T_retX, Sim.T_dropX, Sim.T_raise0, Sim.T_raise1, Sim.T_try, Sim.TryQ_nxt, Sim.TryQ_ret, Sim.TryQ_brk, Sim.TryQ_cnt, Sim.TryQ_exc, Sim.SeqQ_exc, Sim.LoopQ_exc, Sim.BehQ_nxt, Sim.BehQ_ret, Sim.T_tryA, Sim.TryAQ_nxt, Sim.TryAQ_ret, Sim.TryAQ_exc, Sim.T_fld, Sim.T_compO, T_okX, Sim.T_nilX, Sim.T_consX, Sim.T_callFX, Sim.T_callXX, Sim.T_callBX, Sim.XQ_ok, Sim.XQ_ex, Sim.AQ_ok, Sim.AQ_ex, Sim.cap, Z159, Z160, Nat.zero_le, Z161, Z162, Z163, Z164, Z165, Z166, Z167, Z168, Z169, Z170, Z171, Z172, Z173, Z174, Z175, Z176, Z177, List.getElem?_cons_zero, List.getElem?_cons_succ, List.set_cons_zero, List.set_cons_succ, List.map_cons, List.map_nil, List.cons_append, List.nil_append, Option.map_some, List.length_cons, List.length_nil, Int.zero_add, Nat.zero_add, Nat.reduceAdd, Nat.reduceLeDiff, Nat.reduceMul, true_and, and_true, decide_eq_true_eq, decide_eq_false_iff_not, Bool.false_eq_true, Bool.true_eq_false, false_implies, true_implies, implies_true, eq_self, decide_true, decide_false, not_true_eq_false, not_false_eq_true, Bool.not_true, Bool.not_false, Int.reduceLT, Int.reduceLE, Int.reduceNeg, Int.reducePow, Int.reduceToNat, $args,*] $[$l:location]?)
theorem count_ok {R : Fs} (N l : Nat) (hN : N ≤ 6) (hl : l ≤ 4) : FT (defF 3 [] (b_count_words R)) [.int N, .int l] fun d fs => fs = [] ∧ d = .int ((wordsU N l).length : Nat) := by
  refine FT_def ?_
  simp! only [b_count_words]
  refine ⟨by omega, ?_⟩
  rw [Int.toNat_natCast]
  refine T_goR (fun j ρ => ∃ (o4 : Option D), ρ = [some (.int N), some (.int l), some (.int ((wordsU N j).length : Nat)), some (.int ((words N j).length : Nat)), o4]) ⟨_, rfl⟩ ?_ ?_
  · rintro j ρ hj ⟨o4, rfl⟩
    have ej : (0 : Int) + (j : Int) = (j : Int) := by omega
    rw [ej]
    have hA := wordsU_few N hN (j + 1) (by omega)
    have hB := wordsU_few N hN j (by omega)
    have e1 : ((words N j).length : Int) * (N : Int) = ((words N (j + 1)).length : Int) := by
      rw [words_len, words_len, Nat.pow_succ, Int.natCast_mul]
    have e2 : ((wordsU N j).length : Int) + ((words N (j + 1)).length : Int) = ((wordsU N (j + 1)).length : Int) := by
      show _ = (((wordsU N j ++ words N (j + 1)).length : Nat) : Int)
      rw [List.length_append, Int.natCast_add]
    simp! only [e1, e2]
    first
      | exact ⟨_, rfl⟩
      | exact ⟨by omega, _, rfl⟩
      | trace_state
  · rintro ρ ⟨o4, rfl⟩
    simp! only []
end Law

namespace Law
open PySem PySem.Spec PyProof.Rows L2 Sim
/-! ### rows of places as keys -/
abbrev rowE (xs : List Nat) : D := .tup (natsD xs)
theorem keyOf_row (xs : List Nat) : Sim.keyOf (rowE xs) = some (.tup (xs.map fun (k : Nat) => NestedKey.num k)) := by
  show (match Sim.keysOf (natsD xs) with
    | some ks => some (NestedKey.tup ks)
    | none => none) = _
  rw [keysOf_nats]
theorem rowKeys : Keys rowE where
  same := fun a b => by
    unfold sameK
    rw [keyOf_row, keyOf_row]
    refine decide_eq_decide.mpr ⟨fun h => ?_, fun h => by rw [h]⟩
    have h := Option.some.inj h
    injection h with h
    exact natnum_inj h
  ok := fun a => by
    refine keyOk_of (keyOf_row a) rfl ?_
    have : NestedKey.depthAll (a.map fun (k : Nat) => NestedKey.num k) = 0 := by
      induction a with
      | nil => rfl
      | cons k a ih =>
        show Nat.max 0 (NestedKey.depthAll (a.map fun (k : Nat) => NestedKey.num k)) = 0
        rw [ih]; rfl
    show NestedKey.depthAll (a.map fun (k : Nat) => NestedKey.num k) + 1 ≤ 8
    rw [this]
    decide
  leaf := fun a b => rfl
end Law

namespace Law
open PySem PySem.Spec PyProof.Rows L2 Sim
local macro_rules | `(tactic| simp! only [$args,*] $[$l:location]?) => `(tactic| simp only [Z0, Z1, Z2, Z3, Z4, Z5, Z6, Z7, Z8, Z9, Z10, Z11, Z12, Z13, Z14, Z15, Z16, Z17, Z18, Z19, Z20, Z21, Z22, Z23, Z24, Z25, Z26, Z27, Z28, Z29, Z30, Z31, Z32, Z33, Z34, Z35, Z36, Z37, Z38, Z39, Z40, Z41, Z42, Z43, Z44, Z45, Z46, Z47, Z48, Z49, Z50, Z51, Z52, Z53, Z54, Z55, Z56, Z57, Z58, Z59, Z60, Z61, Z62, Z63, Z64, Z65, Z66, Z67, Z68, Z69, Z70, Z71, Z72, Z73, Z74, Sim.wipeR, Z75, Z76, Z77, Z78, Z79, Z80, Z81, Z82, Z83, Z84, Z85, Z86, Z87, Z88, Z89, Z90, Z91, Z92, Z93, Z94, Z95, Z96, Z97, Z98, Z99, Z100, Z101, Z102, Z103, Z104, Z105, Z106, Z107, Z108, Z109, Z110, Z111, Z112, Z113, Z114, Z115, Z116, Z117, Z118, Z119, Z120, Z121, Z122, Z123, Z124, Z125, Z126, Z127, Z128, Z129, Z130, Z131, Z132, Z133, Z134, Z135, Z136, Z137, Z138, Z139, Z140, Z141, Z142, Z143, Z144, Z145, Z146, Z147, Z148, Z149, Z150, Z151, Z152, Z153, Z154, Z155, Z156, Z157, Z158, Sim.T_sliceO, Sim.sliceO_lst, Sim.T_sliceS, Sim.EndX_nxt, Sim.EndX_ret, Sim.EndX_exc, Sim.rq_ok, Sim.rq_ex, Sim.T_callX, Sim.T_okM, Sim.T_setX, Sim.T_setXV, Sim.T_retX, Sim.T_dropX, Sim.T_raise0, Sim.T_raise1, Sim.T_try, Sim.TryQ_nxt, Sim.TryQ_ret, Sim.TryQ_brk, Sim.TryQ_cnt, Sim.TryQ_exc, Sim.SeqQ_exc, Sim.LoopQ_exc, Sim.BehQ_nxt, Sim.BehQ_ret, Sim.T_tryA, Sim.TryAQ_nxt, Sim.TryAQ_ret, Sim.TryAQ_exc, Sim.T_fld, Sim.T_compO, T_okX, Sim.T_nilX, Sim.T_consX, Sim.T_callFX, Sim.T_callXX, Sim.T_callBX, Sim.XQ_ok, Sim.XQ_ex, Sim.AQ_ok, Sim.AQ_ex, Sim.cap, Z159, Z160, Nat.zero_le, Z161, Z162, Z163, Z164, Z165, Z166, Z167, Z168, Z169, Z170, Z171, Z172, Z173, Z174, Z175, Z176, Z177, List.getElem?_cons_zero, List.getElem?_cons_succ, List.set_cons_zero, List.set_cons_succ, List.map_cons, List.map_nil, List.cons_append, List.nil_append, Option.map_some, List.length_cons, List.length_nil, Int.zero_add, Nat.zero_add, Nat.reduceAdd, Nat.reduceLeDiff, Nat.reduceMul, true_and, and_true, decide_eq_true_eq, decide_eq_false_iff_not, Bool.false_eq_true, Bool.true_eq_false, false_implies, true_implies, implies_true, eq_self, decide_true, decide_false, not_true_eq_false, not_false_eq_true, Bool.not_true, Bool.not_false, Int.reduceLT, Int.reduceLE, Int.reduceNeg, Int.reducePow, Int.reduceToNat, $args,*] $[$l:location]?)
/-! ### sizes -/
theorem lb_short {α : Type} [DecidableEq α] {nx : α → Nat → α} {N : Nat} {stop : α → Bool} : ∀ (n i : Nat) (Z : LZ α), (∀ q ∈ Z, q.2.length ≤ i) → ∀ q ∈ (lbGo nx N stop n i Z).1, q.2.length ≤ n + i
  | 0, i, Z, h, q, hq => by have := h q hq; omega
  | n + 1, i, Z, h, q, hq => by
    unfold lbGo at hq
    split at hq
    · have := lb_short n (i + 1) Z (fun q hq => by have := h q hq; omega) q hq; omega
    · rename_i p hp
      split at hq
      · have := h q hq; omega
      · have := lb_short n (i + 1) _ (exF_short h (h p (List.mem_of_getElem? hp)) N) q hq; omega
theorem lb_good {α : Type} [DecidableEq α] {nx : α → Nat → α} {N : Nat} {stop : α → Bool} {v0 : α} {p : α → Prop} (hp : ∀ v, p v → ∀ k, k < N → p (nx v k)) : ∀ (n i : Nat) (Z : LZ α), LbOk nx N v0 p Z → LbOk nx N v0 p (lbGo nx N stop n i Z).1
  | 0, i, Z, h => h
  | n + 1, i, Z, h => by
    unfold lbGo
    split
    · exact lb_good hp n (i + 1) Z h
    · rename_i q hq
      split
      · exact h
      · exact lb_good hp n (i + 1) _ (h.exF (List.mem_of_getElem? hq) hp N (Nat.le_refl _))
theorem wordsU_all (N : Nat) : ∀ l, ∀ w ∈ wordsU N l, w.length ≤ l ∧ ∀ k ∈ w, k < N := by
  have h0 : ∀ l, ∀ w ∈ words N l, ∀ k ∈ w, k < N := by
    intro l
    induction l with
    | zero => intro w h k hk; rw [List.mem_singleton.mp h] at hk; cases hk
    | succ l ih =>
      intro w h k hk
      obtain ⟨v, hv, h⟩ := List.mem_flatMap.mp h
      obtain ⟨j, hj, rfl⟩ := List.mem_map.mp h
      rcases List.mem_append.mp hk with hk | hk
      · exact ih v hv k hk
      · rw [List.mem_singleton] at hk; subst hk; exact List.mem_range.mp hj
  intro l
  induction l with
  | zero => intro w h; rw [List.mem_singleton.mp h]; exact ⟨Nat.le_refl _, by simp⟩
  | succ l ih =>
    intro w h
    rcases List.mem_append.mp (show w ∈ wordsU N l ++ words N (l + 1) from h) with h | h
    · exact ⟨by have := (ih w h).1; omega, (ih w h).2⟩
    · exact ⟨by rw [words_all N (l + 1) w h]; exact Nat.le_refl _, h0 _ w h⟩
theorem covR_ok {s : Mon} {n : Nat} (o : s.Ok n) : LbOk s.sel s.rs.length s.first (fun v => v < s.vs.length) (covR s) ∧ (∀ q ∈ covR s, q.2.length ≤ s.vs.length) ∧ (covR s).length ≤ s.vs.length := by
  have hin : ∀ v, v < s.vs.length → ∀ k, k < s.rs.length → s.sel v k < s.vs.length := fun v hv k hk => o.sel hv hk
  have h1 : LbOk s.sel s.rs.length s.first (fun v => v < s.vs.length) (covR s) := lb_good hin _ _ _ (lbC o)
  have h2 := h1.few (mem_rng s)
  rw [List.length_range] at h2
  exact ⟨h1, fun q hq => by have := lb_short (nx := s.sel) (N := s.rs.length) (stop := fun _ => false) s.vs.length 0 [(s.first, [])] (by simp) q hq; omega, h2⟩
/-! ### trials -/
/-- the rows of the trials, in order -/
noncomputable def triL (s : Mon) (l : Nat) : List (List Nat) := ((covR s).map Prod.snd).flatMap fun a => (wordsU s.rs.length l).flatMap fun w => (endsP s s.vs.length 0).map fun e => a ++ w ++ e
noncomputable def triR (s : Mon) (l : Nat) : List (List Nat) := addG [] (triL s l)
noncomputable def triN (s : Mon) (l : Nat) : Nat := s.vs.length * (wordsU s.rs.length l).length * (endsP s s.vs.length 0).length
abbrev rdRow (s : Mon) (row : List Nat) : D := .lst .sh (row.map fun k => RD (s.rs.getD k []))
abbrev CovOk (f : Fn) : Prop := ∀ {s : Mon} {n : Nat}, s.Ok n → n ≤ 100 → s.rs.length ≤ 100 → FT f [s.enc] fun d fs => fs = [] ∧ d = .lst .own ((covR s).map fun q => rowT q.2)
abbrev SepsOk (f : Fn) : Prop := ∀ {s : Mon} {n : Nat}, s.Ok n → n ≤ 100 → s.rs.length ≤ 100 → SepG s → FT f [s.enc] fun d fs => fs = [] ∧ d = .lst .own ((endsP s s.vs.length 0).map rowT)
abbrev CwOk (f : Fn) : Prop := ∀ N l : Nat, N ≤ 6 → l ≤ 4 → FT f [.int N, .int l] fun d fs => fs = [] ∧ d = .int ((wordsU N l).length : Nat)
abbrev WuOk (f : Fn) : Prop := ∀ N l : Nat, N ≤ 6 → l ≤ 4 → FT f [.int N, .int l] fun d fs => fs = [] ∧ ∃ md, (md = .own ∨ md = .sh) ∧ d = .lst md ((wordsU N l).map rowT)
theorem addG_app' {α : Type} [DecidableEq α] : ∀ (xs ys f : List α), addG f (xs ++ ys) = addG (addG f xs) ys
  | [], _, _ => rfl
  | x :: xs, ys, f => by
    rw [List.cons_append, addG, addG]
    exact addG_app' xs ys _
noncomputable abbrev tri3 (s : Mon) (a w : List Nat) : List (List Nat) := (endsP s s.vs.length 0).map fun e => a ++ w ++ e
noncomputable abbrev tri2 (s : Mon) (l : Nat) (a : List Nat) : List (List Nat) := (wordsU s.rs.length l).flatMap (tri3 s a)
theorem triL_eq (s : Mon) (l : Nat) : triL s l = ((covR s).map Prod.snd).flatMap (tri2 s l) := rfl
theorem triL_len (s : Mon) (l : Nat) : (triL s l).length = (covR s).length * ((wordsU s.rs.length l).length * (endsP s s.vs.length 0).length) := by
  rw [triL_eq, List.length_flatMap]
  have : ∀ a, (tri2 s l a).length = (wordsU s.rs.length l).length * (endsP s s.vs.length 0).length := fun a => by
    show ((wordsU s.rs.length l).flatMap (tri3 s a)).length = _
    rw [List.length_flatMap]
    simp only [List.length_map, List.map_const', List.sum_replicate_nat]
  simp only [this, List.map_const', List.sum_replicate_nat, List.length_map]
theorem triL_few {s : Mon} {n : Nat} (o : s.Ok n) (l : Nat) : (triL s l).length ≤ triN s l := by
  rw [triL_len, triN, Nat.mul_assoc]
  exact Nat.mul_le_mul_right _ (covR_ok o).2.2
/-- a beginning of the trials -/
theorem tri_pre {s : Mon} {n : Nat} (o : s.Ok n) {l : Nat} {d1 r1 : LZ Nat} {c : Nat × List Nat} {d2 r2 : List (List Nat)} {w : List Nat} {d3 r3 : List (List Nat)} (h1 : covR s = d1 ++ c :: r1) (h2 : wordsU s.rs.length l = d2 ++ w :: r2) (h3 : endsP s s.vs.length 0 = d3 ++ r3) :
    (addG (addG (addG [] ((d1.map Prod.snd).flatMap (tri2 s l))) (d2.flatMap (tri3 s c.2))) (d3.map fun e => c.2 ++ w ++ e)).length ≤ triN s l := by
  rw [← addG_app', ← addG_app']
  refine Nat.le_trans (addG_len _ _) (Nat.le_trans ?_ (triL_few o l))
  rw [triL_eq, h1, List.map_append, List.map_cons, List.flatMap_append, List.flatMap_cons]
  have e2 : tri2 s l c.2 = d2.flatMap (tri3 s c.2) ++ (tri3 s c.2 w ++ r2.flatMap (tri3 s c.2)) := by
    show (wordsU s.rs.length l).flatMap (tri3 s c.2) = _
    rw [h2, List.flatMap_append, List.flatMap_cons]
  have e3 : tri3 s c.2 w = (d3.map fun e => c.2 ++ w ++ e) ++ r3.map fun e => c.2 ++ w ++ e := by
    show (endsP s s.vs.length 0).map (fun e => c.2 ++ w ++ e) = _
    rw [h3, List.map_append]
  rw [e2, e3]
  simp only [List.length_append, List.length_nil, List.length_map]
  omega
theorem trials_ok {R : Fs} (hred : RedOk R.f_reduce) (hseps : SepsOk R.f_separators) (hcov : CovOk R.f_cover) (hcw : CwOk R.f_count_words) (hwu : WuOk R.f_words_up_to) {m : Mon} {n : Nat} (h : m.Ok n) (hn : n ≤ 100) (hr : m.rs.length ≤ 6) (x : Nat) (hx : x ≤ 3) (most : Nat) (hm : most ≤ 1000) :
    FXT (defX 10 (b_trials R)) [m.enc, .int x, .int most] fun r => ∃ (s : Mon) (cl rep : Nat → Nat), s.Ok n ∧ Red m s cl rep ∧ ((triN s (x + 1) ≤ most ∧ r = .ok (.lst .own ((triR s (x + 1)).map (rdRow s)))) ∨ (most < triN s (x + 1) ∧ r = .ex (tooD "tests"))) := by
  refine FXT_def ?_
  have hmf : m.enc.frz = m.enc := rfl
  simp! only [b_trials, hmf]
  refine FT_mono (hred h (by omega) (by omega)) ?_
  rintro _ _ ⟨rfl, s, cl, rep, rfl, o, r⟩
  have hN : s.rs.length ≤ 6 := by rw [r.rs]; exact hr
  have G := sepG_of r h o hn
  have hs1 := hseps o hn (by omega) G
  have hc1 := hcov o hn (by omega)
  have hw1 := hcw s.rs.length (x + 1) hN (by omega)
  have hw2 := hwu s.rs.length (x + 1) hN (by omega)
  have ex : ((x : Int) + 1) = ((x + 1 : Nat) : Int) := by omega
  have hfew := o.few
  generalize hsD : s.enc = sD at *
  have hsf : sD.frz = sD := by rw [← hsD]; rfl
  have s0 : ixDD sD (.int 0) = some (.tup (s.rs.map RD)) := by rw [← hsD]; rfl
  have s2 : ixDD sD (.int 2) = some (.tup (s.vs.map .str)) := by rw [← hsD]; rfl
  simp! only [hsf]
  refine FT_mono hs1 ?_
  rintro _ _ ⟨rfl, rfl⟩
  simp! only []
  refine FT_mono hc1 ?_
  rintro _ _ ⟨rfl, rfl⟩
  simp! only []
  have hE := endsP_few s s.vs.length 0 (by omega) (by omega)
  have hU := (wordsU_few s.rs.length hN (x + 1) (by omega)).1
  have eN : (s.vs.length : Int) * ((wordsU s.rs.length (x + 1)).length : Int) * ((endsP s s.vs.length 0).length : Int) = ((triN s (x + 1) : Nat) : Int) := by
    unfold triN
    rw [Int.natCast_mul, Int.natCast_mul]
  obtain ⟨T0, hT0⟩ : ∃ T0, triN s (x + 1) = T0 := ⟨_, rfl⟩
  rw [hT0] at eN
  refine T_cutX (fun ρ => T0 ≤ most ∧ ρ = [some m.enc, some (.int x), some (.int most), some sD, some (.lst .sh ((endsP s s.vs.length 0).map rowT)), some (.lst .sh ((covR s).map fun q => rowT q.2)), none, none, none, none, none, none, none]) ?_ ?_
  · refine T_iteTo (fun b => b = decide (most < T0)) ?_ (fun c => ?_) (fun c => ?_)
    · simp! only [s0, s2, List.length_map, ex]
      refine FT_mono hw1 ?_
      rintro _ _ ⟨rfl, rfl⟩
      simp! only [eN]
      exact ⟨.inl ⟨by omega, by omega⟩, .inr ⟨by omega, by omega⟩, decide_eq_decide.mpr (by omega)⟩
    · have c := of_decide_eq_true c.symm
      simp! only []
      exact ⟨s, cl, rep, o, r, .inr (by rw [hT0]; exact c)⟩
    · have c := of_decide_eq_false c.symm
      simp! only []
      omega
  rintro _ ⟨hT, rfl⟩
  have htri : triR s (x + 1) = addG [] (triL s (x + 1)) := rfl
  have htl : triL s (x + 1) = ((covR s).map Prod.snd).flatMap fun a => (wordsU s.rs.length (x + 1)).flatMap fun w => (endsP s s.vs.length 0).map fun e => a ++ w ++ e := rfl
  have hco := covR_ok o
  have hea := endsP_all G s.vs.length 0 (Nat.le_refl _) (Nat.zero_le _) (.inl rfl)
  simp! only []
  refine T_go (fun q ρ => ∃ (dn rest : LZ Nat) (F : List (List Nat)) (o8 o9 o10 o11 : Option D), q = rest.map (fun q => rowT q.2) ∧ covR s = dn ++ rest ∧ F = addG [] ((dn.map Prod.snd).flatMap fun a => (wordsU s.rs.length (x + 1)).flatMap fun w => (endsP s s.vs.length 0).map fun e => a ++ w ++ e) ∧
    ρ = [some m.enc, some (.int x), some (.int most), some sD, some (.lst .sh ((endsP s s.vs.length 0).map rowT)), some (.lst .sh ((covR s).map fun q => rowT q.2)), some (.lst .own (F.map (rdRow s))), some (setD rowE F), o8, o9, o10, o11, none]) ?_ ?_ _ _ ⟨[], covR s, [], _, _, _, _, rfl, rfl, rfl, rfl⟩
  · intro d q ρ hI
    obtain ⟨dn, rest, F, o8, o9, o10, o11, hq, hD, hF, hρ⟩ := hI
    subst hρ
    cases rest with
    | nil => cases hq
    | cons c rest =>
      cases hq
      simp! only [s0, List.length_map, ex]
      refine FT_mono hw2 ?_
      rintro _ _ ⟨rfl, md, hmd, rfl⟩
      simp! only []
      refine T_go (fun q ρ => ∃ (dn2 rest2 : List (List Nat)) (F2 : List (List Nat)) (o9 o10 o11 : Option D), q = rest2.map rowT ∧ wordsU s.rs.length (x + 1) = dn2 ++ rest2 ∧ F2 = addG F (dn2.flatMap fun w => (endsP s s.vs.length 0).map fun e => c.2 ++ w ++ e) ∧
        ρ = [some m.enc, some (.int x), some (.int most), some sD, some (.lst .sh ((endsP s s.vs.length 0).map rowT)), some (.lst .sh ((covR s).map fun q => rowT q.2)), some (.lst .own (F2.map (rdRow s))), some (setD rowE F2), some (rowT c.2), o9, o10, o11, none]) ?_ ?_ _ _ ⟨[], wordsU s.rs.length (x + 1), F, _, _, _, rfl, rfl, rfl, rfl⟩
      · intro d q ρ hI
        obtain ⟨dn2, rest2, F2, o9, o10, o11, hq, hD2, hF2, hρ⟩ := hI
        subst hρ
        cases rest2 with
        | nil => cases hq
        | cons w rest2 =>
          cases hq
          simp! only []
          refine T_go (fun q ρ => ∃ (dn3 rest3 : List (List Nat)) (F3 : List (List Nat)) (o10 o11 : Option D), q = rest3.map rowT ∧ endsP s s.vs.length 0 = dn3 ++ rest3 ∧ F3 = addG F2 (dn3.map fun e => c.2 ++ w ++ e) ∧
            ρ = [some m.enc, some (.int x), some (.int most), some sD, some (.lst .sh ((endsP s s.vs.length 0).map rowT)), some (.lst .sh ((covR s).map fun q => rowT q.2)), some (.lst .own (F3.map (rdRow s))), some (setD rowE F3), some (rowT c.2), some (rowT w), o10, o11, none]) ?_ ?_ _ _ ⟨[], endsP s s.vs.length 0, F2, _, _, rfl, rfl, rfl, rfl⟩
          · intro d q ρ hI
            obtain ⟨dn3, rest3, F3, o10, o11, hq, hD3, hF3, hρ⟩ := hI
            subst hρ
            cases rest3 with
            | nil => cases hq
            | cons e rest3 =>
              cases hq
              have hlen := tri_pre o hD hD2 hD3
              rw [hF] at hF2
              rw [hF2] at hF3
              rw [show addG [] ((dn.map Prod.snd).flatMap (tri2 s (x + 1))) = addG [] ((dn.map Prod.snd).flatMap fun a => (wordsU s.rs.length (x + 1)).flatMap fun w => (endsP s s.vs.length 0).map fun e => a ++ w ++ e) from rfl] at hlen
              have hlen : F3.length ≤ triN s (x + 1) := by rw [hF3]; exact hlen
              rw [hT0] at hlen
              have hcm : c ∈ covR s := by rw [hD]; simp
              have hwm : w ∈ wordsU s.rs.length (x + 1) := by rw [hD2]; simp
              have hem : e ∈ endsP s s.vs.length 0 := by rw [hD3]; simp
              have k1 := (hco.1.good c hcm).2.1
              have l1 := hco.2.1 c hcm
              obtain ⟨l2, k2⟩ := wordsU_all s.rs.length (x + 1) w hwm
              obtain ⟨l3, k3⟩ := hea e hem
              obtain ⟨row, hrow⟩ : ∃ row, row = c.2 ++ w ++ e := ⟨_, rfl⟩
              have hrk : ∀ k ∈ row, k < s.rs.length := fun k hk => by
                rw [hrow] at hk
                rcases List.mem_append.mp hk with hk | hk
                · rcases List.mem_append.mp hk with hk | hk
                  · exact k1 k hk
                  · exact k2 k hk
                · exact k3 k hk
              have hrl : row.length ≤ 20000 := by rw [hrow, List.length_append, List.length_append]; omega
              have e3 : natsD c.2 ++ natsD w ++ natsD e = natsD row := by rw [hrow]; simp [natsD]
              have es : addG F2 ((dn3 ++ [e]).map fun e => c.2 ++ w ++ e) = add1 F3 row := by
                rw [List.map_append, List.map_singleton, ← hrow, addG_snoc, hF3, hF2]
              clear hF3 hF2 hF
              have hin := rowKeys.notIn F3 (F3.map fun _ => D.bl true) (by simp) .own row
              simp! only [e3, List.length_map]
              refine ⟨by first | omega | (simp only [List.length_map]; omega), by first | omega | (simp only [List.length_map, List.length_append]; omega), ?_⟩
              refine T_iteTo (fun b => b = !decide (row ∈ F3)) ?_ (fun h => ?_) (fun h => ?_)
              · simp! only [rowKeys.ok, rowKeys.sort1, rowKeys.look row F3 (F3.map fun _ => D.bl true) (by simp)]
                first | done | rfl | exact congrArg _ (decide_eq_decide.mpr Iff.rfl) | trace_state
              · have h : row ∉ F3 := by simpa using h
                rw [add1, if_neg h] at es
                simp! only []
                refine ⟨_, rowKeys.put h (by omega), ?_⟩
                refine ⟨by simp only [List.length_map]; omega, ?_⟩
                refine T_compF natE (fun _ => true) (fun k => RD (s.rs.getD k [])) row [] (fun k hk => ?_) ?_
                · have hk := hrk k hk
                  have g1 : (s.rs.map RD)[k]? = some (RD (s.rs.getD k [])) := by rw [List.getElem?_map, List.getD_eq_getElem?_getD, List.getElem?_eq_getElem hk]; rfl
                  simp! only [s0, g1]
                · rw [List.filter_eq_self.mpr (fun _ _ => rfl)]
                  simp! only [List.length_map]
                  refine ⟨by omega, dn3 ++ [e], rest3, F3 ++ [row], some (rowT e), some (rowT row), rfl, by rw [hD3]; simp, es.symm, ?_⟩
                  rw [List.map_append]
                  rfl
              · have h : row ∈ F3 := by simpa using h
                rw [add1, if_pos h] at es
                simp! only []
                exact ⟨dn3 ++ [e], rest3, F3, some (rowT e), some (rowT row), rfl, by rw [hD3]; simp, es.symm, rfl⟩
          · intro ρ hI
            obtain ⟨dn3, rest3, F3, o10, o11, hq, hD3, hF3, hρ⟩ := hI
            subst hρ
            cases rest3 with
            | cons _ _ => cases hq
            | nil =>
              rw [List.append_nil] at hD3
              refine ⟨dn2 ++ [w], rest2, F3, _, _, _, rfl, by rw [hD2]; simp, ?_, rfl⟩
              rw [hF3, hF2, hD3, List.flatMap_append, addG_app']
              simp
      · intro ρ hI
        obtain ⟨dn2, rest2, F2, o9, o10, o11, hq, hD2, hF2, hρ⟩ := hI
        subst hρ
        cases rest2 with
        | cons _ _ => cases hq
        | nil =>
          rw [List.append_nil] at hD2
          refine ⟨dn ++ [c], rest, F2, _, _, _, _, rfl, by rw [hD]; simp, ?_, rfl⟩
          rw [hF2, hF, hD2, List.map_append, List.flatMap_append, addG_app']
          simp
  · intro ρ hI
    obtain ⟨dn, rest, F, o8, o9, o10, o11, hq, hD, hF, hρ⟩ := hI
    subst hρ
    cases rest with
    | cons _ _ => cases hq
    | nil =>
      rw [List.append_nil] at hD
      rw [← hD] at hF
      simp! only []
      exact ⟨s, cl, rep, o, r, .inl ⟨by rw [hT0]; exact hT, by rw [hF]; rfl⟩⟩
end Law

namespace Law
open PySem PySem.Spec PyProof.Rows L2 Sim
local macro_rules | `(tactic| simp! only [$args,*] $[$l:location]?) => `(tactic| simp only [Z0, Z1, Z2, Z3, Z4, Z5, Z6, Z7, Z8, Z9, Z10, Z11, Z12, Z13, Z14, Z15, Z16, Z17, Z18, Z19, Z20, Z21, Z22, Z23, Z24, Z25, Z26, Z27, Z28, Z29, Z30, Z31, Z32, Z33, Z34, Z35, Z36, Z37, Z38, Z39, Z40, Z41, Z42, Z43, Z44, Z45, Z46, Z47, Z48, Z49, Z50, Z51, Z52, Z53, Z54, Z55, Z56, Z57, Z58, Z59, Z60, Z61, Z62, Z63, Z64, Z65, Z66, Z67, Z68, Z69, Z70, Z71, Z72, Z73, Z74, Sim.wipeR, Z75, Z76, Z77, Z78, Z79, Z80, Z81, Z82, Z83, Z84, Z85, Z86, Z87, Z88, Z89, Z90, Z91, Z92, Z93, Z94, Z95, Z96, Z97, Z98, Z99, Z100, Z101, Z102, Z103, Z104, Z105, Z106, Z107, Z108, Z109, Z110, Z111, Z112, Z113, Z114, Z115, Z116, Z117, Z118, Z119, Z120, Z121, Z122, Z123, Z124, Z125, Z126, Z127, Z128, Z129, Z130, Z131, Z132, Z133, Z134, Z135, Z136, Z137, Z138, Z139, Z140, Z141, Z142, Z143, Z144, Z145, Z146, Z147, Z148, Z149, Z150, Z151, Z152, Z153, Z154, Z155, Z156, Z157, Z158, Sim.T_sliceO, Sim.sliceO_lst, Sim.T_sliceS, Sim.EndX_nxt, Sim.EndX_ret, Sim.EndX_exc, Sim.rq_ok, Sim.rq_ex, Sim.T_callX, Sim.T_okM, Sim.T_setX, Sim.T_setXV, Sim.T_retX, Sim.T_dropX, Sim.T_raise0, Sim.T_raise1, Sim.T_try, Sim.TryQ_nxt, Sim.TryQ_ret, Sim.TryQ_brk, Sim.TryQ_cnt, Sim.TryQ_exc, Sim.SeqQ_exc, Sim.LoopQ_exc, Sim.BehQ_nxt, Sim.BehQ_ret, Sim.T_tryA, Sim.TryAQ_nxt, Sim.TryAQ_ret, Sim.TryAQ_exc, Sim.T_fld, Sim.T_compO, T_okX, Sim.T_nilX, Sim.T_consX, Sim.T_callFX, Sim.T_callXX, Sim.T_callBX, Sim.XQ_ok, Sim.XQ_ex, Sim.AQ_ok, Sim.AQ_ex, Sim.cap, Z159, Z160, Nat.zero_le, Z161, Z162, Z163, Z164, Z165, Z166, Z167, Z168, Z169, Z170, Z171, Z172, Z173, Z174, Z175, Z176, Z177, List.getElem?_cons_zero, List.getElem?_cons_succ, List.set_cons_zero, List.set_cons_succ, List.map_cons, List.map_nil, List.cons_append, List.nil_append, Option.map_some, List.length_cons, List.length_nil, Int.zero_add, Nat.zero_add, Nat.reduceAdd, Nat.reduceLeDiff, Nat.reduceMul, true_and, and_true, decide_eq_true_eq, decide_eq_false_iff_not, Bool.false_eq_true, Bool.true_eq_false, false_implies, true_implies, implies_true, eq_self, decide_true, decide_false, not_true_eq_false, not_false_eq_true, Bool.not_true, Bool.not_false, Int.reduceLT, Int.reduceLE, Int.reduceNeg, Int.reducePow, Int.reduceToNat, $args,*] $[$l:location]?)
/-! ### the law's own smallest monitor -/
theorem Mon.Ok.gra {m : Mon} {n : Nat} (h : m.Ok n) (hn : n ≤ 1000) : Gra m.vs m.es m.rs.length :=
  ⟨h.same, Nat.lt_of_le_of_lt (Nat.zero_le _) h.first, Nat.le_trans h.few hn, h.wide, h.low⟩
abbrev LReachOk (f : Fn) : Prop := ∀ {m : Mon} {n : Nat}, m.Ok n → n ≤ 1000 → ∀ {v : Nat}, v < m.vs.length → FT f [m.enc, .int v] fun d fs => fs = [] ∧ d = .lst .own (natsD (tr m.nx m.vs.length [v]))
abbrev LApartOk (f : Fn) : Prop := ∀ {vs : List Str} {es : List (List Nat)} {many : Nat}, Gra vs es many → many ≤ 1000 → FT f [.tup (vs.map .str), .tup (es.map fun r => .tup (natsD r))] fun d fs => fs = [] ∧ ∃ B, d = .lst .own ((sqB vs.length B).map (D.lst .sh)) ∧ Apt vs es many B
abbrev LSmallOk (f : Fn) : Prop := ∀ {m : Mon} {n : Nat}, m.Ok n → n ≤ 1000 → m.rs.length ≤ 1000 → FT f [m.enc] fun d fs => fs = [] ∧ ∃ (s : Mon) (cl rep : Nat → Nat), d = s.enc ∧ s.Ok n ∧ Red m s cl rep
theorem lsmallest_ok {R : Fs} (hre : LReachOk R.f__law_reach) (hap : LApartOk R.f__law_apart) {m : Mon} {n : Nat} (h : m.Ok n) (hn : n ≤ 1000) (hr : m.rs.length ≤ 1000) :
    FT (defF 9 [] (b__law_smallest R)) [m.enc] fun d fs => fs = [] ∧ ∃ (s : Mon) (cl rep : Nat → Nat), d = s.enc ∧ s.Ok n ∧ Red m s cl rep := by
  refine FT_def ?_
  have hfew := h.few
  have hG := h.gra hn
  obtain ⟨hlt, hnd, hnl, hf0, hclo, hat0⟩ := h.nodes
  have h1 := hre h hn h.first
  have h2 := hap hG hr
  obtain ⟨mD, hmD⟩ : ∃ mD, m.enc = mD := ⟨_, rfl⟩
  have m0 : ixDD mD (.int 0) = some (.tup (m.rs.map RD)) := by rw [← hmD]; rfl
  have m1 : ixDD mD (.int 1) = some (.int m.first) := by rw [← hmD]; rfl
  have m2 : ixDD mD (.int 2) = some (.tup (m.vs.map .str)) := by rw [← hmD]; rfl
  have m3 : ixDD mD (.int 3) = some (.tup (m.es.map fun r => D.tup (natsD r))) := by rw [← hmD]; rfl
  rw [hmD] at h1 ⊢
  simp! only [b__law_smallest, m1]
  refine FT_mono h1 ?_
  rintro _ _ ⟨rfl, rfl⟩
  have hN : tr m.nx m.vs.length [m.first] = m.nodes := rfl
  rw [hN]
  simp! only [m2, m3]
  refine FT_mono h2 ?_
  rintro _ _ ⟨rfl, B, rfl, A⟩
  obtain ⟨Gl, C, hB⟩ := A.equ
  obtain ⟨g, hg⟩ : ∃ g : Nat → Nat, g = fun v => Gl.getD v 0 := ⟨_, rfl⟩
  have hBg : ∀ a b, a < m.vs.length → b < m.vs.length → (B a b = false ↔ g a = g b) := fun a b ha hb => by rw [hg]; exact hB a b ha hb
  obtain ⟨hred, hok⟩ := slM_red h C hg
  have hKl := kpF_len g m.nodes
  have hKm := kpF_mem g m.nodes
  have hKa := kpF_all g m.nodes
  have hKn := kpF_nodup g m.nodes
  simp! only []
  refine T_cut (fun ρ => ∃ o4 : Option D, ρ = [some mD, some (.lst .sh (natsD m.nodes)), some (.lst .sh ((sqB m.vs.length B).map (D.lst .sh))), some (.lst .own (natsD (kpF g m.nodes))), o4, none, none, none, none, none]) ?_ ?_
  · refine T_go (fun q ρ => ∃ (dn rest : List Nat) (o4 : Option D), q = natsD rest ∧ m.nodes = dn ++ rest ∧ ρ = [some mD, some (.lst .sh (natsD m.nodes)), some (.lst .sh ((sqB m.vs.length B).map (D.lst .sh))), some (.lst .own (natsD (kpF g dn))), o4, none, none, none, none, none]) ?_ ?_ _ _ ⟨[], m.nodes, _, rfl, rfl, rfl⟩
    · intro d q ρ hI
      obtain ⟨dn, rest, o4, hq, hD, hρ⟩ := hI
      subst hρ
      cases rest with
      | nil => cases hq
      | cons x rest =>
        cases hq
        have hx : x < m.vs.length := hlt x (by rw [hD]; simp)
        have hdl : ∀ u ∈ kpF g dn, u < m.vs.length := fun u hu => hlt u (by rw [hD]; exact List.mem_append_left _ (kpF_mem g dn u hu))
        have hkl := kpF_len g dn
        have hdn : dn.length ≤ m.nodes.length := by rw [hD, List.length_append]; omega
        have es := kpF_snoc g dn x
        simp! only []
        refine T_iteTo (fun b => b = !decide (g x ∈ (kpF g dn).map g)) ?_ (fun c => ?_) (fun c => ?_)
        · simp! only []
          refine ⟨by decide, ?_⟩
          refine T_compOF natE (fun u => !B x u) natE (md := .own) (r := kpF g dn) rfl (by unfold wf; omega) (fun u hu => ?_) ?_
          · obtain ⟨q1, q2⟩ := sqB_at (B := B) hx (hdl u hu)
            simp! only [q1, q2]
          · have hfl : ((kpF g dn).filter fun u => !B x u).length ≤ (kpF g dn).length := List.length_filter_le _ _
            simp! only [List.length_map]
            refine ⟨by omega, ?_⟩
            have e : decide (((((kpF g dn).filter fun u => !B x u).length : Nat) : Int) = 0) = !decide (g x ∈ (kpF g dn).map g) := by
              rw [← decide_not]
              refine decide_eq_decide.mpr ?_
              rw [List.mem_map]
              constructor
              · intro h0 ⟨u, hu, e⟩
                have h0 : ((kpF g dn).filter fun u => !B x u) = [] := List.length_eq_zero_iff.mp (by omega)
                have := List.filter_eq_nil_iff.mp h0 u hu
                rw [(hBg x u hx (hdl u hu)).mpr e.symm] at this
                exact this rfl
              · intro h0
                have : ((kpF g dn).filter fun u => !B x u) = [] := by
                  rw [List.filter_eq_nil_iff]
                  intro u hu
                  cases hb : B x u with
                  | true => simp
                  | false => exact absurd ⟨u, hu, ((hBg x u hx (hdl u hu)).mp hb).symm⟩ h0
                rw [this]
                rfl
            rw [e]
        · have c : g x ∉ (kpF g dn).map g := by simpa using c
          simp! only [List.length_map]
          refine ⟨by omega, dn ++ [x], rest, some (.int x), rfl, by rw [hD]; simp, ?_⟩
          rw [es, kpS, if_neg c, nats_snoc]
        · have c : g x ∈ (kpF g dn).map g := by simpa using c
          simp! only []
          refine ⟨dn ++ [x], rest, some (.int x), rfl, by rw [hD]; simp, ?_⟩
          rw [es, kpS, if_pos c]
    · intro ρ hI
      obtain ⟨dn, rest, o4, hq, hD, hρ⟩ := hI
      subst hρ
      cases rest with
      | cons _ _ => cases hq
      | nil =>
        rw [List.append_nil] at hD
        rw [hD]
        exact ⟨rfl, _, rfl⟩
  rintro _ ⟨o4, rfl⟩
  simp! only []
  obtain ⟨K, hK⟩ : ∃ K, K = kpF g m.nodes := ⟨_, rfl⟩
  rw [← hK] at hKl hKm hKa hKn ⊢
  have hKlt : ∀ u ∈ K, u < m.vs.length := fun u hu => hlt u (hKm u hu)
  have hlen : (K.map g).length = K.length := List.length_map ..
  -- the place of the first node of w's class
  have hpick : ∀ w ∈ m.nodes, ((List.range K.length).filter fun k => !B (K.getD k 0) w)[0]? = some (idxD (g w) (K.map g)) := fun w hw => by
    have h1 := idxG (hKa w hw)
    have hj : idxD (g w) (K.map g) < K.length := by rw [← hlen]; exact h1.1
    have hgk : ∀ k, k < K.length → ∃ u, K[k]? = some u ∧ K.getD k 0 = u ∧ u < m.vs.length ∧ (K.map g)[k]? = some (g u) := fun k hk => by
      refine ⟨K[k], List.getElem?_eq_getElem hk, by rw [List.getD_eq_getElem?_getD, List.getElem?_eq_getElem hk]; rfl, hKlt _ (List.getElem_mem hk), by rw [List.getElem?_map, List.getElem?_eq_getElem hk]; rfl⟩
    refine first_filter hj ?_ fun i hi => ?_
    · obtain ⟨u, _, e1, e2, e3⟩ := hgk _ hj
      have h2 : (K.map g)[idxD (g w) (K.map g)]? = some (g w) := h1.2
      rw [e3] at h2
      rw [e1, (hBg u w e2 (hlt w hw)).mpr (Option.some.inj h2)]
      rfl
    · obtain ⟨u, _, e1, e2, e3⟩ := hgk i (by omega)
      rw [e1]
      cases hb : B u w with
      | true => rfl
      | false =>
        have hgu := (hBg u w e2 (hlt w hw)).mp hb
        rw [hgu] at e3
        have := idx_at hKn e3
        have : idxD (g w) (K.map g) = i := this
        omega
  refine T_cut (fun ρ => ∃ o4 o7 o8 : Option D, ρ = [some mD, some (.lst .sh (natsD m.nodes)), some (.lst .sh ((sqB m.vs.length B).map (D.lst .sh))), some (.lst .sh (natsD K)), o4, none, some (.lst .own ((K.map fun v => (m.nx v).map fun w => idxD (g w) (K.map g)).map fun r => D.tup (natsD r))), o7, o8, none]) ?_ ?_
  · refine T_go (fun q ρ => ∃ (dn rest : List Nat) (o4 o7 o8 : Option D), q = natsD rest ∧ K = dn ++ rest ∧ ρ = [some mD, some (.lst .sh (natsD m.nodes)), some (.lst .sh ((sqB m.vs.length B).map (D.lst .sh))), some (.lst .sh (natsD K)), o4, none, some (.lst .own ((dn.map fun v => (m.nx v).map fun w => idxD (g w) (K.map g)).map fun r => D.tup (natsD r))), o7, o8, none]) ?_ ?_ _ _ ⟨[], K, _, _, _, rfl, rfl, rfl⟩
    · intro d q ρ hI
      obtain ⟨dn, rest, o4, o7, o8, hq, hD, hρ⟩ := hI
      subst hρ
      cases rest with
      | nil => cases hq
      | cons x rest =>
        cases hq
        have hxK : x ∈ K := by rw [hD]; simp
        have hx := hKlt x hxK
        have hat : (m.es.map fun r => D.tup (natsD r))[x]? = some (.tup (natsD (m.nx x))) := h.at hx
        have hrow := h.row hx
        have hdl : dn.length ≤ K.length := by rw [hD, List.length_append]; omega
        simp! only [m3, hat]
        refine T_cut (fun ρ => ∃ o8 : Option D, ρ = [some mD, some (.lst .sh (natsD m.nodes)), some (.lst .sh ((sqB m.vs.length B).map (D.lst .sh))), some (.lst .sh (natsD K)), some (.int x), none, some (.lst .own ((dn.map fun v => (m.nx v).map fun w => idxD (g w) (K.map g)).map fun r => D.tup (natsD r))), some (.lst .own (natsD ((m.nx x).map fun w => idxD (g w) (K.map g)))), o8, none]) ?_ ?_
        · refine T_go (fun q ρ => ∃ (dn2 rest2 : List Nat) (o8 : Option D), q = natsD rest2 ∧ m.nx x = dn2 ++ rest2 ∧ ρ = [some mD, some (.lst .sh (natsD m.nodes)), some (.lst .sh ((sqB m.vs.length B).map (D.lst .sh))), some (.lst .sh (natsD K)), some (.int x), none, some (.lst .own ((dn.map fun v => (m.nx v).map fun w => idxD (g w) (K.map g)).map fun r => D.tup (natsD r))), some (.lst .own (natsD (dn2.map fun w => idxD (g w) (K.map g)))), o8, none]) ?_ ?_ _ _ ⟨[], m.nx x, _, rfl, rfl, rfl⟩
          · intro d q ρ hI
            obtain ⟨dn2, rest2, o8, hq, hD2, hρ⟩ := hI
            subst hρ
            cases rest2 with
            | nil => cases hq
            | cons y rest2 =>
              cases hq
              have hyN : y ∈ m.nodes := hclo x (hKm x hxK) y (by rw [hD2]; simp)
              have hy := hlt y hyN
              have hd2 : dn2.length ≤ (m.nx x).length := by rw [hD2, List.length_append]; omega
              have hpk := hpick y hyN
              simp! only [List.length_map]
              refine ⟨by omega, by rw [Int.toNat_natCast]; simp [rangeL]; omega, ?_⟩
              rw [Int.toNat_natCast]
              refine T_compF (fun (k : Nat) => D.int (0 + (k : Int))) (fun k => !B (K.getD k 0) y) (fun k => D.int (k : Int)) (List.range K.length) [] (fun k hk => ?_) ?_
              · have hk : k < K.length := List.mem_range.mp hk
                have ek : (0 : Int) + (k : Int) = (k : Int) := by omega
                have g1 := nats_at (xs := K) hk
                obtain ⟨q1, q2⟩ := sqB_at (B := B) (hKlt (K.getD k 0) (by rw [List.getD_eq_getElem?_getD, List.getElem?_eq_getElem hk]; exact List.getElem_mem _)) hy
                simp! only [ek, g1, q1, q2]
              · have e0 : (([] : List D) ++ ((List.range K.length).filter fun k => !B (K.getD k 0) y).map fun (k : Nat) => D.int (k : Int))[0]? = some (.int (idxD (g y) (K.map g) : Nat)) := by
                  rw [List.nil_append, List.getElem?_map, hpk]
                  rfl
                refine ⟨_, e0, _, rfl, by have := hrow.1; simp only [List.length_map]; omega, dn2 ++ [y], rest2, some (.int y), rfl, by rw [hD2]; simp, ?_⟩
                rw [List.map_append, List.map_singleton, nats_snoc]
                rfl
          · intro ρ hI
            obtain ⟨dn2, rest2, o8, hq, hD2, hρ⟩ := hI
            subst hρ
            cases rest2 with
            | cons _ _ => cases hq
            | nil =>
              rw [List.append_nil] at hD2
              rw [hD2]
              exact ⟨rfl, _, rfl⟩
        rintro _ ⟨o8, rfl⟩
        simp! only [List.length_map]
        refine ⟨by omega, dn ++ [x], rest, some (.int x), some (.lst .own (natsD ((m.nx x).map fun w => idxD (g w) (K.map g)))), o8, rfl, by rw [hD]; simp, ?_⟩
        rw [List.map_append, List.map_append]
        rfl
    · intro ρ hI
      obtain ⟨dn, rest, o4, o7, o8, hq, hD, hρ⟩ := hI
      subst hρ
      cases rest with
      | cons _ _ => cases hq
      | nil =>
        rw [List.append_nil] at hD
        rw [← hD]
        exact ⟨rfl, _, _, _, rfl⟩
  rintro _ ⟨o4, o7, o8, rfl⟩
  simp! only [m0, List.length_map]
  refine ⟨by omega, ?_⟩
  refine T_compF natE (fun _ => true) (fun v => D.str (m.say v)) K [] (fun v hv => ?_) ?_
  · simp! only [m2, Mon.verd (hKlt v hv)]
  rw [List.filter_eq_self.mpr (fun _ _ => rfl)]
  simp! only []
  refine ⟨slM m g, _, _, ?_, hok, hred⟩
  subst hK
  show _ = D.tup [D.tup (m.rs.map RD), .int 0, .tup (((kpF g m.nodes).map m.say).map .str), .tup (((kpF g m.nodes).map fun v => (m.nx v).map fun w => idxD (g w) ((kpF g m.nodes).map g)).map fun r => D.tup (natsD r))]
  rw [List.map_map (g := D.str)]
  rfl
end Law

namespace Law
open PySem PySem.Spec PyProof.Rows L2 Sim
theorem lreach_at (k : Nat) : LReachOk (M (k + 1)).f__law_reach := fun {m n} h hn {v} hv => lreach_ok (R := M k) h hn hv
theorem lapart_at (k : Nat) : LApartOk (M (k + 1)).f__law_apart := fun {vs es many} h hm => apart_ok (R := M k) h hm
theorem lsmall_at (k : Nat) : LSmallOk (M (k + 2)).f__law_smallest := fun {m n} h hn hr => lsmallest_ok (R := M (k + 1)) (lreach_at k) (lapart_at k) h hn hr
end Law

namespace Law
open PySem PySem.Spec PyProof.Rows L2 Sim
local macro_rules | `(tactic| simp! only [$args,*] $[$l:location]?) => `(tactic| simp only [Z0, Z1, Z2, Z3, Z4, Z5, Z6, Z7, Z8, Z9, Z10, Z11, Z12, Z13, Z14, Z15, Z16, Z17, Z18, Z19, Z20, Z21, Z22, Z23, Z24, Z25, Z26, Z27, Z28, Z29, Z30, Z31, Z32, Z33, Z34, Z35, Z36, Z37, Z38, Z39, Z40, Z41, Z42, Z43, Z44, Z45, Z46, Z47, Z48, Z49, Z50, Z51, Z52, Z53, Z54, Z55, Z56, Z57, Z58, Z59, Z60, Z61, Z62, Z63, Z64, Z65, Z66, Z67, Z68, Z69, Z70, Z71, Z72, Z73, Z74, Sim.wipeR, Z75, Z76, Z77, Z78, Z79, Z80, Z81, Z82, Z83, Z84, Z85, Z86, Z87, Z88, Z89, Z90, Z91, Z92, Z93, Z94, Z95, Z96, Z97, Z98, Z99, Z100, Z101, Z102, Z103, Z104, Z105, Z106, Z107, Z108, Z109, Z110, Z111, Z112, Z113, Z114, Z115, Z116, Z117, Z118, Z119, Z120, Z121, Z122, Z123, Z124, Z125, Z126, Z127, Z128, Z129, Z130, Z131, Z132, Z133, Z134, Z135, Z136, Z137, Z138, Z139, Z140, Z141, Z142, Z143, Z144, Z145, Z146, Z147, Z148, Z149, Z150, Z151, Z152, Z153, Z154, Z155, Z156, Z157, Z158, Sim.T_sliceO, Sim.sliceO_lst, Sim.T_sliceS, Sim.EndX_nxt, Sim.EndX_ret, Sim.EndX_exc, Sim.rq_ok, Sim.rq_ex, Sim.T_callX, Sim.T_okM, Sim.T_setX, Sim.T_setXV, Sim.T_retX, Sim.T_dropX, Sim.T_raise0, Sim.T_raise1, Sim.T_try, Sim.TryQ_nxt, Sim.TryQ_ret, Sim.TryQ_brk, Sim.TryQ_cnt, Sim.TryQ_exc, Sim.SeqQ_exc, Sim.LoopQ_exc, Sim.BehQ_nxt, Sim.BehQ_ret, Sim.T_tryA, Sim.TryAQ_nxt, Sim.TryAQ_ret, Sim.TryAQ_exc, Sim.T_fld, Sim.T_compO, T_okX, Sim.T_nilX, Sim.T_consX, Sim.T_callFX, Sim.T_callXX, Sim.T_callBX, Sim.XQ_ok, Sim.XQ_ex, Sim.AQ_ok, Sim.AQ_ex, Sim.cap, Z159, Z160, Nat.zero_le, Z161, Z162, Z163, Z164, Z165, Z166, Z167, Z168, Z169, Z170, Z171, Z172, Z173, Z174, Z175, Z176, Z177, List.getElem?_cons_zero, List.getElem?_cons_succ, List.set_cons_zero, List.set_cons_succ, List.map_cons, List.map_nil, List.cons_append, List.nil_append, Option.map_some, List.length_cons, List.length_nil, Int.zero_add, Nat.zero_add, Nat.reduceAdd, Nat.reduceLeDiff, Nat.reduceMul, true_and, and_true, decide_eq_true_eq, decide_eq_false_iff_not, Bool.false_eq_true, Bool.true_eq_false, false_implies, true_implies, implies_true, eq_self, decide_true, decide_false, not_true_eq_false, not_false_eq_true, Bool.not_true, Bool.not_false, Int.reduceLT, Int.reduceLE, Int.reduceNeg, Int.reducePow, Int.reduceToNat, $args,*] $[$l:location]?)
abbrev DrawOk (f : Fn) : Prop := ∀ (ns : List Int) (k : Nat) (ms : List Int), ms.length ≤ 1000 → (∀ m ∈ ms, 0 < m ∧ m < 1073741824) → FT f [.scr ns, .int k, .lst .sh (ms.map .int)] fun d fs => fs = [] ∧ ∃ xs, d = .lst .own (xs.map .int) ∧ Drawn ms xs
theorem some_monitor_ok {R : Fs} (hd : DrawOk R.f__law_draw) (ns : List Int) (k many nodes : Nat) (hm : many ≤ 1000) (hn : 0 < nodes ∧ nodes ≤ 1000) :
    FT (defF 10 [] (b__law_some_monitor R)) [.scr ns, .int k, .int many, .int nodes] fun d fs => fs = [] ∧ ∃ rs first vs es, d = monD rs first vs es ∧ MonOk many nodes rs first vs es := by
  refine FT_def ?_
  simp! only [Sim.T_ite, b__law_some_monitor]
  have h1 := hd ns k [(nodes : Int)] (by simp) (by intro m h; simp at h; omega)
  refine FT_mono h1 ?_
  rintro _ _ ⟨rfl, xs, rfl, hl, hx⟩
  obtain ⟨x, rfl⟩ : ∃ x, xs = [x] := by
    match xs, hl with
    | [x], _ => exact ⟨x, rfl⟩
  have hx0 := hx 0 x _ rfl rfl
  obtain ⟨c0, rfl⟩ := Int.eq_ofNat_of_zero_le hx0.1
  simp! only [Sim.T_ite]
  have h2 := hd ns (k + 1) (List.replicate 60 97) (by decide) (by intro m h; rw [List.mem_replicate] at h; omega)
  rw [List.map_replicate] at h2
  refine FT_mono h2 ?_
  rintro _ _ ⟨rfl, dg, rfl, hl2, hx2⟩
  have hl2 : dg.length = 60 := by rw [hl2]; decide
  have hdg : ∀ x ∈ dg, 0 ≤ x ∧ x < 97 := by
    intro x h
    obtain ⟨j, hj, rfl⟩ := List.getElem_of_mem h
    exact hx2 j _ 97 (List.getElem?_eq_getElem hj) (by rw [List.getElem?_replicate, if_pos (by omega)])
  refine ⟨by omega, ?_⟩
  have e1 : (1 + (c0 : Int)).toNat = c0 + 1 := by omega
  rw [e1]
  refine T_goR (fun j ρ => ∃ (vs : List Str) (es : List (List Nat)) (o9 o10 o11 o12 : Option D), ρ = [some (.scr ns), some (.int k), some (.int many), some (.int nodes), some (.lst .sh (cutG six none (some ↑many))), some (.int (1 + c0)), some (.lst .sh (dg.map .int)),
    some (.lst .own (vs.map .str)), some (.lst .own (es.map fun r => .tup (r.map fun (x : Nat) => .int x))), o9, o10, o11, o12, none] ∧ vs.length = j ∧ es.length = j ∧ (∀ v ∈ vs, v = "sure" ∨ v = "never" ∨ v = "unknown" ∨ v = "impossible") ∧
    (∀ r ∈ es, r.length = many) ∧ (∀ r ∈ es, ∀ x ∈ r, x < c0 + 1)) ⟨[], [], none, none, none, none, rfl, rfl, rfl, by simp, by simp, by simp⟩ ?_ ?_
  · rintro j ρ hj ⟨vs, es, o9, o10, o11, o12, rfl, hv, he, hw, hr, hlo⟩
    simp! only [Sim.T_ite]
    refine at_map (by omega) (by omega) fun x hx _ => ?_
    have hx := hdg x hx
    have hpos : 0 < 2 + x % 3 := by omega
    simp! only [Sim.T_ite]
    refine ⟨hpos, at_ex (Int.emod_nonneg _ (by omega)) ?_ fun d hd _ => ?_⟩
    · have := Int.emod_lt_of_pos (x + (j : Int) / 60) hpos
      simp only [List.length_cons, List.length_nil]
      omega
    obtain ⟨w, rfl, hw'⟩ : ∃ w, d = .str w ∧ (w = "sure" ∨ w = "never" ∨ w = "unknown" ∨ w = "impossible") := by
      simp only [List.mem_cons, List.not_mem_nil, or_false] at hd
      rcases hd with rfl | rfl | rfl | rfl <;> simp
    refine ⟨by simp; omega, ?_⟩
    refine ⟨by omega, ?_⟩
    rw [Int.toNat_natCast]
    refine T_goR (fun i ρ => ∃ (row : List Nat) (o12 : Option D), ρ = [some (.scr ns), some (.int k), some (.int many), some (.int nodes), some (.lst .sh (cutG six none (some ↑many))), some (.int (1 + c0)), some (.lst .sh (dg.map .int)),
      some (.lst .own ((vs ++ [w]).map .str)), some (.lst .own (es.map fun r => .tup (r.map fun (x : Nat) => .int x))), some (.int j), some (.int x), some (.lst .own (row.map fun (x : Nat) => .int x)), o12, none] ∧ row.length = i ∧ (∀ x ∈ row, x < c0 + 1)) ⟨[], _, by rw [List.map_append]; rfl, rfl, by simp⟩ ?_ ?_
    · intro i ρ hi hI
      obtain ⟨row, o12, hρ, hri, hrl⟩ := hI
      subst hρ
      simp! only [Sim.T_ite]
      refine ⟨.inl (by omega), at_map (by omega) (by omega) fun y hy _ => ?_⟩
      have hy := hdg y hy
      simp! only [Sim.T_ite]
      refine ⟨.inl (by omega), by omega, by simp; omega, ?_⟩
      have hp : (0 : Int) < 1 + c0 := by omega
      obtain ⟨z, hz⟩ := Int.eq_ofNat_of_zero_le (Int.emod_nonneg (y * (1 + (j : Int) / 5) + i) (b := 1 + (c0 : Int)) (by omega))
      have hz2 := Int.emod_lt_of_pos (y * (1 + (j : Int) / 5) + i) hp
      rw [hz] at hz2 ⊢
      refine ⟨row ++ [z], some (.int i), by simp, by simp [hri], ?_⟩
      intro q hq
      rw [List.mem_append, List.mem_singleton] at hq
      rcases hq with hq | rfl
      · exact hrl q hq
      · omega
    · rintro ρ ⟨row, o12, rfl, hri, hrl⟩
      simp! only [Sim.T_ite]
      refine ⟨by simp; omega, ?_⟩
      refine ⟨vs ++ [w], es ++ [row], _, _, _, _, by rw [List.map_append, List.map_append]; rfl, by simp [hv], by simp [he], ?_, ?_, ?_⟩
      · intro v hv
        rw [List.mem_append, List.mem_singleton] at hv
        rcases hv with hv | rfl
        · exact hw v hv
        · exact hw'
      · intro r h
        rw [List.mem_append, List.mem_singleton] at h
        rcases h with h | rfl
        · exact hr r h
        · exact hri
      · intro r h
        rw [List.mem_append, List.mem_singleton] at h
        rcases h with h | rfl
        · exact hlo r h
        · exact hrl
  · rintro ρ ⟨vs, es, o9, o10, o11, o12, rfl, hv, he, hw, hr, hlo⟩
    simp! only [Sim.T_ite]
    have h3 := hd ns (k + 2) [((1 + c0 : Nat) : Int)] (by simp) (by intro m h; simp at h; omega)
    refine FT_mono h3 ?_
    rintro _ _ ⟨rfl, xs, rfl, hl3, hx3⟩
    obtain ⟨x, rfl⟩ : ∃ x, xs = [x] := by
      match xs, hl3 with
      | [x], _ => exact ⟨x, rfl⟩
    have hx3 := hx3 0 x _ rfl rfl
    obtain ⟨f, rfl⟩ := Int.eq_ofNat_of_zero_le hx3.1
    simp! only [Sim.T_ite]
    refine ⟨six.take many, f, vs, es, ?_, ⟨rfl, by omega, by omega, by omega, hw, hr, ?_⟩⟩
    · unfold monD
      rw [cutG_take]
    · intro r h x hx
      have := hlo r h x hx
      omega
end Law

namespace Law
open PySem PySem.Spec PyProof.Rows L2 Sim
local macro_rules | `(tactic| simp! only [$args,*] $[$l:location]?) => `(tactic| simp only [Z0, Z1, Z2, Z3, Z4, Z5, Z6, Z7, Z8, Z9, Z10, Z11, Z12, Z13, Z14, Z15, Z16, Z17, Z18, Z19, Z20, Z21, Z22, Z23, Z24, Z25, Z26, Z27, Z28, Z29, Z30, Z31, Z32, Z33, Z34, Z35, Z36, Z37, Z38, Z39, Z40, Z41, Z42, Z43, Z44, Z45, Z46, Z47, Z48, Z49, Z50, Z51, Z52, Z53, Z54, Z55, Z56, Z57, Z58, Z59, Z60, Z61, Z62, Z63, Z64, Z65, Z66, Z67, Z68, Z69, Z70, Z71, Z72, Z73, Z74, Sim.wipeR, Z75, Z76, Z77, Z78, Z79, Z80, Z81, Z82, Z83, Z84, Z85, Z86, Z87, Z88, Z89, Z90, Z91, Z92, Z93, Z94, Z95, Z96, Z97, Z98, Z99, Z100, Z101, Z102, Z103, Z104, Z105, Z106, Z107, Z108, Z109, Z110, Z111, Z112, Z113, Z114, Z115, Z116, Z117, Z118, Z119, Z120, Z121, Z122, Z123, Z124, Z125, Z126, Z127, Z128, Z129, Z130, Z131, Z132, Z133, Z134, Z135, Z136, Z137, Z138, Z139, Z140, Z141, Z142, Z143, Z144, Z145, Z146, Z147, Z148, Z149, Z150, Z151, Z152, Z153, Z154, Z155, Z156, Z157, Z158, Sim.T_sliceO, Sim.sliceO_lst, Sim.T_sliceS, Sim.EndX_nxt, Sim.EndX_ret, Sim.EndX_exc, Sim.rq_ok, Sim.rq_ex, Sim.T_callX, Sim.T_okM, Sim.T_setX, Sim.T_setXV, Sim.T_retX, Sim.T_dropX, Sim.T_raise0, Sim.T_raise1, Sim.T_try, Sim.TryQ_nxt, Sim.TryQ_ret, Sim.TryQ_brk, Sim.TryQ_cnt, Sim.TryQ_exc, Sim.SeqQ_exc, Sim.LoopQ_exc, Sim.BehQ_nxt, Sim.BehQ_ret, Sim.T_tryA, Sim.TryAQ_nxt, Sim.TryAQ_ret, Sim.TryAQ_exc, Sim.T_fld, Sim.T_compO, T_okX, Sim.T_nilX, Sim.T_consX, Sim.T_callFX, Sim.T_callXX, Sim.T_callBX, Sim.XQ_ok, Sim.XQ_ex, Sim.AQ_ok, Sim.AQ_ex, Sim.cap, Z159, Z160, Nat.zero_le, Z161, Z162, Z163, Z164, Z165, Z166, Z167, Z168, Z169, Z170, Z171, Z172, Z173, Z174, Z175, Z176, Z177, List.getElem?_cons_zero, List.getElem?_cons_succ, List.set_cons_zero, List.set_cons_succ, List.map_cons, List.map_nil, List.cons_append, List.nil_append, Option.map_some, List.length_cons, List.length_nil, Int.zero_add, Nat.zero_add, Nat.reduceAdd, Nat.reduceLeDiff, Nat.reduceMul, true_and, and_true, decide_eq_true_eq, decide_eq_false_iff_not, Bool.false_eq_true, Bool.true_eq_false, false_implies, true_implies, implies_true, eq_self, decide_true, decide_false, not_true_eq_false, not_false_eq_true, Bool.not_true, Bool.not_false, Int.reduceLT, Int.reduceLE, Int.reduceNeg, Int.reducePow, Int.reduceToNat, $args,*] $[$l:location]?)
theorem mpick_ok {R : Fs} (hd : DrawOk R.f__law_draw) (ns : List Int) (k c : Nat) (hc : 1 ≤ c) (hc2 : c ≤ 1000) : FT (defF 0 [] (b__law_pick R)) [.scr ns, .int k, .int c] fun d fs => fs = [] ∧ ∃ x : Nat, d = .int x ∧ x < c := by
  refine FT_def ?_
  simp! only [b__law_pick]
  have e : (if (c : Int) > 1 then (c : Int) else 1) = (c : Int) := by split <;> omega
  rw [e]
  refine FT_mono (hd ns k [(c : Int)] (by simp) (by intro m h; simp at h; omega)) ?_
  rintro _ _ ⟨rfl, xs, rfl, hl, hx⟩
  obtain ⟨x, rfl⟩ : ∃ x, xs = [x] := by
    match xs, hl with
    | [x], _ => exact ⟨x, rfl⟩
  have hx0 := hx 0 x _ rfl rfl
  obtain ⟨x, rfl⟩ := Int.eq_ofNat_of_zero_le hx0.1
  simp! only []
  exact ⟨x, rfl, by omega⟩
abbrev MPickOk (f : Fn) : Prop := ∀ (ns : List Int) (k c : Nat), 1 ≤ c → c ≤ 1000 → FT f [.scr ns, .int k, .int c] fun d fs => fs = [] ∧ ∃ x : Nat, d = .int x ∧ x < c
abbrev MonFn (f : Fn) : Prop := ∀ (ns : List Int) (k many nodes : Nat), many ≤ 6 → 0 < nodes ∧ nodes ≤ 1000 → FT f [.scr ns, .int k, .int many, .int nodes] fun d fs => fs = [] ∧ ∃ m : Mon, d = m.enc ∧ m.Ok nodes ∧ m.rs = sixR.take many ∧ m.rs.length = many
theorem mdraw_at (k : Nat) : DrawOk (M (k + 2)).f__law_draw := fun ns i ms hl hm => draw_ok (R := M (k + 1)) (fun ns i => cell_ok (R := M k) ns i) ns i ms hl hm
theorem monFn_at (k : Nat) : MonFn (M (k + 3)).f__law_some_monitor := fun ns i many nodes hm hn => by
  refine FT_mono (some_monitor_ok (R := M (k + 2)) (mdraw_at k) ns i many nodes (by omega) hn) ?_
  rintro _ _ ⟨rfl, rs, first, vs, es, rfl, h⟩
  obtain ⟨m, e, h1, h2, h3⟩ := mon_of h hm
  exact ⟨rfl, m, e, h1, h2, h3⟩
end Law

namespace Law
open PySem PySem.Spec PyProof.Rows L2 Sim
local macro_rules | `(tactic| simp! only [$args,*] $[$l:location]?) => `(tactic| simp only [Z0, Z1, Z2, Z3, Z4, Z5, Z6, Z7, Z8, Z9, Z10, Z11, Z12, Z13, Z14, Z15, Z16, Z17, Z18, Z19, Z20, Z21, Z22, Z23, Z24, Z25, Z26, Z27, Z28, Z29, Z30, Z31, Z32, Z33, Z34, Z35, Z36, Z37, Z38, Z39, Z40, Z41, Z42, Z43, Z44, Z45, Z46, Z47, Z48, Z49, Z50, Z51, Z52, Z53, Z54, Z55, Z56, Z57, Z58, Z59, Z60, Z61, Z62, Z63, Z64, Z65, Z66, Z67, Z68, Z69, Z70, Z71, Z72, Z73, Z74, Sim.wipeR, Z75, Z76, Z77, Z78, Z79, Z80, Z81, Z82, Z83, Z84, Z85, Z86, Z87, Z88, Z89, Z90, Z91, Z92, Z93, Z94, Z95, Z96, Z97, Z98, Z99, Z100, Z101, Z102, Z103, Z104, Z105, Z106, Z107, Z108, Z109, Z110, Z111, Z112, Z113, Z114, Z115, Z116, Z117, Z118, Z119, Z120, Z121, Z122, Z123, Z124, Z125, Z126, Z127, Z128, Z129, Z130, Z131, Z132, Z133, Z134, Z135, Z136, Z137, Z138, Z139, Z140, Z141, Z142, Z143, Z144, Z145, Z146, Z147, Z148, Z149, Z150, Z151, Z152, Z153, Z154, Z155, Z156, Z157, Z158, Sim.T_sliceO, Sim.sliceO_lst, Sim.T_sliceS, Sim.EndX_nxt, Sim.EndX_ret, Sim.EndX_exc, Sim.rq_ok, Sim.rq_ex, Sim.T_callX, Sim.T_okM, Sim.T_setX, Sim.T_setXV, Sim.T_retX, Sim.T_dropX, Sim.T_raise0, Sim.T_raise1, Sim.T_try, Sim.TryQ_nxt, Sim.TryQ_ret, Sim.TryQ_brk, Sim.TryQ_cnt, Sim.TryQ_exc, Sim.SeqQ_exc, Sim.LoopQ_exc, Sim.BehQ_nxt, Sim.BehQ_ret, Sim.T_tryA, Sim.TryAQ_nxt, Sim.TryAQ_ret, Sim.TryAQ_exc, Sim.T_fld, Sim.T_compO, T_okX, Sim.T_nilX, Sim.T_consX, Sim.T_callFX, Sim.T_callXX, Sim.T_callBX, Sim.XQ_ok, Sim.XQ_ex, Sim.AQ_ok, Sim.AQ_ex, Sim.cap, Z159, Z160, Nat.zero_le, Z161, Z162, Z163, Z164, Z165, Z166, Z167, Z168, Z169, Z170, Z171, Z172, Z173, Z174, Z175, Z176, Z177, List.getElem?_cons_zero, List.getElem?_cons_succ, List.set_cons_zero, List.set_cons_succ, List.map_cons, List.map_nil, List.cons_append, List.nil_append, Option.map_some, List.length_cons, List.length_nil, Int.zero_add, Nat.zero_add, Nat.reduceAdd, Nat.reduceLeDiff, Nat.reduceMul, true_and, and_true, decide_eq_true_eq, decide_eq_false_iff_not, Bool.false_eq_true, Bool.true_eq_false, false_implies, true_implies, implies_true, eq_self, decide_true, decide_false, not_true_eq_false, not_false_eq_true, Bool.not_true, Bool.not_false, Int.reduceLT, Int.reduceLE, Int.reduceNeg, Int.reducePow, Int.reduceToNat, $args,*] $[$l:location]?)
theorem alike_seq {R : Fs} {ds : List D} (hl : ds.length ≤ 1000000) (h : ∀ e ∈ ds, FT R.f__law_alike [e, e] IsTrue) (mk : List D → D) (hmk : mk ds = .tup ds ∨ mk ds = .lst .sh ds) : FT (defF 1 [] (b__law_alike R)) [mk ds, mk ds] IsTrue := by
  have go : ∀ (d : D), lenD [d] = some (.int ds.length) → (∀ i : Int, ixDD d (.int i) = atI ds i) → T (seqM (Sim.forM (range1 (consA (callM lenD (consP (vP (nameM 1)) nilP)) nilA)) (nameG 2)
  (iteM (notM (testM (shM (callF R.f__law_alike (consA (opP ixDD (vP (nameM 0)) (vP (nameM 2))) (consA (opP ixDD (vP (nameM 1)) (vP (nameM 2))) nilA))))))
  (retM (constM (.bl false)))
  nilM))
  (retM (constM (.bl true))) [some d, some d, none]) (EndQ [] IsTrue) := by
    intro d h1 h2
    simp! only [h1]
    refine ⟨by omega, ?_⟩
    refine T_goR (fun j ρ => ∃ o, ρ = [some d, some d, o]) ⟨_, rfl⟩ ?_ ?_
    · rintro j ρ hj ⟨o, rfl⟩
      have hj : j < ds.length := by omega
      have hg : ds[j]? = some ds[j] := List.getElem?_eq_getElem hj
      simp! only [Sim.T_ite, h2, hg]
      refine FT_mono (h ds[j] (List.getElem_mem hj)) ?_
      rintro _ _ ⟨rfl, rfl⟩
      simp! only [Sim.T_ite]
      exact ⟨_, rfl⟩
    · rintro ρ ⟨o, rfl⟩
      simp! only [Sim.T_ite]
      exact ⟨rfl, rfl⟩
  rcases hmk with e | e <;> rw [e]
  · refine FT_def ?_
    have := go (.tup ds) rfl (fun _ => rfl)
    simp! only [Sim.T_ite, b__law_alike] at this ⊢
    simpa using this
  · refine FT_def ?_
    have := go (.lst .sh ds) rfl (fun _ => rfl)
    simp! only [Sim.T_ite, b__law_alike] at this ⊢
    simpa using this
theorem alike_leaf {R : Fs} (d : D) (h : rank d = 0) (hp : plain d = true) : FT (defF 1 [] (b__law_alike R)) [d, d] IsTrue := by
  refine FT_def ?_
  cases d with
  | tup ds => simp [Sim.rank] at h
  | lst m ds => simp [Sim.rank] at h
  | dct _ _ _ => simp [Sim.plain] at hp
  | scr _ => simp [Sim.plain] at hp
  | non => simp! only [Sim.T_ite, b__law_alike]; exact ⟨rfl, rfl⟩
  | bl b => simp! only [Sim.T_ite, b__law_alike]; exact ⟨rfl, rfl⟩
  | int b => simp! only [Sim.T_ite, b__law_alike]; exact ⟨rfl, rfl⟩
  | str b => simp! only [Sim.T_ite, b__law_alike]; exact ⟨rfl, rfl⟩
/-- few items everywhere -/
theorem alike_all : ∀ (n k : Nat) (d : D), rank d < n → Sim.plain d = true → Sim.short d = true → FT (M (k + n)).f__law_alike [d, d] IsTrue
  | 0, _, _, h, _, _ => absurd h (Nat.not_lt_zero _)
  | n + 1, k, d, h, hp, hs => by
    show FT (defF 1 [] (b__law_alike (M (k + n)))) [d, d] IsTrue
    by_cases h0 : rank d = 0
    · exact alike_leaf d h0 hp
    · cases d with
      | tup ds =>
        have hs' := shorts_get hs
        refine alike_seq hs'.1 (fun e he => alike_all n k e ?_ (plains_get hp e he) (hs'.2 e he)) .tup (.inl rfl)
        have h1 := ranks_get e he
        simp only [rank] at h
        omega
      | lst m ds =>
        cases m with
        | sh =>
          have hs' := shorts_get hs
          refine alike_seq hs'.1 (fun e he => alike_all n k e ?_ (plains_get hp e he) (hs'.2 e he)) (.lst .sh) (.inr rfl)
          have h1 := ranks_get e he
          simp only [rank] at h
          omega
        | own => cases hp
        | brw => cases hp
      | non => exact absurd rfl h0
      | bl _ => exact absurd rfl h0
      | int _ => exact absurd rfl h0
      | str _ => exact absurd rfl h0
      | dct _ _ _ => cases hp
      | scr _ => cases hp
end Law

namespace Law
open PySem PySem.Spec PyProof.Rows L2 Sim
theorem alike_dat (k : Nat) : AlikeOk (M (k + 21)).f__law_alike := fun d h => alike_all 21 k d (by have := h.rank; omega) h.plain h.short
end Law

namespace Law
open PySem PySem.Spec PyProof.Rows L2 Sim
local macro_rules | `(tactic| simp! only [$args,*] $[$l:location]?) => `(tactic| simp only [Z0, Z1, Z2, Z3, Z4, Z5, Z6, Z7, Z8, Z9, Z10, Z11, Z12, Z13, Z14, Z15, Z16, Z17, Z18, Z19, Z20, Z21, Z22, Z23, Z24, Z25, Z26, Z27, Z28, Z29, Z30, Z31, Z32, Z33, Z34, Z35, Z36, Z37, Z38, Z39, Z40, Z41, Z42, Z43, Z44, Z45, Z46, Z47, Z48, Z49, Z50, Z51, Z52, Z53, Z54, Z55, Z56, Z57, Z58, Z59, Z60, Z61, Z62, Z63, Z64, Z65, Z66, Z67, Z68, Z69, Z70, Z71, Z72, Z73, Z74, Sim.wipeR, Z75, Z76, Z77, Z78, Z79, Z80, Z81, Z82, Z83, Z84, Z85, Z86, Z87, Z88, Z89, Z90, Z91, Z92, Z93, Z94, Z95, Z96, Z97, Z98, Z99, Z100, Z101, Z102, Z103, Z104, Z105, Z106, Z107, Z108, Z109, Z110, Z111, Z112, Z113, Z114, Z115, Z116, Z117, Z118, Z119, Z120, Z121, Z122, Z123, Z124, Z125, Z126, Z127, Z128, Z129, Z130, Z131, Z132, Z133, Z134, Z135, Z136, Z137, Z138, Z139, Z140, Z141, Z142, Z143, Z144, Z145, Z146, Z147, Z148, Z149, Z150, Z151, Z152, Z153, Z154, Z155, Z156, Z157, Z158, Sim.T_sliceO, Sim.sliceO_lst, Sim.T_sliceS, Sim.EndX_nxt, Sim.EndX_ret, Sim.EndX_exc, Sim.rq_ok, Sim.rq_ex, Sim.T_callX, Sim.T_okM, Sim.T_setX, Sim.T_setXV, Sim.T_retX, Sim.T_dropX, Sim.T_raise0, Sim.T_raise1, Sim.T_try, Sim.TryQ_nxt, Sim.TryQ_ret, Sim.TryQ_brk, Sim.TryQ_cnt, Sim.TryQ_exc, Sim.SeqQ_exc, Sim.LoopQ_exc, Sim.BehQ_nxt, Sim.BehQ_ret, Sim.T_tryA, Sim.TryAQ_nxt, Sim.TryAQ_ret, Sim.TryAQ_exc, Sim.T_fld, Sim.T_compO, T_okX, Sim.T_nilX, Sim.T_consX, Sim.T_callFX, Sim.T_callXX, Sim.T_callBX, Sim.XQ_ok, Sim.XQ_ex, Sim.AQ_ok, Sim.AQ_ex, Sim.cap, Z159, Z160, Nat.zero_le, Z161, Z162, Z163, Z164, Z165, Z166, Z167, Z168, Z169, Z170, Z171, Z172, Z173, Z174, Z175, Z176, Z177, List.getElem?_cons_zero, List.getElem?_cons_succ, List.set_cons_zero, List.set_cons_succ, List.map_cons, List.map_nil, List.cons_append, List.nil_append, Option.map_some, List.length_cons, List.length_nil, Int.zero_add, Nat.zero_add, Nat.reduceAdd, Nat.reduceLeDiff, Nat.reduceMul, true_and, and_true, decide_eq_true_eq, decide_eq_false_iff_not, Bool.false_eq_true, Bool.true_eq_false, false_implies, true_implies, implies_true, eq_self, decide_true, decide_false, not_true_eq_false, not_false_eq_true, Bool.not_true, Bool.not_false, Int.reduceLT, Int.reduceLE, Int.reduceNeg, Int.reducePow, Int.reduceToNat, $args,*] $[$l:location]?)
/-! ### alike, asked of texts where an exception is handled -/
theorem alikeH_ok {R : Fs} (x y : Str) : FT (defF 1 [] (hb__law_alike R)) [.str x, .str y] fun d fs => fs = [] ∧ d = .bl (decide (x = y)) := by
  refine FT_def ?_
  simp! only [hb__law_alike]
  refine T_iteTo (fun b => b = false) ?_ (fun h => by cases h) (fun _ => ?_)
  · simp! only []
  simp! only []
  refine T_iteTo (fun b => b = false) ?_ (fun h => by cases h) (fun _ => ?_)
  · simp! only []
  simp! only []
  refine T_iteTo (fun b => b = false) ?_ (fun h => by cases h) (fun _ => ?_)
  · simp! only []
  simp! only []
  refine T_iteTo (fun b => b = true) ?_ (fun _ => ?_) (fun h => by cases h)
  · simp! only []
  simp! only []
end Law

namespace Law
open PySem PySem.Spec PyProof.Rows L2 Sim
/-! ### drawn rows -/
theorem drawn_rep {n : Nat} {m : Int} {xs : List Int} (h : Drawn (List.replicate n m) xs) : xs.length = n ∧ ∀ x ∈ xs, 0 ≤ x ∧ x < m := by
  have hl : xs.length = n := by rw [h.1, List.length_replicate]
  refine ⟨hl, fun x hx => ?_⟩
  obtain ⟨j, hj, rfl⟩ := List.getElem_of_mem hx
  exact h.2 j _ m (List.getElem?_eq_getElem hj) (by rw [List.getElem?_replicate, if_pos (by omega)])
theorem drawn_get {ms xs : List Int} (h : Drawn ms xs) {j : Nat} {m : Int} (hj : ms[j]? = some m) : ∃ x : Int, xs[j]? = some x ∧ (xs.map D.int)[j]? = some (.int x) ∧ 0 ≤ x ∧ x < m := by
  have hl : j < xs.length := by rw [h.1]; exact (List.getElem?_eq_some_iff.mp hj).1
  have e : xs[j]? = some xs[j] := List.getElem?_eq_getElem hl
  exact ⟨xs[j], e, by rw [List.getElem?_map, e]; rfl, h.2 j _ m e hj⟩
end Law

namespace Law
open PySem PySem.Spec PyProof.Rows L2 Sim
local macro_rules | `(tactic| simp! only [$args,*] $[$l:location]?) => `(tactic| simp only [Z0, Z1, Z2, Z3, Z4, Z5, Z6, Z7, Z8, Z9, Z10, Z11, Z12, Z13, Z14, Z15, Z16, Z17, Z18, Z19, Z20, Z21, Z22, Z23, Z24, Z25, Z26, Z27, Z28, Z29, Z30, Z31, Z32, Z33, Z34, Z35, Z36, Z37, Z38, Z39, Z40, Z41, Z42, Z43, Z44, Z45, Z46, Z47, Z48, Z49, Z50, Z51, Z52, Z53, Z54, Z55, Z56, Z57, Z58, Z59, Z60, Z61, Z62, Z63, Z64, Z65, Z66, Z67, Z68, Z69, Z70, Z71, Z72, Z73, Z74, Sim.wipeR, Z75, Z76, Z77, Z78, Z79, Z80, Z81, Z82, Z83, Z84, Z85, Z86, Z87, Z88, Z89, Z90, Z91, Z92, Z93, Z94, Z95, Z96, Z97, Z98, Z99, Z100, Z101, Z102, Z103, Z104, Z105, Z106, Z107, Z108, Z109, Z110, Z111, Z112, Z113, Z114, Z115, Z116, Z117, Z118, Z119, Z120, Z121, Z122, Z123, Z124, Z125, Z126, Z127, Z128, Z129, Z130, Z131, Z132, Z133, Z134, Z135, Z136, Z137, Z138, Z139, Z140, Z141, Z142, Z143, Z144, Z145, Z146, Z147, Z148, Z149, Z150, Z151, Z152, Z153, Z154, Z155, Z156, Z157, Z158, Sim.T_sliceO, Sim.sliceO_lst, Sim.T_sliceS, Sim.EndX_nxt, Sim.EndX_ret, Sim.EndX_exc, Sim.rq_ok, Sim.rq_ex, Sim.T_callX, Sim.T_okM, Sim.T_setX, Sim.T_setXV, Sim.T_retX, Sim.T_dropX, Sim.T_raise0, Sim.T_raise1, Sim.T_try, Sim.TryQ_nxt, Sim.TryQ_ret, Sim.TryQ_brk, Sim.TryQ_cnt, Sim.TryQ_exc, Sim.SeqQ_exc, Sim.LoopQ_exc, Sim.BehQ_nxt, Sim.BehQ_ret, Sim.T_tryA, Sim.TryAQ_nxt, Sim.TryAQ_ret, Sim.TryAQ_exc, Sim.T_fld, Sim.T_compO, T_okX, Sim.T_nilX, Sim.T_consX, Sim.T_callFX, Sim.T_callXX, Sim.T_callBX, Sim.XQ_ok, Sim.XQ_ex, Sim.AQ_ok, Sim.AQ_ex, Sim.cap, Z159, Z160, Nat.zero_le, Z161, Z162, Z163, Z164, Z165, Z166, Z167, Z168, Z169, Z170, Z171, Z172, Z173, Z174, Z175, Z176, Z177, List.getElem?_cons_zero, List.getElem?_cons_succ, List.set_cons_zero, List.set_cons_succ, List.map_cons, List.map_nil, List.cons_append, List.nil_append, Option.map_some, List.length_cons, List.length_nil, Int.zero_add, Nat.zero_add, Nat.reduceAdd, Nat.reduceLeDiff, Nat.reduceMul, true_and, and_true, decide_eq_true_eq, decide_eq_false_iff_not, Bool.false_eq_true, Bool.true_eq_false, false_implies, true_implies, implies_true, eq_self, decide_true, decide_false, not_true_eq_false, not_false_eq_true, Bool.not_true, Bool.not_false, Int.reduceLT, Int.reduceLE, Int.reduceNeg, Int.reducePow, Int.reduceToNat, $args,*] $[$l:location]?)
theorem six_len49 : ∀ r ∈ sixR, r.length ≤ 2 := by decide
abbrev TrialsOk (f : FnX) : Prop := ∀ {m : Mon} {n : Nat}, m.Ok n → n ≤ 100 → m.rs.length ≤ 6 → ∀ x : Nat, x ≤ 3 → ∀ most : Nat, most ≤ 1000 → FXT f [m.enc, .int x, .int most] fun r => ∃ (s : Mon) (cl rep : Nat → Nat), s.Ok n ∧ Red m s cl rep ∧ ((triN s (x + 1) ≤ most ∧ r = .ok (.lst .own ((triR s (x + 1)).map (rdRow s)))) ∨ (most < triN s (x + 1) ∧ r = .ex (tooD "tests")))
theorem tri_rows {s : Mon} {n : Nat} (o : s.Ok n) (hn : n ≤ 100) (hN : s.rs.length ≤ 6) (G : SepG s) (l : Nat) (hl : l ≤ 4) : ∀ r ∈ triR s l, r.length ≤ 20000 := by
  intro r hr
  have hr : r ∈ triL s l := by
    rcases mem_addG.mp (show r ∈ addG [] (triL s l) from hr) with h | h
    · cases h
    · exact h
  obtain ⟨a, ha, hr⟩ := List.mem_flatMap.mp hr
  obtain ⟨w, hw, hr⟩ := List.mem_flatMap.mp hr
  obtain ⟨e, he, rfl⟩ := List.mem_map.mp hr
  obtain ⟨q, hq, rfl⟩ := List.mem_map.mp ha
  have h1 := (covR_ok o).2.1 q hq
  have h2 := (wordsU_all _ _ w hw).1
  have h3 := (endsP_all G s.vs.length 0 (Nat.le_refl _) (Nat.zero_le _) (.inl rfl) e he).1
  have := o.few
  rw [List.length_append, List.length_append]
  omega
theorem dat_tri (s : Mon) (rows : List (List Nat)) (h1 : rows.length ≤ 1000) (h2 : ∀ r ∈ rows, r.length ≤ 20000) (h3 : ∀ k, (s.rs.getD k []).length ≤ 1000) : Dat 20 (.lst .sh (rows.map (rdRow s))) := .lst (n := 19) (fun d hd => by
  obtain ⟨r, hr, rfl⟩ := List.mem_map.mp hd
  exact .lst (n := 18) (fun e he => by
    obtain ⟨k, _, rfl⟩ := List.mem_map.mp he
    exact (dat_RD (n := 0) _ (h3 k)).up (by omega)) (by rw [List.length_map]; have := h2 r hr; omega)) (by rw [List.length_map]; omega)
theorem law_ok {R : Fs} (ns : List Int) (hpick : MPickOk R.f__law_pick) (hmon : MonFn R.f__law_some_monitor) (hd : DrawOk R.f__law_draw) (hsm : LSmallOk R.f__law_smallest) (hseps : SepsOk R.f_separators) (hcov : CovOk R.f_cover)
    (hwo : WuOk R.f__law_words) (htr : TrialsOk R.f_trials) (halh : ∀ x y : Str, FT R.h__law_alike [.str x, .str y] fun d fs => fs = [] ∧ d = .bl (decide (x = y))) (hal : AlikeOk R.f__law_alike) : FT (defF 17 [] (b_law R)) [.scr ns] IsTrue := by
  refine FT_def ?_
  simp! only [b_law]
  refine FT_mono (hpick ns 0 4 (by omega) (by omega)) ?_
  rintro _ _ ⟨rfl, many, rfl, hmany⟩
  simp! only []
  refine FT_mono (hmon ns 1 many 8 (by omega) (by omega)) ?_
  rintro _ _ ⟨rfl, m, rfl, h, hrs, hrl⟩
  have hmf : m.enc.frz = m.enc := rfl
  simp! only [hmf]
  refine FT_mono (hd ns 4 [3, 4, 400] (by simp) (by intro m h; simp at h; omega)) ?_
  rintro _ _ ⟨rfl, xs, rfl, hdr⟩
  obtain ⟨x, _, e0, a0, b0⟩ := drawn_get hdr (j := 0) rfl
  obtain ⟨x1, _, e1, a1, b1⟩ := drawn_get hdr (j := 1) rfl
  obtain ⟨x2, _, e2, a2, b2⟩ := drawn_get hdr (j := 2) rfl
  obtain ⟨x, rfl⟩ := Int.eq_ofNat_of_zero_le a0
  obtain ⟨x1, rfl⟩ := Int.eq_ofNat_of_zero_le a1
  obtain ⟨x2, rfl⟩ := Int.eq_ofNat_of_zero_le a2
  have hx : x ≤ 3 := by omega
  have hsm1 := hsm h (by omega) (by omega)
  have htr1 := fun most (hm : most ≤ 1000) => htr h (by omega) (by omega) x hx most hm
  simp! only []
  refine FT_mono hsm1 ?_
  rintro _ _ ⟨rfl, s, cl, rep, rfl, o, r⟩
  have hN : s.rs.length ≤ 6 := by rw [r.rs]; omega
  have G := sepG_of r h o (by omega)
  have hs1 := hseps o (by omega) (by omega) G
  have hc1 := hcov o (by omega) (by omega)
  have hw2 := hwo s.rs.length (x + 1) hN (by omega)
  have ex : ((x : Int) + 1) = ((x + 1 : Nat) : Int) := by omega
  have hfew := o.few
  generalize hsD : s.enc = sD at *
  have hsf : sD.frz = sD := by rw [← hsD]; rfl
  have s0 : ixDD sD (.int 0) = some (.tup (s.rs.map RD)) := by rw [← hsD]; rfl
  have s2 : ixDD sD (.int 2) = some (.tup (s.vs.map .str)) := by rw [← hsD]; rfl
  generalize hmD : m.enc = mD at *
  simp! only [hsf]
  refine FT_mono hs1 ?_
  rintro _ _ ⟨rfl, rfl⟩
  simp! only [s0, e0, ex, List.length_map]
  refine FT_mono hw2 ?_
  rintro _ _ ⟨rfl, md, hmd, rfl⟩
  have hE := endsP_few s s.vs.length 0 (by omega) (by omega)
  have hU := (wordsU_few s.rs.length hN (x + 1) (by omega)).1
  have eN : (s.vs.length : Int) * ((wordsU s.rs.length (x + 1)).length : Int) * ((endsP s s.vs.length 0).length : Int) = ((triN s (x + 1) : Nat) : Int) := by
    unfold triN
    rw [Int.natCast_mul, Int.natCast_mul]
  obtain ⟨T0, hT0⟩ : ∃ T0, triN s (x + 1) = T0 := ⟨_, rfl⟩
  rw [hT0] at eN
  simp! only [s2, List.length_map, eN, e2]
  refine ⟨.inl ⟨by omega, by omega⟩, .inr ⟨by omega, by omega⟩, ?_⟩
  refine T_cut (fun ρ => ∃ q0 : Nat, q0 ≤ 1000 ∧ ρ = [some (.scr ns), some mD, some (.lst .sh (xs.map .int)), some sD, some (.lst .sh ((endsP s s.vs.length 0).map rowT)), some (.lst .sh ((wordsU s.rs.length (x + 1)).map rowT)), some (.int T0), some (.int q0), none, none, none, none, none, none, none, none, none, none]) ?_ ?_
  · refine T_iteTo (fun b => b = true → T0 ≤ 400) ?_ (fun c => ?_) (fun c => ?_)
    · simp! only [e1]
      first | (intro _ h; omega) | trace_state
    · have c := c rfl
      obtain ⟨q, hq, hq2⟩ : ∃ q : Nat, (if (T0 : Int) - (x1 : Int) + 2 > 1 then (T0 : Int) - (x1 : Int) + 2 else 1) = (q : Int) ∧ q ≤ 1000 := by
        split
        · exact ⟨T0 + 2 - x1, by omega, by omega⟩
        · exact ⟨1, rfl, by omega⟩
      simp! only [e1]
      exact ⟨q, hq2, by rw [hq]⟩
    · simp! only []
      exact ⟨1 + x2, by omega, by simp⟩
  rintro _ ⟨q0, hq0, rfl⟩
  have ht := htr1 q0 hq0
  simp! only [e0]
  refine FXT_mono ht ?_
  rintro _ ⟨sx, clx, repx, ox, rx, hcase⟩
  have ee := red_same rx r h ox o
  subst ee
  rw [hT0] at hcase
  rcases hcase with ⟨hT, rfl⟩ | ⟨hT, rfl⟩
  rotate_left
  · simp! only []
    have his : isOf ["TooMany"] (tooD "tests") = true := by decide +kernel
    refine ⟨fun _ => ⟨by decide, .str "tests", rfl, ?_⟩, fun h => absurd h (by rw [his]; decide)⟩
    refine FT_mono (halh "tests" "tests") ?_
    rintro _ _ ⟨rfl, rfl⟩
    have htt : decide (("tests" : Str) = "tests") = true := decide_eq_true rfl
    rw [htt]
    simp! only []
    refine T_iteTo (fun b => b = true) ?_ (fun _ => ?_) (fun c => by cases c)
    · simp! only []
      omega
    · simp! only []
      first | exact ⟨rfl, rfl⟩ | exact rfl
  have htf := triL_few o (x + 1)
  have htl : (triR sx (x + 1)).length ≤ 1000 := by
    have := addG_len (triL sx (x + 1)) []
    rw [List.length_nil] at this
    have e : (triR sx (x + 1)).length = (addG [] (triL sx (x + 1))).length := rfl
    omega
  have htr2 := tri_rows o (by omega) hN G (x + 1) (by omega)
  have h2 : ∀ k, (sx.rs.getD k []).length ≤ 1000 := fun k => by
    rw [List.getD_eq_getElem?_getD]
    cases e : sx.rs[k]? with
    | none => exact Nat.zero_le _
    | some v =>
      have := List.mem_of_getElem? e
      rw [r.rs, hrs] at this
      have := six_len49 v (List.mem_of_mem_take this)
      show v.length ≤ 1000
      omega
  have hdat := dat_tri sx _ htl htr2 h2
  obtain ⟨actD, hact⟩ : ∃ actD, D.lst .sh ((triR sx (x + 1)).map (rdRow sx)) = actD := ⟨_, rfl⟩
  have hfz : (D.lst .own ((triR sx (x + 1)).map (rdRow sx))).frz = actD := hact
  have hal1 := hal _ hdat
  rw [hact] at hal1
  simp! only []
  first
    | rw [hact]
    | trace_state
  have hco := covR_ok o
  have hea := endsP_all G sx.vs.length 0 (Nat.le_refl _) (Nat.zero_le _) (.inl rfl)
  refine T_cut (fun ρ => ρ = [some (.scr ns), some mD, some (.lst .sh (xs.map .int)), some sD, some (.lst .sh ((endsP sx sx.vs.length 0).map rowT)), some (.lst .sh ((wordsU sx.rs.length (x + 1)).map rowT)), some (.int T0), some (.int q0), some (.bl false), some actD, none, none, none, none, none, none, none, none]) ?_ ?_
  · refine T_iteTo (fun b => b = false) ?_ (fun c => by cases c) (fun _ => ?_)
    · simp! only []
      omega
    · simp! only []
  rintro _ rfl
  simp! only []
  refine FT_mono hc1 ?_
  rintro _ _ ⟨rfl, rfl⟩
  simp! only []
  refine T_go (fun q ρ => ∃ (dn rest : LZ Nat) (F : List (List Nat)) (o8 o9 o10 o11 : Option D), q = rest.map (fun q => rowT q.2) ∧ covR sx = dn ++ rest ∧ F = addG [] ((dn.map Prod.snd).flatMap fun a => (wordsU sx.rs.length (x + 1)).flatMap fun w => (endsP sx sx.vs.length 0).map fun e => a ++ w ++ e) ∧
    ρ = [some (.scr ns), some mD, some (.lst .sh (xs.map .int)), some sD, some (.lst .sh ((endsP sx sx.vs.length 0).map rowT)), some (.lst .sh ((wordsU sx.rs.length (x + 1)).map rowT)), some (.int T0), some (.int q0), some (.bl false), some actD, none, some (.lst .own (F.map (rdRow sx))), some (setD rowE F), o8, o9, o10, o11, none]) ?_ ?_ _ _ ⟨[], covR sx, [], _, _, _, _, rfl, rfl, rfl, rfl⟩
  · intro d q ρ hI
    obtain ⟨dn, rest, F, o8, o9, o10, o11, hq, hD, hF, hρ⟩ := hI
    subst hρ
    cases rest with
    | nil => cases hq
    | cons c rest =>
      cases hq
      simp! only []
      refine T_go (fun q ρ => ∃ (dn2 rest2 : List (List Nat)) (F2 : List (List Nat)) (o9 o10 o11 : Option D), q = rest2.map rowT ∧ wordsU sx.rs.length (x + 1) = dn2 ++ rest2 ∧ F2 = addG F (dn2.flatMap fun w => (endsP sx sx.vs.length 0).map fun e => c.2 ++ w ++ e) ∧
        ρ = [some (.scr ns), some mD, some (.lst .sh (xs.map .int)), some sD, some (.lst .sh ((endsP sx sx.vs.length 0).map rowT)), some (.lst .sh ((wordsU sx.rs.length (x + 1)).map rowT)), some (.int T0), some (.int q0), some (.bl false), some actD, none, some (.lst .own (F2.map (rdRow sx))), some (setD rowE F2), some (rowT c.2), o9, o10, o11, none]) ?_ ?_ _ _ ⟨[], wordsU sx.rs.length (x + 1), F, _, _, _, rfl, rfl, rfl, rfl⟩
      · intro d q ρ hI
        obtain ⟨dn2, rest2, F2, o9, o10, o11, hq, hD2, hF2, hρ⟩ := hI
        subst hρ
        cases rest2 with
        | nil => cases hq
        | cons w rest2 =>
          cases hq
          simp! only []
          refine T_go (fun q ρ => ∃ (dn3 rest3 : List (List Nat)) (F3 : List (List Nat)) (o10 o11 : Option D), q = rest3.map rowT ∧ endsP sx sx.vs.length 0 = dn3 ++ rest3 ∧ F3 = addG F2 (dn3.map fun e => c.2 ++ w ++ e) ∧
            ρ = [some (.scr ns), some mD, some (.lst .sh (xs.map .int)), some sD, some (.lst .sh ((endsP sx sx.vs.length 0).map rowT)), some (.lst .sh ((wordsU sx.rs.length (x + 1)).map rowT)), some (.int T0), some (.int q0), some (.bl false), some actD, none, some (.lst .own (F3.map (rdRow sx))), some (setD rowE F3), some (rowT c.2), some (rowT w), o10, o11, none]) ?_ ?_ _ _ ⟨[], endsP sx sx.vs.length 0, F2, _, _, rfl, rfl, rfl, rfl⟩
          · intro d q ρ hI
            obtain ⟨dn3, rest3, F3, o10, o11, hq, hD3, hF3, hρ⟩ := hI
            subst hρ
            cases rest3 with
            | nil => cases hq
            | cons e rest3 =>
              cases hq
              have hlen := tri_pre o hD hD2 hD3
              rw [hF] at hF2
              rw [hF2] at hF3
              rw [show addG [] ((dn.map Prod.snd).flatMap (tri2 sx (x + 1))) = addG [] ((dn.map Prod.snd).flatMap fun a => (wordsU sx.rs.length (x + 1)).flatMap fun w => (endsP sx sx.vs.length 0).map fun e => a ++ w ++ e) from rfl] at hlen
              have hlen : F3.length ≤ triN sx (x + 1) := by rw [hF3]; exact hlen
              rw [hT0] at hlen
              have hcm : c ∈ covR sx := by rw [hD]; simp
              have hwm : w ∈ wordsU sx.rs.length (x + 1) := by rw [hD2]; simp
              have hem : e ∈ endsP sx sx.vs.length 0 := by rw [hD3]; simp
              have k1 := (hco.1.good c hcm).2.1
              have l1 := hco.2.1 c hcm
              obtain ⟨l2, k2⟩ := wordsU_all sx.rs.length (x + 1) w hwm
              obtain ⟨l3, k3⟩ := hea e hem
              obtain ⟨row, hrow⟩ : ∃ row, row = c.2 ++ w ++ e := ⟨_, rfl⟩
              have hrk : ∀ k ∈ row, k < sx.rs.length := fun k hk => by
                rw [hrow] at hk
                rcases List.mem_append.mp hk with hk | hk
                · rcases List.mem_append.mp hk with hk | hk
                  · exact k1 k hk
                  · exact k2 k hk
                · exact k3 k hk
              have hrl : row.length ≤ 20000 := by rw [hrow, List.length_append, List.length_append]; omega
              have e3 : natsD c.2 ++ natsD w ++ natsD e = natsD row := by rw [hrow]; simp [natsD]
              have es : addG F2 ((dn3 ++ [e]).map fun e => c.2 ++ w ++ e) = add1 F3 row := by
                rw [List.map_append, List.map_singleton, ← hrow, addG_snoc, hF3, hF2]
              clear hF3 hF2 hF
              have hin := rowKeys.notIn F3 (F3.map fun _ => D.bl true) (by simp) .own row
              simp! only [e3, List.length_map]
              refine ⟨by first | omega | (simp only [List.length_map]; omega), by first | omega | (simp only [List.length_map, List.length_append]; omega), ?_⟩
              refine T_iteTo (fun b => b = !decide (row ∈ F3)) ?_ (fun h => ?_) (fun h => ?_)
              · simp! only [rowKeys.ok, rowKeys.sort1, rowKeys.look row F3 (F3.map fun _ => D.bl true) (by simp)]
                first | done | rfl | exact congrArg _ (decide_eq_decide.mpr Iff.rfl) | trace_state
              · have h : row ∉ F3 := by simpa using h
                rw [add1, if_neg h] at es
                simp! only []
                refine ⟨_, rowKeys.put h (by omega), ?_⟩
                refine ⟨by simp only [List.length_map]; omega, ?_⟩
                refine T_compF natE (fun _ => true) (fun k => RD (sx.rs.getD k [])) row [] (fun k hk => ?_) ?_
                · have hk := hrk k hk
                  have g1 : (sx.rs.map RD)[k]? = some (RD (sx.rs.getD k [])) := by rw [List.getElem?_map, List.getD_eq_getElem?_getD, List.getElem?_eq_getElem hk]; rfl
                  simp! only [s0, g1]
                · rw [List.filter_eq_self.mpr (fun _ _ => rfl)]
                  simp! only [List.length_map]
                  refine ⟨by omega, dn3 ++ [e], rest3, F3 ++ [row], some (rowT e), some (rowT row), rfl, by rw [hD3]; simp, es.symm, ?_⟩
                  rw [List.map_append]
                  rfl
              · have h : row ∈ F3 := by simpa using h
                rw [add1, if_pos h] at es
                simp! only []
                exact ⟨dn3 ++ [e], rest3, F3, some (rowT e), some (rowT row), rfl, by rw [hD3]; simp, es.symm, rfl⟩
          · intro ρ hI
            obtain ⟨dn3, rest3, F3, o10, o11, hq, hD3, hF3, hρ⟩ := hI
            subst hρ
            cases rest3 with
            | cons _ _ => cases hq
            | nil =>
              rw [List.append_nil] at hD3
              refine ⟨dn2 ++ [w], rest2, F3, _, _, _, rfl, by rw [hD2]; simp, ?_, rfl⟩
              rw [hF3, hF2, hD3, List.flatMap_append, addG_app']
              simp
      · intro ρ hI
        obtain ⟨dn2, rest2, F2, o9, o10, o11, hq, hD2, hF2, hρ⟩ := hI
        subst hρ
        cases rest2 with
        | cons _ _ => cases hq
        | nil =>
          rw [List.append_nil] at hD2
          refine ⟨dn ++ [c], rest, F2, _, _, _, _, rfl, by rw [hD]; simp, ?_, rfl⟩
          rw [hF2, hF, hD2, List.map_append, List.flatMap_append, addG_app']
          simp
  · intro ρ hI
    obtain ⟨dn, rest, F, o8, o9, o10, o11, hq, hD, hF, hρ⟩ := hI
    subst hρ
    cases rest with
    | cons _ _ => cases hq
    | nil =>
      rw [List.append_nil] at hD
      rw [← hD] at hF
      have hF : F = triR sx (x + 1) := hF
      rw [hF]
      simp! only [hact]
      refine FT_mono hal1 ?_
      rintro _ _ ⟨rfl, rfl⟩
      exact ⟨rfl, rfl⟩
end Law

namespace Law
open PySem PySem.Spec PyProof.Rows L2 Sim
local macro_rules | `(tactic| simp! only [$args,*] $[$l:location]?) => `(tactic| simp only [Z0, Z1, Z2, Z3, Z4, Z5, Z6, Z7, Z8, Z9, Z10, Z11, Z12, Z13, Z14, Z15, Z16, Z17, Z18, Z19, Z20, Z21, Z22, Z23, Z24, Z25, Z26, Z27, Z28, Z29, Z30, Z31, Z32, Z33, Z34, Z35, Z36, Z37, Z38, Z39, Z40, Z41, Z42, Z43, Z44, Z45, Z46, Z47, Z48, Z49, Z50, Z51, Z52, Z53, Z54, Z55, Z56, Z57, Z58, Z59, Z60, Z61, Z62, Z63, Z64, Z65, Z66, Z67, Z68, Z69, Z70, Z71, Z72, Z73, Z74, Sim.wipeR, Z75, Z76, Z77, Z78, Z79, Z80, Z81, Z82, Z83, Z84, Z85, Z86, Z87, Z88, Z89, Z90, Z91, Z92, Z93, Z94, Z95, Z96, Z97, Z98, Z99, Z100, Z101, Z102, Z103, Z104, Z105, Z106, Z107, Z108, Z109, Z110, Z111, Z112, Z113, Z114, Z115, Z116, Z117, Z118, Z119, Z120, Z121, Z122, Z123, Z124, Z125, Z126, Z127, Z128, Z129, Z130, Z131, Z132, Z133, Z134, Z135, Z136, Z137, Z138, Z139, Z140, Z141, Z142, Z143, Z144, Z145, Z146, Z147, Z148, Z149, Z150, Z151, Z152, Z153, Z154, Z155, Z156, Z157, Z158, Sim.T_sliceO, Sim.sliceO_lst, Sim.T_sliceS, Sim.EndX_nxt, Sim.EndX_ret, Sim.EndX_exc, Sim.rq_ok, Sim.rq_ex, Sim.T_callX, Sim.T_okM, Sim.T_setX, Sim.T_setXV, Sim.T_retX, Sim.T_dropX, Sim.T_raise0, Sim.T_raise1, Sim.T_try, Sim.TryQ_nxt, Sim.TryQ_ret, Sim.TryQ_brk, Sim.TryQ_cnt, Sim.TryQ_exc, Sim.SeqQ_exc, Sim.LoopQ_exc, Sim.BehQ_nxt, Sim.BehQ_ret, Sim.T_tryA, Sim.TryAQ_nxt, Sim.TryAQ_ret, Sim.TryAQ_exc, Sim.T_fld, Sim.T_compO, T_okX, Sim.T_nilX, Sim.T_consX, Sim.T_callFX, Sim.T_callXX, Sim.T_callBX, Sim.XQ_ok, Sim.XQ_ex, Sim.AQ_ok, Sim.AQ_ex, Sim.cap, Z159, Z160, Nat.zero_le, Z161, Z162, Z163, Z164, Z165, Z166, Z167, Z168, Z169, Z170, Z171, Z172, Z173, Z174, Z175, Z176, Z177, List.getElem?_cons_zero, List.getElem?_cons_succ, List.set_cons_zero, List.set_cons_succ, List.map_cons, List.map_nil, List.cons_append, List.nil_append, Option.map_some, List.length_cons, List.length_nil, Int.zero_add, Nat.zero_add, Nat.reduceAdd, Nat.reduceLeDiff, Nat.reduceMul, true_and, and_true, decide_eq_true_eq, decide_eq_false_iff_not, Bool.false_eq_true, Bool.true_eq_false, false_implies, true_implies, implies_true, eq_self, decide_true, decide_false, not_true_eq_false, not_false_eq_true, Bool.not_true, Bool.not_false, Int.reduceLT, Int.reduceLE, Int.reduceNeg, Int.reducePow, Int.reduceToNat, $args,*] $[$l:location]?)
section
variable {m : Mon} {n : Nat}
theorem nodes_ok {R : Fs} (h : m.Ok n) (hn : n ≤ 1000) : FT (defF 4 [] (b_reached_nodes R)) [m.enc] fun d fs => fs = [] ∧ d = .lst .own (natsD m.nodes) := by
  refine FT_def ?_
  have hfew := h.few
  simp! only [b_reached_nodes, monD, keyOk_int]
  refine T_cut (fun ρ => ∃ (s : D) (o4 : Option D), ρ = [some m.enc, some (.lst .own (natsD m.nodes)), some s, some (.int m.nodes.length), o4]) ?_ ?_
  · refine T_while (fun q ρ => ∃ (p : Nat) (f : List Nat) (o4 : Option D), ρ = [some m.enc, some (.lst .own (natsD f)), some (setD natE f), some (.int p), o4] ∧ q = m.vs.length - p ∧ f.Nodup ∧ (∀ x ∈ f, x < m.vs.length) ∧ p ≤ f.length ∧ trGo m.nx m.vs.length (m.vs.length + 1 - p) p f = m.nodes) ?_ wf (m.vs.length) _ (by unfold wf; omega) ⟨0, [m.first], none, rfl, rfl, by simp, fun x hx => by rw [List.mem_singleton] at hx; rw [hx]; exact h.first, by simp, rfl⟩
    intro q ρ hI
    obtain ⟨p, f, o4, hρ, hm, hf, hlt, hp, hb⟩ := hI
    subst hρ
    have hfl := nodup_few hf hlt
    simp! only [List.length_map]
    refine ⟨fun hc => ?_, fun hc => ?_⟩
    · have hc : p = f.length := by omega
      subst hc
      rw [tr_stop _ _ _ (.inl (Nat.le_refl _))] at hb
      subst hb
      exact ⟨_, o4, rfl⟩
    · have hc : p < f.length := by omega
      have hx : f.getD p 0 < m.vs.length := by
        rw [List.getD_eq_getElem?_getD, List.getElem?_eq_getElem hc]
        exact hlt _ (List.getElem_mem hc)
      have hg : f[p]? = some (f.getD p 0) := by rw [List.getD_eq_getElem?_getD, List.getElem?_eq_getElem hc]; rfl
      simp! only [nats_at hc, monD, h.at hx]
      rw [show m.vs.length + 1 - p = (m.vs.length - p) + 1 by omega, tr_step hg hfl] at hb
      have hrow := (h.row hx).2
      generalize hR : m.nx (f.getD p 0) = row at *
      refine T_go (fun r ρ => ∃ (rs g : List Nat) (o4 : Option D), r = natsD rs ∧ ρ = [some m.enc, some (.lst .own (natsD g)), some (setD natE g), some (.int p), o4] ∧ g.Nodup ∧ (∀ x ∈ g, x < m.vs.length) ∧ p < g.length ∧ (∀ x ∈ rs, x < m.vs.length) ∧ addG g rs = addG f row) ?_ ?_ _ _ ⟨row, f, o4, rfl, rfl, hf, hlt, hc, hrow, rfl⟩
      · intro d r ρ hI
        obtain ⟨rs, g, o4, hr, hρ, hg1, hg2, hg3, hg4, hg5⟩ := hI
        subst hρ
        cases rs with
        | nil => cases hr
        | cons x rs =>
          cases hr
          have hgl := nodup_few hg1 hg2
          simp! only []
          refine T_iteTo (fun b => b = !decide (x ∈ g)) ?_ (fun hx => ?_) (fun hx => ?_)
          · simp! only [natKeys.ok, natKeys.sort1, natKeys.look x g (g.map fun _ => D.bl true) (by simp)]
            first
              | done
              | rfl
              | exact congrArg _ (decide_eq_decide.mpr Iff.rfl)
          · have hx : x ∉ g := by simpa using hx
            have hput := natKeys.put hx (by omega)
            have hnd := addG_nodup [x] g hg1
            rw [addG, addG, if_neg hx] at hnd
            simp! only [List.length_map]
            refine ⟨_, hput, by omega, rs, g ++ [x], some (.int x), rfl, by simp [natsD], hnd, fun y hy => ?_, by rw [List.length_append]; omega, fun y hy => hg4 y (.tail _ hy), ?_⟩
            · rcases List.mem_append.mp hy with hy | hy
              · exact hg2 y hy
              · rw [List.mem_singleton] at hy; rw [hy]; exact hg4 x (.head _)
            · rw [← hg5, addG, if_neg hx]
          · have hx : x ∈ g := by simpa using hx
            simp! only []
            refine ⟨rs, g, _, rfl, rfl, hg1, hg2, hg3, fun y hy => hg4 y (.tail _ hy), ?_⟩
            rw [← hg5, addG, if_pos hx]
      · intro ρ hI
        obtain ⟨rs, g, o4, hr, hρ, hg1, hg2, hg3, hg4, hg5⟩ := hI
        subst hρ
        cases rs with
        | cons _ _ => cases hr
        | nil =>
          have hg5 : g = addG f row := hg5
          subst hg5
          simp! only []
          refine ⟨m.vs.length - (p + 1), by omega, p + 1, _, o4, rfl, rfl, hg1, hg2, hg3, ?_⟩
          rw [show m.vs.length + 1 - (p + 1) = m.vs.length - p by omega]
          exact hb
  · rintro ρ ⟨s, o4, rfl⟩
    simp! only []
end
theorem grouped_ok {R : Fs} {α : Type} [DecidableEq α] {enc : α → D} (K : Keys enc) (ks : List α) (hl : ks.length ≤ 1000000) : FT (defF 3 [] (b_grouped R)) [.lst .sh (ks.map enc)] fun d fs => fs = [] ∧ d = .lst .own (natsD (grpL ks)) := by
  refine FT_def ?_
  simp! only [b_grouped]
  refine T_go (fun q ρ => ∃ (dn rs : List α) (o3 : Option D), q = rs.map enc ∧ ks = dn ++ rs ∧ ρ = [some (.lst .sh (ks.map enc)), some (numD enc (addG [] dn)), some (.lst .own (natsD (dn.map fun k => (addG [] dn).idxOf k))), o3]) ?_ ?_ _ _ ⟨[], ks, none, rfl, rfl, rfl⟩
  · intro d q ρ hI
    obtain ⟨dn, rs, o3, hq, hks, hρ⟩ := hI
    subst hρ
    cases rs with
    | nil => cases hq
    | cons x rs =>
      cases hq
      have hlen : dn.length + 1 ≤ ks.length := by rw [hks, List.length_append, List.length_cons]; omega
      have hnd := addG_nodup dn [] List.nodup_nil
      have hFl := addG_len dn []
      obtain ⟨s1, s2⟩ := num_step (fun k => k) [] dn x
      rw [List.map_id'] at s1 s2
      rw [List.map_id'] at s1 s2
      generalize hF : addG [] dn = F at *
      simp only [List.length_nil, Nat.zero_add] at hFl
      simp! only []
      refine T_cut (fun ρ => ρ = [some (.lst .sh (ks.map enc)), some (numD enc (add1 F x)), some (.lst .own (natsD (dn.map fun k => F.idxOf k))), some (enc x)]) ?_ ?_
      · refine T_iteTo (fun b => b = !decide (x ∈ F)) ?_ (fun c => ?_) (fun c => ?_)
        · simp! only [K.ok, K.sort1, K.look x F (numsD F.length) (by simp)]
          first
            | done
            | rfl
            | exact congrArg _ (decide_eq_decide.mpr Iff.rfl)
        · have c : x ∉ F := by simpa using c
          simp! only [List.length_map]
          refine ⟨_, K.num c (by omega), ?_⟩
          unfold add1
          rw [if_neg c]
        · have c : x ∈ F := by simpa using c
          simp! only []
          unfold add1
          rw [if_pos c]
      rintro _ rfl
      have h1 := K.idx (add1_nodup hnd x) (mem_add1 F x)
      simp! only [K.ok, K.sort1, if_true, h1, List.length_map]
      refine ⟨by omega, dn ++ [x], rs, some (enc x), rfl, by rw [hks]; simp, ?_⟩
      rw [← s1] at s2 ⊢
      rw [← s2, nats_snoc]
  · intro ρ hI
    obtain ⟨dn, rs, o3, hq, hks, hρ⟩ := hI
    subst hρ
    cases rs with
    | cons _ _ => cases hq
    | nil =>
      rw [List.append_nil] at hks
      subst hks
      simp! only []
      rfl
end Law

namespace Law
open PySem PySem.Spec PyProof.Rows L2 Sim
local macro_rules | `(tactic| simp! only [$args,*] $[$l:location]?) => `(tactic| simp only [Z0, Z1, Z2, Z3, Z4, Z5, Z6, Z7, Z8, Z9, Z10, Z11, Z12, Z13, Z14, Z15, Z16, Z17, Z18, Z19, Z20, Z21, Z22, Z23, Z24, Z25, Z26, Z27, Z28, Z29, Z30, Z31, Z32, Z33, Z34, Z35, Z36, Z37, Z38, Z39, Z40, Z41, Z42, Z43, Z44, Z45, Z46, Z47, Z48, Z49, Z50, Z51, Z52, Z53, Z54, Z55, Z56, Z57, Z58, Z59, Z60, Z61, Z62, Z63, Z64, Z65, Z66, Z67, Z68, Z69, Z70, Z71, Z72, Z73, Z74, Sim.wipeR, Z75, Z76, Z77, Z78, Z79, Z80, Z81, Z82, Z83, Z84, Z85, Z86, Z87, Z88, Z89, Z90, Z91, Z92, Z93, Z94, Z95, Z96, Z97, Z98, Z99, Z100, Z101, Z102, Z103, Z104, Z105, Z106, Z107, Z108, Z109, Z110, Z111, Z112, Z113, Z114, Z115, Z116, Z117, Z118, Z119, Z120, Z121, Z122, Z123, Z124, Z125, Z126, Z127, Z128, Z129, Z130, Z131, Z132, Z133, Z134, Z135, Z136, Z137, Z138, Z139, Z140, Z141, Z142, Z143, Z144, Z145, Z146, Z147, Z148, Z149, Z150, Z151, Z152, Z153, Z154, Z155, Z156, Z157, Z158, Sim.T_sliceO, Sim.sliceO_lst, Sim.T_sliceS, Sim.EndX_nxt, Sim.EndX_ret, Sim.EndX_exc, Sim.rq_ok, Sim.rq_ex, Sim.T_callX, Sim.T_okM, Sim.T_setX, Sim.T_setXV, Sim.T_retX, Sim.T_dropX, Sim.T_raise0, Sim.T_raise1, Sim.T_try, Sim.TryQ_nxt, Sim.TryQ_ret, Sim.TryQ_brk, Sim.TryQ_cnt, Sim.TryQ_exc, Sim.SeqQ_exc, Sim.LoopQ_exc, Sim.BehQ_nxt, Sim.BehQ_ret, Sim.T_tryA, Sim.TryAQ_nxt, Sim.TryAQ_ret, Sim.TryAQ_exc, Sim.T_fld, Sim.T_compO, T_okX, Sim.T_nilX, Sim.T_consX, Sim.T_callFX, Sim.T_callXX, Sim.T_callBX, Sim.XQ_ok, Sim.XQ_ex, Sim.AQ_ok, Sim.AQ_ex, Sim.cap, Z159, Z160, Nat.zero_le, Z161, Z162, Z163, Z164, Z165, Z166, Z167, Z168, Z169, Z170, Z171, Z172, Z173, Z174, Z175, Z176, Z177, List.getElem?_cons_zero, List.getElem?_cons_succ, List.set_cons_zero, List.set_cons_succ, List.map_cons, List.map_nil, List.cons_append, List.nil_append, Option.map_some, List.length_cons, List.length_nil, Int.zero_add, Nat.zero_add, Nat.reduceAdd, Nat.reduceLeDiff, Nat.reduceMul, true_and, and_true, decide_eq_true_eq, decide_eq_false_iff_not, Bool.false_eq_true, Bool.true_eq_false, false_implies, true_implies, implies_true, eq_self, decide_true, decide_false, not_true_eq_false, not_false_eq_true, Bool.not_true, Bool.not_false, Int.reduceLT, Int.reduceLE, Int.reduceNeg, Int.reducePow, Int.reduceToNat, $args,*] $[$l:location]?)
section
variable {vs : List Str} {es : List (List Nat)} {many : Nat} {g : List Nat}
theorem classes_ok {R : Fs} (hgr : GrpOk R.f_grouped) (h : Gra vs es many) (hm : many ≤ 1000) : FT (defF 5 [] (b_classes_of R)) [.lst .sh (vs.map .str), .lst .sh (es.map fun r => .tup (natsD r))] fun d fs => fs = [] ∧ ∃ g md, d = .lst md (natsD g) ∧ Cls vs es many g := by
  refine FT_def ?_
  have hfew := h.few
  simp! only [b_classes_of]
  refine FT_mono (hgr strKeys vs (by omega)) ?_
  rintro _ _ ⟨rfl, rfl⟩
  refine T_while (fun q ρ => ∃ (g : List Nat) (md : Md) (o3 o4 o6 : Option D), ρ = [some (.lst .sh (vs.map .str)), some (.lst .sh (es.map fun r => .tup (natsD r))), some (.lst md (natsD g)), o3, o4, none, o6] ∧ Part_ vs es many g ∧ q = vs.length - cntG g) ?_ wf (vs.length - cntG (grpL vs)) _ (by unfold wf; omega) ⟨grpL vs, .own, none, none, none, rfl, part_first h, rfl⟩
  · intro q ρ hI
    obtain ⟨g, md, o3, o4, o6, hρ, P, hq⟩ := hI
    subst hρ
    have hgl := P.len
    have hk : (keysG es g).length = vs.length := by rw [keys_len, h.same]
    have hes := h.same
    simp! only [List.length_map]
    refine ⟨by omega, ?_⟩
    rw [Int.toNat_natCast]
    refine T_goR (fun j ρ => ∃ o4, ρ = [some (.lst .sh (vs.map .str)), some (.lst .sh (es.map fun r => .tup (natsD r))), some (.lst md (natsD g)), some (.lst .own (((keysG es g).take j).map pairE)), o4, none, o6]) ⟨o4, rfl⟩ ?_ ?_
    · rintro j ρ hj ⟨o4, rfl⟩
      have hjv : j < vs.length := by omega
      obtain ⟨hr1, hr2⟩ := h.row hjv
      have hrow : (es.map fun r => D.tup (natsD r))[j]? = some (.tup (natsD (es.getD j []))) := by
        rw [List.getElem?_map, List.getD_eq_getElem?_getD, List.getElem?_eq_getElem hj]; rfl
      have hkj : j < (keysG es g).length := by rw [keys_len]; exact hj
      have ej : (0 : Int) + (j : Int) = (j : Int) := by omega
      rw [ej]
      have hgj := nats_at (xs := g) (k := j) (by omega)
      simp! only [hgj, hrow, List.length_map]
      refine ⟨by omega, ?_⟩
      refine T_compF natE (fun _ => true) (fun l => D.int (g.getD l 0)) (es.getD j []) [] (fun l hl => ?_) ?_
      · have := nats_at (xs := g) (k := l) (by have := hr2 l hl; omega)
        simp! only [this]
        exact ⟨_, rfl⟩
      rw [List.filter_eq_self.mpr (fun _ _ => rfl)]
      simp! only [List.length_map, List.length_take]
      refine ⟨by omega, some (.int j), ?_⟩
      rw [List.take_succ, List.getElem?_eq_getElem hkj, keys_at hkj, List.map_append]
      simp [pairE, natsD]
    · rintro ρ ⟨o4, rfl⟩
      rw [List.take_of_length_le (by rw [keys_len]; exact Nat.le_refl _)]
      have hc := finer_cnt h P
      have PN := part_next h P
      simp! only []
      refine FT_mono (hgr pairKeys (keysG es g) (by omega)) ?_
      rintro _ _ ⟨rfl, rfl⟩
      generalize hG : grpL (keysG es g) = g' at *
      simp! only []
      have hgc : cntG g' ≤ vs.length := by
        have := addG_len g' []
        unfold cntG
        have hl := PN.len
        simp at this
        omega
      have hpos : 0 < cntG g := Nat.lt_of_le_of_lt (Nat.zero_le _) (P.lt 0 h.some_)
      refine T_iteTo (fun b => b = decide (cntG g' = cntG g)) ?_ (fun c => ?_) (fun c => ?_)
      · simp! only [PN.most, P.most]
        exact decide_eq_decide.mpr (by omega)
      · have c := of_decide_eq_true c.symm
        simp! only []
        exact ⟨g, md, rfl, hc.2 c.symm⟩
      · have c := of_decide_eq_false c.symm
        simp! only []
        exact ⟨vs.length - cntG g', by omega, g', .sh, _, _, _, rfl, PN, rfl⟩
end
end Law

namespace Law
open PySem PySem.Spec PyProof.Rows L2 Sim
local macro_rules | `(tactic| simp! only [$args,*] $[$l:location]?) => `(tactic| simp only [Z0, Z1, Z2, Z3, Z4, Z5, Z6, Z7, Z8, Z9, Z10, Z11, Z12, Z13, Z14, Z15, Z16, Z17, Z18, Z19, Z20, Z21, Z22, Z23, Z24, Z25, Z26, Z27, Z28, Z29, Z30, Z31, Z32, Z33, Z34, Z35, Z36, Z37, Z38, Z39, Z40, Z41, Z42, Z43, Z44, Z45, Z46, Z47, Z48, Z49, Z50, Z51, Z52, Z53, Z54, Z55, Z56, Z57, Z58, Z59, Z60, Z61, Z62, Z63, Z64, Z65, Z66, Z67, Z68, Z69, Z70, Z71, Z72, Z73, Z74, Sim.wipeR, Z75, Z76, Z77, Z78, Z79, Z80, Z81, Z82, Z83, Z84, Z85, Z86, Z87, Z88, Z89, Z90, Z91, Z92, Z93, Z94, Z95, Z96, Z97, Z98, Z99, Z100, Z101, Z102, Z103, Z104, Z105, Z106, Z107, Z108, Z109, Z110, Z111, Z112, Z113, Z114, Z115, Z116, Z117, Z118, Z119, Z120, Z121, Z122, Z123, Z124, Z125, Z126, Z127, Z128, Z129, Z130, Z131, Z132, Z133, Z134, Z135, Z136, Z137, Z138, Z139, Z140, Z141, Z142, Z143, Z144, Z145, Z146, Z147, Z148, Z149, Z150, Z151, Z152, Z153, Z154, Z155, Z156, Z157, Z158, Sim.T_sliceO, Sim.sliceO_lst, Sim.T_sliceS, Sim.EndX_nxt, Sim.EndX_ret, Sim.EndX_exc, Sim.rq_ok, Sim.rq_ex, Sim.T_callX, Sim.T_okM, Sim.T_setX, Sim.T_setXV, Sim.T_retX, Sim.T_dropX, Sim.T_raise0, Sim.T_raise1, Sim.T_try, Sim.TryQ_nxt, Sim.TryQ_ret, Sim.TryQ_brk, Sim.TryQ_cnt, Sim.TryQ_exc, Sim.SeqQ_exc, Sim.LoopQ_exc, Sim.BehQ_nxt, Sim.BehQ_ret, Sim.T_tryA, Sim.TryAQ_nxt, Sim.TryAQ_ret, Sim.TryAQ_exc, Sim.T_fld, Sim.T_compO, T_okX, Sim.T_nilX, Sim.T_consX, Sim.T_callFX, Sim.T_callXX, Sim.T_callBX, Sim.XQ_ok, Sim.XQ_ex, Sim.AQ_ok, Sim.AQ_ex, Sim.cap, Z159, Z160, Nat.zero_le, Z161, Z162, Z163, Z164, Z165, Z166, Z167, Z168, Z169, Z170, Z171, Z172, Z173, Z174, Z175, Z176, Z177, List.getElem?_cons_zero, List.getElem?_cons_succ, List.set_cons_zero, List.set_cons_succ, List.map_cons, List.map_nil, List.cons_append, List.nil_append, Option.map_some, List.length_cons, List.length_nil, Int.zero_add, Nat.zero_add, Nat.reduceAdd, Nat.reduceLeDiff, Nat.reduceMul, true_and, and_true, decide_eq_true_eq, decide_eq_false_iff_not, Bool.false_eq_true, Bool.true_eq_false, false_implies, true_implies, implies_true, eq_self, decide_true, decide_false, not_true_eq_false, not_false_eq_true, Bool.not_true, Bool.not_false, Int.reduceLT, Int.reduceLE, Int.reduceNeg, Int.reducePow, Int.reduceToNat, $args,*] $[$l:location]?)
theorem reduce_ok {R : Fs} (hno : NodesOk R.f_reached_nodes) (hcl : ClsOk R.f_classes_of) {m : Mon} {n : Nat} (h : m.Ok n) (hn : n ≤ 1000) (hr : m.rs.length ≤ 1000) :
    FT (defF 10 [] (b_reduce R)) [m.enc] fun d fs => fs = [] ∧ ∃ (s : Mon) (cl rep : Nat → Nat), d = s.enc ∧ s.Ok n ∧ Red m s cl rep := by
  refine FT_def ?_
  have hfew := h.few
  obtain ⟨hlt, hnd, hnl, hf0, hclo, hat0⟩ := h.nodes
  have hmf : m.enc.frz = m.enc := rfl
  simp! only [b_reduce, hmf]
  refine FT_mono (hno h hn) ?_
  rintro _ _ ⟨rfl, rfl⟩
  generalize hN : m.nodes = N at *
  have hN0 : 0 < N.length := List.length_pos_of_mem hf0
  obtain ⟨mD, hmD⟩ : ∃ mD, m.enc = mD := ⟨_, rfl⟩
  have m0 : ixDD mD (.int 0) = some (.tup (m.rs.map RD)) := by rw [← hmD]; rfl
  have m2 : ixDD mD (.int 2) = some (.tup (m.vs.map .str)) := by rw [← hmD]; rfl
  have m3 : ixDD mD (.int 3) = some (.tup (m.es.map fun r => D.tup (r.map fun (x : Nat) => .int x))) := by rw [← hmD]; rfl
  rw [hmD]
  simp! only [List.length_map]
  refine ⟨by omega, ?_⟩
  rw [Int.toNat_natCast]
  refine T_goR (fun k ρ => ∃ o3, ρ = [some mD, some (.lst .sh (natsD N)), some (numD natE (N.take k)), o3, none, none, none, none, none, none, none]) ⟨none, rfl⟩ ?_ ?_
  · rintro k ρ hk ⟨o3, rfl⟩
    have ek : (0 : Int) + (k : Int) = (k : Int) := by omega
    rw [ek]
    have hgk : (natsD N)[k]? = some (.int N[k]) := by rw [List.getElem?_map, List.getElem?_eq_getElem hk]; rfl
    have hst := natKeys.num (take_nodup hnd hk) (by rw [List.length_take]; omega)
    have e1 : (N.take k).length = k := by rw [List.length_take]; omega
    have e2 : N.take k ++ [N[k]] = N.take (k + 1) := by rw [List.take_succ, List.getElem?_eq_getElem hk]; rfl
    rw [e1, e2] at hst
    simp! only [hgk]
    exact ⟨_, hst, _, rfl⟩
  rintro ρ ⟨o3, rfl⟩
  rw [List.take_length]
  -- edges
  have tt : ∀ {α : Type} (xs : List α), xs.filter (fun _ => true) = xs := fun xs => List.filter_eq_self.mpr fun _ _ => rfl
  obtain ⟨es', hes⟩ : ∃ es' : List (List Nat), es' = N.map fun v => (m.nx v).map fun w => N.idxOf w := ⟨_, rfl⟩
  obtain ⟨vs', hvs⟩ : ∃ vs' : List Str, vs' = N.map m.say := ⟨_, rfl⟩
  have hesl : es'.length = N.length := by rw [hes, List.length_map]
  have hvsl : vs'.length = N.length := by rw [hvs, List.length_map]
  have G : Gra vs' es' m.rs.length := by
    refine ⟨by omega, by omega, by omega, fun r hr' => ?_, fun r hr' x hx => ?_⟩
    · rw [hes] at hr'
      obtain ⟨v, hv, rfl⟩ := List.mem_map.mp hr'
      rw [List.length_map]
      exact (h.row (hlt v hv)).1
    · rw [hes] at hr'
      obtain ⟨v, hv, rfl⟩ := List.mem_map.mp hr'
      obtain ⟨w, hw, rfl⟩ := List.mem_map.mp hx
      rw [hvsl]
      exact (idxG (hclo v hv w hw)).1
  simp! only [List.length_map]
  refine ⟨by omega, ?_⟩
  refine T_compF natE (fun _ => true) (fun v => D.tup (natsD ((m.nx v).map fun w => N.idxOf w))) N [] (fun v hv => ?_) ?_
  · obtain ⟨hr1, hr2⟩ := h.row (hlt v hv)
    simp! only [m3, h.at (hlt v hv), List.length_map]
    refine ⟨by omega, ?_⟩
    refine T_compF natE (fun _ => true) (fun w => D.int (N.idxOf w)) (m.nx v) [] (fun w hw => ?_) ?_
    · have h1 := natKeys.idx hnd (hclo v hv w hw)
      simp! only [natKeys.ok, natKeys.sort1, if_true, h1]
      exact ⟨_, rfl⟩
    rw [tt]
    simp! only [natsD, List.map_map]
    first | rfl | exact ⟨rfl, rfl⟩ | done
  rw [tt]
  have e4 : (N.map fun v => D.tup (natsD ((m.nx v).map fun w => N.idxOf w))) = es'.map fun r => D.tup (natsD r) := by rw [hes, List.map_map]; rfl
  rw [e4]
  simp! only [List.length_map]
  refine ⟨by omega, ?_⟩
  refine T_compF natE (fun _ => true) (fun v => D.str (m.say v)) N [] (fun v hv => ?_) ?_
  · simp! only [m2, Mon.verd (hlt v hv)]
  rw [tt]
  have e5 : (N.map fun v => D.str (m.say v)) = vs'.map D.str := by rw [hvs, List.map_map]; rfl
  rw [e5]
  simp! only []
  refine FT_mono (hcl G hr) ?_
  rintro _ _ ⟨rfl, g, md, rfl, C⟩
  have hgl := C.len
  simp! only [List.length_map]
  refine ⟨by omega, ?_⟩
  rw [Int.toNat_natCast]
  refine T_goR (fun k ρ => ∃ (M : List Nat) (o3 : Option D), ρ = [some mD, some (.lst .sh (natsD N)), some (numD natE N), o3, some (.lst .sh (es'.map fun r => D.tup (natsD r))), none, none, some (.lst .sh (natsD g)), some (.lst .own (natsD M)), none, none] ∧ Fst g M k) ⟨[], o3, rfl, ⟨rfl, fun c hc => absurd hc (Nat.not_lt_zero _)⟩⟩ ?_ ?_
  · rintro k ρ hk ⟨M, o3, rfl, F⟩
    have ek : (0 : Int) + (k : Int) = (k : Int) := by omega
    rw [ek]
    have hkg : k < g.length := by omega
    obtain ⟨F1, F2, F3⟩ := F.step hkg C.found
    have hc1 : cntG g ≤ g.length := by
      have := addG_len g []
      unfold cntG
      simpa using this
    simp! only []
    refine T_iteTo (fun b => b = decide (g.getD k 0 = M.length)) ?_ (fun c => ?_) (fun c => ?_)
    · simp! only [nats_at hkg, List.length_map]
      exact decide_eq_decide.mpr (by omega)
    · have c := of_decide_eq_true c.symm
      simp! only [List.length_map]
      exact ⟨by omega, M ++ [k], _, by rw [nats_snoc], F1 c⟩
    · have c := of_decide_eq_false c.symm
      simp! only []
      exact ⟨M, _, rfl, F2 c⟩
  rintro ρ ⟨M, o3, rfl, F⟩
  have hF := F.found
  rw [List.take_of_length_le (by omega)] at hF
  have hMl : M.length = cntG g := by unfold cntG; rw [hF, List.length_range]
  have hc1 : cntG g ≤ g.length := by
    have := addG_len g []
    unfold cntG
    simpa using this
  have hMx : ∀ x ∈ M, x < N.length := fun x hx => by
    obtain ⟨c, hc, rfl⟩ := List.getElem_of_mem hx
    have := (F.at_ c hc).1
    rwa [List.getD_eq_getElem?_getD, List.getElem?_eq_getElem hc] at this
  have hNd : ∀ x, x < N.length → (natsD N)[x]? = some (.int (N.getD x 0)) := fun x hx => nats_at hx
  simp! only [List.length_map]
  refine ⟨by omega, ?_⟩
  refine T_compF natE (fun _ => true) (fun k => D.str (m.say (N.getD k 0))) M [] (fun k hk => ?_) ?_
  · have hkN := hMx k hk
    have hv : N.getD k 0 < m.vs.length := hlt _ (by rw [List.getD_eq_getElem?_getD, List.getElem?_eq_getElem hkN]; exact List.getElem_mem _)
    simp! only [m2, hNd k hkN, Mon.verd hv]
  rw [tt]
  simp! only [List.length_map]
  refine ⟨by omega, ?_⟩
  refine T_compF natE (fun _ => true) (fun k => D.tup (natsD ((es'.getD k []).map fun l => g.getD l 0))) M [] (fun k hk => ?_) ?_
  · have hkN := hMx k hk
    have he : (es'.map fun r => D.tup (natsD r))[k]? = some (.tup (natsD (es'.getD k []))) := by
      rw [List.getElem?_map, List.getD_eq_getElem?_getD, List.getElem?_eq_getElem (by omega)]; rfl
    obtain ⟨hr1, hr2⟩ := G.row (a := k) (by omega)
    simp! only [he, List.length_map]
    refine ⟨by omega, ?_⟩
    refine T_compF natE (fun _ => true) (fun l => D.int (g.getD l 0)) (es'.getD k []) [] (fun l hl => ?_) ?_
    · have := nats_at (xs := g) (k := l) (by have := hr2 l hl; omega)
      simp! only [this]
    rw [tt]
    simp! only [natsD, List.map_map]
    first | rfl | exact ⟨rfl, rfl⟩ | done
  rw [tt]
  simp! only [m0]
  have repN : ∀ c, c < M.length → M.getD c 0 < N.length := fun c hc => hMx _ (by rw [List.getD_eq_getElem?_getD, List.getElem?_eq_getElem hc]; exact List.getElem_mem _)
  have Nin : ∀ k, k < N.length → N.getD k 0 ∈ N := fun k hk => by rw [List.getD_eq_getElem?_getD, List.getElem?_eq_getElem hk]; exact List.getElem_mem _
  have Nidx : ∀ k, k < N.length → N.idxOf (N.getD k 0) = k := fun k hk => by
    rw [List.getD_eq_getElem?_getD, List.getElem?_eq_getElem hk]
    exact hnd.idxOf_getElem _ hk
  have Nback : ∀ v ∈ N, N.idxOf v < N.length ∧ N.getD (N.idxOf v) 0 = v := fun v hv => by
    obtain ⟨a1, a2⟩ := idxG hv
    exact ⟨a1, by rw [List.getD_eq_getElem?_getD, a2]; rfl⟩
  have esN : ∀ v ∈ N, es'.getD (N.idxOf v) [] = (m.nx v).map fun w => N.idxOf w := fun v hv => by
    obtain ⟨a1, a2⟩ := idxG hv
    rw [hes, List.getD_eq_getElem?_getD, List.getElem?_map, a2]; rfl
  have vsN : ∀ v ∈ N, vs'.getD (N.idxOf v) "" = m.say v := fun v hv => by
    obtain ⟨a1, a2⟩ := idxG hv
    rw [hvs, List.getD_eq_getElem?_getD, List.getElem?_map, a2]; rfl
  have selN : ∀ v ∈ N, ∀ k, k < m.rs.length → selE es' (N.idxOf v) k = N.idxOf (m.sel v k) := fun v hv k hk => by
    have hl := (h.row (hlt v hv)).1
    unfold selE
    rw [esN v hv, getD_map_lt 0 (by omega)]
    unfold Mon.sel
    rw [List.getD_eq_getElem?_getD, List.getElem?_eq_getElem (by omega)]; rfl
  have selIn : ∀ v ∈ N, ∀ k, k < m.rs.length → m.sel v k ∈ N := fun v hv k hk => by
    have hl := (h.row (hlt v hv)).1
    refine hclo v hv _ ?_
    unfold Mon.sel
    rw [List.getD_eq_getElem?_getD, List.getElem?_eq_getElem (by omega)]
    exact List.getElem_mem _
  have sv : ∀ c, c < M.length → (M.map fun k => m.say (N.getD k 0)).getD c "" = m.say (N.getD (M.getD c 0) 0) := fun c hc => by
    rw [getD_map_lt _ hc, List.getD_eq_getElem?_getD (l := M), List.getElem?_eq_getElem hc]; rfl
  have se : ∀ c, c < M.length → (M.map fun k => (es'.getD k []).map fun l => g.getD l 0).getD c [] = (es'.getD (M.getD c 0) []).map fun l => g.getD l 0 := fun c hc => by
    rw [getD_map_lt _ hc, List.getD_eq_getElem?_getD (l := M), List.getElem?_eq_getElem hc]; rfl
  have hcl0 : g.getD (N.idxOf m.first) 0 = 0 := by
    have e : N.idxOf m.first = 0 := by
      have := Nidx 0 hN0
      rwa [List.getD_eq_getElem?_getD, hat0] at this
    rw [e]; exact C.first
  have clt : ∀ v ∈ N, g.getD (N.idxOf v) 0 < M.length := fun v hv => by
    rw [hMl]
    exact C.lt _ (by rw [hvsl]; exact (Nback v hv).1)
  refine ⟨⟨m.rs, 0, M.map fun k => m.say (N.getD k 0), M.map fun k => (es'.getD k []).map fun l => g.getD l 0⟩, fun v => g.getD (N.idxOf v) 0, fun c => N.getD (M.getD c 0) 0, ?_, ?_, ?_⟩
  · have z : ((0 : Nat) : Int) = 0 := rfl
    simp only [monD, List.map_map, Function.comp_def, z, natsD]
  · refine ⟨by simp only [List.length_map]; omega, by simp only [List.length_map], by simp only [List.length_map]; exact Nat.lt_of_le_of_lt (Nat.zero_le _) (clt _ hf0), fun v hv => ?_, fun r hr' => ?_, fun r hr' x hx => ?_, h.nod⟩
    · obtain ⟨k, hk, rfl⟩ := List.mem_map.mp hv
      exact h.word _ (Mon.say_mem (hlt _ (Nin k (hMx k hk))))
    · obtain ⟨k, hk, rfl⟩ := List.mem_map.mp hr'
      rw [List.length_map]
      exact (G.row (by rw [hvsl]; exact hMx k hk)).1
    · obtain ⟨k, hk, rfl⟩ := List.mem_map.mp hr'
      obtain ⟨l, hl, rfl⟩ := List.mem_map.mp hx
      simp only [List.length_map]
      rw [hMl]
      exact C.lt _ ((G.row (by rw [hvsl]; exact hMx k hk)).2 l hl)
  · have sl : (M.map fun k => m.say (N.getD k 0)).length = M.length := List.length_map ..
    have rk : ∀ v ∈ N, M.getD (g.getD (N.idxOf v) 0) 0 < N.length ∧ g.getD (M.getD (g.getD (N.idxOf v) 0) 0) 0 = g.getD (N.idxOf v) 0 := fun v hv => by
      obtain ⟨a1, a2, _⟩ := F.at_ _ (clt v hv)
      exact ⟨a1, a2⟩
    have hw : ∀ k, k < N.length → (es'.getD k []).length = m.rs.length := fun k hk => (G.row (by omega)).1
    subst hN
    refine ⟨rfl, rfl, hcl0, fun v hv => ?_, fun v hv => ?_, fun v hv k hk => ?_, fun c hc => ?_, fun c hc => ?_, fun E B v hv w hw' he => ?_, ?_, fun c hc v hv hi => ?_⟩
    · show _ < (M.map fun k => m.say (m.nodes.getD k 0)).length
      rw [sl]
      exact clt v hv
    · obtain ⟨a1, a2⟩ := rk v hv
      show (M.map fun k => m.say (m.nodes.getD k 0)).getD (g.getD (m.nodes.idxOf v) 0) "" = m.say v
      rw [sv _ (clt v hv)]
      have := C.verd _ _ (by omega) (by have := (Nback v hv).1; omega) a2
      rw [vsN v hv] at this
      have e := vsN _ (Nin _ a1)
      rw [Nidx _ a1] at e
      rw [← e]
      exact this
    · obtain ⟨a1, a2⟩ := rk v hv
      show ((M.map fun k => (es'.getD k []).map fun l => g.getD l 0).getD (g.getD (m.nodes.idxOf v) 0) []).getD k 0 = g.getD (m.nodes.idxOf (m.sel v k)) 0
      have hwk := hw _ a1
      rw [se _ (clt v hv), getD_map_lt _ (by omega), ← selN v hv k hk]
      have := C.stable _ _ k (by omega) (by have := (Nback v hv).1; omega) hk a2
      rw [← this]
      unfold selE
      rw [List.getD_eq_getElem?_getD (l := es'.getD (M.getD (g.getD (m.nodes.idxOf v) 0) 0) []), List.getElem?_eq_getElem (by omega)]; rfl
    · have hc : c < M.length := by rw [← sl]; exact hc
      obtain ⟨a1, a2, a3⟩ := F.at_ c hc
      refine ⟨Nin _ a1, ?_, fun v hv e => ?_⟩
      · show g.getD (m.nodes.idxOf (m.nodes.getD (M.getD c 0) 0)) 0 = c
        rw [Nidx _ a1]; exact a2
      · show m.nodes.idxOf (m.nodes.getD (M.getD c 0) 0) ≤ _
        rw [Nidx _ a1]
        refine Nat.le_of_not_lt fun hlt' => ?_
        have := a3 _ hlt'
        have e : g.getD (m.nodes.idxOf v) 0 = c := e
        omega
    · have hc : c < M.length := by rw [← sl]; exact hc
      obtain ⟨a1, _, _⟩ := F.at_ c hc
      show (M.map fun k => (es'.getD k []).map fun l => g.getD l 0).getD c [] = (m.nx (m.nodes.getD (M.getD c 0) 0)).map fun v => g.getD (m.nodes.idxOf v) 0
      have e := esN _ (Nin _ a1)
      rw [Nidx _ a1] at e
      rw [se c hc, e, List.map_map]
      rfl
    · show g.getD (m.nodes.idxOf v) 0 = g.getD (m.nodes.idxOf w) 0
      obtain ⟨b1, b2⟩ := Nback v hv
      obtain ⟨c1, c2⟩ := Nback w hw'
      refine C.coarse (fun a b => E (m.nodes.getD a 0) (m.nodes.getD b 0)) ⟨fun a b ha hb he => ?_, fun a b k ha hb hk he => ?_⟩ _ _ (by omega) (by omega) (by rw [b2, c2]; exact he)
      · have ha : a < m.nodes.length := by omega
        have hb : b < m.nodes.length := by omega
        have e1 := vsN _ (Nin a ha)
        have e2 := vsN _ (Nin b hb)
        rw [Nidx a ha] at e1
        rw [Nidx b hb] at e2
        rw [e1, e2]
        exact B.verd _ _ (hlt _ (Nin a ha)) (hlt _ (Nin b hb)) he
      · have ha : a < m.nodes.length := by omega
        have hb : b < m.nodes.length := by omega
        have e1 := selN _ (Nin a ha) k hk
        have e2 := selN _ (Nin b hb) k hk
        rw [Nidx a ha] at e1
        rw [Nidx b hb] at e2
        show E (m.nodes.getD (selE es' a k) 0) (m.nodes.getD (selE es' b k) 0)
        rw [e1, e2, (Nback _ (selIn _ (Nin a ha) k hk)).2, (Nback _ (selIn _ (Nin b hb) k hk)).2]
        exact B.step _ _ k (hlt _ (Nin a ha)) (hlt _ (Nin b hb)) hk he
    · show (M.map fun k => m.say (m.nodes.getD k 0)).length ≤ _
      rw [sl]; omega
    · have hc : c < M.length := by rw [← sl]; exact hc
      obtain ⟨a1, _, a3⟩ := F.at_ c hc
      have hi : m.nodes.idxOf v < m.nodes.idxOf (m.nodes.getD (M.getD c 0) 0) := hi
      rw [Nidx _ a1] at hi
      exact a3 _ hi
end Law

namespace Law
open PySem PySem.Spec PyProof.Rows L2 Sim
theorem red_at (k : Nat) : RedOk (M (k + 3)).f_reduce := fun h hn hr => reduce_ok (R := M (k + 2)) (fun h hn => nodes_ok (R := M (k + 1)) h hn) (fun G hm => classes_ok (R := M (k + 1)) (fun {α} _ {enc} K ks hl => grouped_ok (R := M k) K ks hl) G hm) h hn hr
theorem seps_at (k : Nat) : SepsOk (M (k + 2)).f_separators := fun {s n} o hn hr G => seps_ok (R := M (k + 1)) (fun {s n} o hn hr {a b} ha hb => sep_ok (R := M k) o hn hr ha hb) o hn hr G
theorem cov_at (k : Nat) : CovOk (M (k + 2)).f_cover := fun {s n} o hn hr => cover_ok (R := M (k + 1)) (fun {s n} o {v} hv row hk => led_ok (R := M k) o hv row hk) o hn hr
theorem trials_at (k : Nat) : TrialsOk (M (k + 4)).f_trials := fun {m n} h hn hr x hx most hm =>
  trials_ok (R := M (k + 3)) (red_at k) (seps_at (k + 1)) (cov_at (k + 1)) (fun N l h1 h2 => count_ok (R := M (k + 2)) N l h1 h2) (fun N l h1 h2 => words_up_ok (R := M (k + 2)) N l h1 h2) h hn hr x hx most hm
theorem true_all (ns : List Int) (_ : ns.length ≤ 63) : ∃ fs, (M 100).f_law [.scr ns] = some (.bl true, fs) := by
  have := law_ok (R := M 99) ns (fun ns k c h1 h2 => mpick_ok (R := M 98) (mdraw_at 96) ns k c h1 h2) (monFn_at 96) (mdraw_at 97) (lsmall_at 97) (seps_at 97) (cov_at 97)
    (fun N l h1 h2 => lwords_ok (R := M 98) N l h1 h2) (trials_at 95) (fun x y => alikeH_ok (R := M 98) x y) (alike_dat 78)
  exact ⟨_, FT_eq this⟩
end Law

open PySem PySem.W PyProof.Rows
set_option maxHeartbeats 0 in
theorem PySem.Challenge.cw_wardens_k49_trials_in_order_holds : PySem.Challenge.rw_wardens_k49_trials_in_order.Holds := by
  w_on; o_law; k_head; (case hw => w_witness2)
  k_fill
  refine L2.walk_of (l := PySem.Challenge.rw_wardens_k49_trials_in_order) (n := 63) (k := 100) (x := "_law_script") (CX := fun _ => L2.CX0) (sp := fun w => Sim.spF ⟨PySem.Challenge.rw_wardens_k49_trials_in_order.prog, w, _⟩ Law.S_law 1 17 (Law.M 100).f_law) rfl (by decide) rfl ⟨rfl, by decide, by decide⟩ (fun w h Y => PySem.W.kIn_of Y) ?F (fun _ H a ns hl _ hS => Sim.law_end rfl Law.true_all H a ns hl hS) (fun _ _ _ _ _ h => h)
  case F =>
    intro w mg fa h KX G hmg
    refine' Law.top_mk KX G ?a0 ?l0 ?c0 ?k0 ?a1 ?l1 ?c1 ?k1 ?a2 ?l2 ?c2 ?k2 ?a3 ?l3 ?c3 ?k3 ?a4 ?l4 ?c4 ?k4 ?a5 ?l5 ?c5 ?k5 ?a6 ?l6 ?c6 ?k6 ?a7 ?l7 ?c7 ?k7 ?a8 ?l8 ?c8 ?k8 ?a9 ?l9 ?c9 ?k9 ?a10 ?l10 ?c10 ?k10 ?a11 ?l11 ?c11 ?k11 ?a12 ?l12 ?c12 ?k12 ?a13 ?l13 ?c13 ?k13 ?a14 ?l14 ?c14 ?k14 ?a15 ?l15 ?c15 ?k15 ?a16 ?l16 ?c16 ?k16 ?a17 ?l17 ?c17 ?k17 ?a18 ?l18 ?c18 ?k18 ?a19 ?l19 ?c19 ?k19 ?a20 ?l20 ?c20 ?k20 ?z_bool ?z_int ?z_isinstance ?z_len ?z_list ?z_max ?z_range ?z_str ?z_tuple ?ca_TooMany ?ck_TooMany ?ce_TooMany ?ct_TooMany ?ch_TooMany ?xl_TooMany ?xr_TooMany ?sa_TooMany ?ga_TooMany ?gg_TooMany ?nb_TooMany ?in_TooMany ?ti_TooMany ?li_TooMany ?ci_TooMany ?se_TooMany ?s_TooMany_TooMany ?fin
    (case a0 => k_is)
    (case l0 => k_is)
    (case c0 => k_is)
    (case k0 => k_is)
    (case a1 => k_is)
    (case l1 => k_is)
    (case c1 => k_is)
    (case k1 => k_is)
    (case a2 => k_is)
    (case l2 => k_is)
    (case c2 => k_is)
    (case k2 => k_is)
    (case a3 => k_is)
    (case l3 => k_is)
    (case c3 => k_is)
    (case k3 => k_is)
    (case a4 => k_is)
    (case l4 => k_is)
    (case c4 => k_is)
    (case k4 => k_is)
    (case a5 => k_is)
    (case l5 => k_is)
    (case c5 => k_is)
    (case k5 => k_is)
    (case a6 => k_is)
    (case l6 => k_is)
    (case c6 => k_is)
    (case k6 => k_is)
    (case a7 => k_is)
    (case l7 => k_is)
    (case c7 => k_is)
    (case k7 => k_is)
    (case a8 => k_is)
    (case l8 => k_is)
    (case c8 => k_is)
    (case k8 => k_is)
    (case a9 => k_is)
    (case l9 => k_is)
    (case c9 => k_is)
    (case k9 => k_is)
    (case a10 => k_is)
    (case l10 => k_is)
    (case c10 => k_is)
    (case k10 => k_is)
    (case a11 => k_is)
    (case l11 => k_is)
    (case c11 => k_is)
    (case k11 => k_is)
    (case a12 => k_is)
    (case l12 => k_is)
    (case c12 => k_is)
    (case k12 => k_is)
    (case a13 => k_is)
    (case l13 => k_is)
    (case c13 => k_is)
    (case k13 => k_is)
    (case a14 => k_is)
    (case l14 => k_is)
    (case c14 => k_is)
    (case k14 => k_is)
    (case a15 => k_is)
    (case l15 => k_is)
    (case c15 => k_is)
    (case k15 => k_is)
    (case a16 => k_is)
    (case l16 => k_is)
    (case c16 => k_is)
    (case k16 => k_is)
    (case a17 => k_is)
    (case l17 => k_is)
    (case c17 => k_is)
    (case k17 => k_is)
    (case a18 => k_is)
    (case l18 => k_is)
    (case c18 => k_is)
    (case k18 => k_is)
    (case a19 => k_is)
    (case l19 => k_is)
    (case c19 => k_is)
    (case k19 => k_is)
    (case a20 => k_is)
    (case l20 => k_is)
    (case c20 => k_is)
    (case k20 => k_is)
    (case z_bool => k_is)
    (case z_int => k_is)
    (case z_isinstance => k_is)
    (case z_len => k_is)
    (case z_list => k_is)
    (case z_max => k_is)
    (case z_range => k_is)
    (case z_str => k_is)
    (case z_tuple => k_is)
    (case ca_TooMany => k_is)
    (case ck_TooMany => k_is)
    (case ce_TooMany => k_is)
    (case ct_TooMany => k_is)
    (case ch_TooMany => k_is)
    (case xl_TooMany => k_is)
    (case xr_TooMany => decide +kernel)
    (case sa_TooMany => k_is)
    (case ga_TooMany => k_is)
    (case gg_TooMany => k_is)
    (case nb_TooMany => k_is)
    (case in_TooMany => k_is)
    (case ti_TooMany => k_is)
    (case li_TooMany => k_is)
    (case ci_TooMany => k_is)
    (case se_TooMany => first | rfl | k_is)
    (case s_TooMany_TooMany => first | rfl | k_is)
    intro T h1 h2
    have e := hmg.symm.trans h1
    cases e
    exact ⟨T.d_law, h2, fun base _ _ => (Law.all_ok (T := T) 100).f_law⟩

