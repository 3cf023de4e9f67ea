import PyProof.Rows.All
import Wide.All
import OpenK.AllK
import Wide.FinOn
import HandS.ForMost
import KE.KDictKeyed
import HandS.TupAny
import HandS.Style
import HandS.Conv
import HandS.Rev
import HandS.RevRange
import HandS.Small
import HandS.Deep
import HandS.IsInst
import HandS.Flow
import KE.KDictDisplayH
import HandS.TupLen
import HandS.RaiseMore
import PySem.Challenge.RW_wardens_k25_first_values
set_option Elab.async false
set_option linter.all false
set_option maxRecDepth 100000
set_option autoImplicit false
set_option maxHeartbeats 4000000
/-! Sim, part 1: data, what stands for it in the abstract heap, the state of a def's body. -/
namespace Sim
open PySem PySem.Spec PyProof.Rows L2

/-- modes of a list or dict: shared (never changed), own (one slot alone holds it), borrowed (own, and a loop walks it) -/
inductive Md where
  | sh | own | brw
  deriving DecidableEq
inductive D where
  | non | bl (b : Bool) | int (i : Int) | str (x : Str) | tup (ds : List D) | lst (m : Md) (ds : List D) | dct (m : Md) (ks ds : List D)
  /-- the law's own argument -/
  | scr (ns : List Int)
def D.owned : D → Bool
  | .lst .sh _ => false
  | .lst _ _ => true
  | .dct .sh _ _ => false
  | .dct _ _ _ => true
  | _ => false
def D.frz : D → D
  | .lst _ ds => .lst .sh ds
  | .dct _ ks ds => .dct .sh ks ds
  | d => d
theorem D.frz_owned (d : D) : d.frz.owned = false := by cases d <;> rfl
theorem D.frz_of {d : D} (h : d.owned = false) : d.frz = d := by
  cases d with
  | lst m ds => cases m <;> first | rfl | cases h
  | dct m ks ds => cases m <;> first | rfl | cases h
  | _ => rfl

mutual
def keyOf : D → Option NestedKey
  | .non => some .none
  | .bl b => some (.num (if b = true then 1 else 0))
  | .int i => some (.num i)
  | .str x => some (.text x)
  | .tup ds => match keysOf ds with
    | some ks => some (.tup ks)
    | none => none
  | _ => none
def keysOf : List D → Option (List NestedKey)
  | [] => some []
  | d :: ds => match keyOf d, keysOf ds with
    | some k, some ks => some (k :: ks)
    | _, _ => none
end
def leafOf : D → Option Leaf
  | .non => some .none
  | .bl b => some (.num (if b = true then 1 else 0))
  | .int i => some (.num i)
  | .str x => some (.text x)
  | _ => none

/-- the world of a proof -/
structure Gx where
  P : Program
  w : World
  K : PySem.W.Frag
def gx (X : Cx) : Gx := ⟨X.prog, X.w, X.K⟩

/-- a dict with keys carried by value; a dict with tuple keys: by its own object alone -/
def leafO (G : Gx) (a : Addr) (kvs : List (Leaf × V)) : HO := .ext fun h => ∃ vs, KV kvs vs ∧ h.DictOf (leafKind G.P G.w) a vs
def TupRel (xs : List (NestedKey × Addr × V)) (ys : List (NestedKey × Addr × Value)) : Prop := Paired (fun p q => p.1 = q.1 ∧ p.2.1 = q.2.1 ∧ RelV p.2.2 q.2.2) xs ys
def tupO (G : Gx) (a : Addr) (xs : List (NestedKey × Addr × V)) : HO := .ext fun h => ∃ es ep ys, h.DictRaw a es ep ∧ es.toList = ys.map (entryOfKey (nestedKind G.P G.w)) ∧ TupRel xs ys

mutual
/-- the shared data d stands at v in H -/
def Rep (G : Gx) (H : Hp) : D → V → Prop
  | .non, v => v = .non
  | .bl b, v => v = .bl b
  | .int i, v => v = .int i
  | .str x, v => v = .str x
  | .tup ds, v => ∃ a vs, v = .ref a ∧ SqT G.K H a vs ∧ RepL G H ds vs
  | .lst m ds, v => m = .sh ∧ ∃ a vs, v = .ref a ∧ H a = some (.lst vs) ∧ RepL G H ds vs
  | .scr ns, v => ∃ a, v = .ref a ∧ SqL G.K H a (ns.map V.int)
  | .dct m ks ds, v => m = .sh ∧ ∃ a, v = .ref a ∧ (a == sysModules) = false ∧
      ((∃ kvs, H a = some (leafO G a kvs) ∧ ks.map leafOf = kvs.map (fun p => some p.1) ∧ kvs.length ≤ sizeLine ∧ RepL G H ds (kvs.map (·.2))) ∨
       (∃ xs, H a = some (tupO G a xs) ∧ ks.map keyOf = xs.map (fun p => some p.1) ∧ xs.length ≤ sizeLine ∧ (xs.map (·.1)).Nodup ∧ (∀ p ∈ xs, p.1.depth ≤ 8) ∧ RepL G H ks (xs.map fun p => .ref p.2.1) ∧ RepL G H ds (xs.map (·.2.2))))
def RepL (G : Gx) (H : Hp) : List D → List V → Prop
  | [], vs => vs = []
  | d :: ds, vs => ∃ v r, vs = v :: r ∧ Rep G H d v ∧ RepL G H ds r
end

theorem Same.rd {H H' : Hp} {a : Addr} {u : HO} (e : Same H H') (h : Rd H a u) : Rd H' a u := by
  rcases h with h | ⟨o, h⟩
  · exact .inl (e _ _ h)
  · exact .inr ⟨o, e _ _ h⟩
theorem Same.seqT {K : PySem.W.Frag} {H H' : Hp} {a : Addr} {xs : List V} (e : Same H H') (h : SqT K H a xs) : SqT K H' a xs := by
  rcases h with (h | ⟨o, h⟩) | h
  · exact .inl (.inl (e _ _ h))
  · exact .inl (.inr ⟨o, e _ _ h⟩)
  · exact .inr h

mutual
theorem Rep.mono {G : Gx} {H H' : Hp} (e : Same H H') : ∀ (d : D) (v : V), Rep G H d v → Rep G H' d v
  | .non, _, h => h
  | .bl _, _, h => h
  | .int _, _, h => h
  | .str _, _, h => h
  | .tup ds, _, h => by
    obtain ⟨a, vs, r, q, t⟩ := h
    exact ⟨a, vs, r, Same.seqT e q, RepL.mono e ds vs t⟩
  | .lst m ds, _, h => by
    obtain ⟨z, a, vs, r, q, t⟩ := h
    exact ⟨z, a, vs, r, e _ _ q, RepL.mono e ds vs t⟩
  | .scr ns, _, h => by
    obtain ⟨a, r, q⟩ := h
    exact ⟨a, r, e.seq q⟩
  | .dct m ks ds, _, h => by
    obtain ⟨z, a, r, sm, q⟩ := h
    refine ⟨z, a, r, sm, ?_⟩
    rcases q with ⟨kvs, q1, q2, q3, q5⟩ | ⟨xs, q1, q2, q3, q4, q8, q5, q7⟩
    · exact .inl ⟨kvs, e _ _ q1, q2, q3, RepL.mono e ds _ q5⟩
    · exact .inr ⟨xs, e _ _ q1, q2, q3, q4, q8, RepL.mono e ks _ q5, RepL.mono e ds _ q7⟩
theorem RepL.mono {G : Gx} {H H' : Hp} (e : Same H H') : ∀ (ds : List D) (vs : List V), RepL G H ds vs → RepL G H' ds vs
  | [], _, h => h
  | d :: ds, _, h => by
    obtain ⟨v, r, q, h1, h2⟩ := h
    exact ⟨v, r, q, Rep.mono e d v h1, RepL.mono e ds r h2⟩
end
section
variable {G : Gx} {H : Hp}
theorem Rep.owned : ∀ {d : D} {v : V}, Rep G H d v → d.owned = false
  | .non, _, _ => rfl
  | .bl _, _, _ => rfl
  | .int _, _, _ => rfl
  | .str _, _, _ => rfl
  | .tup _, _, _ => rfl
  | .lst m _, _, h => by obtain ⟨rfl, _⟩ := h; rfl
  | .dct m _ _, _, h => by obtain ⟨rfl, _⟩ := h; rfl
  | .scr _, _, _ => rfl
theorem RepL.nil : RepL G H [] [] := rfl
theorem RepL.cons {d : D} {ds : List D} {v : V} {vs : List V} (h : Rep G H d v) (t : RepL G H ds vs) : RepL G H (d :: ds) (v :: vs) := ⟨v, vs, rfl, h, t⟩
theorem RepL.length : ∀ {ds : List D} {vs : List V}, RepL G H ds vs → ds.length = vs.length
  | [], _, h => by cases h; rfl
  | d :: ds, _, h => by obtain ⟨v, r, rfl, _, t⟩ := h; simp [t.length]
theorem RepL.get : ∀ {ds : List D} {vs : List V} {i : Nat} {d : D}, RepL G H ds vs → ds[i]? = some d → ∃ v, vs[i]? = some v ∧ Rep G H d v
  | [], _, _, _, _, e => by simp at e
  | d :: ds, _, 0, d', h, e => by
    obtain ⟨v, r, rfl, h1, t⟩ := h
    simp at e; subst e
    exact ⟨v, rfl, h1⟩
  | d :: ds, _, i + 1, d', h, e => by
    obtain ⟨v, r, rfl, h1, t⟩ := h
    simp at e
    obtain ⟨v', q, h2⟩ := RepL.get t e
    exact ⟨v', by simpa using q, h2⟩
theorem RepL.append : ∀ {ds es : List D} {vs ws : List V}, RepL G H ds vs → RepL G H es ws → RepL G H (ds ++ es) (vs ++ ws)
  | [], _, _, _, h, t => by cases h; exact t
  | d :: ds, _, _, _, h, t => by
    obtain ⟨v, r, rfl, h1, h2⟩ := h
    exact ⟨v, r ++ _, rfl, h1, h2.append t⟩
theorem RepL.set {d : D} {v : V} (h : Rep G H d v) : ∀ {ds : List D} {vs : List V} (i : Nat), RepL G H ds vs → RepL G H (ds.set i d) (vs.set i v)
  | [], _, _, t => by cases t; exact rfl
  | _ :: _, _, 0, t => by obtain ⟨_, r, rfl, _, t⟩ := t; exact ⟨v, r, rfl, h, t⟩
  | _ :: _, _, i + 1, t => by obtain ⟨w, r, rfl, h1, t⟩ := t; exact ⟨w, r.set i v, rfl, h1, t.set h i⟩
theorem RepL.take : ∀ {ds : List D} {vs : List V} (n : Nat), RepL G H ds vs → RepL G H (ds.take n) (vs.take n)
  | _, _, 0, _ => rfl
  | [], _, n + 1, t => by cases t; exact rfl
  | d :: ds, _, n + 1, t => by obtain ⟨w, r, rfl, h1, t⟩ := t; exact ⟨w, r.take n, rfl, h1, t.take n⟩
theorem RepL.drop : ∀ {ds : List D} {vs : List V} (n : Nat), RepL G H ds vs → RepL G H (ds.drop n) (vs.drop n)
  | _, _, 0, t => t
  | [], _, n + 1, t => by cases t; exact rfl
  | d :: ds, _, n + 1, t => by obtain ⟨w, r, rfl, h1, t⟩ := t; exact t.drop n
theorem RepL.reverse {ds : List D} : ∀ {vs : List V}, RepL G H ds vs → RepL G H ds.reverse vs.reverse := by
  induction ds with
  | nil => intro vs t; cases t; exact rfl
  | cons d ds ih =>
    intro vs t
    obtain ⟨w, r, rfl, h1, t⟩ := t
    rw [List.reverse_cons, List.reverse_cons]
    exact (ih t).append (.cons h1 .nil)
theorem RepL.mem : ∀ {ds : List D} {vs : List V} {v : V}, RepL G H ds vs → v ∈ vs → ∃ d ∈ ds, Rep G H d v
  | [], _, _, t, h => by cases t; cases h
  | d :: ds, _, v', t, h => by
    obtain ⟨w, r, rfl, h1, t⟩ := t
    rcases List.mem_cons.mp h with e | h
    · exact ⟨d, List.mem_cons_self, e ▸ h1⟩
    · obtain ⟨d', m, q⟩ := t.mem h
      exact ⟨d', List.mem_cons_of_mem _ m, q⟩
theorem RepL.ints : ∀ (ns : List Int), RepL G H (ns.map D.int) (ns.map V.int)
  | [] => rfl
  | n :: ns => ⟨_, _, rfl, rfl, RepL.ints ns⟩
end

/-- an own list or dict -/
def OwnV (G : Gx) (Hs H : Hp) : D → V → Prop
  | .lst _ ds, v => ∃ a vs, v = .ref a ∧ Hs a = none ∧ H a = some (.lst vs) ∧ RepL G Hs ds vs
  | .dct _ ks ds, v => ∃ a, v = .ref a ∧ Hs a = none ∧ (a == sysModules) = false ∧
      ((∃ kvs, H a = some (leafO G a kvs) ∧ ks.map leafOf = kvs.map (fun p => some p.1) ∧ kvs.length ≤ sizeLine ∧ RepL G Hs ds (kvs.map (·.2))) ∨
       (∃ xs, H a = some (tupO G a xs) ∧ ks.map keyOf = xs.map (fun p => some p.1) ∧ xs.length ≤ sizeLine ∧ (xs.map (·.1)).Nodup ∧ (∀ p ∈ xs, p.1.depth ≤ 8) ∧ RepL G Hs ks (xs.map fun p => .ref p.2.1) ∧ RepL G Hs ds (xs.map (·.2.2))))
  | _, _ => False
/-- what a slot (or a result) holds -/
def SlotV (G : Gx) (Hs H : Hp) (d : D) (v : V) : Prop := if d.owned = true then OwnV G Hs H d v else Rep G Hs d v
section
variable {G : Gx} {Hs H Hs' H' : Hp} {d : D} {v : V} {a : Addr}
theorem SlotV.rep (h : SlotV G Hs H d v) (o : d.owned = false) : Rep G Hs d v := by
  unfold SlotV at h; rw [o] at h; exact h
theorem SlotV.own (h : SlotV G Hs H d v) (o : d.owned = true) : OwnV G Hs H d v := by
  unfold SlotV at h; rw [if_pos o] at h; exact h
theorem SlotV.of (h : Rep G Hs d v) : SlotV G Hs H d v := by
  unfold SlotV; rw [h.owned]; exact h
theorem SlotV.ofOwn (h : OwnV G Hs H d v) (o : d.owned = true) : SlotV G Hs H d v := by
  unfold SlotV; rw [if_pos o]; exact h
theorem OwnV.ref (h : OwnV G Hs H d v) : ∃ a o, v = .ref a ∧ Hs a = none ∧ H a = some o := by
  cases d with
  | lst m ds => obtain ⟨a, vs, e, n, q, _⟩ := h; exact ⟨a, _, e, n, q⟩
  | dct m ks ds =>
    obtain ⟨a, e, n, _, q⟩ := h
    rcases q with ⟨kvs, q, _⟩ | ⟨xs, q, _⟩
    · exact ⟨a, _, e, n, q⟩
    · exact ⟨a, _, e, n, q⟩
  | _ => exact h.elim
/-- the object stays, the shared heap grows elsewhere -/
theorem OwnV.stay (h : OwnV G Hs H d v) (s : Same Hs Hs') (n : ∀ a, v = .ref a → Hs' a = none) (k : ∀ a o, v = .ref a → H a = some o → H' a = some o) : OwnV G Hs' H' d v := by
  cases d with
  | lst m ds => obtain ⟨a, vs, e, _, q, t⟩ := h; exact ⟨a, vs, e, n a e, k a _ e q, RepL.mono s _ _ t⟩
  | dct m ks ds =>
    obtain ⟨a, e, _, sm, q⟩ := h
    refine ⟨a, e, n a e, sm, ?_⟩
    rcases q with ⟨kvs, q1, q2, q3, q5⟩ | ⟨xs, q1, q2, q3, q4, q8, q5, q7⟩
    · exact .inl ⟨kvs, k a _ e q1, q2, q3, RepL.mono s _ _ q5⟩
    · exact .inr ⟨xs, k a _ e q1, q2, q3, q4, q8, RepL.mono s _ _ q5, RepL.mono s _ _ q7⟩
  | _ => exact h.elim
/-- an own thing is shared from here on -/
theorem OwnV.freeze (h : OwnV G Hs H d (.ref a)) {o : HO} (ho : H a = some o) : Rep G (upd Hs a o) d.frz (.ref a) := by
  have hn : Hs a = none := by
    obtain ⟨b, _, e, n, _⟩ := h.ref
    cases e; exact n
  have s : Same Hs (upd Hs a o) := fun b u q => by
    rw [upd_ne (ne_of_none q hn)]; exact q
  cases d with
  | lst m ds =>
    obtain ⟨b, vs, e, n, q, t⟩ := h
    cases e
    rw [ho] at q; cases q
    exact ⟨rfl, a, vs, rfl, upd_same, RepL.mono s _ _ t⟩
  | dct m ks ds =>
    obtain ⟨b, e, n, sm, q⟩ := h
    cases e
    refine ⟨rfl, a, rfl, sm, ?_⟩
    rcases q with ⟨kvs, q1, q2, q3, q5⟩ | ⟨xs, q1, q2, q3, q4, q8, q5, q7⟩
    · rw [ho] at q1; cases q1
      exact .inl ⟨kvs, upd_same, q2, q3, RepL.mono s _ _ q5⟩
    · rw [ho] at q1; cases q1
      exact .inr ⟨xs, upd_same, q2, q3, q4, q8, RepL.mono s _ _ q5, RepL.mono s _ _ q7⟩
  | _ => exact h.elim
end

/-! ### the state -/
abbrev Rho := List (Option D)
/-- what a slot owns -/
def Own (ρ : Rho) (σ : L2.St) (b : Addr) : Prop := ∃ (i : Nat) (d : D), ρ[i]? = some (some d) ∧ d.owned = true ∧ σ[i]? = some (some (V.ref b))
/-- a def's entry: its heap, its slots; io: the parameters that are handed on changed -/
structure Fm where
  H0 : Hp
  σ0 : L2.St
/-- static facts of a def: os, the slots that may hold own things; io, the parameters that are handed on changed; fx, the slots that are not assigned here -/
structure Sc where
  os : List Nat
  io : List Nat
  fx : List Nat := []
structure Rel (G : Gx) (S : Sc) (F : Fm) (Hs H : Hp) (ρ : Rho) (σ : L2.St) : Prop where
  sub : Same Hs H
  len : ρ.length = σ.length
  slot : ∀ (i : Nat) (d : D), ρ[i]? = some (some d) → ∃ v, σ[i]? = some (some v) ∧ SlotV G Hs H d v
  apart : ∀ (i j : Nat) (d e : D) (a : Addr), i ≠ j → ρ[i]? = some (some d) → ρ[j]? = some (some e) → d.owned = true → e.owned = true → σ[i]? = some (some (V.ref a)) → σ[j]? = some (some (V.ref a)) → False
  fresh : ∀ (i : Nat) (d : D) (a : Addr), i ∉ S.io → ρ[i]? = some (some d) → d.owned = true → σ[i]? = some (some (V.ref a)) → F.H0 a = none
  vals : ∀ (i : Nat) (d : D), i ∉ S.os → ρ[i]? = some (some d) → d.owned = false
  par : ∀ (i : Nat), i ∈ S.io → σ[i]? = F.σ0[i]?
  dom0 : ∀ b, F.H0 b ≠ none → H b ≠ none
section
variable {G : Gx} {S : Sc} {F : Fm} {Hs H Hs' H' Hs'' H'' : Hp} {ρ ρ' ρ'' : Rho} {σ σ' σ'' : L2.St} {i : Nat} {d : D} {v : V} {a b : Addr} {o : HO}
theorem Rel.ownAt (r : Rel G S F Hs H ρ σ) (h : Own ρ σ b) : Hs b = none ∧ ∃ o, H b = some o := by
  obtain ⟨i, d, e, ho, es⟩ := h
  obtain ⟨v, ev, q⟩ := r.slot i d e
  rw [es] at ev; cases ev
  obtain ⟨a, o, e', n, q⟩ := (q.own ho).ref
  cases e'
  exact ⟨n, o, q⟩
/-- from one state to the next -/
structure Nxt (G : Gx) (S : Sc) (F : Fm) (ρ : Rho) (σ : L2.St) (Hs H : Hp) (ρ' : Rho) (σ' : L2.St) (Hs' H' : Hp) : Prop where
  rel : Rel G S F Hs' H' ρ' σ'
  same : Same Hs Hs'
  keep : ∀ b o, H b = some o → ¬ Own ρ σ b → H' b = some o
  dom : ∀ b, H b ≠ none → H' b ≠ none
  own : ∀ b, Own ρ' σ' b → Own ρ σ b ∨ H b = none
  grow : ∀ b, Hs' b ≠ none → Hs b ≠ none ∨ Own ρ σ b ∨ H b = none
  fix : ∀ (i : Nat), i ∈ S.fx → σ'[i]? = σ[i]?
  slen : σ'.length = σ.length
theorem Nxt.refl (r : Rel G S F Hs H ρ σ) : Nxt G S F ρ σ Hs H ρ σ Hs H := ⟨r, Same.refl _, fun _ _ h _ => h, fun _ h => h, fun _ h => .inl h, fun _ h => .inl h, fun _ _ => rfl, rfl⟩
theorem Nxt.trans (x : Nxt G S F ρ σ Hs H ρ' σ' Hs' H') (y : Nxt G S F ρ' σ' Hs' H' ρ'' σ'' Hs'' H'') : Nxt G S F ρ σ Hs H ρ'' σ'' Hs'' H'' := by
  refine ⟨y.rel, x.same.trans y.same, fun b o h n => ?_, fun b h => y.dom b (x.dom b h), fun b h => ?_, fun b h => ?_, fun i hi => (y.fix i hi).trans (x.fix i hi), y.slen.trans x.slen⟩
  · refine y.keep b o (x.keep b o h n) fun q => ?_
    rcases x.own b q with q | q
    · exact n q
    · rw [h] at q; cases q
  · rcases y.own b h with q | q
    · exact x.own b q
    · right
      cases e : H b with
      | none => rfl
      | some o => exact absurd q (x.dom b (by rw [e]; exact fun z => by cases z))
  · rcases y.grow b h with q | q | q
    · exact x.grow b q
    · rcases x.own b q with q | q
      · exact .inr (.inl q)
      · exact .inr (.inr q)
    · refine .inr (.inr ?_)
      cases e : H b with
      | none => rfl
      | some o => exact absurd q (x.dom b (by rw [e]; exact fun z => by cases z))
/-- the heap grows alone; o: the new object shared at once -/
theorem Rel.grow (r : Rel G S F Hs H ρ σ) (s : Same Hs Hs') (s' : Same H H') (sub : Same Hs' H') (g : ∀ b, Hs' b ≠ none → Hs b ≠ none ∨ H b = none) : Nxt G S F ρ σ Hs H ρ σ Hs' H' := by
  have own : ∀ (i : Nat) (d : D) (v : V), ρ[i]? = some (some d) → σ[i]? = some (some v) → d.owned = true → ∀ (a : Addr), v = V.ref a → Hs' a = none := fun i d v e1 e2 e3 a e4 => by
    subst e4
    obtain ⟨n, o, q⟩ := r.ownAt ⟨i, d, e1, e3, e2⟩
    cases z : Hs' a with
    | none => rfl
    | some u =>
      rcases g a (by rw [z]; exact fun y => by cases y) with y | y
      · exact absurd n y
      · rw [q] at y; cases y
  refine ⟨⟨sub, r.len, fun i d e => ?_, r.apart, r.fresh, r.vals, r.par, fun b h => ?_⟩, s, fun b o h _ => s' b o h, fun b h => ?_, fun b h => .inl h, fun b h => ?_, fun _ _ => rfl, rfl⟩
  · obtain ⟨v, ev, q⟩ := r.slot i d e
    refine ⟨v, ev, ?_⟩
    by_cases ho : d.owned = true
    · exact .ofOwn ((q.own ho).stay s (own i d v e ev ho) fun a o _ q => s' a o q) ho
    · exact .of (Rep.mono s _ _ (q.rep (by simpa using ho)))
  · cases e : H b with
    | none => exact absurd e (r.dom0 b h)
    | some u => rw [s' b u e]; exact fun z => by cases z
  · cases e : H b with
    | none => exact absurd e h
    | some u => rw [s' b u e]; exact fun z => by cases z
  · rcases g b h with y | y
    · exact .inl y
    · exact .inr (.inr y)
/-- a new object, shared -/
theorem Rel.newSh (r : Rel G S F Hs H ρ σ) (hn : H a = none) (o : HO) : Nxt G S F ρ σ Hs H ρ σ (upd Hs a o) (upd H a o) := by
  have hs : Hs a = none := r.sub.free hn
  refine r.grow (fun b u q => by rw [upd_ne (ne_of_none q hs)]; exact q) (fun b u q => by rw [upd_ne (ne_of_none q hn)]; exact q) (fun b u q => ?_) fun b h => ?_
  · by_cases e : b = a
    · subst e; rw [upd_same] at q ⊢; exact q
    · rw [upd_ne e] at q ⊢; exact r.sub b u q
  · by_cases e : b = a
    · subst e; exact .inr hn
    · rw [upd_ne e] at h; exact .inl h
/-- a new object, held by nobody yet -/
theorem Rel.newOwn (r : Rel G S F Hs H ρ σ) (hn : H a = none) (o : HO) : Nxt G S F ρ σ Hs H ρ σ Hs (upd H a o) := by
  refine r.grow (Same.refl _) (fun b u q => by rw [upd_ne (ne_of_none q hn)]; exact q) (fun b u q => ?_) fun b h => .inl h
  have q' := r.sub b u q
  rw [upd_ne (ne_of_none q' hn)]; exact q'
/-- a thing that no slot holds stays -/
theorem Nxt.tmp (n : Nxt G S F ρ σ Hs H ρ' σ' Hs' H') (h1 : H a = some o) (h2 : Hs a = none) (h3 : ¬ Own ρ σ a) : H' a = some o ∧ Hs' a = none ∧ ¬ Own ρ' σ' a := by
  refine ⟨n.keep a o h1 h3, ?_, fun z => ?_⟩
  · cases q : Hs' a with
    | none => rfl
    | some u =>
      rcases n.grow a (by rw [q]; exact fun z => by cases z) with y | y | y
      · exact absurd h2 y
      · exact absurd y h3
      · rw [h1] at y; cases y
  · rcases n.own a z with y | y
    · exact h3 y
    · rw [h1] at y; cases y
/-- such a thing is changed -/
theorem Nxt.tmpWrite (n : Nxt G S F ρ σ Hs H ρ' σ' Hs' H') (h0 : H a = none) (h2 : Hs' a = none) (h3 : ¬ Own ρ' σ' a) (o' : HO) : Nxt G S F ρ σ Hs H ρ' σ' Hs' (upd H' a o') := by
  have r := n.rel
  have kp : ∀ b w, b ≠ a → H' b = some w → upd H' a o' b = some w := fun b w hb q => by rw [upd_ne hb]; exact q
  have nn : ∀ b, H' b ≠ none → upd H' a o' b ≠ none := fun b h => by
    by_cases e : b = a
    · subst e; rw [upd_same]; exact fun z => by cases z
    · rw [upd_ne e]; exact h
  refine ⟨⟨fun b w q => kp b w (ne_of_none q h2) (r.sub b w q), r.len, fun i d h => ?_, r.apart, r.fresh, r.vals, r.par, fun b h => nn b (r.dom0 b h)⟩, n.same, fun b w h no => kp b w (ne_of_none h h0) (n.keep b w h no), fun b h => nn b (n.dom b h), n.own, n.grow, n.fix, n.slen⟩
  obtain ⟨v, ev, sv⟩ := r.slot i d h
  refine ⟨v, ev, ?_⟩
  by_cases ho : d.owned = true
  · refine .ofOwn ((sv.own ho).stay (.refl _) (fun b z => ?_) fun b w z q => ?_) ho
    · subst z; exact (r.ownAt ⟨i, d, h, ho, ev⟩).1
    · subst z; exact kp b w (fun z => by subst z; exact h3 ⟨i, d, h, ho, ev⟩) q
  · exact .of (sv.rep (by simpa using ho))
end
end Sim

/-! Sim, part 2: the judgements; names, constants, operators. -/
namespace Sim
open PySem PySem.Spec PyProof.Rows L2

inductive Res (α : Type) where
  | fail | ok (a : α) (ρ : Rho) | ex (x : D) (ρ : Rho)
def Res.bind {α β : Type} (r : Res α) (f : α → Rho → Res β) : Res β :=
  match r with
  | .fail => .fail
  | .ok a ρ => f a ρ
  | .ex x ρ => .ex x ρ
theorem Res.bind_ok {α β : Type} {r : Res α} {f : α → Rho → Res β} {b : β} {ρ' : Rho} (h : r.bind f = .ok b ρ') : ∃ a ρ1, r = .ok a ρ1 ∧ f a ρ1 = .ok b ρ' := by
  cases r with
  | fail => cases h
  | ok a ρ => exact ⟨a, ρ, rfl, h⟩
  | ex x ρ => cases h
def pureO {α : Type} (o : Option α) (ρ : Rho) : Res α :=
  match o with
  | some a => .ok a ρ
  | none => .fail
theorem pureO_ok {α : Type} {o : Option α} {ρ ρ' : Rho} {a : α} (h : pureO o ρ = .ok a ρ') : o = some a ∧ ρ = ρ' := by
  cases o with
  | none => cases h
  | some b => cases h; exact ⟨rfl, rfl⟩
abbrev EM := Rho → Res D
abbrev TM := Rho → Res Bool
abbrev AM := Rho → Res (List D)

/-! ### the largest readings -/
def WE (X : Cx) (e : Expr) : TE := fun σ H Q => ∃ t, PE X e t ∧ t σ H Q
def WT (X : Cx) (e : Expr) : TT := fun σ H Q => ∃ t, PT X e t ∧ t σ H Q
def WW (X : Cx) (e : Expr) : TT := fun σ H Q => ∃ t, PW X e t ∧ t σ H Q
def WA (X : Cx) (es : List Expr) : TA := fun σ H Q => ∃ t, PA X es t ∧ t σ H Q
def WOp (X : Cx) (f : Value → Value → Sem Value) : R2 := fun x y H Q => ∃ r, OpR X f r ∧ r x y H Q
def WUn (X : Cx) (f : Value → Sem Value) : V → Hp → VK → Prop := fun x H Q => ∃ r, UnR X f r ∧ r x H Q
def WIx (X : Cx) : R2 := fun x y H Q => ∃ r, IxR X r ∧ r x y H Q
def WSl (X : Cx) : V → Option Int → Option Int → Hp → VK → Prop := fun x lo hi H Q => ∃ r, SlR X r ∧ r x lo hi H Q
def WCall (X : Cx) (f : Value) : List V → Hp → VK → Prop := fun xs H Q => ∃ r, CallR X f r ∧ r xs H Q
section
variable {X : Cx}
theorem peW (e : Expr) : PE X e (WE X e) := ⟨fun pins s σ H Q I ⟨_, h, q⟩ => h.run pins s σ H Q I q⟩
theorem ptW (e : Expr) : PT X e (WT X e) := ⟨fun pins s σ H Q I ⟨_, h, q⟩ => h.run pins s σ H Q I q⟩
theorem pwW (e : Expr) : PW X e (WW X e) := ⟨fun wh pins s σ H Q I ⟨_, h, q⟩ => h.run wh pins s σ H Q I q⟩
theorem paW (es : List Expr) : PA X es (WA X es) := ⟨fun pos pins s σ H Q I ⟨_, h, q⟩ => h.run pos pins s σ H Q I q⟩
theorem opW (f : Value → Value → Sem Value) : OpR X f (WOp X f) := fun pins s σ H x y v u Q I rx ry ⟨_, h, q⟩ => h pins s σ H x y v u Q I rx ry q
theorem unW (f : Value → Sem Value) : UnR X f (WUn X f) := fun pins s σ H x v Q I rx ⟨_, h, q⟩ => h pins s σ H x v Q I rx q
theorem ixW : IxR X (WIx X) := fun value slice pins s σ H x y v u Q I rx ry ⟨_, h, q⟩ hs => h value slice pins s σ H x y v u Q I rx ry q hs
theorem slW : SlR X (WSl X) := fun pins s σ H x v vl vu lo hi sl Q I rx hs pl pu ⟨_, h, q⟩ => h pins s σ H x v vl vu lo hi sl Q I rx hs pl pu q
theorem callW (f : Value) : CallR X f (WCall X f) := fun pins s σ H xs us Q I r ⟨_, h, q⟩ => h pins s σ H xs us Q I r q
end

/-! ### the judgements -/
/-- behind an expression: a shared value -/
structure SimV (X : Cx) (S : Sc) (e : Expr) (m : EM) : Prop where
  run : ∀ {ρ : Rho} {d : D} {ρ' : Rho}, m ρ = .ok d ρ' → ∀ {F : Fm} {σ : L2.St} {Hs H : Hp}, Rel (gx X) S F Hs H ρ σ → ∀ {Q : VK},
    (∀ v Hs' H', Nxt (gx X) S F ρ σ Hs H ρ' σ Hs' H' → Rep (gx X) Hs' d v → Q v H') → WE X e σ H Q
/-- a value that may be new and held by nobody -/
structure SimE (X : Cx) (S : Sc) (e : Expr) (m : EM) : Prop where
  run : ∀ {ρ : Rho} {d : D} {ρ' : Rho}, m ρ = .ok d ρ' → ∀ {F : Fm} {σ : L2.St} {Hs H : Hp}, Rel (gx X) S F Hs H ρ σ → ∀ {Q : VK},
    (∀ v Hs' H', Nxt (gx X) S F ρ σ Hs H ρ' σ Hs' H' → SlotV (gx X) Hs' H' d v → (d.owned = true → ∀ a, v = .ref a → H a = none ∧ ¬ Own ρ' σ a) → Q v H') → WE X e σ H Q
structure SimT (X : Cx) (S : Sc) (e : Expr) (m : TM) : Prop where
  run : ∀ {ρ : Rho} {b : Bool} {ρ' : Rho}, m ρ = .ok b ρ' → ∀ {F : Fm} {σ : L2.St} {Hs H : Hp}, Rel (gx X) S F Hs H ρ σ → ∀ {Q : Bool → Hp → Prop},
    (∀ Hs' H', Nxt (gx X) S F ρ σ Hs H ρ' σ Hs' H' → Q b H') → WT X e σ H Q
structure SimW (X : Cx) (S : Sc) (e : Expr) (m : TM) : Prop where
  run : ∀ {ρ : Rho} {b : Bool} {ρ' : Rho}, m ρ = .ok b ρ' → ∀ {F : Fm} {σ : L2.St} {Hs H : Hp}, Rel (gx X) S F Hs H ρ σ → ∀ {Q : Bool → Hp → Prop},
    (∀ Hs' H', Nxt (gx X) S F ρ σ Hs H ρ' σ Hs' H' → Q b H') → WW X e σ H Q
structure SimA (X : Cx) (S : Sc) (es : List Expr) (m : AM) : Prop where
  run : ∀ {ρ : Rho} {ds : List D} {ρ' : Rho}, m ρ = .ok ds ρ' → ∀ {F : Fm} {σ : L2.St} {Hs H : Hp}, Rel (gx X) S F Hs H ρ σ → ∀ {Q : List V → Hp → Prop},
    (∀ vs Hs' H', Nxt (gx X) S F ρ σ Hs H ρ' σ Hs' H' → RepL (gx X) Hs' ds vs → Q vs H') → WA X es σ H Q

/-! ### names and constants -/
def nameM (i : Nat) : EM := fun ρ => match ρ[i]? with
  | some (some d) => .ok d ρ
  | _ => .fail
/-- an own thing is shared from here on -/
def frzM (i : Nat) : EM := fun ρ => match ρ[i]? with
  | some (some d) => .ok d.frz (ρ.set i (some d.frz))
  | _ => .fail
def constM (d : D) : EM := fun ρ => .ok d ρ
def shM (m : EM) : EM := fun ρ => (m ρ).bind fun d ρ' => .ok d.frz ρ'
section
variable {X : Cx} {S : Sc}
theorem sim_name (i : Nat) {x : Str} {pos : Pos} (ho : i ∉ S.os := by decide) (hN : X.N[i]? = some x := by rfl) (hv : Vis X.env.scope x := by first | exact Or.inl rfl | exact Or.inr (Or.inl rfl) | exact Or.inr (Or.inr rfl))
    (hd : (x == ("__debug__" : Str)) = false := by decide) (hcd : (x == ("__classdict__" : Str)) = false := by decide) : SimV X S (.Name x pos) (nameM i) := by
  refine ⟨fun {ρ d ρ'} h {F σ Hs H} r {Q} q => ?_⟩
  unfold nameM at h
  split at h
  · rename_i e he
    cases h
    obtain ⟨v, ev, sv⟩ := r.slot i d he
    exact ⟨_, pe_var hN hv hd hcd, v, ev, q v Hs H (.refl r) (sv.rep (r.vals i d ho he))⟩
  · cases h
theorem upd_self {Hs H : Hp} {a : Addr} {o : HO} (s : Same Hs H) (h : H a = some o) : Same (upd Hs a o) H := fun b u q => by
  by_cases e : b = a
  · subst e; rw [upd_same] at q; rw [h]; exact q
  · rw [upd_ne e] at q; exact s b u q
theorem same_new {Hs : Hp} {a : Addr} {o : HO} (h : Hs a = none) : Same Hs (upd Hs a o) := fun b u q => by
  rw [upd_ne (ne_of_none q h)]; exact q
theorem get_set_some {α : Type} {l : List α} {i j : Nat} {x y : α} (h : (l.set i x)[j]? = some y) : (j = i ∧ y = x ∧ i < l.length) ∨ (j ≠ i ∧ l[j]? = some y) := by
  by_cases e : j = i
  · subst e
    rw [List.getElem?_set] at h
    simp only [if_true] at h
    split at h
    · cases h; exact .inl ⟨rfl, rfl, by assumption⟩
    · cases h
  · rw [List.getElem?_set_ne (Ne.symm e)] at h
    exact .inr ⟨e, h⟩
/-- the own thing at i is shared from here on -/
theorem Rel.freeze {G : Gx} {F : Fm} {Hs H : Hp} {ρ : Rho} {σ : L2.St} {i : Nat} {d : D} {v : V} (r : Rel G S F Hs H ρ σ) (he : ρ[i]? = some (some d)) (ev : σ[i]? = some (some v)) :
    ∃ Hs', Nxt G S F ρ σ Hs H (ρ.set i (some d.frz)) σ Hs' H ∧ Rep G Hs' d.frz v := by
  obtain ⟨v', ev', sv⟩ := r.slot i d he
  rw [ev] at ev'; cases ev'
  by_cases ho : d.owned = true
  · obtain ⟨a, o, e, n, q⟩ := (sv.own ho).ref
    subst e
    have sm : Same Hs (upd Hs a o) := same_new n
    have own' : ∀ b, Own (ρ.set i (some d.frz)) σ b → Own ρ σ b ∧ b ≠ a := fun b ⟨j, e, h1, h2, h3⟩ => by
      rcases get_set_some h1 with ⟨_, z, _⟩ | ⟨hj, h1⟩
      · cases z; rw [D.frz_owned] at h2; cases h2
      · refine ⟨⟨j, e, h1, h2, h3⟩, fun z => ?_⟩
        subst z
        exact r.apart j i e d b hj h1 he h2 ho h3 ev
    refine ⟨upd Hs a o, ⟨⟨upd_self r.sub q, by simpa using r.len, fun j e h => ?_, fun j k e f b hjk h1 h2 o1 o2 s1 s2 => ?_, fun j e b hj h1 o1 s1 => ?_, fun j e hj h1 => ?_, r.par, r.dom0⟩, sm, fun b u h _ => h, fun b h => h, fun b h => .inl (own' b h).1, fun b h => ?_, fun _ _ => rfl, rfl⟩, (sv.own ho).freeze q⟩
    · rcases get_set_some h with ⟨rfl, z, _⟩ | ⟨hj, h⟩
      · cases z
        exact ⟨.ref a, ev, .of ((sv.own ho).freeze q)⟩
      · obtain ⟨w, ew, sw⟩ := r.slot j e h
        refine ⟨w, ew, ?_⟩
        by_cases oe : e.owned = true
        · refine .ofOwn ((sw.own oe).stay sm (fun b z => ?_) fun b u _ z => z) oe
          subst z
          have hb : b ≠ a := fun z => by subst z; exact r.apart j i e d b hj h he oe ho ew ev
          rw [upd_ne hb]
          exact (r.ownAt ⟨j, e, h, oe, ew⟩).1
        · exact .of (Rep.mono sm _ _ (sw.rep (by simpa using oe)))
    · rcases get_set_some h1 with ⟨_, z, _⟩ | ⟨hj, h1⟩
      · cases z; rw [D.frz_owned] at o1; cases o1
      rcases get_set_some h2 with ⟨_, z, _⟩ | ⟨hk, h2⟩
      · cases z; rw [D.frz_owned] at o2; cases o2
      exact r.apart j k e f b hjk h1 h2 o1 o2 s1 s2
    · rcases get_set_some h1 with ⟨_, z, _⟩ | ⟨hj', h1⟩
      · cases z; rw [D.frz_owned] at o1; cases o1
      exact r.fresh j e b hj h1 o1 s1
    · rcases get_set_some h1 with ⟨_, z, _⟩ | ⟨hj', h1⟩
      · cases z; exact D.frz_owned _
      exact r.vals j e hj h1
    · by_cases e : b = a
      · subst e; exact .inr (.inl ⟨i, d, he, ho, ev⟩)
      · rw [upd_ne e] at h; exact .inl h
  · have ho' : d.owned = false := by simpa using ho
    have e : d.frz = d := D.frz_of ho'
    rw [e]
    have es : ρ.set i (some d) = ρ := by
      apply List.ext_getElem?
      intro j
      by_cases hj : j = i
      · subst hj
        rw [List.getElem?_set_self (List.getElem?_eq_some_iff.mp he).1, he]
      · rw [List.getElem?_set_ne (Ne.symm hj)]
    rw [es]
    exact ⟨Hs, .refl r, sv.rep ho'⟩
theorem sim_frz (i : Nat) {x : Str} {pos : Pos} (hN : X.N[i]? = some x := by rfl) (hv : Vis X.env.scope x := by first | exact Or.inl rfl | exact Or.inr (Or.inl rfl) | exact Or.inr (Or.inr rfl))
    (hd : (x == ("__debug__" : Str)) = false := by decide) (hcd : (x == ("__classdict__" : Str)) = false := by decide) : SimV X S (.Name x pos) (frzM i) := by
  refine ⟨fun {ρ d ρ'} h {F σ Hs H} r {Q} q => ?_⟩
  unfold frzM at h
  split at h
  · rename_i e he
    cases h
    obtain ⟨v, ev, sv⟩ := r.slot i e he
    obtain ⟨Hs', n, rp⟩ := r.freeze he ev
    exact ⟨_, pe_var hN hv hd hcd, v, ev, q v Hs' H n rp⟩
  · cases h
theorem sim_const {e : Expr} {d : D} {v : V} (h : PE X e (tC v)) (r : ∀ G H, Rep G H d v) : SimV X S e (constM d) := by
  refine ⟨fun {ρ d' ρ'} hm {F σ Hs H} rl {Q} q => ?_⟩
  cases hm
  exact ⟨_, h, q v Hs H (.refl rl) (r _ _)⟩
theorem sim_int {i : Int} {j : Nat} {pos : Pos} : SimV X S (.Constant (.int i) j pos) (constM (.int i)) := sim_const pe_int fun _ _ => rfl
theorem sim_bl {b : Bool} {j : Nat} {pos : Pos} : SimV X S (.Constant (.bool b) j pos) (constM (.bl b)) := sim_const pe_bl fun _ _ => rfl
theorem sim_non {j : Nat} {pos : Pos} : SimV X S (.Constant .none j pos) (constM .non) := sim_const pe_non fun _ _ => rfl
theorem sim_str {x : Str} {j : Nat} {pos : Pos} : SimV X S (.Constant (.str x) j pos) (constM (.str x)) := sim_const pe_str fun _ _ => rfl
/-- a shared value is a result -/
theorem SimV.e {e : Expr} {m : EM} (h : SimV X S e m) : SimE X S e m :=
  ⟨fun {ρ d ρ'} hm {F σ Hs H} rl {Q} q => h.run hm rl fun v Hs' H' n rp => q v Hs' H' n (.of rp) fun o => by rw [rp.owned] at o; cases o⟩
/-- a new thing that nobody holds is shared at once -/
theorem Nxt.share {G : Gx} {F : Fm} {Hs H Hs' H' : Hp} {ρ ρ' : Rho} {σ : L2.St} {d : D} {v : V} (n : Nxt G S F ρ σ Hs H ρ' σ Hs' H') (sv : SlotV G Hs' H' d v) (fr : d.owned = true → ∀ a, v = .ref a → H a = none ∧ ¬ Own ρ' σ a) :
    ∃ Hs2, Nxt G S F ρ σ Hs H ρ' σ Hs2 H' ∧ Rep G Hs2 d.frz v := by
  by_cases ho : d.owned = true
  · obtain ⟨a, o, e, hn, ha⟩ := (sv.own ho).ref
    subst e
    obtain ⟨h0, h1⟩ := fr ho a rfl
    have sm : Same Hs' (upd Hs' a o) := same_new hn
    refine ⟨upd Hs' a o, ⟨⟨upd_self n.rel.sub ha, n.rel.len, fun j e h => ?_, n.rel.apart, n.rel.fresh, n.rel.vals, n.rel.par, n.rel.dom0⟩, n.same.trans sm, n.keep, n.dom, n.own, fun b hb => ?_, n.fix, n.slen⟩, (sv.own ho).freeze ha⟩
    · obtain ⟨w, ew, sw⟩ := n.rel.slot j e h
      refine ⟨w, ew, ?_⟩
      by_cases oe : e.owned = true
      · refine .ofOwn ((sw.own oe).stay sm (fun b z => ?_) fun b u _ z => z) oe
        subst z
        have hb : b ≠ a := fun z => by subst z; exact h1 ⟨j, e, h, oe, ew⟩
        rw [upd_ne hb]
        exact (n.rel.ownAt ⟨j, e, h, oe, ew⟩).1
      · exact .of (Rep.mono sm _ _ (sw.rep (by simpa using oe)))
    · by_cases e : b = a
      · subst e; exact .inr (.inr h0)
      · rw [upd_ne e] at hb; exact n.grow b hb
  · have ho' : d.owned = false := by simpa using ho
    rw [D.frz_of ho']
    exact ⟨Hs', n, sv.rep ho'⟩
theorem SimE.v {e : Expr} {m : EM} (h : SimE X S e m) : SimV X S e (shM m) := by
  refine ⟨fun {ρ d ρ'} hm {F σ Hs H} rl {Q} q => ?_⟩
  unfold shM at hm
  obtain ⟨d0, ρ1, e1, e2⟩ := Res.bind_ok hm
  cases e2
  refine h.run e1 rl fun v Hs' H' n sv fr => ?_
  obtain ⟨Hs2, n2, r2⟩ := n.share sv fr
  exact q v Hs2 H' n2 r2
end

/-! ### two operands -/
/-- the heap grows by shared things -/
structure Ext (Hs H Hs' H' : Hp) : Prop where
  s : Same Hs Hs'
  h : Same H H'
  sub : Same Hs' H'
  g : ∀ b, Hs' b ≠ none → Hs b ≠ none ∨ H b = none
theorem Ext.refl {Hs H : Hp} (s : Same Hs H) : Ext Hs H Hs H := ⟨.refl _, .refl _, s, fun _ h => .inl h⟩
theorem Ext.new {Hs H : Hp} {a : Addr} (s : Same Hs H) (hn : H a = none) (o : HO) : Ext Hs H (upd Hs a o) (upd H a o) := by
  have hs : Hs a = none := s.free hn
  refine ⟨same_new hs, same_new hn, fun b u q => ?_, fun b h => ?_⟩
  · by_cases e : b = a
    · subst e; rw [upd_same] at q ⊢; exact q
    · rw [upd_ne e] at q ⊢; exact s b u q
  · by_cases e : b = a
    · subst e; exact .inr hn
    · rw [upd_ne e] at h; exact .inl h
theorem Ext.nxt {G : Gx} {S : Sc} {F : Fm} {Hs H Hs' H' : Hp} {ρ : Rho} {σ : L2.St} (x : Ext Hs H Hs' H') (r : Rel G S F Hs H ρ σ) : Nxt G S F ρ σ Hs H ρ σ Hs' H' := r.grow x.s x.h x.sub x.g
/-- a shared value comes -/
def Gives (G : Gx) (Hs H : Hp) (d : D) (Q : VK) : Prop := ∀ w Hs' H', Ext Hs H Hs' H' → Rep G Hs' d w → Q w H'
def OpS (X : Cx) (op : Value → Value → Sem Value) (f : D → D → Option D) : Prop :=
  ∀ {x y d : D}, f x y = some d → ∀ {Hs H : Hp} {u v : V} {Q : VK}, Same Hs H → SlotV (gx X) Hs H x u → SlotV (gx X) Hs H y v → Gives (gx X) Hs H d Q → WOp X op u v H Q
def op2 (f : D → D → Option D) (ma mb : EM) : EM := fun ρ => (ma ρ).bind fun x ρ1 => (mb ρ1).bind fun y ρ2 => pureO (f x y) ρ2
def testM (m : EM) : TM := fun ρ => (m ρ).bind fun d ρ' => match d with
  | .bl c => .ok c ρ'
  | _ => .fail
theorem testM_ok {m : EM} {ρ ρ' : Rho} {c : Bool} (h : testM m ρ = .ok c ρ') : m ρ = .ok (.bl c) ρ' := by
  obtain ⟨d, ρ1, e1, e2⟩ := Res.bind_ok h
  split at e2
  · cases e2; exact e1
  · cases e2
section
variable {X : Cx} {S : Sc} {a b : Expr} {ma mb : EM} {pos : Pos}
theorem v2 (ha : SimV X S a ma) (hb : SimV X S b mb) {ρ ρ1 ρ2 : Rho} {x y : D} (ea : ma ρ = .ok x ρ1) (eb : mb ρ1 = .ok y ρ2) {F : Fm} {σ : L2.St} {Hs H : Hp} (r : Rel (gx X) S F Hs H ρ σ) {R : V → V → Hp → Prop}
    (h : ∀ u v Hs' H', Nxt (gx X) S F ρ σ Hs H ρ2 σ Hs' H' → Rep (gx X) Hs' x u → Rep (gx X) Hs' y v → R u v H') : WE X a σ H fun u H1 => WE X b σ H1 fun v H2 => R u v H2 :=
  ha.run ea r fun u Hs1 H1 n1 r1 => hb.run eb n1.rel fun v Hs2 H2 n2 r2 => h u v Hs2 H2 (n1.trans n2) (Rep.mono n2.same _ _ r1) r2
theorem op2_ok {f : D → D → Option D} {ρ ρ' : Rho} {d : D} (h : op2 f ma mb ρ = .ok d ρ') : ∃ x y ρ1, ma ρ = .ok x ρ1 ∧ mb ρ1 = .ok y ρ' ∧ f x y = some d := by
  obtain ⟨x, ρ1, e1, h⟩ := Res.bind_ok h
  obtain ⟨y, ρ2, e2, h⟩ := Res.bind_ok h
  obtain ⟨e3, rfl⟩ := pureO_ok h
  exact ⟨x, y, ρ1, e1, e2, e3⟩
theorem sim_bin {op : Operator} {f : D → D → Option D} (ho : OpS X (binaryOp op) f) (ha : SimV X S a ma) (hb : SimV X S b mb) : SimV X S (.BinOp a op b pos) (op2 f ma mb) := by
  refine ⟨fun {ρ d ρ'} hm {F σ Hs H} rl {Q} q => ?_⟩
  obtain ⟨x, y, ρ1, e1, e2, e3⟩ := op2_ok hm
  refine ⟨_, pe_op (opW _) (peW a) (peW b), v2 ha hb e1 e2 rl fun u v Hs' H' n ru rv => ?_⟩
  exact ho e3 n.rel.sub (.of ru) (.of rv) fun w Hs2 H2 x2 rw => q w Hs2 H2 (n.trans (x2.nxt n.rel)) rw
theorem sim_cmp {op : CmpOp} {f : D → D → Option D} (ho : OpS X (compareOp op) f) (ha : SimV X S a ma) (hb : SimV X S b mb) (hm : behindInMarks op b = false) : SimV X S (.Compare a [op] [b] pos) (op2 f ma mb) := by
  refine ⟨fun {ρ d ρ'} h {F σ Hs H} rl {Q} q => ?_⟩
  obtain ⟨x, y, ρ1, e1, e2, e3⟩ := op2_ok h
  refine ⟨_, pe_cmpR (opW _) (peW a) (peW b) hm, v2 ha hb e1 e2 rl fun u v Hs' H' n ru rv => ?_⟩
  exact ho e3 n.rel.sub (.of ru) (.of rv) fun w Hs2 H2 x2 rw => q w Hs2 H2 (n.trans (x2.nxt n.rel)) rw
theorem sim_cmpT {op : CmpOp} {f : D → D → Option D} (ho : OpS X (compareOp op) f) (ha : SimV X S a ma) (hb : SimV X S b mb) (hm : behindInMarks op b = false) : SimT X S (.Compare a [op] [b] pos) (testM (op2 f ma mb)) := by
  refine ⟨fun {ρ c ρ'} h {F σ Hs H} rl {Q} q => ?_⟩
  obtain ⟨x, y, ρ1, e1, e2, e3⟩ := op2_ok (testM_ok h)
  refine ⟨_, pt_cmpR (opW _) (peW a) (peW b) hm, v2 ha hb e1 e2 rl fun u v Hs' H' n ru rv => ?_⟩
  exact ho e3 n.rel.sub (.of ru) (.of rv) fun w Hs2 H2 x2 rw => ⟨c, rw, q Hs2 H2 (n.trans (x2.nxt n.rel))⟩
/-- an expression that gives a truth value, as a test -/
theorem sim_test {e : Expr} {m : EM} (h : SimV X S e m) (he : ∀ whole, isTrue e X.env whole = (do let v ← whole; standAt e.pos; holding [v] (truthy v)) := by intro _; rfl) : SimT X S e (testM m) := by
  refine ⟨fun {ρ c ρ'} hm {F σ Hs H} rl {Q} q => ?_⟩
  refine ⟨_, pt_val (peW e) he, h.run (testM_ok hm) rl fun v Hs' H' n rp => ?_⟩
  cases (show v = .bl c from rp)
  exact ⟨c, rfl, q Hs' H' n⟩
/-! ### not, and, or, if -/
def notM (m : TM) : TM := fun ρ => (m ρ).bind fun c ρ' => .ok (!c) ρ'
def andM (m n : TM) : TM := fun ρ => (m ρ).bind fun c ρ' => match c with
  | true => n ρ'
  | false => .ok false ρ'
def orM (m n : TM) : TM := fun ρ => (m ρ).bind fun c ρ' => match c with
  | true => .ok true ρ'
  | false => n ρ'
def ifM (c : TM) (m n : EM) : EM := fun ρ => (c ρ).bind fun b ρ' => match b with
  | true => m ρ'
  | false => n ρ'
def blM (m : TM) : EM := fun ρ => (m ρ).bind fun c ρ' => .ok (.bl c) ρ'
variable {mc md : TM} {c : Expr} {rest : List Expr}
theorem sim_notT (h : SimT X S a mc) : SimT X S (.UnaryOp .Not a pos) (notM mc) := by
  refine ⟨fun {ρ b ρ'} hm {F σ Hs H} rl {Q} q => ?_⟩
  obtain ⟨x, ρ1, e1, e2⟩ := Res.bind_ok hm
  cases e2
  exact ⟨_, pt_not (ptW a), h.run e1 rl fun Hs' H' n => q Hs' H' n⟩
theorem sim_and1 (h : SimT X S a mc) : SimW X S (.BoolOp .And [a] pos) mc := by
  refine ⟨fun {ρ b ρ'} hm {F σ Hs H} rl {Q} q => ?_⟩
  exact ⟨_, pw_and1 (ptW a), h.run hm rl q⟩
theorem sim_or1 (h : SimT X S a mc) : SimW X S (.BoolOp .Or [a] pos) mc := by
  refine ⟨fun {ρ b ρ'} hm {F σ Hs H} rl {Q} q => ?_⟩
  exact ⟨_, pw_or1 (ptW a), h.run hm rl q⟩
theorem sim_andW (h : SimT X S a mc) (h2 : SimW X S (.BoolOp .And (b :: rest) pos) md) : SimW X S (.BoolOp .And (a :: b :: rest) pos) (andM mc md) := by
  refine ⟨fun {ρ b ρ'} hm {F σ Hs H} rl {Q} q => ?_⟩
  obtain ⟨x, ρ1, e1, e2⟩ := Res.bind_ok hm
  refine ⟨_, pw_and (ptW a) (pwW _), h.run e1 rl fun Hs' H' n => ?_⟩
  cases x with
  | true => rw [if_pos rfl]; exact h2.run e2 n.rel fun Hs2 H2 n2 => q Hs2 H2 (n.trans n2)
  | false => rw [if_neg Bool.false_ne_true]; cases e2; exact q Hs' H' n
theorem sim_orW (h : SimT X S a mc) (h2 : SimW X S (.BoolOp .Or (b :: rest) pos) md) : SimW X S (.BoolOp .Or (a :: b :: rest) pos) (orM mc md) := by
  refine ⟨fun {ρ b ρ'} hm {F σ Hs H} rl {Q} q => ?_⟩
  obtain ⟨x, ρ1, e1, e2⟩ := Res.bind_ok hm
  refine ⟨_, pw_or (ptW a) (pwW _), h.run e1 rl fun Hs' H' n => ?_⟩
  cases x with
  | false => rw [if_neg Bool.false_ne_true]; exact h2.run e2 n.rel fun Hs2 H2 n2 => q Hs2 H2 (n.trans n2)
  | true => rw [if_pos rfl]; cases e2; exact q Hs' H' n
theorem SimW.t (h : SimW X S a mc) : SimT X S a mc := by
  refine ⟨fun {ρ b ρ'} hm {F σ Hs H} rl {Q} q => ?_⟩
  exact ⟨_, (pwW a).pt, h.run hm rl q⟩
/-- .. as values -/
def andV (m n : EM) : EM := fun ρ => (testM m ρ).bind fun c ρ' => match c with
  | true => n ρ'
  | false => .ok (.bl false) ρ'
def orV (m n : EM) : EM := fun ρ => (testM m ρ).bind fun c ρ' => match c with
  | true => .ok (.bl true) ρ'
  | false => n ρ'
def notV (m : EM) : EM := fun ρ => (testM m ρ).bind fun c ρ' => .ok (.bl (!c)) ρ'
theorem sim_oneV {op : BoolOp} (h : SimV X S a ma) : SimV X S (.BoolOp op [a] pos) ma := by
  refine ⟨fun {ρ d ρ'} hm {F σ Hs H} rl {Q} q => ?_⟩
  exact ⟨_, pe_one (peW a), h.run hm rl q⟩
theorem sim_andV (h : SimV X S a ma) (h2 : SimV X S (.BoolOp .And (b :: rest) pos) mb) : SimV X S (.BoolOp .And (a :: b :: rest) pos) (andV ma mb) := by
  refine ⟨fun {ρ d ρ'} hm {F σ Hs H} rl {Q} q => ?_⟩
  obtain ⟨x, ρ1, e1, e2⟩ := Res.bind_ok hm
  refine ⟨_, pe_and (peW a) (peW _), h.run (testM_ok e1) rl fun v Hs' H' n rp => ⟨x, rp, ?_⟩⟩
  cases x with
  | true => rw [if_pos rfl]; exact h2.run e2 n.rel fun v2 Hs2 H2 n2 => q v2 Hs2 H2 (n.trans n2)
  | false => rw [if_neg Bool.false_ne_true]; cases e2; exact q _ Hs' H' n rfl
theorem sim_orV (h : SimV X S a ma) (h2 : SimV X S (.BoolOp .Or (b :: rest) pos) mb) : SimV X S (.BoolOp .Or (a :: b :: rest) pos) (orV ma mb) := by
  refine ⟨fun {ρ d ρ'} hm {F σ Hs H} rl {Q} q => ?_⟩
  obtain ⟨x, ρ1, e1, e2⟩ := Res.bind_ok hm
  refine ⟨_, pe_or (peW a) (peW _), h.run (testM_ok e1) rl fun v Hs' H' n rp => ⟨x, rp, ?_⟩⟩
  cases x with
  | false => rw [if_neg Bool.false_ne_true]; exact h2.run e2 n.rel fun v2 Hs2 H2 n2 => q v2 Hs2 H2 (n.trans n2)
  | true => rw [if_pos rfl]; cases e2; exact q _ Hs' H' n rfl
theorem sim_notV (h : SimV X S a ma) : SimV X S (.UnaryOp .Not a pos) (notV ma) := by
  refine ⟨fun {ρ d ρ'} hm {F σ Hs H} rl {Q} q => ?_⟩
  obtain ⟨x, ρ1, e1, e2⟩ := Res.bind_ok hm
  cases e2
  exact ⟨_, pe_not (peW a), h.run (testM_ok e1) rl fun v Hs' H' n rp => ⟨x, rp, q _ Hs' H' n rfl⟩⟩
theorem sim_ifV (hc : SimT X S c mc) (ha : SimV X S a ma) (hb : SimV X S b mb) : SimV X S (.IfExp c a b pos) (ifM mc ma mb) := by
  refine ⟨fun {ρ d ρ'} hm {F σ Hs H} rl {Q} q => ?_⟩
  obtain ⟨x, ρ1, e1, e2⟩ := Res.bind_ok hm
  refine ⟨_, pe_ifExp (ptW c) (peW a) (peW b), hc.run e1 rl fun Hs' H' n => ?_⟩
  cases x with
  | true => rw [if_pos rfl]; exact ha.run e2 n.rel fun v2 Hs2 H2 n2 => q v2 Hs2 H2 (n.trans n2)
  | false => rw [if_neg Bool.false_ne_true]; exact hb.run e2 n.rel fun v2 Hs2 H2 n2 => q v2 Hs2 H2 (n.trans n2)
end
end Sim

/-! Sim, part 3: operators by values; operands that look at a slot; displays, subscripts, slices, calls of built-ins. -/
namespace Sim
open PySem PySem.Spec PyProof.Rows L2

/-! ### what a slot shows -/
section
variable {G : Gx} {Hs H : Hp} {v : V}
theorem SlotV.int {i : Int} (h : SlotV G Hs H (.int i) v) : v = .int i := h
theorem SlotV.bl {b : Bool} (h : SlotV G Hs H (.bl b) v) : v = .bl b := h
theorem SlotV.str {x : Str} (h : SlotV G Hs H (.str x) v) : v = .str x := h
theorem SlotV.non (h : SlotV G Hs H .non v) : v = .non := h
theorem SlotV.tup {ds : List D} (h : SlotV G Hs H (.tup ds) v) : ∃ a vs, v = .ref a ∧ SqT G.K Hs a vs ∧ RepL G Hs ds vs := h
theorem SlotV.lst {m : Md} {ds : List D} (s : Same Hs H) (h : SlotV G Hs H (.lst m ds) v) : ∃ a vs, v = .ref a ∧ H a = some (.lst vs) ∧ RepL G Hs ds vs := by
  cases m with
  | sh => obtain ⟨_, a, vs, e, q, t⟩ := h.rep rfl; exact ⟨a, vs, e, s _ _ q, t⟩
  | own => obtain ⟨a, vs, e, _, q, t⟩ := h.own rfl; exact ⟨a, vs, e, q, t⟩
  | brw => obtain ⟨a, vs, e, _, q, t⟩ := h.own rfl; exact ⟨a, vs, e, q, t⟩
end

/-! ### data for == -/
mutual
def toPy : D → Option PyData
  | .non => some .none
  | .bl b => some (.bool b)
  | .int i => some (.int i)
  | .str x => some (.str x)
  | .tup ds => match toPys ds with
    | some ps => some (.tuple ps)
    | none => none
  | .lst _ ds => match toPys ds with
    | some ps => some (.list ps)
    | none => none
  | .dct _ _ _ => none
  | .scr _ => none
def toPys : List D → Option (List PyData)
  | [] => some []
  | d :: ds => match toPy d, toPys ds with
    | some p, some ps => some (p :: ps)
    | _, _ => none
end
mutual
theorem rep_dp {G : Gx} {Hs H : Hp} (s : Same Hs H) : ∀ (d : D) (v : V) (p : PyData), Rep G Hs d v → toPy d = some p → Dp G.K H v p
  | .non, _, _, h, e => by cases h; cases e; exact .non
  | .bl b, _, _, h, e => by cases h; cases e; exact .bl b
  | .int i, _, _, h, e => by cases h; cases e; exact .int i
  | .str x, _, _, h, e => by cases h; cases e; exact .str x
  | .tup ds, _, p, h, e => by
    obtain ⟨a, vs, rfl, q, t⟩ := h
    unfold toPy at e
    split at e
    · rename_i ps hp
      cases e
      exact .tup (Same.seqT s q) (reps_dp s ds vs ps t hp)
    · cases e
  | .lst m ds, _, p, h, e => by
    obtain ⟨_, a, vs, rfl, q, t⟩ := h
    unfold toPy at e
    split at e
    · rename_i ps hp
      cases e
      exact .lst (.of (s _ _ q)) (reps_dp s ds vs ps t hp)
    · cases e
  | .dct _ _ _, _, _, _, e => by cases e
  | .scr _, _, _, _, e => by cases e
theorem reps_dp {G : Gx} {Hs H : Hp} (s : Same Hs H) : ∀ (ds : List D) (vs : List V) (ps : List PyData), RepL G Hs ds vs → toPys ds = some ps → DpAll G.K H vs ps
  | [], _, _, h, e => by cases h; cases e; exact .nil
  | d :: ds, _, ps, h, e => by
    obtain ⟨v, r, rfl, h1, h2⟩ := h
    unfold toPys at e
    split at e
    · rename_i p qs hp hq
      cases e
      exact .cons (rep_dp s d v p h1 hp) (reps_dp s ds r qs h2 hq)
    · cases e
end
theorem slot_dp {G : Gx} {Hs H : Hp} (s : Same Hs H) {d : D} {v : V} {p : PyData} (h : SlotV G Hs H d v) (e : toPy d = some p) : Dp G.K H v p := by
  by_cases ho : d.owned = true
  · cases d with
    | lst m ds =>
      obtain ⟨a, vs, rfl, q, t⟩ := h.lst s
      unfold toPy at e
      split at e
      · rename_i ps hp
        cases e
        exact .lst (.of q) (reps_dp s ds vs ps t hp)
      · cases e
    | dct m ks ds => cases e
    | _ => cases ho
  · exact rep_dp s d v p (h.rep (by simpa using ho)) e

/-! ### the operators by data -/
abbrev cap : Nat := 16777216
def addD : D → D → Option D
  | .int i, .int j => some (.int (i + j))
  | .str x, .str y => if x.length + y.length ≤ cap then some (.str (x ++ y)) else none
  | .tup xs, .tup ys => if xs.length + ys.length ≤ cap then some (.tup (xs ++ ys)) else none
  | .lst _ xs, .lst _ ys => if xs.length + ys.length ≤ cap then some (.lst .sh (xs ++ ys)) else none
  | _, _ => none
def subD : D → D → Option D
  | .int i, .int j => some (.int (i - j))
  | _, _ => none
def mulD : D → D → Option D
  | .int i, .int j => if (-18446744073709551616 < i ∧ i < 18446744073709551616) ∨ (-18446744073709551616 < j ∧ j < 18446744073709551616) then some (.int (i * j)) else none
  | .lst _ xs, .int k => if -1000000000 < k ∧ k < 1000000000 ∧ xs.length * k.toNat ≤ cap then some (.lst .sh (List.replicate k.toNat xs).flatten) else none
  | _, _ => none
def fdivD : D → D → Option D
  | .int i, .int j => if 0 < j ∧ j < 1073741824 then some (.int (i / j)) else none
  | _, _ => none
def modD : D → D → Option D
  | .int i, .int j => if 0 < j then some (.int (i % j)) else none
  | _, _ => none
def powD : D → D → Option D
  | .int i, .int j => if 0 ≤ j ∧ j ≤ 1000 ∧ i.natAbs < 18446744073709551616 then some (.int (i ^ j.toNat)) else none
  | _, _ => none
def cmpD (f : Int → Int → Bool) : D → D → Option D
  | .int i, .int j => some (.bl (f i j))
  | _, _ => none
def ltD : D → D → Option D := cmpD fun i j => decide (i < j)
def leD : D → D → Option D := cmpD fun i j => decide (i ≤ j)
def gtD : D → D → Option D := cmpD fun i j => decide (j < i)
def geD : D → D → Option D := cmpD fun i j => decide (j ≤ i)
def eqB : D → D → Option Bool
  | .int i, .int j => some (decide (i = j))
  | .str x, .str y => some (decide (x = y))
  | .bl a, .bl b => some (decide (a = b))
  | .non, .non => some true
  | x, y => match toPy x, toPy y with
    | some p, some q => if SeqAt.shaped p = true ∧ SeqAt.shaped q = true then some (PyData.eqv p q) else none
    | _, _ => none
def eqD (x y : D) : Option D := (eqB x y).map .bl
def neD (x y : D) : Option D := (eqB x y).map fun b => .bl (!b)
def isN : D → Bool
  | .non => true
  | _ => false
def isD (x y : D) : Option D := match y with
  | .non => some (.bl (isN x))
  | _ => none
def isNotD (x y : D) : Option D := match y with
  | .non => some (.bl (!isN x))
  | _ => none
theorem sizeCap : sizeLine = cap := sizeLine_eq
section
variable {X : Cx}
theorem os_add : OpS X (binaryOp .Add) addD := by
  intro x y d e Hs H u v Q s rx ry q
  unfold addD at e
  split at e
  · cases e
    exact ⟨_, op_add, _, _, rx, ry, q _ Hs H (.refl s) rfl⟩
  · split at e
    · cases e
      exact ⟨_, op_add_str, _, _, rx, ry, by rw [sizeCap]; assumption, q _ Hs H (.refl s) rfl⟩
    · cases e
  · split at e
    · rename_i xs ys hz
      cases e
      obtain ⟨a, vs, rfl, t1, r1⟩ := rx.tup
      obtain ⟨b, ws, rfl, t2, r2⟩ := ry.tup
      refine ⟨_, op_catA, a, b, vs, ws, rfl, rfl, Same.seqT s t1, Same.seqT s t2, by rw [sizeCap, ← r1.length, ← r2.length]; exact hz, fun z => ?_, fun _ z => ?_, fun _ _ p hp => ?_⟩
      · subst z
        refine q _ Hs H (.refl s) ⟨b, ws, rfl, t2, ?_⟩
        simpa using r1.append r2
      · subst z
        refine q _ Hs H (.refl s) ⟨a, vs, rfl, t1, ?_⟩
        simpa using r1.append r2
      · refine q _ _ _ (.new s hp _) ⟨p, _, rfl, .inl (.inl upd_same), RepL.mono (same_new (s.free hp)) _ _ (r1.append r2)⟩
    · cases e
  · split at e
    · rename_i m xs m' ys hz
      cases e
      obtain ⟨a, vs, rfl, t1, r1⟩ := rx.lst s
      obtain ⟨b, ws, rfl, t2, r2⟩ := ry.lst s
      refine ⟨_, op_cat, a, b, vs, ws, rfl, rfl, t1, t2, by rw [sizeCap, ← r1.length, ← r2.length]; exact hz, fun p hp => ?_⟩
      exact q _ _ _ (.new s hp _) ⟨rfl, p, _, rfl, upd_same, RepL.mono (same_new (s.free hp)) _ _ (r1.append r2)⟩
    · cases e
  · cases e
theorem os_sub : OpS X (binaryOp .Sub) subD := by
  intro x y d e Hs H u v Q s rx ry q
  unfold subD at e
  split at e
  · cases e
    exact ⟨_, op_sub, _, _, rx, ry, q _ Hs H (.refl s) rfl⟩
  · cases e
theorem RepL.rep {G : Gx} {H : Hp} {ds : List D} {vs : List V} (h : RepL G H ds vs) : ∀ n : Nat, RepL G H (List.replicate n ds).flatten (List.replicate n vs).flatten
  | 0 => rfl
  | n + 1 => by rw [List.replicate_succ, List.replicate_succ, List.flatten_cons, List.flatten_cons]; exact h.append (h.rep n)
theorem os_mul : OpS X (binaryOp .Mult) mulD := by
  intro x y d e Hs H u v Q s rx ry q
  unfold mulD at e
  split at e
  · split at e
    · rename_i h
      cases e
      exact ⟨_, op_mul, _, _, rx, ry, h, q _ Hs H (.refl s) rfl⟩
    · cases e
  · split at e
    · rename_i m xs k hz
      cases e
      obtain ⟨a, vs, rfl, t1, r1⟩ := rx.lst s
      cases ry.int
      refine ⟨_, op_rep, a, k, vs, rfl, rfl, t1, by omega, by omega, by rw [sizeCap, ← r1.length]; exact hz.2.2, fun p hp => ?_⟩
      exact q _ _ _ (.new s hp _) ⟨rfl, p, _, rfl, upd_same, RepL.mono (same_new (s.free hp)) _ _ (r1.rep _)⟩
    · cases e
  · cases e
theorem os_fdiv : OpS X (binaryOp .FloorDiv) fdivD := by
  intro x y d e Hs H u v Q s rx ry q
  unfold fdivD at e
  split at e
  · split at e
    · rename_i h
      cases e
      exact ⟨_, op_fdiv, _, _, rx, ry, h, q _ Hs H (.refl s) rfl⟩
    · cases e
  · cases e
theorem os_mod : OpS X (binaryOp .Mod) modD := by
  intro x y d e Hs H u v Q s rx ry q
  unfold modD at e
  split at e
  · split at e
    · rename_i h
      cases e
      exact ⟨_, op_mod, _, _, rx, ry, h, q _ Hs H (.refl s) rfl⟩
    · cases e
  · cases e
theorem os_pow : OpS X (binaryOp .Pow) powD := by
  intro x y d e Hs H u v Q s rx ry q
  unfold powD at e
  split at e
  · split at e
    · rename_i h
      cases e
      exact ⟨_, op_pow, _, _, rx, ry, ⟨h.1, by omega, h.2.2⟩, q _ Hs H (.refl s) rfl⟩
    · cases e
  · cases e
theorem os_cmp {op : CmpOp} {f : Int → Int → Bool} (ho : OpR X (compareOp op) (rI0 fun i j => .bl (f i j))) : OpS X (compareOp op) (cmpD f) := by
  intro x y d e Hs H u v Q s rx ry q
  unfold cmpD at e
  split at e
  · cases e
    exact ⟨_, ho, _, _, rx, ry, q _ Hs H (.refl s) rfl⟩
  · cases e
theorem os_lt : OpS X (compareOp .Lt) ltD := os_cmp op_lt
theorem os_le : OpS X (compareOp .LtE) leD := os_cmp op_le
theorem os_gt : OpS X (compareOp .Gt) gtD := os_cmp op_gt
theorem os_ge : OpS X (compareOp .GtE) geD := os_cmp op_ge
theorem os_eq0 (hu : X.A.units + 64 < cLine) {x y : D} {b : Bool} (e : eqB x y = some b) {Hs H : Hp} {u v : V} (s : Same Hs H) (rx : SlotV (gx X) Hs H x u) (ry : SlotV (gx X) Hs H y v) :
    (∃ r, OpR X (compareOp .Eq) r ∧ ∀ Q : VK, Q (.bl b) H → r u v H Q) ∧ (∃ r, OpR X (compareOp .NotEq) r ∧ ∀ Q : VK, Q (.bl (!b)) H → r u v H Q) := by
  have dec : ∀ {p r : Prop} [Decidable p] [Decidable r], (p ↔ r) → decide p = decide r := fun h => by
    rw [decide_eq_decide]; exact h
  unfold eqB at e
  split at e
  · cases e
    cases rx.int; cases ry.int
    refine ⟨⟨_, op_eq, fun Q q => ⟨rfl, ?_⟩⟩, ⟨_, op_ne, fun Q q => ⟨rfl, ?_⟩⟩⟩
    · rw [dec (show V.int _ = V.int _ ↔ _ from ⟨fun h => V.int.inj h, fun h => by rw [h]⟩)]; exact q
    · rw [dec (show V.int _ = V.int _ ↔ _ from ⟨fun h => V.int.inj h, fun h => by rw [h]⟩)]; exact q
  · cases e
    cases rx.str; cases ry.str
    refine ⟨⟨_, op_eq, fun Q q => ⟨rfl, ?_⟩⟩, ⟨_, op_ne, fun Q q => ⟨rfl, ?_⟩⟩⟩
    · rw [dec (show V.str _ = V.str _ ↔ _ from ⟨fun h => V.str.inj h, fun h => by rw [h]⟩)]; exact q
    · rw [dec (show V.str _ = V.str _ ↔ _ from ⟨fun h => V.str.inj h, fun h => by rw [h]⟩)]; exact q
  · cases e
    cases rx.bl; cases ry.bl
    refine ⟨⟨_, op_eq, fun Q q => ⟨rfl, ?_⟩⟩, ⟨_, op_ne, fun Q q => ⟨rfl, ?_⟩⟩⟩
    · rw [dec (show V.bl _ = V.bl _ ↔ _ from ⟨fun h => V.bl.inj h, fun h => by rw [h]⟩)]; exact q
    · rw [dec (show V.bl _ = V.bl _ ↔ _ from ⟨fun h => V.bl.inj h, fun h => by rw [h]⟩)]; exact q
  · cases e
    cases rx.non; cases ry.non
    exact ⟨⟨_, op_eq, fun Q q => ⟨rfl, q⟩⟩, ⟨_, op_ne, fun Q q => ⟨rfl, q⟩⟩⟩
  · split at e
    · rename_i p q' hp hq
      split at e
      · rename_i hs
        cases e
        exact ⟨⟨_, op_eqD hu, fun Q q => ⟨p, q', slot_dp s rx hp, slot_dp s ry hq, hs.1, hs.2, q⟩⟩, ⟨_, op_neD hu, fun Q q => ⟨p, q', slot_dp s rx hp, slot_dp s ry hq, hs.1, hs.2, q⟩⟩⟩
      · cases e
    · cases e
theorem os_eq (hu : X.A.units + 64 < cLine) : OpS X (compareOp .Eq) eqD := by
  intro x y d e Hs H u v Q s rx ry q
  obtain ⟨b, eb, rfl⟩ := Option.map_eq_some_iff.mp e
  obtain ⟨⟨r, hr, h⟩, _⟩ := os_eq0 hu eb s rx ry
  exact ⟨r, hr, h Q (q _ Hs H (.refl s) rfl)⟩
theorem os_ne (hu : X.A.units + 64 < cLine) : OpS X (compareOp .NotEq) neD := by
  intro x y d e Hs H u v Q s rx ry q
  obtain ⟨b, eb, rfl⟩ := Option.map_eq_some_iff.mp e
  obtain ⟨_, ⟨r, hr, h⟩⟩ := os_eq0 hu eb s rx ry
  exact ⟨r, hr, h Q (q _ Hs H (.refl s) rfl)⟩
theorem isN_of {G : Gx} {Hs H : Hp} {d : D} {u : V} (h : SlotV G Hs H d u) : decide (u = .non) = isN d := by
  by_cases ho : d.owned = true
  · obtain ⟨a, o, rfl, _, _⟩ := (h.own ho).ref
    cases d <;> first | rfl | cases ho
  · have h' := h.rep (by simpa using ho)
    cases d with
    | non => cases h'; rfl
    | bl b => cases h'; rfl
    | int b => cases h'; rfl
    | str b => cases h'; rfl
    | tup ds => obtain ⟨a, vs, rfl, _⟩ := h'; rfl
    | lst m ds => obtain ⟨_, a, vs, rfl, _⟩ := h'; rfl
    | dct m ks ds => obtain ⟨_, a, rfl, _⟩ := h'; rfl
    | scr ns => obtain ⟨a, rfl, _⟩ := h'; rfl
theorem os_is : OpS X (compareOp .Is) isD := by
  intro x y d e Hs H u v Q s rx ry q
  unfold isD at e
  split at e
  · cases e
    cases ry.non
    refine ⟨_, op_isN, rfl, ?_⟩
    rw [isN_of rx]
    exact q _ Hs H (.refl s) rfl
  · cases e
theorem os_isNot : OpS X (compareOp .IsNot) isNotD := by
  intro x y d e Hs H u v Q s rx ry q
  unfold isNotD at e
  split at e
  · cases e
    cases ry.non
    refine ⟨_, op_notN, rfl, ?_⟩
    rw [isN_of rx]
    exact q _ Hs H (.refl s) rfl
  · cases e
end
end Sim

/-! Sim, part 4: operands that look at a slot; displays, subscripts, slices, calls of built-ins. -/
namespace Sim
open PySem PySem.Spec PyProof.Rows L2

/-! ### operands: a shared value, or a slot that is looked at when the operation is done -/
abbrev PD := Sum D Nat
abbrev PM := Rho → Res PD
def res (p : PD) (ρ : Rho) : Option D := match p with
  | .inl d => some d
  | .inr i => match ρ[i]? with
    | some (some d) => some d
    | _ => none
def PVal (G : Gx) (Hs : Hp) (σ : L2.St) (p : PD) (v : V) : Prop := match p with
  | .inl d => Rep G Hs d v
  | .inr i => σ[i]? = some (some v)
theorem PVal.mono {G : Gx} {Hs Hs' : Hp} {σ : L2.St} {p : PD} {v : V} (s : Same Hs Hs') (h : PVal G Hs σ p v) : PVal G Hs' σ p v := by
  cases p with
  | inl d => exact Rep.mono s _ _ h
  | inr i => exact h
theorem PVal.look {G : Gx} {S : Sc} {F : Fm} {Hs H : Hp} {ρ : Rho} {σ : L2.St} {p : PD} {v : V} {d : D} (r : Rel G S F Hs H ρ σ) (h : PVal G Hs σ p v) (e : res p ρ = some d) : SlotV G Hs H d v := by
  cases p with
  | inl d' => cases e; exact .of h
  | inr i =>
    unfold res at e
    simp only at e
    split at e
    · rename_i d' he
      cases e
      obtain ⟨w, ew, sw⟩ := r.slot i _ he
      rw [show σ[i]? = some (some v) from h] at ew
      cases ew
      exact sw
    · cases e
structure SimP (X : Cx) (S : Sc) (e : Expr) (m : PM) : Prop where
  run : ∀ {ρ : Rho} {p : PD} {ρ' : Rho}, m ρ = .ok p ρ' → ∀ {F : Fm} {σ : L2.St} {Hs H : Hp}, Rel (gx X) S F Hs H ρ σ → ∀ {Q : VK},
    (∀ v Hs' H', Nxt (gx X) S F ρ σ Hs H ρ' σ Hs' H' → PVal (gx X) Hs' σ p v → Q v H') → WE X e σ H Q
def PVals (G : Gx) (Hs : Hp) (σ : L2.St) : List PD → List V → Prop := Paired (PVal G Hs σ)
structure SimPA (X : Cx) (S : Sc) (es : List Expr) (m : Rho → Res (List PD)) : Prop where
  run : ∀ {ρ : Rho} {ps : List PD} {ρ' : Rho}, m ρ = .ok ps ρ' → ∀ {F : Fm} {σ : L2.St} {Hs H : Hp}, Rel (gx X) S F Hs H ρ σ → ∀ {Q : List V → Hp → Prop},
    (∀ vs Hs' H', Nxt (gx X) S F ρ σ Hs H ρ' σ Hs' H' → Paired (PVal (gx X) Hs' σ) ps vs → Q vs H') → WA X es σ H Q
def peekM (i : Nat) : PM := fun ρ => match ρ[i]? with
  | some (some _) => .ok (.inr i) ρ
  | _ => .fail
def vP (m : EM) : PM := fun ρ => (m ρ).bind fun d ρ' => .ok (.inl d) ρ'
def opP (f : D → D → Option D) (ma mb : PM) : EM := fun ρ => (ma ρ).bind fun p ρ1 => (mb ρ1).bind fun q ρ2 => match res p ρ2, res q ρ2 with
  | some x, some y => pureO (f x y) ρ2
  | _, _ => .fail
section
variable {X : Cx} {S : Sc}
theorem sim_peek (i : Nat) {x : Str} {pos : Pos} (hN : X.N[i]? = some x := by rfl) (hv : Vis X.env.scope x := by first | exact Or.inl rfl | exact Or.inr (Or.inl rfl) | exact Or.inr (Or.inr rfl))
    (hd : (x == ("__debug__" : Str)) = false := by decide) (hcd : (x == ("__classdict__" : Str)) = false := by decide) : SimP X S (.Name x pos) (peekM i) := by
  refine ⟨fun {ρ p ρ'} h {F σ Hs H} r {Q} q => ?_⟩
  unfold peekM at h
  split at h
  · rename_i e he
    cases h
    obtain ⟨v, ev, sv⟩ := r.slot i e he
    exact ⟨_, pe_var hN hv hd hcd, v, ev, q v Hs H (.refl r) ev⟩
  · cases h
theorem SimV.p {e : Expr} {m : EM} (h : SimV X S e m) : SimP X S e (vP m) := by
  refine ⟨fun {ρ p ρ'} hm {F σ Hs H} r {Q} q => ?_⟩
  obtain ⟨d, ρ1, e1, e2⟩ := Res.bind_ok hm
  cases e2
  exact h.run e1 r fun v Hs' H' n rp => q v Hs' H' n rp
variable {a b : Expr} {ma mb : PM} {pos : Pos}
theorem p2 (ha : SimP X S a ma) (hb : SimP X S b mb) {ρ ρ1 ρ2 : Rho} {p q : PD} {x y : D} (ea : ma ρ = .ok p ρ1) (eb : mb ρ1 = .ok q ρ2) (ex : res p ρ2 = some x) (ey : res q ρ2 = some y) {F : Fm} {σ : L2.St} {Hs H : Hp} (r : Rel (gx X) S F Hs H ρ σ) {R : V → V → Hp → Prop}
    (h : ∀ u v Hs' H', Nxt (gx X) S F ρ σ Hs H ρ2 σ Hs' H' → SlotV (gx X) Hs' H' x u → SlotV (gx X) Hs' H' y v → R u v H') : WE X a σ H fun u H1 => WE X b σ H1 fun v H2 => R u v H2 :=
  ha.run ea r fun u Hs1 H1 n1 r1 => hb.run eb n1.rel fun v Hs2 H2 n2 r2 => h u v Hs2 H2 (n1.trans n2) ((r1.mono n2.same).look n2.rel ex) (r2.look n2.rel ey)
theorem opP_ok {f : D → D → Option D} {ρ ρ' : Rho} {d : D} (h : opP f ma mb ρ = .ok d ρ') : ∃ p q x y ρ1, ma ρ = .ok p ρ1 ∧ mb ρ1 = .ok q ρ' ∧ res p ρ' = some x ∧ res q ρ' = some y ∧ f x y = some d := by
  obtain ⟨p, ρ1, e1, h⟩ := Res.bind_ok h
  obtain ⟨q, ρ2, e2, h⟩ := Res.bind_ok h
  split at h
  · rename_i x y hx hy
    obtain ⟨e3, rfl⟩ := pureO_ok h
    exact ⟨p, q, x, y, ρ1, e1, e2, hx, hy, e3⟩
  · cases h
theorem sim_binP {op : Operator} {f : D → D → Option D} (ho : OpS X (binaryOp op) f) (ha : SimP X S a ma) (hb : SimP X S b mb) : SimV X S (.BinOp a op b pos) (opP f ma mb) := by
  refine ⟨fun {ρ d ρ'} hm {F σ Hs H} rl {Q} q => ?_⟩
  obtain ⟨p, p', x, y, ρ1, e1, e2, ex, ey, e3⟩ := opP_ok hm
  refine ⟨_, pe_op (opW _) (peW a) (peW b), p2 ha hb e1 e2 ex ey rl fun u v Hs' H' n ru rv => ?_⟩
  exact ho e3 n.rel.sub ru rv fun w Hs2 H2 x2 rw => q w Hs2 H2 (n.trans (x2.nxt n.rel)) rw
theorem sim_cmpP {op : CmpOp} {f : D → D → Option D} (ho : OpS X (compareOp op) f) (ha : SimP X S a ma) (hb : SimP X S b mb) (hm : behindInMarks op b = false) : SimV X S (.Compare a [op] [b] pos) (opP f ma mb) := by
  refine ⟨fun {ρ d ρ'} h {F σ Hs H} rl {Q} q => ?_⟩
  obtain ⟨p, p', x, y, ρ1, e1, e2, ex, ey, e3⟩ := opP_ok h
  refine ⟨_, pe_cmpR (opW _) (peW a) (peW b) hm, p2 ha hb e1 e2 ex ey rl fun u v Hs' H' n ru rv => ?_⟩
  exact ho e3 n.rel.sub ru rv fun w Hs2 H2 x2 rw => q w Hs2 H2 (n.trans (x2.nxt n.rel)) rw
theorem sim_cmpPT {op : CmpOp} {f : D → D → Option D} (ho : OpS X (compareOp op) f) (ha : SimP X S a ma) (hb : SimP X S b mb) (hm : behindInMarks op b = false) : SimT X S (.Compare a [op] [b] pos) (testM (opP f ma mb)) := by
  refine ⟨fun {ρ c ρ'} h {F σ Hs H} rl {Q} q => ?_⟩
  obtain ⟨p, p', x, y, ρ1, e1, e2, ex, ey, e3⟩ := opP_ok (testM_ok h)
  refine ⟨_, pt_cmpR (opW _) (peW a) (peW b) hm, p2 ha hb e1 e2 ex ey rl fun u v Hs' H' n ru rv => ?_⟩
  exact ho e3 n.rel.sub ru rv fun w Hs2 H2 x2 rw => ⟨c, rw, q Hs2 H2 (n.trans (x2.nxt n.rel))⟩
/-! ### unary -/
def negD : D → Option D
  | .int i => some (.int (-i))
  | _ => none
def op1 (f : D → Option D) (ma : EM) : EM := fun ρ => (ma ρ).bind fun x ρ1 => pureO (f x) ρ1
theorem sim_neg {m : EM} (ha : SimV X S a m) : SimV X S (.UnaryOp .USub a pos) (op1 negD m) := by
  refine ⟨fun {ρ d ρ'} h {F σ Hs H} rl {Q} q => ?_⟩
  obtain ⟨x, ρ1, e1, e2⟩ := Res.bind_ok h
  obtain ⟨e3, rfl⟩ := pureO_ok e2
  unfold negD at e3
  split at e3
  · cases e3
    exact ⟨_, pe_un un_neg (peW a), ha.run e1 rl fun v Hs' H' n rp => ⟨_, rp, q _ Hs' H' n rfl⟩⟩
  · cases e3

/-! ### argument lists, displays -/
def nilA : AM := fun ρ => .ok [] ρ
def consA (m : EM) (n : AM) : AM := fun ρ => (m ρ).bind fun d ρ1 => (n ρ1).bind fun ds ρ2 => .ok (d :: ds) ρ2
variable {e : Expr} {es : List Expr} {me : EM} {mes : AM}
theorem sim_nil : SimA X S [] nilA := by
  refine ⟨fun {ρ ds ρ'} h {F σ Hs H} rl {Q} q => ?_⟩
  cases h
  exact ⟨_, pa_nil, q [] Hs H (.refl rl) rfl⟩
theorem sim_cons (h1 : SimV X S e me) (h2 : SimA X S es mes) (hs : starEach (e :: es) X.env = (false, eval e X.env) :: starEach es X.env := by rfl) : SimA X S (e :: es) (consA me mes) := by
  refine ⟨fun {ρ ds ρ'} h {F σ Hs H} rl {Q} q => ?_⟩
  obtain ⟨d, ρ1, e1, h⟩ := Res.bind_ok h
  obtain ⟨ds', ρ2, e2, h⟩ := Res.bind_ok h
  cases h
  refine ⟨_, pa_cons (peW e) (paW es) hs, h1.run e1 rl fun v Hs1 H1 n1 r1 => h2.run e2 n1.rel fun vs Hs2 H2 n2 r2 => q _ Hs2 H2 (n1.trans n2) (.cons (Rep.mono n2.same _ _ r1) r2)⟩
def nilP : Rho → Res (List PD) := fun ρ => .ok [] ρ
def consP (m : PM) (n : Rho → Res (List PD)) : Rho → Res (List PD) := fun ρ => (m ρ).bind fun d ρ1 => (n ρ1).bind fun ds ρ2 => .ok (d :: ds) ρ2
variable {mp : PM} {mps : Rho → Res (List PD)}
theorem sim_nilP : SimPA X S [] nilP := by
  refine ⟨fun {ρ ds ρ'} h {F σ Hs H} rl {Q} q => ?_⟩
  cases h
  exact ⟨_, pa_nil, q [] Hs H (.refl rl) .nil⟩
theorem sim_consP (h1 : SimP X S e mp) (h2 : SimPA X S es mps) (hs : starEach (e :: es) X.env = (false, eval e X.env) :: starEach es X.env := by rfl) : SimPA X S (e :: es) (consP mp mps) := by
  refine ⟨fun {ρ ds ρ'} h {F σ Hs H} rl {Q} q => ?_⟩
  obtain ⟨d, ρ1, e1, h⟩ := Res.bind_ok h
  obtain ⟨ds', ρ2, e2, h⟩ := Res.bind_ok h
  cases h
  refine ⟨_, pa_cons (peW e) (paW es) hs, h1.run e1 rl fun v Hs1 H1 n1 r1 => h2.run e2 n1.rel fun vs Hs2 H2 n2 r2 => q _ Hs2 H2 (n1.trans n2) (.cons (r1.mono n2.same) r2)⟩
def tupM (m : AM) : EM := fun ρ => (m ρ).bind fun ds ρ1 => if ds.length ≤ cap then .ok (.tup ds) ρ1 else .fail
def lstM (m : AM) : EM := fun ρ => (m ρ).bind fun ds ρ1 => if ds.length ≤ cap then .ok (.lst .own ds) ρ1 else .fail
theorem sim_tup {x1 : Nat} (h : SimA X S es mes) : SimV X S (.Tuple es x1 pos) (tupM mes) := by
  refine ⟨fun {ρ d ρ'} hm {F σ Hs H} rl {Q} q => ?_⟩
  obtain ⟨ds, ρ1, e1, hm⟩ := Res.bind_ok hm
  split at hm
  · rename_i hz
    cases hm
    refine ⟨_, pe_tup (paW es), h.run e1 rl fun vs Hs' H' n r => ⟨by rw [sizeCap, ← r.length]; exact hz, fun p hp => ?_⟩⟩
    exact q _ _ _ (n.trans (n.rel.newSh hp _)) ⟨p, vs, rfl, .inl (.inl upd_same), RepL.mono (same_new (n.rel.sub.free hp)) _ _ r⟩
  · cases hm
theorem Rel.notOwn {G : Gx} {F : Fm} {Hs H : Hp} {ρ : Rho} {σ : L2.St} {b : Addr} (r : Rel G S F Hs H ρ σ) (h : H b = none) : ¬ Own ρ σ b := fun z => by
  obtain ⟨_, o, q⟩ := r.ownAt z
  rw [h] at q; cases q
theorem Nxt.unn {G : Gx} {F : Fm} {Hs H Hs' H' : Hp} {ρ ρ' : Rho} {σ σ' : L2.St} {b : Addr} (n : Nxt G S F ρ σ Hs H ρ' σ' Hs' H') (h : H' b = none) : H b = none := by
  cases e : H b with
  | none => rfl
  | some o => exact absurd h (n.dom b (by rw [e]; exact fun z => by cases z))
theorem sim_lst (h : SimA X S es mes) : SimE X S (.List es pos) (lstM mes) := by
  refine ⟨fun {ρ d ρ'} hm {F σ Hs H} rl {Q} q => ?_⟩
  obtain ⟨ds, ρ1, e1, hm⟩ := Res.bind_ok hm
  split at hm
  · rename_i hz
    cases hm
    refine ⟨_, pe_lst (paW es), h.run e1 rl fun vs Hs' H' n r => ⟨by rw [sizeCap, ← r.length]; exact hz, fun p hp => ?_⟩⟩
    refine q _ _ _ (n.trans (n.rel.newOwn hp _)) (.ofOwn ⟨p, vs, rfl, n.rel.sub.free hp, upd_same, r⟩ rfl) fun _ a e => ?_
    cases e
    exact ⟨n.unn hp, n.rel.notOwn hp⟩
  · cases hm

/-! ### subscripts -/
def cutG {α : Type} (xs : List α) (lo hi : Option Int) : List α := (xs.drop (HT.sIx xs.length 0 lo)).take (HT.sIx xs.length xs.length hi - HT.sIx xs.length 0 lo)
def IxS (X : Cx) (f : D → D → Option D) : Prop :=
  ∀ {x y d : D}, f x y = some d → ∀ {Hs H : Hp} {u v : V} {Q : VK}, Same Hs H → SlotV (gx X) Hs H x u → SlotV (gx X) Hs H y v → Gives (gx X) Hs H d Q → WIx X u v H Q
theorem sim_ix {f : D → D → Option D} (hf : IxS X f) (ha : SimP X S a ma) (hb : SimP X S b mb) (hs : PlainIx b := by exact fun _ _ => rfl) : SimV X S (.Subscript a b pos) (opP f ma mb) := by
  refine ⟨fun {ρ d ρ'} h {F σ Hs H} rl {Q} q => ?_⟩
  obtain ⟨p, p', x, y, ρ1, e1, e2, ex, ey, e3⟩ := opP_ok h
  refine ⟨_, pe_ix ixW (peW a) (peW b) hs, p2 ha hb e1 e2 ex ey rl fun u v Hs' H' n ru rv => ?_⟩
  exact hf e3 n.rel.sub ru rv fun w Hs2 H2 x2 rw => q w Hs2 H2 (n.trans (x2.nxt n.rel)) rw
theorem RepL.atI {G : Gx} {H : Hp} {ds : List D} {vs : List V} {i : Int} {d : D} (h : RepL G H ds vs) (e : atI ds i = some d) : ∃ v, L2.atI vs i = some v ∧ Rep G H d v := by
  unfold L2.atI at e ⊢
  rw [← h.length]
  cases q : ixN ds.length i with
  | none => rw [q] at e; cases e
  | some j =>
    rw [q] at e
    exact h.get e
/-- items of lists, tuples, texts (dicts: part 6) -/
def ixD : D → D → Option D
  | .tup ds, .int i => atI ds i
  | .lst _ ds, .int i => atI ds i
  | .scr ns, .int i => (atI ns i).map .int
  | .str z, .int i => if z.length ≤ cap then (atI z.cps.toList i).map fun c => .str ⟨#[c]⟩ else none
  | _, _ => none
theorem is_ix : IxS X ixD := by
  intro x y d e Hs H u v Q s rx ry q
  unfold ixD at e
  split at e
  · obtain ⟨a, vs, rfl, t, r⟩ := rx.tup
    cases ry.int
    obtain ⟨w, ew, rw'⟩ := r.atI e
    exact ⟨_, ix_tup, a, vs, _, w, rfl, rfl, Same.seqT s t, ew, q _ Hs H (.refl s) rw'⟩
  · obtain ⟨a, vs, rfl, t, r⟩ := rx.lst s
    cases ry.int
    obtain ⟨w, ew, rw'⟩ := r.atI e
    exact ⟨_, ix_list, a, vs, _, w, rfl, rfl, .of t, ew, q _ Hs H (.refl s) rw'⟩
  · obtain ⟨n, en, rfl⟩ := Option.map_eq_some_iff.mp e
    obtain ⟨a, rfl, t⟩ := rx
    cases ry.int
    refine ⟨_, ix_list, a, _, _, .int n, rfl, rfl, s.seq t, ?_, q _ Hs H (.refl s) rfl⟩
    unfold L2.atI at en ⊢
    rw [List.length_map]
    obtain ⟨j, ej, en⟩ := Option.bind_eq_some_iff.mp en
    rw [ej]
    show (List.map V.int _)[j]? = _
    rw [List.getElem?_map, en]
    rfl
  · split at e
    · rename_i hz
      obtain ⟨c, ec, rfl⟩ := Option.map_eq_some_iff.mp e
      cases rx.str
      cases ry.int
      exact ⟨_, ix_str, _, _, c, rfl, rfl, by rw [sizeCap]; exact hz, ec, q _ Hs H (.refl s) rfl⟩
    · cases e
  · cases e

/-! ### slices -/
def WO (X : Cx) (e : Option Expr) : TO := fun σ H Q => ∃ t, PO X e t ∧ t σ H Q
theorem poW (e : Option Expr) : PO X e (WO X e) := ⟨fun pins s σ H Q I ⟨_, h, q⟩ => h.run pins s σ H Q I q⟩
structure SimO (X : Cx) (S : Sc) (e : Option Expr) (m : Rho → Res (Option Int)) : Prop where
  run : ∀ {ρ : Rho} {o : Option Int} {ρ' : Rho}, m ρ = .ok o ρ' → ∀ {F : Fm} {σ : L2.St} {Hs H : Hp}, Rel (gx X) S F Hs H ρ σ → ∀ {Q : Option Int → Hp → Prop},
    (∀ Hs' H', Nxt (gx X) S F ρ σ Hs H ρ' σ Hs' H' → Q o H') → WO X e σ H Q
def noO : Rho → Res (Option Int) := fun ρ => .ok none ρ
def someO (m : EM) : Rho → Res (Option Int) := fun ρ => (m ρ).bind fun d ρ1 => match d with
  | .int i => .ok (some i) ρ1
  | _ => .fail
theorem sim_noO : SimO X S none noO := by
  refine ⟨fun {ρ d ρ'} h {F σ Hs H} rl {Q} q => ?_⟩
  cases h
  exact ⟨_, po_none, q Hs H (.refl rl)⟩
theorem sim_someO (h1 : SimV X S e me) : SimO X S (some e) (someO me) := by
  refine ⟨fun {ρ o ρ'} h {F σ Hs H} rl {Q} q => ?_⟩
  obtain ⟨d, ρ1, e1, h⟩ := Res.bind_ok h
  split at h
  · cases h
    exact ⟨_, po_some (peW e), h1.run e1 rl fun v Hs1 H1 n1 r1 => ⟨_, r1, q Hs1 H1 n1⟩⟩
  · cases h
def sliceD : D → Option Int → Option Int → Option D
  | .tup ds, lo, hi => some (.tup (cutG ds lo hi))
  | .lst _ ds, lo, hi => some (.lst .sh (cutG ds lo hi))
  | _, _, _ => none
def sliceM (m : PM) (ml mh : Rho → Res (Option Int)) : EM := fun ρ => (m ρ).bind fun p ρ1 => (ml ρ1).bind fun lo ρ2 => (mh ρ2).bind fun hi ρ3 => match res p ρ3 with
  | some x => pureO (sliceD x lo hi) ρ3
  | none => .fail
theorem RepL.cut {G : Gx} {H : Hp} {ds : List D} {vs : List V} (h : RepL G H ds vs) (lo hi : Option Int) : RepL G H (cutG ds lo hi) (cutV vs lo hi) := by
  unfold cutG cutV
  rw [← h.length]
  exact (h.drop _).take _
theorem cutV_whole {xs : List V} {lo hi : Option Int} (h : HT.sIx xs.length 0 lo = 0 ∧ HT.sIx xs.length xs.length hi = xs.length) : cutV xs lo hi = xs := by
  unfold cutV
  rw [h.1, h.2]
  simp
theorem sim_slice {lo hi : Option Expr} {ml mh : Rho → Res (Option Int)} {p2 : Pos} (ha : SimP X S a ma) (hl : SimO X S lo ml) (hh : SimO X S hi mh) : SimV X S (.Subscript a (.Slice lo hi none p2) pos) (sliceM ma ml mh) := by
  refine ⟨fun {ρ d ρ'} h {F σ Hs H} rl {Q} q => ?_⟩
  obtain ⟨p, ρ1, e1, h⟩ := Res.bind_ok h
  obtain ⟨l, ρ2, e2, h⟩ := Res.bind_ok h
  obtain ⟨u, ρ3, e3, h⟩ := Res.bind_ok h
  split at h
  · rename_i x hx
    obtain ⟨e4, rfl⟩ := pureO_ok h
    refine ⟨_, pe_slice slW (peW a) (poW lo) (poW hi), ha.run e1 rl fun v Hs1 H1 n1 r1 => hl.run e2 n1.rel fun Hs2 H2 n2 => hh.run e3 n2.rel fun Hs3 H3 n3 => ?_⟩
    have n := (n1.trans n2).trans n3
    have sx := (r1.mono (n2.same.trans n3.same)).look n3.rel hx
    unfold sliceD at e4
    split at e4
    · cases e4
      obtain ⟨b, vs, rfl, t, r⟩ := sx.tup
      refine ⟨_, sl_tupA, b, vs, rfl, Same.seqT n.rel.sub t, fun z => ?_, fun _ p hp => ?_⟩
      · exact q _ _ _ n ⟨b, vs, rfl, t, by have := r.cut l u; rwa [cutV_whole z] at this⟩
      · exact q _ _ _ (n.trans (n.rel.newSh hp _)) ⟨p, _, rfl, .inl (.inl upd_same), RepL.mono (same_new (n.rel.sub.free hp)) _ _ (r.cut l u)⟩
    · cases e4
      obtain ⟨b, vs, rfl, t, r⟩ := sx.lst n.rel.sub
      refine ⟨_, sl_list, b, vs, rfl, .of t, fun p hp => ?_⟩
      exact q _ _ _ (n.trans (n.rel.newSh hp _)) ⟨rfl, p, _, rfl, upd_same, RepL.mono (same_new (n.rel.sub.free hp)) _ _ (r.cut l u)⟩
    · cases e4
  · cases h

/-! ### calls of built-ins -/
/-- what comes may be new and held by nobody -/
def GivesE (G : Gx) (Hs H : Hp) (d : D) (Q : VK) : Prop := ∀ w Hs' H', Ext Hs H Hs' H' → SlotV G Hs' H' d w → (d.owned = true → ∀ a, w = .ref a → H a = none) → Q w H'
def SlotVs (G : Gx) (Hs H : Hp) : List D → List V → Prop := Paired (SlotV G Hs H)
def CallS (X : Cx) (fn : Value) (f : List D → Option D) : Prop :=
  ∀ {ds : List D} {d : D}, f ds = some d → ∀ {Hs H : Hp} {vs : List V} {Q : VK}, Same Hs H → Paired (SlotV (gx X) Hs H) ds vs → GivesE (gx X) Hs H d Q → WCall X fn vs H Q
def CallV (X : Cx) (fn : Value) (f : List D → Option D) : Prop :=
  ∀ {ds : List D} {d : D}, f ds = some d → ∀ {Hs H : Hp} {vs : List V} {Q : VK}, Same Hs H → Paired (SlotV (gx X) Hs H) ds vs → Gives (gx X) Hs H d Q → WCall X fn vs H Q
def resL (ps : List PD) (ρ : Rho) : Option (List D) := match ps with
  | [] => some []
  | p :: ps => match res p ρ, resL ps ρ with
    | some d, some ds => some (d :: ds)
    | _, _ => none
theorem resL_look {G : Gx} {F : Fm} {Hs H : Hp} {ρ : Rho} {σ : L2.St} (r : Rel G S F Hs H ρ σ) : ∀ {ps : List PD} {vs : List V} {ds : List D}, Paired (PVal G Hs σ) ps vs → resL ps ρ = some ds → Paired (SlotV G Hs H) ds vs
  | _, _, _, .nil, e => by cases e; exact .nil
  | p :: ps, v :: vs, ds, .cons h t, e => by
    unfold resL at e
    split at e
    · rename_i d ds' hd hds
      cases e
      exact .cons (h.look r hd) (resL_look r t hds)
    · cases e
def callM (f : List D → Option D) (m : Rho → Res (List PD)) : EM := fun ρ => (m ρ).bind fun ps ρ1 => match resL ps ρ1 with
  | some ds => pureO (f ds) ρ1
  | none => .fail
theorem callM_ok {f : List D → Option D} {ρ ρ' : Rho} {d : D} (h : callM f mps ρ = .ok d ρ') : ∃ ps ds, mps ρ = .ok ps ρ' ∧ resL ps ρ' = some ds ∧ f ds = some d := by
  obtain ⟨ps, ρ1, e1, h⟩ := Res.bind_ok h
  split at h
  · rename_i ds hds
    obtain ⟨e2, rfl⟩ := pureO_ok h
    exact ⟨ps, ds, e1, hds, e2⟩
  · cases h
variable {x : Str} {p0 : Pos} {id T : String} {f : List D → Option D}
theorem sim_callB (hf : CallV X (.builtin id) f) (hg : Gl X x) (hm : X.mg x = none) (hv : bootBuiltins x = some (.builtin id)) (ha : SimPA X S (e :: es) mps) (hn : x ≠ "__name__" := by decide) (hdb : (x == ("__debug__" : Str)) = false := by decide)
    (he : starEach (e :: es) X.env = (false, eval e X.env) :: starEach es X.env := by rfl) (hpl : (backTo pos (starEach es X.env)).any (·.1) = false := by rfl) : SimV X S (.Call (.Name x p0) (e :: es) [] pos) (callM f mps) := by
  refine ⟨fun {ρ d ρ'} h {F σ Hs H} rl {Q} q => ?_⟩
  obtain ⟨ps, ds, e1, e2, e3⟩ := callM_ok h
  refine ⟨_, pe_callB (callW _) hg hm hv (paW (e :: es)) hn hdb he hpl, ha.run e1 rl fun vs Hs' H' n r => ?_⟩
  exact hf e3 n.rel.sub (resL_look n.rel r e2) fun w Hs2 H2 x2 rw => q w Hs2 H2 (n.trans (x2.nxt n.rel)) rw
theorem sim_callTy (hf : CallV X (.type T) f) (hg : Gl X x) (hm : X.mg x = none) (hv : bootBuiltins x = some (.type T)) (ha : SimPA X S (e :: es) mps) (hn : x ≠ "__name__" := by decide) (hdb : (x == ("__debug__" : Str)) = false := by decide)
    (he : starEach (e :: es) X.env = (false, eval e X.env) :: starEach es X.env := by rfl) (hpl : (backTo pos (starEach es X.env)).any (·.1) = false := by rfl) : SimV X S (.Call (.Name x p0) (e :: es) [] pos) (callM f mps) := by
  refine ⟨fun {ρ d ρ'} h {F σ Hs H} rl {Q} q => ?_⟩
  obtain ⟨ps, ds, e1, e2, e3⟩ := callM_ok h
  refine ⟨_, pe_callTy (callW _) hg hm hv (paW (e :: es)) hn hdb he hpl, ha.run e1 rl fun vs Hs' H' n r => ?_⟩
  exact hf e3 n.rel.sub (resL_look n.rel r e2) fun w Hs2 H2 x2 rw => q w Hs2 H2 (n.trans (x2.nxt n.rel)) rw
theorem sim_callBE (hf : CallS X (.builtin id) f) (hg : Gl X x) (hm : X.mg x = none) (hv : bootBuiltins x = some (.builtin id)) (ha : SimPA X S (e :: es) mps) (hn : x ≠ "__name__" := by decide) (hdb : (x == ("__debug__" : Str)) = false := by decide)
    (he : starEach (e :: es) X.env = (false, eval e X.env) :: starEach es X.env := by rfl) (hpl : (backTo pos (starEach es X.env)).any (·.1) = false := by rfl) : SimE X S (.Call (.Name x p0) (e :: es) [] pos) (callM f mps) := by
  refine ⟨fun {ρ d ρ'} h {F σ Hs H} rl {Q} q => ?_⟩
  obtain ⟨ps, ds, e1, e2, e3⟩ := callM_ok h
  refine ⟨_, pe_callB (callW _) hg hm hv (paW (e :: es)) hn hdb he hpl, ha.run e1 rl fun vs Hs' H' n r => ?_⟩
  exact hf e3 n.rel.sub (resL_look n.rel r e2) fun w Hs2 H2 x2 sw fr => q w Hs2 H2 (n.trans (x2.nxt n.rel)) sw fun o a ea => ⟨n.unn (fr o a ea), n.rel.notOwn (fr o a ea)⟩
theorem sim_callTyE (hf : CallS X (.type T) f) (hg : Gl X x) (hm : X.mg x = none) (hv : bootBuiltins x = some (.type T)) (ha : SimPA X S (e :: es) mps) (hn : x ≠ "__name__" := by decide) (hdb : (x == ("__debug__" : Str)) = false := by decide)
    (he : starEach (e :: es) X.env = (false, eval e X.env) :: starEach es X.env := by rfl) (hpl : (backTo pos (starEach es X.env)).any (·.1) = false := by rfl) : SimE X S (.Call (.Name x p0) (e :: es) [] pos) (callM f mps) := by
  refine ⟨fun {ρ d ρ'} h {F σ Hs H} rl {Q} q => ?_⟩
  obtain ⟨ps, ds, e1, e2, e3⟩ := callM_ok h
  refine ⟨_, pe_callTy (callW _) hg hm hv (paW (e :: es)) hn hdb he hpl, ha.run e1 rl fun vs Hs' H' n r => ?_⟩
  exact hf e3 n.rel.sub (resL_look n.rel r e2) fun w Hs2 H2 x2 sw fr => q w Hs2 H2 (n.trans (x2.nxt n.rel)) sw fun o a ea => ⟨n.unn (fr o a ea), n.rel.notOwn (fr o a ea)⟩
end
end Sim

/-! Sim, part 5: statements and loops. -/
namespace Sim
open PySem PySem.Spec PyProof.Rows L2

inductive Flow where
  | nxt | brk | cnt | ret (d : D)
abbrev SM := Rho → Res Flow
def WS (X : Cx) (st : Stmt) : TS := fun D σ H => ∃ t, PS X st t ∧ t D σ H
def WB (X : Cx) (st : List Stmt) : TS := fun D σ H => ∃ t, PSs X st t ∧ t D σ H
def WG (X : Cx) (e : Expr) : TG := fun v σ H Q => ∃ t, PG X e t ∧ t v σ H Q
def WGs (X : Cx) (es : List Expr) : TGs := fun vs σ H Q => ∃ t, PGs X es t ∧ t vs σ H Q
def WI (X : Cx) (tg iter : Expr) : TI := fun σ H R => ∃ t, PI X tg iter t ∧ t σ H R
def WIp (X : Cx) (op : Operator) : TIp := fun x y H Q => ∃ t, PIp X op t ∧ t x y H Q
section
variable {X : Cx}
theorem psW (st : Stmt) : PS X st (WS X st) := ⟨fun pins s σ H D I ⟨_, h, q⟩ => h.run pins s σ H D I q⟩
theorem pbW (st : List Stmt) : PSs X st (WB X st) := ⟨fun pins s σ H D I ⟨_, h, q⟩ => h.run pins s σ H D I q⟩
theorem pgW (e : Expr) : PG X e (WG X e) := ⟨fun pins s σ H v u Q I r ⟨_, h, q⟩ => h.run pins s σ H v u Q I r q⟩
theorem pgsW (es : List Expr) : PGs X es (WGs X es) := ⟨fun pins s σ H v u Q I r ⟨_, h, q⟩ => h.run pins s σ H v u Q I r q⟩
theorem piW (tg iter : Expr) : PI X tg iter (WI X tg iter) := ⟨fun pins s σ H R I ⟨_, h, q⟩ => h.run pins s σ H R I q⟩
theorem ipW (op : Operator) : PIp X op (WIp X op) := fun pins s σ H x y v u Q I rx ry ⟨_, h, q⟩ => h pins s σ H x y v u Q I rx ry q
end
/-- what is known of a returned value -/
def RetV (G : Gx) (F : Fm) (Hs H : Hp) (ρ : Rho) (σ : L2.St) (d : D) (v : V) : Prop := SlotV G Hs H d v ∧ (d.owned = true → ∀ a, v = .ref a → F.H0 a = none ∧ ¬ Own ρ σ a)
def EndOk (G : Gx) (S : Sc) (F : Fm) (ρ : Rho) (σ : L2.St) (Hs H : Hp) (f : Flow) (ρ' : Rho) (E : Ends) : Prop := match f with
  | .nxt => ∀ σ' Hs' H', Nxt G S F ρ σ Hs H ρ' σ' Hs' H' → E.nx σ' H'
  | .brk => ∀ σ' Hs' H', Nxt G S F ρ σ Hs H ρ' σ' Hs' H' → E.bk σ' H'
  | .cnt => ∀ σ' Hs' H', Nxt G S F ρ σ Hs H ρ' σ' Hs' H' → E.ct σ' H'
  | .ret d => ∀ v σ' Hs' H', Nxt G S F ρ σ Hs H ρ' σ' Hs' H' → RetV G F Hs' H' ρ' σ' d v → E.rt v H'
structure SimS (X : Cx) (S : Sc) (st : Stmt) (m : SM) : Prop where
  run : ∀ {ρ : Rho} {f : Flow} {ρ' : Rho}, m ρ = .ok f ρ' → ∀ {F : Fm} {σ : L2.St} {Hs H : Hp}, Rel (gx X) S F Hs H ρ σ → ∀ {E : Ends}, EndOk (gx X) S F ρ σ Hs H f ρ' E → WS X st E σ H
structure SimB (X : Cx) (S : Sc) (st : List Stmt) (m : SM) : Prop where
  run : ∀ {ρ : Rho} {f : Flow} {ρ' : Rho}, m ρ = .ok f ρ' → ∀ {F : Fm} {σ : L2.St} {Hs H : Hp}, Rel (gx X) S F Hs H ρ σ → ∀ {E : Ends}, EndOk (gx X) S F ρ σ Hs H f ρ' E → WB X st E σ H
/-- the state behind goes on -/
theorem EndOk.pre {G : Gx} {S : Sc} {F : Fm} {ρ ρ1 : Rho} {σ σ1 : L2.St} {Hs H Hs1 H1 : Hp} {f : Flow} {ρ' : Rho} {E : Ends} (n : Nxt G S F ρ σ Hs H ρ1 σ1 Hs1 H1) (h : EndOk G S F ρ σ Hs H f ρ' E) : EndOk G S F ρ1 σ1 Hs1 H1 f ρ' E := by
  cases f with
  | nxt => exact fun σ' Hs' H' m => h σ' Hs' H' (n.trans m)
  | brk => exact fun σ' Hs' H' m => h σ' Hs' H' (n.trans m)
  | cnt => exact fun σ' Hs' H' m => h σ' Hs' H' (n.trans m)
  | ret d => exact fun v σ' Hs' H' m => h v σ' Hs' H' (n.trans m)

/-! ### slots change -/
section
variable {G : Gx} {S : Sc} {F : Fm} {ρ ρ1 : Rho} {σ : L2.St} {Hs H Hs1 H1 : Hp} {i : Nat} {d : D} {v : V} {a : Addr}
theorem set_none_some {l : Rho} {i j : Nat} {y : D} (h : (l.set i none)[j]? = some (some y)) : j ≠ i ∧ l[j]? = some (some y) := by
  rcases get_set_some h with ⟨_, z, _⟩ | z
  · cases z
  · exact z
/-- a slot is given away -/
theorem Rel.drop (r : Rel G S F Hs H ρ σ) (i : Nat) : Nxt G S F ρ σ Hs H (ρ.set i none) σ Hs H := by
  refine ⟨⟨r.sub, by simpa using r.len, fun j e h => r.slot j e (set_none_some h).2, fun j k e f b hjk h1 h2 => r.apart j k e f b hjk (set_none_some h1).2 (set_none_some h2).2, fun j e b hj h => r.fresh j e b hj (set_none_some h).2, fun j e hj h => r.vals j e hj (set_none_some h).2, r.par, r.dom0⟩,
    .refl _, fun _ _ h _ => h, fun _ h => h, fun b ⟨j, e, h, o⟩ => .inl ⟨j, e, (set_none_some h).2, o⟩, fun b h => .inl h, fun _ _ => rfl, rfl⟩
/-- a name is stored -/
theorem Nxt.assign (r0 : Rel G S F Hs H ρ σ) (n : Nxt G S F ρ σ Hs H ρ1 σ Hs1 H1) (hi : i ∉ S.io) (hf : i ∉ S.fx) (sv : SlotV G Hs1 H1 d v) (fr : d.owned = true → i ∈ S.os ∧ ∀ a, v = .ref a → H a = none ∧ ¬ Own ρ1 σ a) :
    Nxt G S F ρ σ Hs H (ρ1.set i (some d)) (σ.set i (some v)) Hs1 H1 := by
  have r := n.rel
  have other : ∀ {j : Nat} {e : D} {b : Addr}, j ≠ i → (σ.set i (some v))[j]? = some (some (V.ref b)) → σ[j]? = some (some (V.ref b)) := fun hj h => by
    rwa [List.getElem?_set_ne (Ne.symm hj)] at h
  have mine : ∀ {b : Addr}, (σ.set i (some v))[i]? = some (some (V.ref b)) → v = .ref b := fun h => by
    rcases get_set_some h with ⟨_, z, _⟩ | ⟨z, _⟩
    · exact (Option.some.inj z).symm
    · exact absurd rfl z
  refine ⟨⟨r.sub, by simpa using r.len, fun j e h => ?_, fun j k e f b hjk h1 h2 o1 o2 s1 s2 => ?_, fun j e b hj h1 o1 s1 => ?_, fun j e hj h1 => ?_, fun j hj => ?_, r.dom0⟩, n.same, n.keep, n.dom, fun b ⟨j, e, h1, o1, s1⟩ => ?_, n.grow, fun j hj => ?_, by rw [List.length_set]⟩
  · rcases get_set_some h with ⟨rfl, z, hl⟩ | ⟨hj, h⟩
    · cases z
      refine ⟨v, ?_, sv⟩
      rw [List.getElem?_set_self (by rw [← r.len]; exact hl)]
    · obtain ⟨w, ew, sw⟩ := r.slot j e h
      exact ⟨w, by rw [List.getElem?_set_ne (Ne.symm hj)]; exact ew, sw⟩
  · rcases get_set_some h1 with ⟨q1, z, _⟩ | ⟨hj, g1⟩
    · cases z
      rcases get_set_some h2 with ⟨q2, _, _⟩ | ⟨hk, g2⟩
      · exact hjk (q1.trans q2.symm)
      · rw [q1] at s1
        exact ((fr o1).2 b (mine s1)).2 ⟨k, f, g2, o2, other (e := f) hk s2⟩
    · rcases get_set_some h2 with ⟨q2, z, _⟩ | ⟨hk, g2⟩
      · cases z
        rw [q2] at s2
        exact ((fr o2).2 b (mine s2)).2 ⟨j, e, g1, o1, other (e := e) hj s1⟩
      · exact r.apart j k e f b hjk g1 g2 o1 o2 (other (e := e) hj s1) (other (e := f) hk s2)
  · rcases get_set_some h1 with ⟨rfl, z, _⟩ | ⟨hj', h1⟩
    · cases z
      have h0 := ((fr o1).2 b (mine s1)).1
      cases q : F.H0 b with
      | none => rfl
      | some o => exact absurd h0 (r0.dom0 b (by rw [q]; exact fun z => by cases z))
    · exact r.fresh j e b hj h1 o1 (other (e := e) hj' s1)
  · rcases get_set_some h1 with ⟨rfl, z, _⟩ | ⟨hj', h1⟩
    · cases z
      cases o : d.owned with
      | false => rfl
      | true => exact absurd (fr o).1 hj
    · exact r.vals j e hj h1
  · rw [List.getElem?_set_ne (fun z => by subst z; exact hi hj)]
    exact r.par j hj
  · rcases get_set_some h1 with ⟨rfl, z, _⟩ | ⟨hj', h1⟩
    · cases z
      exact .inr ((fr o1).2 b (mine s1)).1
    · exact n.own b ⟨j, e, h1, o1, other (e := e) hj' s1⟩
  · rw [List.getElem?_set_ne (fun z => by subst z; exact hf hj)]
/-- an own thing is changed -/
theorem Rel.write (r : Rel G S F Hs H ρ σ) {d0 : D} (he : ρ[i]? = some (some d0)) (o0 : d0.owned = true) (es : σ[i]? = some (some (V.ref a))) (o : HO) (od : d.owned = true) (own : OwnV G Hs (upd H a o) d (.ref a)) :
    Nxt G S F ρ σ Hs H (ρ.set i (some d)) σ Hs (upd H a o) := by
  have oa : Own ρ σ a := ⟨i, d0, he, o0, es⟩
  obtain ⟨ha, u, hu⟩ := r.ownAt oa
  have kp : ∀ b w, b ≠ a → H b = some w → upd H a o b = some w := fun b w hb q => by rw [upd_ne hb]; exact q
  refine ⟨⟨fun b w q => kp b w (ne_of_none q ha) (r.sub b w q), by simpa using r.len, fun j e h => ?_, fun j k e f b hjk h1 h2 o1 o2 s1 s2 => ?_, fun j e b hj h1 o1 s1 => ?_, fun j e hj h1 => ?_, r.par, fun b h => ?_⟩, .refl _, fun b w h no => kp b w (fun z => no (z ▸ oa)) h, fun b h => ?_, fun b ⟨j, e, h1, o1, s1⟩ => ?_, fun b h => .inl h, fun _ _ => rfl, rfl⟩
  · rcases get_set_some h with ⟨rfl, z, hl⟩ | ⟨hj, h⟩
    · cases z
      exact ⟨_, es, .ofOwn own od⟩
    · obtain ⟨w, ew, sw⟩ := r.slot j e h
      refine ⟨w, ew, ?_⟩
      by_cases oe : e.owned = true
      · refine .ofOwn ((sw.own oe).stay (.refl _) (fun b z => ?_) fun b w' z q => ?_) oe
        · subst z; exact (r.ownAt ⟨j, e, h, oe, ew⟩).1
        · subst z; exact kp b w' (fun z => by subst z; exact r.apart j i e d0 b hj h he oe o0 ew es) q
      · exact .of (sw.rep (by simpa using oe))
  · rcases get_set_some h1 with ⟨q1, z, _⟩ | ⟨hj, g1⟩
    · cases z
      rcases get_set_some h2 with ⟨q2, _, _⟩ | ⟨hk, g2⟩
      · exact hjk (q1.trans q2.symm)
      · rw [q1] at s1
        exact r.apart i k d0 f b (fun z => hjk (q1.trans z)) he g2 o0 o2 s1 s2
    · rcases get_set_some h2 with ⟨q2, z, _⟩ | ⟨hk, g2⟩
      · cases z
        rw [q2] at s2
        exact r.apart j i e d0 b hj g1 he o1 o0 s1 s2
      · exact r.apart j k e f b hjk g1 g2 o1 o2 s1 s2
  · rcases get_set_some h1 with ⟨rfl, z, _⟩ | ⟨hj', h1⟩
    · exact r.fresh j d0 b hj he o0 s1
    · exact r.fresh j e b hj h1 o1 s1
  · rcases get_set_some h1 with ⟨rfl, z, _⟩ | ⟨hj', h1⟩
    · have := r.vals j d0 hj he
      rw [o0] at this; cases this
    · exact r.vals j e hj h1
  · by_cases e : b = a
    · subst e; rw [upd_same]; exact fun z => by cases z
    · rw [upd_ne e]; exact r.dom0 b h
  · by_cases e : b = a
    · subst e; rw [upd_same]; exact fun z => by cases z
    · rw [upd_ne e]; exact h
  · rcases get_set_some h1 with ⟨rfl, z, _⟩ | ⟨hj', h1⟩
    · exact .inl ⟨j, d0, he, o0, s1⟩
    · exact .inl ⟨j, e, h1, o1, s1⟩
end

/-! ### blocks -/
def nilM : SM := fun ρ => .ok .nxt ρ
def seqM (m n : SM) : SM := fun ρ => (m ρ).bind fun f ρ1 => match f with
  | .nxt => n ρ1
  | f => .ok f ρ1
def setM (i : Nat) (m : EM) : SM := fun ρ => (m ρ).bind fun d ρ1 => .ok .nxt (ρ1.set i (some d))
def dropM (m : EM) : SM := fun ρ => (m ρ).bind fun _ ρ1 => .ok .nxt ρ1
def retM (m : EM) : SM := fun ρ => (m ρ).bind fun d ρ1 => .ok (.ret d) ρ1
def retN : SM := fun ρ => .ok (.ret .non) ρ
def retS (i : Nat) : SM := fun ρ => match ρ[i]? with
  | some (some d) => .ok (.ret d) (ρ.set i none)
  | _ => .fail
def brkM : SM := fun ρ => .ok .brk ρ
def cntM : SM := fun ρ => .ok .cnt ρ
def iteM (c : TM) (m n : SM) : SM := fun ρ => (c ρ).bind fun b ρ1 => match b with
  | true => m ρ1
  | false => n ρ1
section
variable {X : Cx} {S : Sc} {st : Stmt} {rest a b : List Stmt} {m n : SM} {e : Expr} {me : EM} {pos : Pos} {x : Str} {px : Pos}
theorem sim_bnil : SimB X S [] nilM := by
  refine ⟨fun {ρ f ρ'} h {F σ Hs H} rl {E} q => ?_⟩
  cases h
  exact ⟨_, pss_nil, q σ Hs H (.refl rl)⟩
theorem sim_bone (h : SimS X S st m) : SimB X S [st] m := by
  refine ⟨fun {ρ f ρ'} hm {F σ Hs H} rl {E} q => ?_⟩
  exact ⟨_, pss_one (psW st), h.run hm rl q⟩
theorem sim_bcons (h1 : SimS X S st m) (h2 : SimB X S rest n) : SimB X S (st :: rest) (seqM m n) := by
  refine ⟨fun {ρ f ρ'} hm {F σ Hs H} rl {E} q => ?_⟩
  obtain ⟨f1, ρ1, e1, e2⟩ := Res.bind_ok hm
  cases f1 with
  | nxt =>
    refine ⟨_, pss_cons (psW st) (pbW rest), h1.run e1 rl (E := { E with nx := WB X rest E }) fun σ' Hs' H' n => ?_⟩
    exact h2.run e2 n.rel (q.pre n)
  | brk => cases e2; exact ⟨_, pss_cons (psW st) (pbW rest), h1.run e1 rl (E := { E with nx := WB X rest E }) q⟩
  | cnt => cases e2; exact ⟨_, pss_cons (psW st) (pbW rest), h1.run e1 rl (E := { E with nx := WB X rest E }) q⟩
  | ret d => cases e2; exact ⟨_, pss_cons (psW st) (pbW rest), h1.run e1 rl (E := { E with nx := WB X rest E }) q⟩
theorem sim_pass : SimS X S (.Pass pos) nilM := by
  refine ⟨fun {ρ f ρ'} h {F σ Hs H} rl {E} q => ?_⟩
  cases h
  exact ⟨_, ps_pass, q σ Hs H (.refl rl)⟩
theorem sim_doc {y : Str} {j : Nat} {p' : Pos} : SimS X S (.Expr (.Constant (.str y) j p') pos) nilM := by
  refine ⟨fun {ρ f ρ'} h {F σ Hs H} rl {E} q => ?_⟩
  cases h
  exact ⟨_, ps_doc, q σ Hs H (.refl rl)⟩
theorem sim_break : SimS X S (.Break pos) brkM := by
  refine ⟨fun {ρ f ρ'} h {F σ Hs H} rl {E} q => ?_⟩
  cases h
  exact ⟨_, ps_break, q σ Hs H (.refl rl)⟩
theorem sim_continue : SimS X S (.Continue pos) cntM := by
  refine ⟨fun {ρ f ρ'} h {F σ Hs H} rl {E} q => ?_⟩
  cases h
  exact ⟨_, ps_continue, q σ Hs H (.refl rl)⟩
/-- x = e, the value shared -/
theorem sim_set (i : Nat) (hN : X.N.Nodup) (he : SimV X S e me) (hio : i ∉ S.io := by decide) (hfx : i ∉ S.fx := by decide) (hi : X.N[i]? = some x := by rfl) (hx : Loc X.env.scope x := by first | exact Or.inl rfl | exact Or.inr rfl)
    (hs : swapsWith e (some (.Name x px)) pos.line X.env = pure false := by rfl) (hf : X.fn x = true ∨ X.env.scope.names.lookup x = some .local := by first | exact .inl rfl | exact .inr rfl) : SimS X S (.Assign [.Name x px] e pos) (setM i me) := by
  refine ⟨fun {ρ f ρ'} hm {F σ Hs H} rl {E} q => ?_⟩
  obtain ⟨d, ρ1, e1, e2⟩ := Res.bind_ok hm
  cases e2
  exact ⟨_, ps_set hN hi hx (peW e) hs hf, he.run e1 rl fun v Hs' H' n r => q _ Hs' H' (n.assign rl hio hfx (.of r) fun o => by rw [r.owned] at o; cases o)⟩
/-- x = e, x may hold it alone -/
theorem sim_setE (i : Nat) (hN : X.N.Nodup) (he : SimE X S e me) (hos : i ∈ S.os := by decide) (hio : i ∉ S.io := by decide) (hfx : i ∉ S.fx := by decide) (hi : X.N[i]? = some x := by rfl) (hx : Loc X.env.scope x := by first | exact Or.inl rfl | exact Or.inr rfl)
    (hs : swapsWith e (some (.Name x px)) pos.line X.env = pure false := by rfl) (hf : X.fn x = true ∨ X.env.scope.names.lookup x = some .local := by first | exact .inl rfl | exact .inr rfl) : SimS X S (.Assign [.Name x px] e pos) (setM i me) := by
  refine ⟨fun {ρ f ρ'} hm {F σ Hs H} rl {E} q => ?_⟩
  obtain ⟨d, ρ1, e1, e2⟩ := Res.bind_ok hm
  cases e2
  exact ⟨_, ps_set hN hi hx (peW e) hs hf, he.run e1 rl fun v Hs' H' n sv fr => q _ Hs' H' (n.assign rl hio hfx sv fun o => ⟨hos, fr o⟩)⟩
theorem sim_expr (he : SimV X S e me) (hs : swapsWith e none pos.line X.env = pure false := by rfl) : SimS X S (.Expr e pos) (dropM me) := by
  refine ⟨fun {ρ f ρ'} hm {F σ Hs H} rl {E} q => ?_⟩
  obtain ⟨d, ρ1, e1, e2⟩ := Res.bind_ok hm
  cases e2
  exact ⟨_, ps_expr (peW e) hs, he.run e1 rl fun v Hs' H' n r => q _ Hs' H' n⟩
theorem sim_ret (he : SimE X S e me) : SimS X S (.Return (some e) pos) (retM me) := by
  refine ⟨fun {ρ f ρ'} hm {F σ Hs H} rl {E} q => ?_⟩
  obtain ⟨d, ρ1, e1, e2⟩ := Res.bind_ok hm
  cases e2
  refine ⟨_, ps_ret (peW e), he.run e1 rl fun v Hs' H' n sv fr => q v σ Hs' H' n ⟨sv, fun o a ea => ⟨?_, (fr o a ea).2⟩⟩⟩
  cases z : F.H0 a with
  | none => rfl
  | some u => exact absurd (fr o a ea).1 (rl.dom0 a (by rw [z]; exact fun z => by cases z))
theorem sim_retN : SimS X S (.Return none pos) retN := by
  refine ⟨fun {ρ f ρ'} hm {F σ Hs H} rl {E} q => ?_⟩
  cases hm
  exact ⟨_, ps_retN, q .non σ Hs H (.refl rl) ⟨rfl, fun o => by cases o⟩⟩
/-- return x, the slot gives its own thing away -/
theorem sim_retS (i : Nat) (hio : i ∉ S.io := by decide) (hN : X.N[i]? = some x := by rfl) (hv : Vis X.env.scope x := by first | exact Or.inl rfl | exact Or.inr (Or.inl rfl) | exact Or.inr (Or.inr rfl))
    (hd : (x == ("__debug__" : Str)) = false := by decide) (hcd : (x == ("__classdict__" : Str)) = false := by decide) : SimS X S (.Return (some (.Name x px)) pos) (retS i) := by
  refine ⟨fun {ρ f ρ'} hm {F σ Hs H} rl {E} q => ?_⟩
  unfold retS at hm
  split at hm
  · rename_i d hd'
    cases hm
    obtain ⟨v, ev, sv⟩ := rl.slot i d hd'
    refine ⟨_, ps_ret (pe_var hN hv hd hcd), v, ev, q v σ Hs H (rl.drop i) ⟨sv, fun o a ea => ⟨?_, fun ⟨j, e, h1, o1, s1⟩ => ?_⟩⟩⟩
    · subst ea; exact rl.fresh i d a hio hd' o ev
    · subst ea
      obtain ⟨hj, h1⟩ := set_none_some h1
      exact rl.apart j i e d a hj h1 hd' o1 o s1 ev
  · cases hm
theorem sim_if {c : Expr} {mc : TM} (hc : SimT X S c mc) (ha : SimB X S a m) (hb : SimB X S b n) : SimS X S (.If c a b pos) (iteM mc m n) := by
  refine ⟨fun {ρ f ρ'} hm {F σ Hs H} rl {E} q => ?_⟩
  obtain ⟨t, ρ1, e1, e2⟩ := Res.bind_ok hm
  refine ⟨_, ps_if (ptW c) (pbW a) (pbW b), hc.run e1 rl fun Hs' H' n => ?_⟩
  cases t with
  | true => rw [if_pos rfl]; exact ha.run e2 n.rel (q.pre n)
  | false => rw [if_neg Bool.false_ne_true]; exact hb.run e2 n.rel (q.pre n)

/-! ### targets -/
abbrev GM := D → Rho → Res Unit
structure SimG (X : Cx) (S : Sc) (tg : Expr) (g : GM) : Prop where
  run : ∀ {d : D} {ρ ρ' : Rho}, g d ρ = .ok () ρ' → ∀ {F : Fm} {σ : L2.St} {Hs H : Hp}, Rel (gx X) S F Hs H ρ σ → ∀ {v : V}, Rep (gx X) Hs d v → ∀ {Q : L2.St → Hp → Prop},
    (∀ σ' Hs' H', Nxt (gx X) S F ρ σ Hs H ρ' σ' Hs' H' → Q σ' H') → WG X tg v σ H Q
structure SimGs (X : Cx) (S : Sc) (tgs : List Expr) (g : List D → Rho → Res Unit) : Prop where
  run : ∀ {ds : List D} {ρ ρ' : Rho}, g ds ρ = .ok () ρ' → ∀ {F : Fm} {σ : L2.St} {Hs H : Hp}, Rel (gx X) S F Hs H ρ σ → ∀ {vs : List V}, RepL (gx X) Hs ds vs → ∀ {Q : L2.St → Hp → Prop},
    (∀ σ' Hs' H', Nxt (gx X) S F ρ σ Hs H ρ' σ' Hs' H' → Q σ' H') → WGs X tgs vs σ H Q
def nameG (i : Nat) : GM := fun d ρ => .ok () (ρ.set i (some d))
def nilG : List D → Rho → Res Unit := fun ds ρ => match ds with
  | [] => .ok () ρ
  | _ => .fail
def consG (g : GM) (gs : List D → Rho → Res Unit) : List D → Rho → Res Unit := fun ds ρ => match ds with
  | d :: ds => (g d ρ).bind fun _ ρ1 => gs ds ρ1
  | _ => .fail
def tupG (n : Nat) (gs : List D → Rho → Res Unit) : GM := fun d ρ => match d with
  | .tup ds => if ds.length = n then gs ds ρ else .fail
  | _ => .fail
def asgM (g : GM) (m : EM) : SM := fun ρ => (m ρ).bind fun d ρ1 => (g d ρ1).bind fun _ ρ2 => .ok .nxt ρ2
theorem sim_gname (i : Nat) (hN : X.N.Nodup) (hio : i ∉ S.io := by decide) (hfx : i ∉ S.fx := by decide) (hi : X.N[i]? = some x := by rfl) (hx : Loc X.env.scope x := by first | exact Or.inl rfl | exact Or.inr rfl)
    (hf : X.fn x = true ∨ X.env.scope.names.lookup x = some .local := by first | exact .inl rfl | exact .inr rfl) : SimG X S (.Name x pos) (nameG i) := by
  refine ⟨fun {d ρ ρ'} hm {F σ Hs H} rl {v} r {Q} q => ?_⟩
  cases hm
  exact ⟨_, pg_name hN hi hx hf, q _ Hs H ((Nxt.refl rl).assign rl hio hfx (.of r) fun o => by rw [r.owned] at o; cases o)⟩
theorem sim_gnil : SimGs X S [] nilG := by
  refine ⟨fun {ds ρ ρ'} hm {F σ Hs H} rl {vs} r {Q} q => ?_⟩
  unfold nilG at hm
  split at hm
  · cases hm
    exact ⟨_, pgs_nil, r, q σ Hs H (.refl rl)⟩
  · cases hm
theorem sim_gcons {es : List Expr} {g : GM} {gs : List D → Rho → Res Unit} (h1 : SimG X S e g) (h2 : SimGs X S es gs) (hs : (assignEach (e :: es) X.env).map (·.2) = assign e X.env :: (assignEach es X.env).map (·.2) := by rfl) : SimGs X S (e :: es) (consG g gs) := by
  refine ⟨fun {ds ρ ρ'} hm {F σ Hs H} rl {vs} r {Q} q => ?_⟩
  unfold consG at hm
  split at hm
  · obtain ⟨_, ρ1, e1, e2⟩ := Res.bind_ok hm
    obtain ⟨v, w, rfl, r1, r2⟩ := r
    exact ⟨_, pgs_cons (pgW e) (pgsW es) hs, v, w, rfl, h1.run e1 rl r1 fun σ' Hs' H' n => h2.run e2 n.rel (RepL.mono n.same _ _ r2) fun σ2 Hs2 H2 n2 => q σ2 Hs2 H2 (n.trans n2)⟩
  · cases hm
theorem sim_gtup {es : List Expr} {gs : List D → Rho → Res Unit} {n k : Nat} (hc : X.calm = true) (h : SimGs X S es gs) (hn : (assignEach es X.env).length = n := by rfl) (hst : (assignEach es X.env).findIdx? (·.1) = none := by rfl) : SimG X S (.Tuple es k pos) (tupG n gs) := by
  refine ⟨fun {d ρ ρ'} hm {F σ Hs H} rl {v} r {Q} q => ?_⟩
  unfold tupG at hm
  split at hm
  · split at hm
    · rename_i ds hl
      obtain ⟨a, vs, rfl, t, rs⟩ := r
      exact ⟨_, pg_tup hc (pgsW es) hn hst, a, vs, rfl, Same.seqT rl.sub t, by rw [← rs.length]; exact hl, h.run hm rl rs q⟩
    · cases hm
  · cases hm
theorem sim_asg {tg : Expr} {g : GM} (he : SimV X S e me) (hg : SimG X S tg g) (hs : swapsWithSole [tg] e pos.line X.env = pure false := by rfl) (hw : swappedStores [tg] e X.env = pure none := by rfl)
    (h1 : (assignEach [tg] X.env).map (·.2) = [assign tg X.env] := by rfl) : SimS X S (.Assign [tg] e pos) (asgM g me) := by
  refine ⟨fun {ρ f ρ'} hm {F σ Hs H} rl {E} q => ?_⟩
  obtain ⟨d, ρ1, e1, hm⟩ := Res.bind_ok hm
  obtain ⟨_, ρ2, e2, hm⟩ := Res.bind_ok hm
  cases hm
  exact ⟨_, ps_asg (peW e) (pgW tg) hs hw h1, he.run e1 rl fun v Hs' H' n r => hg.run e2 n.rel r fun σ2 Hs2 H2 n2 => q σ2 Hs2 H2 (n.trans n2)⟩

/-! ### name op= e -/
def IpS (X : Cx) (op : Operator) (f : D → D → Option D) : Prop :=
  ∀ {x y d : D}, f x y = some d → ∀ {Hs H : Hp} {u v : V} {Q : VK}, Same Hs H → Rep (gx X) Hs x u → Rep (gx X) Hs y v → Gives (gx X) Hs H d Q → WIp X op u v H Q
def augM (i : Nat) (f : D → D → Option D) (m : EM) : SM := fun ρ => match ρ[i]? with
  | some (some x) => (m ρ).bind fun y ρ1 => match f x y with
    | some d => .ok .nxt (ρ1.set i (some d))
    | none => .fail
  | _ => .fail
theorem sim_aug (i : Nat) {op : Operator} {f : D → D → Option D} (hN : X.N.Nodup) (ho : IpS X op f) (he : SimV X S e me) (hos : i ∉ S.os := by decide) (hio : i ∉ S.io := by decide) (hfx : i ∉ S.fx := by decide) (hi : X.N[i]? = some x := by rfl) (hx : Loc X.env.scope x := by first | exact Or.inl rfl | exact Or.inr rfl)
    (hf : X.fn x = true ∨ X.env.scope.names.lookup x = some .local := by first | exact .inl rfl | exact .inr rfl) : SimS X S (.AugAssign (.Name x px) op e pos) (augM i f me) := by
  refine ⟨fun {ρ f' ρ'} hm {F σ Hs H} rl {E} q => ?_⟩
  unfold augM at hm
  split at hm
  · rename_i d0 h0
    obtain ⟨y, ρ1, e1, hm⟩ := Res.bind_ok hm
    split at hm
    · rename_i d hd
      cases hm
      obtain ⟨v, ev, sv⟩ := rl.slot i d0 h0
      have r0 := sv.rep (rl.vals i d0 hos h0)
      refine ⟨_, ps_aug hN hi hx (peW e) (ipW op) hf, v, ev, he.run e1 rl fun w Hs' H' n r => ?_⟩
      exact ho hd n.rel.sub (Rep.mono n.same _ _ r0) r fun z Hs2 H2 x2 rz => q _ Hs2 H2 ((n.trans (x2.nxt n.rel)).assign rl hio hfx (.of rz) fun o => by rw [rz.owned] at o; cases o)
    · cases hm
  · cases hm
def iaddD : D → D → Option D
  | .int i, .int j => some (.int (i + j))
  | .str x, .str y => if x.length + y.length ≤ cap then some (.str (x ++ y)) else none
  | _, _ => none
theorem ip_addS : IpS X .Add iaddD := by
  intro x y d e Hs H u v Q s rx ry q
  unfold iaddD at e
  split at e
  · cases e
    exact ⟨_, ip_add, _, _, rx, ry, q _ Hs H (.refl s) rfl⟩
  · split at e
    · cases e
      refine ⟨fun x y H Q => ∃ i j, x = .str i ∧ y = .str j ∧ i.length + j.length ≤ sizeLine ∧ Q (.str (i ++ j)) H, fun pins s σ H x y v u Q I rx ry h => iop_add_str pins s σ H x y v u Q I rx ry h, _, _, rx, ry, by rw [sizeCap]; assumption, q _ Hs H (.refl s) rfl⟩
    · cases e
  · cases e
theorem ip_subS : IpS X .Sub subD := by
  intro x y d e Hs H u v Q s rx ry q
  unfold subD at e
  split at e
  · cases e
    exact ⟨_, ip_sub, _, _, rx, ry, q _ Hs H (.refl s) rfl⟩
  · cases e

/-! ### while -/
def whileM (c : TM) (b : SM) : Nat → SM
  | 0 => fun _ => .fail
  | n + 1 => fun ρ => (c ρ).bind fun t ρ1 => match t with
    | false => .ok .nxt ρ1
    | true => (b ρ1).bind fun f ρ2 => match f with
      | .nxt => whileM c b n ρ2
      | .cnt => whileM c b n ρ2
      | .brk => .ok .nxt ρ2
      | .ret d => .ok (.ret d) ρ2
theorem sim_while {c : Expr} {mc : TM} (n : Nat) (hp : PassesOwn (model X.prog X.w) X.A X.env X.xe) (hc : SimT X S c mc) (hb : SimB X S b m) : SimS X S (.While c b [] pos) (whileM mc m n) := by
  refine ⟨fun {ρ f ρ'} hm {F σ Hs H} rl {E} q => ?_⟩
  refine ⟨_, ps_while hp (ptW c) (pbW b), fun k σ1 H1 => ∃ ρ1 Hs1, whileM mc m k ρ1 = .ok f ρ' ∧ Nxt (gx X) S F ρ σ Hs H ρ1 σ1 Hs1 H1, ⟨n, ρ, Hs, hm, .refl rl⟩, ?_⟩
  rintro k σ1 H1 ⟨ρ1, Hs1, e, n1⟩
  cases k with
  | zero => cases e
  | succ k =>
    obtain ⟨t, ρ2, e1, e⟩ := Res.bind_ok e
    refine hc.run e1 n1.rel fun Hs2 H2 n2 => ?_
    cases t with
    | false =>
      rw [if_neg Bool.false_ne_true]
      cases e
      exact q _ _ _ (n1.trans n2)
    | true =>
      rw [if_pos rfl]
      obtain ⟨f1, ρ3, e2, e⟩ := Res.bind_ok e
      have n12 := n1.trans n2
      refine ⟨fun σ' H' => ∃ ρ1 Hs1, whileM mc m k ρ1 = .ok f ρ' ∧ Nxt (gx X) S F ρ σ Hs H ρ1 σ' Hs1 H', fun σ' H' h => ⟨k, Nat.lt_succ_self k, h⟩, hb.run e2 n2.rel ?_⟩
      cases f1 with
      | nxt => exact fun σ3 Hs3 H3 n3 => ⟨ρ3, Hs3, e, n12.trans n3⟩
      | cnt => exact fun σ3 Hs3 H3 n3 => ⟨ρ3, Hs3, e, n12.trans n3⟩
      | brk => cases e; exact fun σ3 Hs3 H3 n3 => q _ _ _ (n12.trans n3)
      | ret d => cases e; exact fun v σ3 Hs3 H3 n3 => q v _ _ _ (n12.trans n3)

/-! ### for -/
/-- the iterator hands out just these, while what was shared stays -/
def Feeds (G : Gx) (J : It) (ds : List D) (Hs0 : Hp) : Prop :=
  (∀ (i : Nat) (d : D) (Hs H : Hp), ds[i]? = some d → Same Hs0 Hs → Same Hs H → J.go i H ∧ ∀ x H', J.yld i H x H' → ∃ Hs', Ext Hs H Hs' H' ∧ Rep G Hs' d x) ∧ ∀ (Hs H : Hp), Same Hs0 Hs → Same Hs H → J.stop ds.length H
structure SimI (X : Cx) (S : Sc) (tg iter : Expr) (m : AM) : Prop where
  run : ∀ {ρ : Rho} {ds : List D} {ρ' : Rho}, m ρ = .ok ds ρ' → ∀ {F : Fm} {σ : L2.St} {Hs H : Hp}, Rel (gx X) S F Hs H ρ σ → ∀ {R : It → Hp → Prop},
    (∀ J Hs' H', Nxt (gx X) S F ρ σ Hs H ρ' σ Hs' H' → Feeds (gx X) J ds Hs' → R J H') → WI X tg iter σ H R
def forGo (g : GM) (b : SM) : List D → SM
  | [] => fun ρ => .ok .nxt ρ
  | d :: ds => fun ρ => (g d ρ).bind fun _ ρ1 => (b ρ1).bind fun f ρ2 => match f with
    | .nxt => forGo g b ds ρ2
    | .cnt => forGo g b ds ρ2
    | .brk => .ok .nxt ρ2
    | .ret d => .ok (.ret d) ρ2
def forM (it : AM) (g : GM) (b : SM) : SM := fun ρ => (it ρ).bind fun ds ρ1 => forGo g b ds ρ1
theorem sim_for {tg iter : Expr} {mi : AM} {g : GM} (hp : PassesOwn (model X.prog X.w) X.A X.env X.xe) (hc : X.calm = true) (hi : SimI X S tg iter mi) (hg : SimG X S tg g) (hb : SimB X S b m) (hs : ∀ x, foldedSetIterable iter X.env x = pure x := by intro _; rfl) :
    SimS X S (.For tg iter b [] pos) (forM mi g m) := by
  refine ⟨fun {ρ f ρ'} hm {F σ Hs H} rl {E} q => ?_⟩
  obtain ⟨ds, ρ1, e1, e2⟩ := Res.bind_ok hm
  refine ⟨_, ps_for hp hc (piW tg iter) (pgW tg) (pbW b) hs, hi.run e1 rl fun J Hs1 H1 n1 fd => ?_⟩
  refine ⟨fun i k σ' H' => ∃ ρ2 Hs2, i + k = ds.length ∧ forGo g m (ds.drop i) ρ2 = .ok f ρ' ∧ Same Hs1 Hs2 ∧ Nxt (gx X) S F ρ σ Hs H ρ2 σ' Hs2 H', ⟨ds.length, ρ1, Hs1, by simp, e2, .refl _, n1⟩, ?_⟩
  rintro i k σ2 H2 ⟨ρ2, Hs2, ek, e, sm, n2⟩
  by_cases hi' : i < ds.length
  · have ed := List.drop_eq_getElem_cons hi'
    rw [ed] at e
    obtain ⟨_, ρ3, e3, e⟩ := Res.bind_ok e
    obtain ⟨f1, ρ4, e4, e⟩ := Res.bind_ok e
    obtain ⟨go, yl⟩ := fd.1 i _ Hs2 H2 (List.getElem?_eq_getElem hi') sm n2.rel.sub
    refine .inr ⟨go, fun σ' H' => ∃ ρ2 Hs2, i + 1 + (k - 1) = ds.length ∧ forGo g m (ds.drop (i + 1)) ρ2 = .ok f ρ' ∧ Same Hs1 Hs2 ∧ Nxt (gx X) S F ρ σ Hs H ρ2 σ' Hs2 H', fun σ' H' h => ⟨k - 1, by omega, h⟩, fun x H3 y => ?_⟩
    obtain ⟨Hs3, x3, r3⟩ := yl x H3 y
    have n3 := n2.trans (x3.nxt n2.rel)
    refine hg.run e3 n3.rel r3 fun σ4 Hs4 H4 n4 => ?_
    have n34 := n3.trans n4
    refine hb.run e4 n4.rel ?_
    have sm4 : Same Hs1 Hs4 := (sm.trans x3.s).trans n4.same
    cases f1 with
    | nxt => exact fun σ5 Hs5 H5 n5 => ⟨ρ4, Hs5, by omega, e, sm4.trans n5.same, n34.trans n5⟩
    | cnt => exact fun σ5 Hs5 H5 n5 => ⟨ρ4, Hs5, by omega, e, sm4.trans n5.same, n34.trans n5⟩
    | brk => cases e; exact fun σ5 Hs5 H5 n5 => q _ _ _ (n34.trans n5)
    | ret d => cases e; exact fun v σ5 Hs5 H5 n5 => q v _ _ _ (n34.trans n5)
  · have ei : i = ds.length := by omega
    subst ei
    rw [List.drop_length] at e
    cases e
    exact .inl ⟨fd.2 Hs2 H2 sm n2.rel.sub, q _ _ _ n2⟩
/-! ### what is walked -/
def itemsD : D → Option (List D)
  | .lst .sh ds => some ds
  | .tup ds => some ds
  | .scr ns => some (ns.map .int)
  | _ => none
def iterM (m : EM) : AM := fun ρ => (m ρ).bind fun d ρ1 => pureO (itemsD d) ρ1
theorem feeds_list' {G : Gx} {a : Addr} {vs : List V} {ds : List D} {Hs0 : Hp} (t : SqL G.K Hs0 a vs) (r : RepL G Hs0 ds vs) : Feeds G (Itl G.K a) ds Hs0 := by
  refine ⟨fun i d Hs H e s1 s2 => ?_, fun Hs H s1 s2 => ⟨vs, (s1.trans s2).seq t, by rw [r.length]; exact Nat.le_refl _⟩⟩
  obtain ⟨v, ev, rv⟩ := r.get e
  refine ⟨⟨vs, v, (s1.trans s2).seq t, ev⟩, fun x H' y => ?_⟩
  obtain ⟨rfl, y⟩ := y
  have := y vs ((s1.trans s2).seq t)
  rw [ev] at this; cases this
  exact ⟨Hs, .refl s2, Rep.mono s1 _ _ rv⟩
theorem feeds_tup {G : Gx} {a : Addr} {vs : List V} {ds : List D} {Hs0 : Hp} (t : SqT G.K Hs0 a vs) (r : RepL G Hs0 ds vs) : Feeds G (Itt G.K a) ds Hs0 := by
  refine ⟨fun i d Hs H e s1 s2 => ?_, fun Hs H s1 s2 => ⟨vs, Same.seqT (s1.trans s2) t, by rw [r.length]; exact Nat.le_refl _⟩⟩
  obtain ⟨v, ev, rv⟩ := r.get e
  refine ⟨⟨vs, v, Same.seqT (s1.trans s2) t, ev⟩, fun x H' y => ?_⟩
  obtain ⟨rfl, y⟩ := y
  have := y vs (Same.seqT (s1.trans s2) t)
  rw [ev] at this; cases this
  exact ⟨Hs, .refl s2, Rep.mono s1 _ _ rv⟩
theorem pi_seq {tg l : Expr} {tl : TE} (hl : PE X l tl) : PI X tg l (fun σ H R => tl σ H fun x H1 => ∃ a, x = .ref a ∧ (((∃ xs, SqL X.K H1 a xs) ∧ R (Itl X.K a) H1) ∨ ((∃ xs, SqT X.K H1 a xs) ∧ R (Itt X.K a) H1))) := by
  refine ⟨fun pins s σ H R I h => ?_⟩
  refine thn (hl.run pins s σ H _ I h) fun v s1 ⟨x, H1, I1, r1, q1⟩ => ?_
  obtain ⟨a, e, q1⟩ := q1
  subst e
  have pe : PE X l (fun σ' H' Q => False) := ⟨fun _ _ _ _ _ _ z => z.elim⟩
  rcases q1 with ⟨⟨xs, hq⟩, q⟩ | ⟨⟨xs, hq⟩, q⟩
  · cases r1
    obtain ⟨its, rv, p, hz⟩ := I1.list hq
    refine wpAny_pyIter_list p.isList ?_
    refine ⟨s1.heap.objs.size, [s1.heap.objs.size], _, _, H1, rfl, I1.kept (t' := s1.toks) fun b o e => Heap.get?_push_of_some _ e, turn_list a _, ⟨_, Heap.get?_push_size _ rfl, rfl, rfl⟩, fun b hb => ?_, q⟩
    have e : b = s1.heap.objs.size := by simpa using hb
    subst e
    exact I1.fpOk (Nat.le_refl _) (I1.hok.fresh (Nat.le_refl _))
  · cases r1
    obtain ⟨its, rv, p, hz⟩ := I1.tuple hq
    refine wpAny_pyIter_tuple (show s1.heap.IsTuple a its.toArray from p) ?_
    refine ⟨s1.heap.objs.size, [s1.heap.objs.size], _, _, H1, rfl, I1.kept (t' := s1.toks) fun b o e => Heap.get?_push_of_some _ e, turn_tuple a _, ⟨_, Heap.get?_push_size _ rfl, rfl, rfl⟩, fun b hb => ?_, q⟩
    have e : b = s1.heap.objs.size := by simpa using hb
    subst e
    exact I1.fpOk (Nat.le_refl _) (I1.hok.fresh (Nat.le_refl _))
theorem sim_iter {tg l : Expr} {ml : EM} (hl : SimV X S l ml) : SimI X S tg l (iterM ml) := by
  refine ⟨fun {ρ ds ρ'} hm {F σ Hs H} rl {R} q => ?_⟩
  obtain ⟨d, ρ1, e1, e2⟩ := Res.bind_ok hm
  obtain ⟨e3, rfl⟩ := pureO_ok e2
  refine ⟨_, pi_seq (peW l), hl.run e1 rl fun v Hs' H' n r => ?_⟩
  unfold itemsD at e3
  split at e3
  · cases e3
    obtain ⟨_, a, vs, rfl, t, rs⟩ := r
    exact ⟨a, rfl, .inl ⟨⟨vs, .of (n.rel.sub _ _ t)⟩, q _ Hs' H' n (feeds_list' (G := gx X) (.of t) rs)⟩⟩
  · cases e3
    obtain ⟨a, vs, rfl, t, rs⟩ := r
    exact ⟨a, rfl, .inr ⟨⟨vs, Same.seqT n.rel.sub t⟩, q _ Hs' H' n (feeds_tup (G := gx X) t rs)⟩⟩
  · cases e3
    obtain ⟨a, rfl, t⟩ := r
    exact ⟨a, rfl, .inl ⟨⟨_, n.rel.sub.seq t⟩, q _ Hs' H' n (feeds_list' (G := gx X) t (RepL.ints _))⟩⟩
  · cases e3
/-- range(n), range(a, b) -/
def rangeL (lo : Int) (n : Nat) : List D := (List.range n).map fun (k : Nat) => .int (lo + (k : Int))
def range1 (m : AM) : AM := fun ρ => (m ρ).bind fun ds ρ1 => match ds with
  | [.int j] => if -1000000000000 ≤ j ∧ j ≤ 1000000000000 then .ok (rangeL 0 j.toNat) ρ1 else .fail
  | _ => .fail
def range2 (m : AM) : AM := fun ρ => (m ρ).bind fun ds ρ1 => match ds with
  | [.int i, .int j] => if -1000000000000 ≤ i ∧ i ≤ 1000000000000 ∧ -1000000000000 ≤ j ∧ j ≤ 1000000000000 then .ok (rangeL i (j - i).toNat) ρ1 else .fail
  | _ => .fail
theorem feeds_range {G : Gx} {lo : Int} {n : Nat} {Hs0 : Hp} : Feeds G (Itr lo n) (rangeL lo n) Hs0 := by
  unfold rangeL
  refine ⟨fun i d Hs H e s1 s2 => ?_, fun Hs H s1 s2 => by simp [Itr]⟩
  rw [List.getElem?_map] at e
  obtain ⟨k, ek, e⟩ := Option.map_eq_some_iff.mp e
  obtain ⟨hk, ek⟩ := List.getElem?_eq_some_iff.mp ek
  rw [List.length_range] at hk
  rw [List.getElem_range] at ek
  subst ek
  cases e
  refine ⟨hk, fun x H' y => ?_⟩
  obtain ⟨rfl, rfl⟩ := y
  exact ⟨Hs, .refl s2, rfl⟩
theorem sim_range1 {tg : Expr} {p : Pos} {ma : AM} (hm : X.mg "range" = none) (ha : SimA X S [e] ma) (hg : Gl X "range" := by rfl) (hs : starEach [e] X.env = [(false, eval e X.env)] := by rfl) : SimI X S tg (.Call (.Name "range" p) [e] [] pos) (range1 ma) := by
  refine ⟨fun {ρ ds ρ'} h {F σ Hs H} rl {R} q => ?_⟩
  obtain ⟨ds, ρ1, e1, e2⟩ := Res.bind_ok h
  split at e2
  · split at e2
    · cases e2
      refine ⟨_, pi_range1 hg hm (paW [e]) hs, ha.run e1 rl fun vs Hs' H' n r => ?_⟩
      obtain ⟨v, w, rfl, rfl, rfl⟩ := r
      exact ⟨_, rfl, by omega, by omega, q _ Hs' H' n feeds_range⟩
    · cases e2
  · cases e2
theorem sim_range2 {tg e' : Expr} {p : Pos} {ma : AM} (hm : X.mg "range" = none) (ha : SimA X S [e, e'] ma) (hg : Gl X "range" := by rfl) (hs : starEach [e, e'] X.env = [(false, eval e X.env), (false, eval e' X.env)] := by rfl) (hs2 : starEach [e'] X.env = [(false, eval e' X.env)] := by rfl) :
    SimI X S tg (.Call (.Name "range" p) [e, e'] [] pos) (range2 ma) := by
  refine ⟨fun {ρ ds ρ'} h {F σ Hs H} rl {R} q => ?_⟩
  obtain ⟨ds, ρ1, e1, e2⟩ := Res.bind_ok h
  split at e2
  · split at e2
    · cases e2
      refine ⟨_, pi_range2 hg hm (paW [e, e']) hs hs2, ha.run e1 rl fun vs Hs' H' n r => ?_⟩
      obtain ⟨v, w, rfl, rfl, v', w', rfl, rfl, rfl⟩ := r
      exact ⟨_, _, rfl, ⟨by omega, by omega, by omega, by omega⟩, q _ Hs' H' n feeds_range⟩
    · cases e2
  · cases e2
end
end Sim

/-! Sim, part 6: a def's promise, calls, own things changed through calls. -/
namespace Sim
open PySem PySem.Spec PyProof.Rows L2

/-- what a def does: its arguments; its result and what became of the parameters that are handed on -/
abbrev Fn := List D → Option (D × List D)
def pad (n : Nat) (ds : List D) : Rho := ds.map some ++ List.replicate n none
def padV (n : Nat) (vs : List V) : L2.St := vs.map some ++ List.replicate n none
def lasts (io : List Nat) (ρ : Rho) : Option (List D) := match io with
  | [] => some []
  | i :: io => match ρ[i]?, lasts io ρ with
    | some (some d), some ds => some (d :: ds)
    | _, _ => none
/-- a def by its body: n more slots than parameters -/
def defF (n : Nat) (io : List Nat) (body : SM) : Fn := fun ds => match body (pad n ds) with
  | .ok .nxt ρ => (lasts io ρ).map fun fs => (.non, fs)
  | .ok (.ret d) ρ => (lasts io ρ).map fun fs => (d, fs)
  | _ => none
def spF (G : Gx) (S : Sc) (np n : Nat) (f : Fn) : Sp := fun vs H Q _ => vs.length = np ∧ ∃ (ds : List D) (d : D) (fs : List D) (Hs : Hp), f ds = some (d, fs) ∧
  Rel G S ⟨H, padV n vs⟩ Hs H (pad n ds) (padV n vs) ∧
  ∀ v σ' Hs' H' ρ', Nxt G S ⟨H, padV n vs⟩ (pad n ds) (padV n vs) Hs H ρ' σ' Hs' H' → RetV G ⟨H, padV n vs⟩ Hs' H' ρ' σ' d v → lasts S.io ρ' = some fs → Q v H'
theorem start_pad {N : List Str} {vs : List V} {n : Nat} (h : N.length = vs.length + n) : L2.start N vs = padV n vs := by
  unfold L2.start padV
  rw [h, Nat.add_sub_cancel_left]
theorem def_ok {P : Program} {w : World} {K : PySem.W.Frag} {mg : Str → Option Value} {base : Heap} {x qual : Str} {st : Stmt} {f : Addr} {fd : FuncData} {N ps : List Str} {k np n : Nat} {S : Sc} {body : SM} (F : Fun K x qual st f fd) (SC : FnScope N ps (defScope st)) (hp : ps.length = np) (hn : N.length = np + n)
    (hbody : ∀ (cdv : Value) (A : Around) (outer : List Env) (s : Shared) (H : Hp) (E : XK), Room k (A.deeper (envOfC qual (defScope st) s.heap.objs.size f cdv)) →
      SimB (cxOf CX0 P w K mg base N qual (defScope st) f cdv A outer s H E).nox S (defBody st) body) :
    FnOk P w K mg base CX0 (k + 1) f fd ps (spF ⟨P, w, K⟩ S np n (defF n S.io body)) := by
  refine F.ok SC (fun vs H Q E h => by rw [h.1, hp]) (fun cdv A outer s H vs Q E hr h => ?_)
  obtain ⟨hl, ds, d, fs, Hs, e, rl, q⟩ := h
  rw [start_pad (by rw [hn, hl])]
  unfold defF at e
  have B := hbody cdv A outer s H E hr
  split at e
  · rename_i ρ hb
    obtain ⟨fs', e1, e2⟩ := Option.map_eq_some_iff.mp e
    cases e2
    exact ⟨_, pbW _, B.run hb rl fun σ' Hs' H' n => q _ _ _ _ _ n ⟨rfl, fun o => by cases o⟩ e1⟩
  · rename_i d' ρ hb
    obtain ⟨fs', e1, e2⟩ := Option.map_eq_some_iff.mp e
    cases e2
    exact ⟨_, pbW _, B.run hb rl fun v σ' Hs' H' n rv => q _ _ _ _ _ n rv e1⟩
  · cases e

/-! ### arguments all shared -/
theorem pad_get {n : Nat} {ds : List D} {i : Nat} {d : D} (h : (pad n ds)[i]? = some (some d)) : ds[i]? = some d := by
  unfold pad at h
  by_cases hi : i < ds.length
  · rw [List.getElem?_append_left (by simpa using hi), List.getElem?_map] at h
    rw [List.getElem?_eq_getElem hi] at h ⊢
    simpa using h
  · rw [List.getElem?_append_right (by simpa using hi), List.getElem?_replicate] at h
    split at h <;> cases h
theorem padV_get {n : Nat} {vs : List V} {i : Nat} {v : V} (h : vs[i]? = some v) : (padV n vs)[i]? = some (some v) := by
  unfold padV
  have hi : i < vs.length := (List.getElem?_eq_some_iff.mp h).1
  rw [List.getElem?_append_left (by simpa using hi), List.getElem?_map, h]
  rfl
theorem pad_len {n : Nat} {ds : List D} {vs : List V} (h : ds.length = vs.length) : (pad n ds).length = (padV n vs).length := by
  unfold pad padV
  simp [h]
theorem rel_sh {G : Gx} {S : Sc} {Hs H : Hp} {n : Nat} {ds : List D} {vs : List V} (s : Same Hs H) (r : RepL G Hs ds vs) : Rel G S ⟨H, padV n vs⟩ Hs H (pad n ds) (padV n vs) := by
  have own : ∀ {i : Nat} {d : D}, (pad n ds)[i]? = some (some d) → d.owned = false := fun h => by
    obtain ⟨v, _, rv⟩ := r.get (pad_get h)
    exact rv.owned
  refine ⟨s, pad_len r.length, fun i d h => ?_, fun i j d e a _ h1 _ o1 => ?_, fun i d a _ h1 o1 => ?_, fun i d _ h => own h, fun _ _ => rfl, fun _ h => h⟩
  · obtain ⟨v, ev, rv⟩ := r.get (pad_get h)
    exact ⟨v, padV_get ev, .of rv⟩
  · rw [own h1] at o1; cases o1
  · rw [own h1] at o1; cases o1
theorem noOwn_sh {G : Gx} {Hs : Hp} {n : Nat} {ds : List D} {vs : List V} {b : Addr} {σ : L2.St} (r : RepL G Hs ds vs) : ¬ Own (pad n ds) σ b := fun ⟨i, d, h, o, _⟩ => by
  obtain ⟨v, _, rv⟩ := r.get (pad_get h)
  rw [rv.owned] at o; cases o
def callF (f : Fn) (m : AM) : EM := fun ρ => (m ρ).bind fun ds ρ1 => match f ds with
  | some (d, _) => .ok d ρ1
  | none => .fail
section
variable {X : Cx} {S : Sc} {e : Expr} {es : List Expr} {mes : AM} {pos p : Pos} {x : Str}
theorem sim_call {k np n : Nat} {S' : Sc} {g : Addr} {gd : FuncData} {ps : List Str} {f : Fn} (G : FnOk X.prog X.w X.K X.mg X.base CX0 k g gd ps (spF (gx X) S' np n f)) (hr : Room k X.A) (hm : X.mg x = some (.ref g)) (hk : PySem.W.keepIn X.K (.ref g) = true) (hb : Binds X.K gd ps [])
    (hl : (e :: es).length = np) (hio : S'.io = []) (ha : SimA X S (e :: es) mes) (hg : Gl X x := by rfl) (hdb : (x == ("__debug__" : Str)) = false := by decide) (he : starEach (e :: es) X.env = (false, eval e X.env) :: starEach es X.env := by rfl) (hpl : (backTo pos (starEach es X.env)).any (·.1) = false := by rfl)
    (hla : ∀ {ρ ρ' : Rho} {ds : List D}, mes ρ = .ok ds ρ' → ds.length = (e :: es).length) : SimE X S (.Call (.Name x p) (e :: es) [] pos) (callF f mes) := by
  refine ⟨fun {ρ d ρ'} hm' {F σ Hs H} rl {Q} q => ?_⟩
  obtain ⟨ds, ρ1, e1, e2⟩ := Res.bind_ok hm'
  split at e2
  · rename_i d' fs hf
    cases e2
    refine ⟨_, pe_call G hr hg hm hk hb .nil pass0 (paW (e :: es)) hdb he hpl, ha.run e1 rl fun vs Hs1 H1 n1 r1 => ?_⟩
    show spF (gx X) S' np n f (vs ++ []) H1 Q E0
    rw [List.append_nil]
    refine ⟨by rw [← r1.length, hla e1, hl], ds, d, fs, Hs1, hf, rel_sh n1.rel.sub r1, fun v σ' Hs2 H2 ρ2 n2 rv _ => ?_⟩
    have g : Nxt (gx X) S F ρ' σ Hs1 H1 ρ' σ Hs2 H2 := by
      refine n1.rel.grow n2.same (fun b o h => n2.keep b o h (noOwn_sh r1)) n2.rel.sub fun b h => ?_
      rcases n2.grow b h with z | z | z
      · exact .inl z
      · exact absurd z (noOwn_sh r1)
      · exact .inr z
    refine q v Hs2 H2 (n1.trans g) rv.1 fun o a ea => ?_
    have h0 := (rv.2 o a ea).1
    exact ⟨n1.unn h0, n1.rel.notOwn h0⟩
  · cases e2
theorem lenA_nil : ∀ {ρ ρ' : Rho} {ds : List D}, nilA ρ = .ok ds ρ' → ds.length = 0 := fun h => by cases h; rfl
theorem lenA_cons {m : EM} {n : AM} {l : Nat} (h : ∀ {ρ ρ' : Rho} {ds : List D}, n ρ = .ok ds ρ' → ds.length = l) : ∀ {ρ ρ' : Rho} {ds : List D}, consA m n ρ = .ok ds ρ' → ds.length = l + 1 := fun e => by
  obtain ⟨d, ρ1, e1, e⟩ := Res.bind_ok e
  obtain ⟨ds, ρ2, e2, e⟩ := Res.bind_ok e
  cases e
  rw [List.length_cons, h e2]

/-! ### lists changed in place -/
def appM (i : Nat) (m : EM) : SM := fun ρ => match ρ[i]? with
  | some (some (.lst _ _)) => (m ρ).bind fun d ρ1 => match ρ1[i]? with
    | some (some (.lst .own ds)) => if ds.length < cap then .ok .nxt (ρ1.set i (some (.lst .own (ds ++ [d])))) else .fail
    | _ => .fail
  | _ => .fail
theorem sim_app (i : Nat) {me : EM} {px apos : Pos} (he : SimV X S e me) (hN : X.N[i]? = some x := by rfl) (hv : Vis X.env.scope x := by first | exact Or.inl rfl | exact Or.inr (Or.inl rfl) | exact Or.inr (Or.inr rfl))
    (hd : (x == ("__debug__" : Str)) = false := by decide) (hcd : (x == ("__classdict__" : Str)) = false := by decide)
    (hbase : attributeBase (.Name x px) "append" X.env (eval (.Name x px) X.env) = eval (.Name x px) X.env := by rfl)
    (hfew : ((backTo p (starEach [e] X.env)).all (fun x => !x.1) && (backToKw p (keywordEach [] X.env)).all (fun x => x.1.isSome)
      && decide ([e].length + ([] : List Keyword).length + (if ([] : List Keyword).isEmpty then 0 else 1) < 30)) = true := by rfl)
    (hline : (apos.endLine == p.line) = true := by rfl) (hs : starEach [e] X.env = (false, eval e X.env) :: starEach [] X.env := by rfl)
    (hsw : swapsWith (.Call (.Attribute (.Name x px) "append" apos) [e] [] p) none pos.line X.env = pure false := by rfl) : SimS X S (.Expr (.Call (.Attribute (.Name x px) "append" apos) [e] [] p) pos) (appM i me) := by
  refine ⟨fun {ρ f ρ'} hm {F σ Hs H} rl {E} q => ?_⟩
  unfold appM at hm
  split at hm
  · rename_i m0 ds0 h0
    obtain ⟨d, ρ1, e1, hm⟩ := Res.bind_ok hm
    split at hm
    · rename_i ds h1
      split at hm
      · rename_i hz
        cases hm
        obtain ⟨v, ev, sv⟩ := rl.slot i _ h0
        obtain ⟨a0, vs0, rfl, ha0, _⟩ := sv.lst rl.sub
        refine ⟨_, ps_expr (pe_bm PySem.F.plainAttrs_list PySem.F.slot_list_append PySem.F.type_list_append mt_append (pe_var hN hv hd hcd) (pa_cons (peW e) pa_nil hs) hbase hfew hline hs rfl) hsw, _, ev, .inl ⟨rfl, vs0, .of ha0⟩, he.run e1 rl fun w Hs1 H1 n1 r1 => ?_⟩
        obtain ⟨v', ev', sv'⟩ := n1.rel.slot i _ h1
        rw [ev] at ev'; cases ev'
        obtain ⟨a, vs, e, hn, ha, rs⟩ := sv'.own rfl
        cases e
        refine ⟨_, vs, w, rfl, rfl, ha, by rw [sizeCap, ← rs.length]; exact hz, ?_⟩
        refine q σ Hs1 _ (n1.trans (n1.rel.write h1 rfl ev _ rfl ⟨_, _, rfl, hn, upd_same, rs.append (.cons r1 .nil)⟩))
      · cases hm
    · cases hm
  · cases hm
/-- x[i] = e -/
def setIxD (ds : List D) (k : D) (d : D) : Option (List D) := match k with
  | .int k => (ixN ds.length k).map fun j => ds.set j d
  | _ => none
def putM (i : Nat) (mk me : EM) : SM := fun ρ => (me ρ).bind fun d ρ1 => match ρ1[i]? with
  | some (some _) => (mk ρ1).bind fun k ρ2 => match ρ2[i]? with
    | some (some (.lst .own ds)) => match setIxD ds k d with
      | some ds' => .ok .nxt (ρ2.set i (some (.lst .own ds')))
      | none => .fail
    | _ => .fail
  | _ => .fail
theorem sim_put (i : Nat) {ix : Expr} {mk me : EM} {px : Pos} (hk : SimV X S ix mk) (he : SimV X S e me) (hN : X.N[i]? = some x := by rfl) (hv : Vis X.env.scope x := by first | exact Or.inl rfl | exact Or.inr (Or.inl rfl) | exact Or.inr (Or.inr rfl))
    (hd : (x == ("__debug__" : Str)) = false := by decide) (hcd : (x == ("__classdict__" : Str)) = false := by decide)
    (hs : swapsWithSole [.Subscript (.Name x px) ix p] e pos.line X.env = pure false := by rfl) (hw : swappedStores [.Subscript (.Name x px) ix p] e X.env = pure none := by rfl)
    (h1 : (assignEach [.Subscript (.Name x px) ix p] X.env).map (·.2) = [assign (.Subscript (.Name x px) ix p) X.env] := by rfl)
    (ha : ∀ v, assign (.Subscript (.Name x px) ix p) X.env v = (do
      let ov ← holding [v] (eval (.Name x px) X.env)
      let iv ← holding [v, ov] (eval ix X.env)
      standAt p
      holding [v, ov, iv] (setItem ov iv v)
      release [v, ov, iv] []) := by intro _; rfl) : SimS X S (.Assign [.Subscript (.Name x px) ix p] e pos) (putM i mk me) := by
  refine ⟨fun {ρ f ρ'} hm {F σ Hs H} rl {E} q => ?_⟩
  obtain ⟨d, ρ1, e1, hm⟩ := Res.bind_ok hm
  split at hm
  · rename_i d1 h1'
    obtain ⟨k, ρ2, e2, hm⟩ := Res.bind_ok hm
    split at hm
    · rename_i ds h2
      split at hm
      · rename_i ds' h3
        cases hm
        unfold setIxD at h3
        split at h3
        · obtain ⟨j, ej, rfl⟩ := Option.map_eq_some_iff.mp h3
          refine ⟨_, ps_asg (peW e) (pg_sub (peW _) (peW ix) set_list ha) hs hw h1, he.run e1 rl fun w Hs1 H1 n1 r1 => ?_⟩
          obtain ⟨v, ev, _⟩ := n1.rel.slot i _ h1'
          refine ⟨_, pe_var hN hv hd hcd, v, ev, hk.run e2 n1.rel fun z Hs2 H2 n2 r2 => ?_⟩
          obtain ⟨v', ev', sv⟩ := n2.rel.slot i _ h2
          rw [ev] at ev'; cases ev'
          obtain ⟨a, vs, e, hn, ha', rs⟩ := sv.own rfl
          cases e
          refine ⟨a, vs, _, j, rfl, r2, ha', by rw [← rs.length]; exact ej, ?_⟩
          exact q σ Hs2 _ ((n1.trans n2).trans (n2.rel.write h2 rfl ev _ rfl ⟨_, _, rfl, hn, upd_same, rs.set (Rep.mono n2.same _ _ r1) j⟩))
        · cases h3
      · cases hm
    · cases hm
  · cases hm
end
end Sim

/-! Sim, part 7: list comprehensions. -/
namespace Sim
open PySem PySem.Spec PyProof.Rows L2

def wipeR (ρ : Rho) : List Nat → Rho
  | [] => ρ
  | v :: vs => (wipeR ρ vs).set v none
theorem wipeR_some {ρ : Rho} {i : Nat} {d : D} : ∀ {vs : List Nat}, (wipeR ρ vs)[i]? = some (some d) → ρ[i]? = some (some d) ∧ i ∉ vs
  | [], h => ⟨h, by simp⟩
  | v :: vs, h => by
    obtain ⟨hi, h⟩ := set_none_some h
    obtain ⟨h1, h2⟩ := wipeR_some h
    exact ⟨h1, by simp [hi, h2]⟩
theorem wipeR_length (ρ : Rho) : ∀ vs : List Nat, (wipeR ρ vs).length = ρ.length
  | [] => rfl
  | v :: vs => by unfold wipeR; rw [List.length_set, wipeR_length ρ vs]
theorem wipe_ne {σ : L2.St} {i : Nat} : ∀ {vs : List Nat}, i ∉ vs → (wipe σ vs)[i]? = σ[i]?
  | [], _ => rfl
  | v :: vs, h => by
    simp at h
    unfold wipe
    rw [List.getElem?_set_ne (Ne.symm h.1), wipe_ne h.2]
theorem wipe_in {σ : L2.St} {i : Nat} : ∀ {vs : List Nat}, i ∈ vs → i < σ.length → (wipe σ vs)[i]? = some none
  | v :: vs, h, hl => by
    unfold wipe
    by_cases e : v = i
    · subst e
      rw [List.getElem?_set_self (by rw [wipe_length]; exact hl)]
    · rw [List.getElem?_set_ne e]
      exact wipe_in (by simpa [Ne.symm e] using h) hl
theorem wipe_ext {σ σ' : L2.St} {vs : List Nat} (hl : σ'.length = σ.length) (h : ∀ i, i < σ.length → i ∈ vs ∨ σ'[i]? = (wipe σ vs)[i]?) : wipe σ' vs = wipe σ vs := by
  apply List.ext_getElem?
  intro i
  by_cases hi : i < σ.length
  · by_cases hv : i ∈ vs
    · rw [wipe_in hv hi, wipe_in hv (by omega)]
    · rw [wipe_ne hv]
      rcases h i hi with z | z
      · exact absurd z hv
      · exact z
  · rw [List.getElem?_eq_none (by rw [wipe_length]; omega), List.getElem?_eq_none (by rw [wipe_length]; omega)]
section
variable {G : Gx} {S S' : Sc} {F : Fm} {Hs H Hs' H' : Hp} {ρ ρ' : Rho} {σ : L2.St} {vs : List Nat}
theorem Rel.sc (r : Rel G S F Hs H ρ σ) (h1 : S'.os = S.os) (h2 : S'.io = S.io) : Rel G S' F Hs H ρ σ :=
  ⟨r.sub, r.len, r.slot, r.apart, fun i d a hi => r.fresh i d a (by rw [← h2]; exact hi), fun i d hi => r.vals i d (by rw [← h1]; exact hi), fun i hi => r.par i (by rw [← h2]; exact hi), r.dom0⟩
theorem own_wipe {b : Addr} (h : Own (wipeR ρ vs) (wipe σ vs) b) : Own ρ σ b := by
  obtain ⟨i, d, h1, o, s⟩ := h
  obtain ⟨h1, hv⟩ := wipeR_some h1
  rw [wipe_ne hv] at s
  exact ⟨i, d, h1, o, s⟩
theorem Rel.wipe (r : Rel G S F Hs H ρ σ) (hio : ∀ i ∈ vs, i ∉ S.io) : Rel G S F Hs H (wipeR ρ vs) (L2.wipe σ vs) := by
  refine ⟨r.sub, by rw [wipeR_length, wipe_length, r.len], fun i d h => ?_, fun i j d e a hij h1 h2 o1 o2 s1 s2 => ?_, fun i d a hi h1 o1 s1 => ?_, fun i d hi h => r.vals i d hi (wipeR_some h).1, fun i hi => ?_, r.dom0⟩
  · obtain ⟨h1, hv⟩ := wipeR_some h
    obtain ⟨v, ev, sv⟩ := r.slot i d h1
    exact ⟨v, by rw [wipe_ne hv]; exact ev, sv⟩
  · obtain ⟨h1, v1⟩ := wipeR_some h1
    obtain ⟨h2, v2⟩ := wipeR_some h2
    rw [wipe_ne v1] at s1
    rw [wipe_ne v2] at s2
    exact r.apart i j d e a hij h1 h2 o1 o2 s1 s2
  · obtain ⟨h1, v1⟩ := wipeR_some h1
    rw [wipe_ne v1] at s1
    exact r.fresh i d a hi h1 o1 s1
  · rw [wipe_ne (fun z => hio i z hi)]
    exact r.par i hi
/-- back to the slots as they are outside -/
theorem Rel.unwipe (r : Rel G S F Hs H ρ (L2.wipe σ vs)) (hio : ∀ i ∈ vs, i ∉ S.io) : Rel G S F Hs H (wipeR ρ vs) σ := by
  refine ⟨r.sub, by rw [wipeR_length, r.len, wipe_length], fun i d h => ?_, fun i j d e a hij h1 h2 o1 o2 s1 s2 => ?_, fun i d a hi h1 o1 s1 => ?_, fun i d hi h => r.vals i d hi (wipeR_some h).1, fun i hi => ?_, r.dom0⟩
  · obtain ⟨h1, hv⟩ := wipeR_some h
    obtain ⟨v, ev, sv⟩ := r.slot i d h1
    exact ⟨v, by rw [← wipe_ne hv]; exact ev, sv⟩
  · obtain ⟨h1, v1⟩ := wipeR_some h1
    obtain ⟨h2, v2⟩ := wipeR_some h2
    exact r.apart i j d e a hij h1 h2 o1 o2 (by rw [wipe_ne v1]; exact s1) (by rw [wipe_ne v2]; exact s2)
  · obtain ⟨h1, v1⟩ := wipeR_some h1
    exact r.fresh i d a hi h1 o1 (by rw [wipe_ne v1]; exact s1)
  · rw [← r.par i hi, wipe_ne (fun z => hio i z hi)]
theorem own_unwipe {b : Addr} (h : Own (wipeR ρ vs) σ b) : Own ρ (L2.wipe σ vs) b := by
  obtain ⟨i, d, h1, o, s⟩ := h
  obtain ⟨h1, hv⟩ := wipeR_some h1
  exact ⟨i, d, h1, o, by rw [wipe_ne hv]; exact s⟩
end

/-- a comprehension's tests -/
def WTs (X : Cx) (es : List Expr) : TT := fun σ H Q => ∃ t, PTs X es t ∧ t σ H Q
structure SimTs (X : Cx) (S : Sc) (es : List Expr) (m : TM) : Prop where
  run : ∀ {ρ : Rho} {b : Bool} {ρ' : Rho}, m ρ = .ok b ρ' → ∀ {F : Fm} {σ : L2.St} {Hs H : Hp}, Rel (gx X) S F Hs H ρ σ → ∀ {Q : Bool → Hp → Prop},
    (∀ Hs' H', Nxt (gx X) S F ρ σ Hs H ρ' σ Hs' H' → Q b H') → WTs X es σ H Q
def yesM : TM := fun ρ => .ok true ρ
theorem sim_ts0 {X : Cx} {S : Sc} : SimTs X S [] yesM := by
  refine ⟨fun {ρ b ρ'} hm {F σ Hs H} rl {Q} q => ?_⟩
  cases hm
  exact ⟨_, pts_nil, q Hs H (.refl rl)⟩
theorem sim_ts1 {X : Cx} {S : Sc} {c : Expr} {m : TM} (h : SimT X S c m) : SimTs X S [c] m := by
  refine ⟨fun {ρ b ρ'} hm {F σ Hs H} rl {Q} q => ?_⟩
  exact ⟨_, pts_one (ptW c), h.run hm rl q⟩

/-- the contexts of a comprehension's block -/
abbrev Blk (X : Cx) (scope : Scope) (p : Cx → Prop) : Prop := ∀ (s : Shared) (H : Hp) (C : Addr) (cl : List (Str × Addr)) (fp : List Addr), p (X.blk s H scope (compEnvC scope cl C X.env) fp)
def compGo (vs : List Nat) (g : GM) (c : TM) (e : EM) : List D → List D → Rho → Res (List D)
  | [], acc, ρ => .ok acc ρ
  | d :: ds, acc, ρ => (g d ρ).bind fun _ ρ1 => (c ρ1).bind fun b ρ2 => match b with
    | true => (e ρ2).bind fun y ρ3 => compGo vs g c e ds (acc ++ [y]) (wipeR ρ3 vs)
    | false => compGo vs g c e ds acc (wipeR ρ2 vs)
def compM (n : Nat) (vs : List Nat) (it : AM) (g : GM) (c : TM) (e : EM) : EM := fun ρ => (it ρ).bind fun ds ρ1 =>
  if ρ1.length = n ∧ ds.length ≤ cap then (compGo vs g c e ds [] (wipeR ρ1 vs)).bind fun acc ρ2 => .ok (.lst .own acc) (wipeR ρ2 vs) else .fail
section
variable {X : Cx} {S S' : Sc} {tg iter elt : Expr} {ifs : List Expr} {scope : Scope} {own : List (Str × Nat)} {mi : AM} {g : GM} {mc : TM} {me : EM} {n : Nat}
theorem lc_read (hi : SimI X S tg iter mi) (hg : Blk X scope fun Y => SimG Y S' tg g) (ht : Blk X scope fun Y => SimTs Y S' ifs mc) (he : Blk X scope fun Y => SimV Y S' elt me)
    (h1 : S'.os = S.os) (h2 : S'.io = S.io) (hio : ∀ i ∈ own.map (·.2), i ∉ S.io) (hfx : ∀ i, i < n → i ∈ own.map (·.2) ∨ i ∈ S'.fx)
    {ρ : Rho} {d : D} {ρ' : Rho} (hm : compM n (own.map (·.2)) mi g mc me ρ = .ok d ρ') {F : Fm} {σ : L2.St} {Hs H : Hp} (rl : Rel (gx X) S F Hs H ρ σ) {Q : VK}
    (q : ∀ v Hs' H', Nxt (gx X) S F ρ σ Hs H ρ' σ Hs' H' → SlotV (gx X) Hs' H' d v → (d.owned = true → ∀ a, v = .ref a → H a = none ∧ ¬ Own ρ' σ a) → Q v H') :
    tLc (WI X tg iter) (fun x σ H Q => Blk X scope fun Y => WG Y tg x σ H Q) (fun σ H Q => Blk X scope fun Y => WTs Y ifs σ H Q) (fun σ H Q => Blk X scope fun Y => WE Y elt σ H Q) (own.map (·.2)) σ H Q := by
  obtain ⟨ds, ρ1, e1, hm⟩ := Res.bind_ok hm
  split at hm
  · rename_i hn
    obtain ⟨acc, ρ2, e2, hm⟩ := Res.bind_ok hm
    cases hm
    generalize hvs : own.map (·.2) = vs at *
    refine hi.run e1 rl fun J Hs1 H1 n1 fd => fun A hA => ?_
    have hsA : Hs1 A = none := n1.rel.sub.free hA
    have nA := n1.rel.newOwn hA (.lst [])
    have nw : Nxt (gx X) S' F (wipeR ρ1 vs) (wipe σ vs) Hs1 H1 (wipeR ρ1 vs) (wipe σ vs) Hs1 (upd H1 A (.lst [])) := ((n1.rel.wipe hio).sc h1 h2).newOwn hA _
    have hlen : σ.length = n := by rw [← n1.rel.len]; exact hn.1
    refine ⟨fun i k Ht => ∃ ρt Hst ac av, i + k = ds.length ∧ compGo vs g mc me (ds.drop i) ac ρt = .ok acc ρ2 ∧ Same Hs1 Hst ∧ Nxt (gx X) S' F (wipeR ρ1 vs) (wipe σ vs) Hs1 H1 ρt (wipe σ vs) Hst Ht ∧
        Ht A = some (.lst av) ∧ Hst A = none ∧ ¬ Own ρt (wipe σ vs) A ∧ RepL (gx X) Hst ac av ∧ ac.length ≤ i, ⟨ds.length, wipeR ρ1 vs, Hs1, [], [], by simp, e2, .refl _, nw, upd_same, hsA, fun z => n1.rel.notOwn hA (own_wipe z), rfl, by simp⟩, ?_⟩
    rintro i k Ht ⟨ρt, Hst, ac, av, ek, e, sm, nt, htA, hstA, nOA, rac, hac⟩
    by_cases hi' : i < ds.length
    · rw [List.drop_eq_getElem_cons hi'] at e
      obtain ⟨_, ρ3, e3, e⟩ := Res.bind_ok e
      obtain ⟨b, ρ4, e4, e⟩ := Res.bind_ok e
      obtain ⟨go, yl⟩ := fd.1 i _ Hst Ht (List.getElem?_eq_getElem hi') sm nt.rel.sub
      refine .inr ⟨go, fun H' => ∃ ρt Hst ac av, i + 1 + (k - 1) = ds.length ∧ compGo vs g mc me (ds.drop (i + 1)) ac ρt = .ok acc ρ2 ∧ Same Hs1 Hst ∧ Nxt (gx X) S' F (wipeR ρ1 vs) (wipe σ vs) Hs1 H1 ρt (wipe σ vs) Hst H' ∧
        H' A = some (.lst av) ∧ Hst A = none ∧ ¬ Own ρt (wipe σ vs) A ∧ RepL (gx X) Hst ac av ∧ ac.length ≤ i + 1, fun H' h => ⟨k - 1, by omega, h⟩, fun x H3 y s0 H0 C cl fp => ?_⟩
      obtain ⟨Hs3, x3, r3⟩ := yl x H3 y
      have n3' := x3.nxt nt.rel
      have n3 := nt.trans n3'
      obtain ⟨a3, b3, c3⟩ := n3'.tmp htA hstA nOA
      refine (hg s0 H0 C cl fp).run e3 n3.rel r3 fun σ4 Hs4 H4 n4 => ?_
      obtain ⟨a4, b4, c4⟩ := n4.tmp a3 b3 c3
      have wl : σ4.length = (wipe σ vs).length := n4.slen
      have we : wipe σ4 vs = wipe σ vs := by
        refine wipe_ext (by rw [wl, wipe_length]) fun j hj => ?_
        rcases hfx j (by omega) with z | z
        · exact .inl z
        · exact .inr (n4.fix j z)
      refine ⟨we, fun s0 H0 C cl fp => (ht s0 H0 C cl fp).run e4 n4.rel fun Hs5 H5 n5 => ?_⟩
      obtain ⟨a5, b5, c5⟩ := n5.tmp a4 b4 c4
      -- back to the turn's slots
      have back : ∀ {ρ6 : Rho} {Hs6 H6 : Hp}, Nxt (gx X) S' F ρ3 σ4 Hs4 H4 ρ6 σ4 Hs6 H6 → ¬ Own ρ6 σ4 A → Nxt (gx X) S' F (wipeR ρ1 vs) (wipe σ vs) Hs1 H1 (wipeR ρ6 vs) (wipe σ vs) Hs6 H6 ∧ ¬ Own (wipeR ρ6 vs) (wipe σ vs) A := fun {ρ6 Hs6 H6} n6 c6 => by
        have n := (n3.trans n4).trans n6
        refine ⟨⟨by rw [← we]; exact n.rel.wipe (by rw [h2]; exact hio), n.same, n.keep, n.dom, fun b z => n.own b (by rw [← we] at z; exact own_wipe z), n.grow, fun _ _ => rfl, rfl⟩, fun z => c6 (by rw [← we] at z; exact own_wipe z)⟩
      cases b with
      | false =>
        rw [if_neg Bool.false_ne_true]
        obtain ⟨m1, m2⟩ := back n5 c5
        exact ⟨_, Hs5, ac, av, by omega, e, ((sm.trans x3.s).trans n4.same).trans n5.same, m1, a5, b5, m2, RepL.mono ((x3.s.trans n4.same).trans n5.same) _ _ rac, by omega⟩
      | true =>
        rw [if_pos rfl]
        obtain ⟨yd, ρ5, e5, e⟩ := Res.bind_ok e
        refine fun s0 H0 C cl fp => (he s0 H0 C cl fp).run e5 n5.rel fun yv Hs6 H6 n6 r6 => ?_
        obtain ⟨a6, b6, c6⟩ := n6.tmp a5 b5 c5
        obtain ⟨m1, m2⟩ := back (n5.trans n6) c6
        have sm6 : Same Hst Hs6 := ((x3.s.trans n4.same).trans n5.same).trans n6.same
        refine ⟨av, a6, by rw [← rac.length, sizeCap]; omega, _, Hs6, ac ++ [yd], av ++ [yv], by omega, e, sm.trans sm6, m1.tmpWrite hA b6 m2 _, upd_same, b6, m2, (RepL.mono sm6 _ _ rac).append (.cons r6 .nil), by rw [List.length_append, List.length_singleton]; omega⟩
    · have ei : i = ds.length := by omega
      subst ei
      rw [List.drop_length] at e
      cases e
      have nf : Nxt (gx X) S F ρ1 σ Hs1 H1 (wipeR ρ2 vs) σ Hst Ht := by
        refine ⟨(nt.rel.sc h1.symm h2.symm).unwipe hio, nt.same, fun b o h no => nt.keep b o h fun z => no (own_wipe z), nt.dom, fun b z => ?_, fun b h => ?_, fun _ _ => rfl, rfl⟩
        · rcases nt.own b (own_unwipe z) with y | y
          · exact .inl (own_wipe y)
          · exact .inr y
        · rcases nt.grow b h with y | y | y
          · exact .inl y
          · exact .inr (.inl (own_wipe y))
          · exact .inr (.inr y)
      refine .inl ⟨fd.2 Hst Ht sm nt.rel.sub, q _ Hst Ht (n1.trans nf) (.ofOwn ⟨A, av, rfl, hstA, htA, rac⟩ rfl) fun _ a ea => ?_⟩
      cases ea
      exact ⟨n1.unn hA, fun z => nOA (own_unwipe z)⟩
  · cases hm
theorem sim_lc {pos : Pos} (hc : X.calm = true) (hN : X.N.Nodup) (hi : SimI X S tg iter mi) (hg : Blk X scope fun Y => SimG Y S' tg g) (ht : Blk X scope fun Y => SimTs Y S' ifs mc) (he : Blk X scope fun Y => SimV Y S' elt me)
    (hio : ∀ i ∈ own.map (·.2), i ∉ S.io) (hfx : ∀ i, i < n → i ∈ own.map (·.2) ∨ i ∈ S'.fx) (ok : BlkOk X.N X.env.scope scope own) (h1 : S'.os = S.os := by rfl) (h2 : S'.io = S.io := by rfl)
    (hs : ∀ x, foldedSetIterable iter X.env x = pure x := by intro _; rfl) : SimE X S (.ListComp elt [⟨tg, iter, ifs, 0⟩] scope pos) (compM n (own.map (·.2)) mi g mc me) := by
  refine ⟨fun {ρ d ρ'} hm {F σ Hs H} rl {Q} q => ?_⟩
  refine ⟨_, pe_lc hc hN (piW tg iter) ok (fun s H C cl fp => ⟨fun pins s' σ H' v u Q I r h => ?_⟩) (fun s H C cl fp => ⟨fun pins s' σ H' Q I h => ?_⟩) (fun s H C cl fp => ⟨fun pins s' σ H' Q I h => ?_⟩) hs, lc_read hi hg ht he h1 h2 hio hfx hm rl q⟩
  · obtain ⟨t, h3, h4⟩ := h s H C cl fp
    exact h3.run pins s' σ H' v u Q I r h4
  · obtain ⟨t, h3, h4⟩ := h s H C cl fp
    exact h3.run pins s' σ H' Q I h4
  · obtain ⟨t, h3, h4⟩ := h s H C cl fp
    exact h3.run pins s' σ H' Q I h4
/-- y = [..] on one line -/
theorem sim_setLc (i : Nat) {y : Str} {py pos spos : Pos} (hc : X.calm = true) (hN : X.N.Nodup) (hi : SimI X S tg iter mi) (hg : Blk X scope fun Y => SimG Y S' tg g) (ht : Blk X scope fun Y => SimTs Y S' ifs mc) (he : Blk X scope fun Y => SimV Y S' elt me)
    (hio : ∀ i ∈ own.map (·.2), i ∉ S.io) (hfx : ∀ i, i < n → i ∈ own.map (·.2) ∨ i ∈ S'.fx) (ok : BlkOk X.N X.env.scope scope own) (hos : i ∈ S.os) (hyio : i ∉ S.io) (hyfx : i ∉ S.fx) (hy : X.N[i]? = some y) (hyl : X.env.scope.names.lookup y = some .local)
    (hsw : swapsWith (.ListComp elt [⟨tg, iter, ifs, 0⟩] scope pos) (some (.Name y py)) spos.line X.env = pure true) (h1 : S'.os = S.os := by rfl) (h2 : S'.io = S.io := by rfl)
    (hs : ∀ x, foldedSetIterable iter X.env x = pure x := by intro _; rfl) : SimS X S (.Assign [.Name y py] (.ListComp elt [⟨tg, iter, ifs, 0⟩] scope pos) spos) (setM i (compM n (own.map (·.2)) mi g mc me)) := by
  refine ⟨fun {ρ f ρ'} hm {F σ Hs H} rl {E} q => ?_⟩
  obtain ⟨d, ρ1, e1, e2⟩ := Res.bind_ok hm
  cases e2
  refine ⟨_, ps_setLc hc hN hy hyl hsw (piW tg iter) ok (fun s H C cl fp => ⟨fun pins s' σ H' v u Q I r h => ?_⟩) (fun s H C cl fp => ⟨fun pins s' σ H' Q I h => ?_⟩) (fun s H C cl fp => ⟨fun pins s' σ H' Q I h => ?_⟩) hs,
    lc_read hi hg ht he h1 h2 hio hfx e1 rl fun v Hs' H' n sv fr => q _ Hs' H' (n.assign rl hyio hyfx sv fun o => ⟨hos, fr o⟩)⟩
  · obtain ⟨t, h3, h4⟩ := h s H C cl fp
    exact h3.run pins s' σ H' v u Q I r h4
  · obtain ⟨t, h3, h4⟩ := h s H C cl fp
    exact h3.run pins s' σ H' Q I h4
  · obtain ⟨t, h3, h4⟩ := h s H C cl fp
    exact h3.run pins s' σ H' Q I h4
/-- .. shared at once -/
theorem sim_setLcV (i : Nat) {y : Str} {py pos spos : Pos} (hc : X.calm = true) (hN : X.N.Nodup) (hi : SimI X S tg iter mi) (hg : Blk X scope fun Y => SimG Y S' tg g) (ht : Blk X scope fun Y => SimTs Y S' ifs mc) (he : Blk X scope fun Y => SimV Y S' elt me)
    (hio : ∀ i ∈ own.map (·.2), i ∉ S.io) (hfx : ∀ i, i < n → i ∈ own.map (·.2) ∨ i ∈ S'.fx) (ok : BlkOk X.N X.env.scope scope own) (hyio : i ∉ S.io) (hyfx : i ∉ S.fx) (hy : X.N[i]? = some y) (hyl : X.env.scope.names.lookup y = some .local)
    (hsw : swapsWith (.ListComp elt [⟨tg, iter, ifs, 0⟩] scope pos) (some (.Name y py)) spos.line X.env = pure true) (h1 : S'.os = S.os := by rfl) (h2 : S'.io = S.io := by rfl)
    (hs : ∀ x, foldedSetIterable iter X.env x = pure x := by intro _; rfl) : SimS X S (.Assign [.Name y py] (.ListComp elt [⟨tg, iter, ifs, 0⟩] scope pos) spos) (setM i (shM (compM n (own.map (·.2)) mi g mc me))) := by
  refine ⟨fun {ρ f ρ'} hm {F σ Hs H} rl {E} q => ?_⟩
  obtain ⟨d, ρ1, e1, e2⟩ := Res.bind_ok hm
  cases e2
  obtain ⟨d0, ρ2, e0, e3⟩ := Res.bind_ok e1
  cases e3
  refine ⟨_, ps_setLc hc hN hy hyl hsw (piW tg iter) ok (fun s H C cl fp => ⟨fun pins s' σ H' v u Q I r h => ?_⟩) (fun s H C cl fp => ⟨fun pins s' σ H' Q I h => ?_⟩) (fun s H C cl fp => ⟨fun pins s' σ H' Q I h => ?_⟩) hs,
    lc_read hi hg ht he h1 h2 hio hfx e0 rl fun v Hs' H' n sv fr => ?_⟩
  · obtain ⟨t, h3, h4⟩ := h s H C cl fp
    exact h3.run pins s' σ H' v u Q I r h4
  · obtain ⟨t, h3, h4⟩ := h s H C cl fp
    exact h3.run pins s' σ H' Q I h4
  · obtain ⟨t, h3, h4⟩ := h s H C cl fp
    exact h3.run pins s' σ H' Q I h4
  · obtain ⟨Hs2, n2, r2⟩ := n.share sv fr
    exact q _ Hs2 H' (n2.assign rl hyio hyfx (.of r2) fun o => by rw [r2.owned] at o; cases o)
end
end Sim

/-! Sim, part 8: dicts; in; len. -/
namespace Sim
open PySem PySem.Spec PyProof.Rows L2

/-! ### keys -/
mutual
theorem rep_nested {X : Cx} {pins : List (Addr × Obj)} {σ : L2.St} {Hs H : Hp} {s : Shared} (I : Inv X pins σ H s) (sm : Same Hs H) : ∀ (d : D) (v : V) (k : NestedKey) (u : Value), Rep (gx X) Hs d v → keyOf d = some k → RelV v u → NestedIs s.heap k u
  | .non, _, _, _, h, e, r => by cases h; cases e; cases r; exact .none
  | .bl b, _, _, _, h, e, r => by cases h; cases e; cases r; exact .bool rfl
  | .int i, _, _, _, h, e, r => by cases h; cases e; obtain ⟨t, rfl⟩ := r; exact .int i t
  | .str x, _, _, _, h, e, r => by cases h; cases e; obtain ⟨t, rfl⟩ := r; exact .text x t
  | .tup ds, _, k, _, h, e, r => by
    obtain ⟨a, vs, rfl, q, t⟩ := h
    unfold keyOf at e
    split at e
    · rename_i ks hk
      cases e
      cases r
      obtain ⟨its, rv, ⟨o, h1, h2, n, h3⟩, _⟩ := I.tuple (Same.seqT sm q)
      exact .tup h1 h2 h3 (by simpa using reps_nested I sm ds vs ks its t hk rv)
    · cases e
  | .lst _ _, _, _, _, _, e, _ => by cases e
  | .dct _ _ _, _, _, _, _, e, _ => by cases e
  | .scr _, _, _, _, _, e, _ => by cases e
theorem reps_nested {X : Cx} {pins : List (Addr × Obj)} {σ : L2.St} {Hs H : Hp} {s : Shared} (I : Inv X pins σ H s) (sm : Same Hs H) : ∀ (ds : List D) (vs : List V) (ks : List NestedKey) (us : List Value), RepL (gx X) Hs ds vs → keysOf ds = some ks → Vals vs us → NestedAll s.heap ks us
  | [], _, _, _, h, e, r => by cases h; cases e; cases r; exact .nil
  | d :: ds, _, ks, us, h, e, r => by
    obtain ⟨v, w, rfl, h1, h2⟩ := h
    unfold keysOf at e
    split at e
    · rename_i k ks' hk hks
      cases e
      cases r with
      | cons r1 r2 => exact .cons (rep_nested I sm d v k _ h1 hk r1) (reps_nested I sm ds w ks' _ h2 hks r2)
    · cases e
end
theorem leaf_is {G : Gx} {H : Hp} {d : D} {v : V} {l : Leaf} {u : Value} (h : Rep G H d v) (e : leafOf d = some l) (r : RelV v u) : Leaf.isOf l u = true := by
  cases d with
  | non => cases (show v = .non from h); cases e; cases r; rfl
  | bl b => cases (show v = .bl b from h); cases e; cases r; cases b <;> rfl
  | int i => cases (show v = .int i from h); cases e; obtain ⟨t, rfl⟩ := (show ∃ t, u = Value.int i t from r); exact decide_eq_true rfl
  | str x => cases (show v = .str x from h); cases e; obtain ⟨t, rfl⟩ := (show ∃ t, u = Value.str x t from r); exact keyIs_str x t
  | tup _ => cases e
  | lst _ _ => cases e
  | dct _ _ _ => cases e
  | scr _ => cases e
theorem leaf_key {d : D} {l : Leaf} (e : leafOf d = some l) : keyOf d = some l.key := by
  cases d with
  | non => cases e; rfl
  | bl b => cases e; rfl
  | int i => cases e; rfl
  | str x => cases e; rfl
  | tup _ => cases e
  | lst _ _ => cases e
  | dct _ _ _ => cases e
  | scr _ => cases e
/-- where a key stands -/
def sameK (a b : D) : Bool := decide (keyOf a = keyOf b)
def lookD (k : D) : List D → List D → Option D
  | k' :: ks, d :: ds => if sameK k' k = true then some d else lookD k ks ds
  | _, _ => none
def replD (k d : D) : List D → List D → List D
  | k' :: ks, d' :: ds => (if sameK k' k = true then d else d') :: replD k d ks ds
  | _, ds => ds
/-- keys of one sort with k -/
def sort1 (k : D) (ks : List D) : Bool := match ks with
  | [] => true
  | k' :: _ => (leafOf k').isSome == (leafOf k).isSome
/-- k can be a key -/
def keyOk (k : D) : Bool := match keyOf k with
  | some n => decide (n.depth ≤ 8)
  | none => false
def isTupD : D → Bool
  | .tup _ => true
  | _ => false

/-- what a dict is, in the heap -/
structure LeafAt (G : Gx) (Hs H : Hp) (a : Addr) (ks ds : List D) (kvs : List (Leaf × V)) : Prop where
  at_ : H a = some (leafO G a kvs)
  keys : ks.map leafOf = kvs.map (fun p => some p.1)
  le : kvs.length ≤ sizeLine
  reps : RepL G Hs ds (kvs.map (·.2))
structure TupAt (G : Gx) (Hs H : Hp) (a : Addr) (ks ds : List D) (xs : List (NestedKey × Addr × V)) : Prop where
  at_ : H a = some (tupO G a xs)
  keys : ks.map keyOf = xs.map (fun p => some p.1)
  le : xs.length ≤ sizeLine
  nd : (xs.map (·.1)).Nodup
  dep : ∀ p ∈ xs, p.1.depth ≤ 8
  refs : RepL G Hs ks (xs.map fun p => .ref p.2.1)
  reps : RepL G Hs ds (xs.map (·.2.2))
theorem SlotV.dct {G : Gx} {Hs H : Hp} {m : Md} {ks ds : List D} {v : V} (s : Same Hs H) (h : SlotV G Hs H (.dct m ks ds) v) :
    ∃ a, v = .ref a ∧ (a == sysModules) = false ∧ ((∃ kvs, LeafAt G Hs H a ks ds kvs) ∨ ∃ xs, TupAt G Hs H a ks ds xs) := by
  cases m with
  | sh =>
    obtain ⟨_, a, e, sm, q⟩ := h.rep rfl
    refine ⟨a, e, sm, ?_⟩
    rcases q with ⟨kvs, q1, q2, q3, q5⟩ | ⟨xs, q1, q2, q3, q4, q8, q5, q7⟩
    · exact .inl ⟨kvs, s _ _ q1, q2, q3, q5⟩
    · exact .inr ⟨xs, s _ _ q1, q2, q3, q4, q8, q5, q7⟩
  | own =>
    obtain ⟨a, e, _, sm, q⟩ := h.own rfl
    refine ⟨a, e, sm, ?_⟩
    rcases q with ⟨kvs, q1, q2, q3, q5⟩ | ⟨xs, q1, q2, q3, q4, q8, q5, q7⟩
    · exact .inl ⟨kvs, q1, q2, q3, q5⟩
    · exact .inr ⟨xs, q1, q2, q3, q4, q8, q5, q7⟩
  | brw =>
    obtain ⟨a, e, _, sm, q⟩ := h.own rfl
    refine ⟨a, e, sm, ?_⟩
    rcases q with ⟨kvs, q1, q2, q3, q5⟩ | ⟨xs, q1, q2, q3, q4, q8, q5, q7⟩
    · exact .inl ⟨kvs, q1, q2, q3, q5⟩
    · exact .inr ⟨xs, q1, q2, q3, q4, q8, q5, q7⟩
theorem LeafAt.own {G : Gx} {Hs H : Hp} {a : Addr} {ks ds : List D} {kvs : List (Leaf × V)} (h : LeafAt G Hs H a ks ds kvs) (n : Hs a = none) (sm : (a == sysModules) = false) : OwnV G Hs H (.dct .own ks ds) (.ref a) :=
  ⟨a, rfl, n, sm, .inl ⟨kvs, h.1, h.2, h.3, h.4⟩⟩
theorem TupAt.own {G : Gx} {Hs H : Hp} {a : Addr} {ks ds : List D} {xs : List (NestedKey × Addr × V)} (h : TupAt G Hs H a ks ds xs) (n : Hs a = none) (sm : (a == sysModules) = false) : OwnV G Hs H (.dct .own ks ds) (.ref a) :=
  ⟨a, rfl, n, sm, .inr ⟨xs, h.1, h.2, h.3, h.4, h.5, h.6, h.7⟩⟩

/-! ### looking up, by lists -/
theorem look_leaf {G : Gx} {Hs : Hp} {key : D} {l : Leaf} (hl : leafOf key = some l) : ∀ {ks ds : List D} {kvs : List (Leaf × V)}, ks.map leafOf = kvs.map (fun p => some p.1) → RepL G Hs ds (kvs.map (·.2)) →
    (lookD key ks ds).isSome = (valV kvs l).isSome ∧ ∀ d, lookD key ks ds = some d → ∃ v, valV kvs l = some v ∧ Rep G Hs d v
  | [], ds, [], _, hr => by
    cases ds <;> exact ⟨rfl, fun d e => by cases e⟩
  | k :: ks, ds, (l', v) :: kvs, hk, hr => by
    rw [List.map_cons, List.map_cons, List.cons.injEq] at hk
    cases ds with
    | nil => cases hr
    | cons d ds =>
      obtain ⟨v', w, e, h1, h2⟩ := hr
      cases e
      have ih := look_leaf (G := G) hl (ks := ks) (ds := ds) hk.2 h2
      have ek : keyOf k = some l'.key := leaf_key hk.1
      by_cases q : l' = l
      · subst q
        have es : sameK k key = true := by unfold sameK; rw [ek, leaf_key hl]; exact decide_eq_true rfl
        have e1 : lookD key (k :: ks) (d :: ds) = some d := by unfold lookD; rw [if_pos es]
        rw [e1, valV_pos rfl]
        exact ⟨rfl, fun d' e => by cases e; exact ⟨v, rfl, h1⟩⟩
      · have es : ¬ sameK k key = true := by
          unfold sameK; rw [ek, leaf_key hl]
          intro z
          exact q (Leaf.key_inj (Option.some.inj (of_decide_eq_true z)))
        have e1 : lookD key (k :: ks) (d :: ds) = lookD key ks ds := by
          show (if sameK k key = true then some d else lookD key ks ds) = _
          rw [if_neg es]
        rw [e1, valV_neg q]
        exact ih
/-- the entry of a key -/
def atV (xs : List (NestedKey × Addr × V)) (k : NestedKey) : Option V := (xs.find? fun x => decide (x.1 = k)).map (·.2.2)
theorem atV_pos {p : NestedKey × Addr × V} {xs : List (NestedKey × Addr × V)} {k : NestedKey} (h : p.1 = k) : atV (p :: xs) k = some p.2.2 := by simp [atV, List.find?_cons, h]
theorem atV_neg {p : NestedKey × Addr × V} {xs : List (NestedKey × Addr × V)} {k : NestedKey} (h : ¬ p.1 = k) : atV (p :: xs) k = atV xs k := by simp [atV, List.find?_cons, h]
theorem look_tup {G : Gx} {Hs : Hp} {key : D} {n : NestedKey} (hn : keyOf key = some n) : ∀ {ks ds : List D} {xs : List (NestedKey × Addr × V)}, ks.map keyOf = xs.map (fun p => some p.1) → RepL G Hs ds (xs.map (·.2.2)) →
    (lookD key ks ds).isSome = (atV xs n).isSome ∧ ∀ d, lookD key ks ds = some d → ∃ v, atV xs n = some v ∧ Rep G Hs d v
  | [], ds, [], _, hr => by
    cases ds <;> exact ⟨rfl, fun d e => by cases e⟩
  | k :: ks, ds, (n', b, v) :: xs, hk, hr => by
    rw [List.map_cons, List.map_cons, List.cons.injEq] at hk
    cases ds with
    | nil => cases hr
    | cons d ds =>
      obtain ⟨v', w, e, h1, h2⟩ := hr
      cases e
      have ih := look_tup (G := G) hn (ks := ks) (ds := ds) hk.2 h2
      by_cases q : n' = n
      · subst q
        have es : sameK k key = true := by unfold sameK; rw [hk.1, hn]; exact decide_eq_true rfl
        have e1 : lookD key (k :: ks) (d :: ds) = some d := by unfold lookD; rw [if_pos es]
        rw [e1, atV_pos rfl]
        exact ⟨rfl, fun d' e => by cases e; exact ⟨v, rfl, h1⟩⟩
      · have es : ¬ sameK k key = true := by
          unfold sameK; rw [hk.1, hn]
          intro z
          exact q (Option.some.inj (of_decide_eq_true z))
        have e1 : lookD key (k :: ks) (d :: ds) = lookD key ks ds := by
          show (if sameK k key = true then some d else lookD key ks ds) = _
          rw [if_neg es]
        rw [e1, atV_neg q]
        exact ih
theorem TupRel.at_ : ∀ {xs : List (NestedKey × Addr × V)} {ys : List (NestedKey × Addr × Value)}, TupRel xs ys → ∀ k, RelO (atV xs k) ((atKey ys k).map (·.2))
  | _, _, .nil, k => True.intro
  | (n, b, v) :: xs, (n', b', u) :: ys, .cons h t, k => by
    obtain ⟨e1, e2, r⟩ := h
    cases e1; cases e2
    have ih := TupRel.at_ t k
    by_cases q : n = k
    · subst q
      have e : atKey ((n, b, u) :: ys) n = some (b, u) := by simp [atKey, List.find?_cons]
      rw [atV_pos rfl, e]
      exact r
    · have e : atKey ((n, b, u) :: ys) k = atKey ys k := by simp [atKey, List.find?_cons, q]
      rw [atV_neg q, e]
      exact ih
theorem TupRel.fst : ∀ {xs : List (NestedKey × Addr × V)} {ys : List (NestedKey × Addr × Value)}, TupRel xs ys → xs.map (fun p => (p.1, p.2.1)) = ys.map (fun p => (p.1, p.2.1))
  | _, _, .nil => rfl
  | _ :: _, _ :: _, .cons h t => by rw [List.map_cons, List.map_cons, TupRel.fst t, h.1, h.2.1]
/-- the object behind, for a key of its sort -/
theorem leaf_obj {X : Cx} {pins : List (Addr × Obj)} {σ : L2.St} {H : Hp} {s : Shared} {a : Addr} {kvs : List (Leaf × V)} (I : Inv X pins σ H s) (h : H a = some (leafO (gx X) a kvs)) : ∃ vs, KV kvs vs ∧ s.heap.DictOf (leafKind X.prog X.w) a vs := by
  have := I.hok a _ h
  exact this.1
theorem tup_obj {X : Cx} {pins : List (Addr × Obj)} {σ : L2.St} {Hs H : Hp} {s : Shared} {a : Addr} {ks ds : List D} {xs : List (NestedKey × Addr × V)} (I : Inv X pins σ H s) (sm : Same Hs H) (h : TupAt (gx X) Hs H a ks ds xs) : ∃ ys, TupRel xs ys ∧ s.heap.DictOfH (nestedKind X.prog X.w) a ys := by
  have h0 := I.hok a _ h.at_
  obtain ⟨⟨es, ep, ys, ⟨o, ho, hc, hd⟩, he, hr⟩, _⟩ := h0
  have ef := hr.fst
  refine ⟨ys, hr, o, es, ep, ho, hc, hd, he, fun y hy => ?_, ?_⟩
  · obtain ⟨j, hj⟩ := List.mem_iff_getElem?.mp hy
    have ej : (xs.map fun p => (p.1, p.2.1))[j]? = some (y.1, y.2.1) := by rw [ef, List.getElem?_map, hj]; rfl
    rw [List.getElem?_map] at ej
    obtain ⟨x, ex, exy⟩ := Option.map_eq_some_iff.mp ej
    have kj : (ks.map keyOf)[j]? = some (some x.1) := by rw [h.keys, List.getElem?_map, ex]; rfl
    rw [List.getElem?_map] at kj
    obtain ⟨k, ek, kk⟩ := Option.map_eq_some_iff.mp kj
    obtain ⟨v, ev, rv⟩ := h.refs.get ek
    rw [List.getElem?_map, ex] at ev
    cases ev
    have e1 : x.1 = y.1 := congrArg Prod.fst exy
    have e2 : x.2.1 = y.2.1 := congrArg Prod.snd exy
    rw [← e1, ← e2]
    exact ⟨rep_nested I sm k _ _ _ rv kk rfl, h.dep x (List.mem_of_getElem? ex)⟩
  · have : xs.map (·.1) = ys.map (·.1) := by
      have := congrArg (List.map Prod.fst) ef
      simpa [Function.comp_def] using this
    rw [← this]
    exact h.nd
theorem keyTup {d : D} {n : NestedKey} (h : keyOf d = some n) (hl : leafOf d = none) : ∃ ts, d = .tup ts := by
  cases d with
  | tup ts => exact ⟨ts, rfl⟩
  | non => cases hl
  | bl b => cases hl
  | int i => cases hl
  | str x => cases hl
  | lst _ _ => unfold keyOf at h; cases h
  | dct _ _ _ => unfold keyOf at h; cases h
  | scr _ => unfold keyOf at h; cases h
/-- an empty dict of either sort -/
theorem empty_leaf {P : Program} {w : World} {h : Heap} {a : Addr} (x : h.DictOf (leafKind P w) a []) : ∃ es ep, h.DictRaw a es ep ∧ es.toList = [] := by
  obtain ⟨o, es, ep, ho, hc, hd, _, hp, _⟩ := x
  refine ⟨es, ep, ⟨o, ho, hc, hd⟩, ?_⟩
  cases q : es.toList with
  | nil => rfl
  | cons e r => rw [q] at hp; cases hp
theorem leaf_empty {P : Program} {w : World} {h : Heap} {a : Addr} {es : Array DictEntry} {ep : Nat} (x : h.DictRaw a es ep) (e : es.toList = []) : h.DictOf (leafKind P w) a [] := by
  obtain ⟨o, ho, hc, hd⟩ := x
  have : es = #[] := by
    apply Array.ext'
    rw [e]
  subst this
  exact ⟨o, #[], ep, ho, hc, hd, fun e he => by simp at he, .nil, List.nodup_nil⟩

/-! ### k in d, d[k], len(d) -/
def inD (x y : D) : Option Bool := match y with
  | .dct _ ks ds => if keyOk x = true ∧ sort1 x ks = true then some (lookD x ks ds).isSome else none
  | .str z => match x with
    | .str c => some (!(Builtin.Str.occurrences z c 0 z.length 1).isEmpty)
    | _ => none
  | .tup ds => inL x ds
  | .lst _ ds => inL x ds
  | _ => none
where
  flat : D → Bool
    | .non => true
    | .bl _ => true
    | .int _ => true
    | .str _ => true
    | _ => false
  eqF : D → D → Bool
    | .non, .non => true
    | .bl a, .bl b => a == b
    | .bl a, .int b => (if a then 1 else 0) == b
    | .int a, .bl b => a == (if b then 1 else 0)
    | .int a, .int b => a == b
    | .str a, .str b => a == b
    | _, _ => false
  inL (x : D) (ds : List D) : Option Bool := if flat x = true ∧ ds.all flat = true then some (ds.any fun d => eqF d x) else none
theorem flat_of {G : Gx} {H : Hp} {d : D} {v : V} (h : Rep G H d v) (f : inD.flat d = true) : flatV v = true := by
  cases d with
  | non => cases (show v = .non from h); rfl
  | bl b => cases (show v = .bl b from h); rfl
  | int i => cases (show v = .int i from h); rfl
  | str x => cases (show v = .str x from h); rfl
  | tup _ => cases f
  | lst _ _ => cases f
  | dct _ _ _ => cases f
  | scr _ => cases f
/-- of a flat value, the value -/
def flV : D → V
  | .bl b => .bl b
  | .int i => .int i
  | .str x => .str x
  | _ => .non
theorem flat_v {G : Gx} {H : Hp} {d : D} {v : V} (h : Rep G H d v) (f : inD.flat d = true) : v = flV d := by
  cases d with
  | non => exact h
  | bl b => exact h
  | int i => exact h
  | str x => exact h
  | tup _ => cases f
  | lst _ _ => cases f
  | dct _ _ _ => cases f
  | scr _ => cases f
theorem eqF_of {G : Gx} {H : Hp} {d e : D} {v u : V} (h : Rep G H d v) (h' : Rep G H e u) (f : inD.flat d = true) (f' : inD.flat e = true) : eqV v u = inD.eqF d e := by
  rw [flat_v h f, flat_v h' f']
  cases d <;> cases e <;> first | rfl | exact absurd f Bool.false_ne_true | exact absurd f' Bool.false_ne_true
theorem flats_of {G : Gx} {H : Hp} : ∀ {ds : List D} {vs : List V}, RepL G H ds vs → ds.all inD.flat = true → vs.all flatV = true
  | [], _, h, _ => by cases h; rfl
  | d :: ds, _, h, f => by
    obtain ⟨v, w, rfl, h1, h2⟩ := h
    rw [List.all_cons, Bool.and_eq_true] at f ⊢
    exact ⟨flat_of h1 f.1, flats_of h2 f.2⟩
theorem any_of {G : Gx} {H : Hp} {x : D} {u : V} (hx : Rep G H x u) (fx : inD.flat x = true) : ∀ {ds : List D} {vs : List V}, RepL G H ds vs → ds.all inD.flat = true → inV u vs = ds.any fun d => inD.eqF d x
  | [], _, h, _ => by cases h; rfl
  | d :: ds, _, h, f => by
    obtain ⟨v, w, rfl, h1, h2⟩ := h
    rw [List.all_cons, Bool.and_eq_true] at f
    have ih := any_of hx fx h2 f.2
    unfold inV at ih ⊢
    rw [List.any_cons, List.any_cons, eqF_of h1 hx f.1 fx, ih]
section
variable {X : Cx}
/-- a dict for a key of its sort: by value, or by a tuple -/
structure ByLeaf (X : Cx) (Hs H : Hp) (x : D) (u : V) (a : Addr) (ks ds : List D) (l : Leaf) (kvs : List (Leaf × V)) : Prop where
  leaf : leafOf x = some l
  ob : ∀ (pins : List (Addr × Obj)) (σ : L2.St) (s : Shared), Inv X pins σ H s → ∃ vs, KV kvs vs ∧ s.heap.DictOf (leafKind X.prog X.w) a vs
  keys : ks.map leafOf = kvs.map (fun p => some p.1)
  le : kvs.length ≤ sizeLine
  reps : RepL (gx X) Hs ds (kvs.map (·.2))
structure ByTup (X : Cx) (Hs H : Hp) (x : D) (u : V) (a : Addr) (ks ds : List D) (n : NestedKey) (b : Addr) (xs : List (NestedKey × Addr × V)) : Prop where
  key : keyOf x = some n
  dep : n.depth ≤ 8
  rep : Rep (gx X) Hs x u
  ref : u = .ref b
  leaf : leafOf x = none
  ob : ∀ (pins : List (Addr × Obj)) (σ : L2.St) (s : Shared), Inv X pins σ H s → ∃ ys, TupRel xs ys ∧ s.heap.DictOfH (nestedKind X.prog X.w) a ys
  keys : ks.map keyOf = xs.map (fun p => some p.1)
  le : xs.length ≤ sizeLine
  nd : (xs.map (·.1)).Nodup
  deps : ∀ p ∈ xs, p.1.depth ≤ 8
  refs : RepL (gx X) Hs ks (xs.map fun p => .ref p.2.1)
  reps : RepL (gx X) Hs ds (xs.map (·.2.2))
theorem dict_case {Hs H : Hp} {x : D} {u : V} {a : Addr} {ks ds : List D} (s : Same Hs H) (hx : Rep (gx X) Hs x u) (hk : keyOk x = true) (hs : sort1 x ks = true) (hd : (∃ kvs, LeafAt (gx X) Hs H a ks ds kvs) ∨ ∃ xs, TupAt (gx X) Hs H a ks ds xs) :
    (∃ l kvs, ByLeaf X Hs H x u a ks ds l kvs) ∨ ∃ n b xs, ByTup X Hs H x u a ks ds n b xs := by
  unfold keyOk at hk
  split at hk
  · rename_i n hn
    have hdep : n.depth ≤ 8 := of_decide_eq_true hk
    cases hl : leafOf x with
    | some l =>
      left
      rcases hd with ⟨kvs, hd⟩ | ⟨xs, hd⟩
      · exact ⟨l, kvs, hl, fun _ _ _ I => leaf_obj I hd.at_, hd.keys, hd.le, hd.reps⟩
      · have e0 : ks = [] := by
          cases ks with
          | nil => rfl
          | cons k ks =>
            unfold sort1 at hs
            simp only [hl] at hs
            have hr := hd.refs
            cases xs with
            | nil => have := hd.keys; simp at this
            | cons p xs =>
              obtain ⟨v, w, e, r1, _⟩ := hr
              rw [List.map_cons] at e
              cases e
              cases k with
              | non => cases (show V.ref p.2.1 = .non from r1)
              | bl b => cases (show V.ref p.2.1 = .bl b from r1)
              | int i => cases (show V.ref p.2.1 = .int i from r1)
              | str x => cases (show V.ref p.2.1 = .str x from r1)
              | tup _ => exact absurd hs (by simp [leafOf])
              | lst _ _ => exact absurd hs (by simp [leafOf])
              | dct _ _ _ => exact absurd hs (by simp [leafOf])
              | scr _ => exact absurd hs (by simp [leafOf])
        subst e0
        have ex : xs = [] := by
          have := congrArg List.length hd.keys
          simpa using this.symm
        subst ex
        refine ⟨l, [], hl, fun _ _ _ I => ?_, rfl, Nat.zero_le _, hd.reps⟩
        obtain ⟨⟨es, ep, ys, hr, he, hy⟩, _⟩ := I.hok a _ hd.at_
        cases hy
        exact ⟨[], .nil, leaf_empty hr (by simpa using he)⟩
    | none =>
      right
      obtain ⟨ts, rfl⟩ := keyTup hn hl
      obtain ⟨b, bs, rfl, _⟩ := id hx
      rcases hd with ⟨kvs, hd⟩ | ⟨xs, hd⟩
      · have e0 : ks = [] := by
          cases ks with
          | nil => rfl
          | cons k ks =>
            unfold sort1 at hs
            simp only [hl] at hs
            cases kvs with
            | nil => have := hd.keys; simp at this
            | cons p kvs =>
              have := hd.keys
              rw [List.map_cons, List.map_cons, List.cons.injEq] at this
              rw [this.1] at hs
              exact absurd hs (by simp)
        subst e0
        have ex : kvs = [] := by
          have := congrArg List.length hd.keys
          simpa using this.symm
        subst ex
        refine ⟨n, b, [], hn, hdep, hx, rfl, hl, fun _ _ _ I => ?_, rfl, Nat.zero_le _, List.nodup_nil, fun _ h => by simp at h, rfl, hd.reps⟩
        obtain ⟨vs, hv, hob⟩ := leaf_obj I hd.at_
        cases hv
        obtain ⟨es, ep, ⟨o, ho, hc, hdt⟩, he⟩ := empty_leaf hob
        exact ⟨[], .nil, o, es, ep, ho, hc, hdt, by simpa using he, fun _ h => by simp at h, List.nodup_nil⟩
      · exact ⟨n, b, xs, hn, hdep, hx, rfl, hl, fun _ _ _ I => tup_obj I s hd, hd.keys, hd.le, hd.nd, hd.dep, hd.refs, hd.reps⟩
  · cases hk
theorem keyOk_own {x : D} (h : keyOk x = true) : x.owned = false := by
  cases x with
  | lst m ds => unfold keyOk keyOf at h; cases h
  | dct m ks ds => unfold keyOk keyOf at h; cases h
  | _ => rfl
theorem in_both (hu : X.A.units + 16 < cLine) {x y : D} {b : Bool} (e : inD x y = some b) {Hs H : Hp} {u v : V} (s : Same Hs H) (rx : SlotV (gx X) Hs H x u) (ry : SlotV (gx X) Hs H y v) :
    (∃ r, OpR X (compareOp .In) r ∧ ∀ Q : VK, Q (.bl b) H → r u v H Q) ∧ (∃ r, OpR X (compareOp .NotIn) r ∧ ∀ Q : VK, Q (.bl (!b)) H → r u v H Q) := by
  have seq : ∀ {p : Addr} {ds : List D} {vs : List V}, inD.inL x ds = some b → v = .ref p → (SqL X.K H p vs ∨ SqT X.K H p vs) → RepL (gx X) Hs ds vs →
      (∃ r, OpR X (compareOp .In) r ∧ ∀ Q : VK, Q (.bl b) H → r u v H Q) ∧ (∃ r, OpR X (compareOp .NotIn) r ∧ ∀ Q : VK, Q (.bl (!b)) H → r u v H Q) := fun {p ds vs} e ep hq hr => by
    unfold inD.inL at e
    split at e
    · rename_i hf
      cases e
      have hx : Rep (gx X) Hs x u := rx.rep (by cases x <;> first | rfl | cases hf.1)
      have fx := flat_of hx hf.1
      have fs := flats_of hr hf.2
      have ea := any_of hx hf.1 hr hf.2
      exact ⟨⟨_, op_in_seq, fun Q q => ⟨p, vs, ep, hq, fx, fs, by rw [if_neg Bool.false_ne_true, ea]; exact q⟩⟩, ⟨_, op_notIn_seq, fun Q q => ⟨p, vs, ep, hq, fx, fs, by rw [if_pos rfl, ea]; exact q⟩⟩⟩
    · cases e
  unfold inD at e
  split at e
  · -- a dict
    split at e
    · rename_i m ks ds hk
      cases e
      obtain ⟨a, rfl, hsm, hd⟩ := ry.dct s
      have hx := rx.rep (keyOk_own hk.1)
      rcases dict_case s hx hk.1 hk.2 hd with ⟨l, kvs, B⟩ | ⟨n, b, xs, B⟩
      · have el := (look_leaf B.leaf B.keys B.reps).1
        refine ⟨⟨fun x' y' H' Q => x' = u ∧ y' = .ref a ∧ H' = H ∧ Q (.bl (valV kvs l).isSome) H, fun pins σ s H' x' y' v' u' Q I r1 r2 ⟨e1, e2, e3, q⟩ => ?_, fun Q q => ⟨rfl, rfl, rfl, by rw [← el]; exact q⟩⟩,
          ⟨fun x' y' H' Q => x' = u ∧ y' = .ref a ∧ H' = H ∧ Q (.bl (!(valV kvs l).isSome)) H, fun pins σ s H' x' y' v' u' Q I r1 r2 ⟨e1, e2, e3, q⟩ => ?_, fun Q q => ⟨rfl, rfl, rfl, by rw [← el]; exact q⟩⟩⟩
        · subst e1 e2 e3
          cases r2
          obtain ⟨vs, kv, ob⟩ := B.ob _ _ _ I
          exact wpAny_in_of (knd := leafKind X.prog X.w) (leaf_is hx B.leaf r1) hsm ob.mapOf ⟨.bl _, H', I.tok _, by rw [← (kv.val l).isSome_eq]; rfl, q⟩
        · subst e1 e2 e3
          cases r2
          obtain ⟨vs, kv, ob⟩ := B.ob _ _ _ I
          exact wpAny_notIn_of (knd := leafKind X.prog X.w) (leaf_is hx B.leaf r1) hsm ob.mapOf ⟨.bl _, H', I.tok _, by rw [← (kv.val l).isSome_eq]; rfl, q⟩
      · have el := (look_tup B.key B.keys B.reps).1
        have hroom : (nestedKind X.prog X.w).room X.A.in1 := by show X.A.units + 1 + 8 < cLine; omega
        have er := B.ref
        subst er
        refine ⟨⟨fun x' y' H' Q => x' = .ref b ∧ y' = .ref a ∧ H' = H ∧ Q (.bl (atV xs n).isSome) H, fun pins σ s' H' x' y' v' u' Q I r1 r2 ⟨e1, e2, e3, q⟩ => ?_, fun Q q => ⟨rfl, rfl, rfl, by rw [← el]; exact q⟩⟩,
          ⟨fun x' y' H' Q => x' = .ref b ∧ y' = .ref a ∧ H' = H ∧ Q (.bl (!(atV xs n).isSome)) H, fun pins σ s' H' x' y' v' u' Q I r1 r2 ⟨e1, e2, e3, q⟩ => ?_, fun Q q => ⟨rfl, rfl, rfl, by rw [← el]; exact q⟩⟩⟩
        · subst e1 e2 e3
          cases r1; cases r2
          obtain ⟨ys, rel, ob⟩ := B.ob _ _ _ I
          have ei := (rel.at_ n).isSome_eq
          rw [Option.isSome_map] at ei
          exact wpAny_in_heap (knd := nestedKind X.prog X.w) hroom ⟨rep_nested I s _ _ _ _ hx B.key rfl, B.dep⟩ hsm ob ⟨.bl _, H', I.tok _, by rw [← ei]; rfl, q⟩
        · subst e1 e2 e3
          cases r1; cases r2
          obtain ⟨ys, rel, ob⟩ := B.ob _ _ _ I
          have ei := (rel.at_ n).isSome_eq
          rw [Option.isSome_map] at ei
          exact wpAny_notIn_heap (knd := nestedKind X.prog X.w) hroom ⟨rep_nested I s _ _ _ _ hx B.key rfl, B.dep⟩ hsm ob ⟨.bl _, H', I.tok _, by rw [← ei]; rfl, q⟩
    · cases e
  · -- a text
    rename_i z
    split at e
    · cases e
      exact ⟨⟨_, op_in_str, fun Q q => ⟨_, _, rx.str, ry.str, q⟩⟩, ⟨_, op_notIn_str, fun Q q => ⟨_, _, rx.str, ry.str, q⟩⟩⟩
    · cases e
  · obtain ⟨a, vs, rfl, t, r⟩ := ry.tup
    exact seq e rfl (.inr (Same.seqT s t)) r
  · obtain ⟨a, vs, rfl, t, r⟩ := ry.lst s
    exact seq e rfl (.inl (.of t)) r
  · cases e
def inDD (x y : D) : Option D := (inD x y).map .bl
def notInDD (x y : D) : Option D := (inD x y).map fun b => .bl (!b)
theorem os_in (hu : X.A.units + 16 < cLine) : OpS X (compareOp .In) inDD := by
  intro x y d e Hs H u v Q s rx ry q
  obtain ⟨b, eb, rfl⟩ := Option.map_eq_some_iff.mp e
  obtain ⟨⟨r, hr, h⟩, _⟩ := in_both hu eb s rx ry
  exact ⟨r, hr, h Q (q _ Hs H (.refl s) rfl)⟩
theorem os_notIn (hu : X.A.units + 16 < cLine) : OpS X (compareOp .NotIn) notInDD := by
  intro x y d e Hs H u v Q s rx ry q
  obtain ⟨b, eb, rfl⟩ := Option.map_eq_some_iff.mp e
  obtain ⟨_, ⟨r, hr, h⟩⟩ := in_both hu eb s rx ry
  exact ⟨r, hr, h Q (q _ Hs H (.refl s) rfl)⟩
end
end Sim

/-! Sim, part 9: d[k], d[k] = v, displays of dicts, len, isinstance, list, tuple, min, max, abs. -/
namespace Sim
open PySem PySem.Spec PyProof.Rows L2

section
variable {X : Cx}
/-! ### d[k] -/
def ixDD (x y : D) : Option D := match x with
  | .dct _ ks ds => if keyOk y = true ∧ sort1 y ks = true then lookD y ks ds else none
  | x => ixD x y
theorem dict_sub {value slice : Expr} {pins : List (Addr × Obj)} {s : Shared} {σ : L2.St} {a : Addr} {u : Value} {Q : VK} (hT : s.TypeIs (.ref a) "dict") (hg : wpAny (model X.prog X.w) X.A (getItem (.ref a) u) (EP X pins σ Q) X.xe s) (hs : subscripted slice false (.ref a) u = operate [.ref a, u] (getItem (.ref a) u)) :
    wpAny (model X.prog X.w) X.A (subscriptTail value slice (.ref a) u) (EP X pins σ Q) X.xe s := tail_any hT PySem.F.slot_dict_getitem.lookup hg hs
theorem is_ixD (hu : X.A.units + 16 < cLine) : IxS X ixDD := by
  intro x y d e Hs H u v Q s rx ry q
  unfold ixDD at e
  split at e
  · split at e
    · rename_i m ks ds hk
      obtain ⟨a, rfl, hsm, hd⟩ := rx.dct s
      have hy := ry.rep (keyOk_own hk.1)
      rcases dict_case s hy hk.1 hk.2 hd with ⟨l, kvs, B⟩ | ⟨n, b, xs, B⟩
      · obtain ⟨w, ez, rw'⟩ := (look_leaf B.leaf B.keys B.reps).2 d e
        refine ⟨fun x' y' H' Q => x' = .ref a ∧ y' = v ∧ H' = H ∧ Q w H, fun value slice pins s' σ H' x' y' v' u' Q I r1 r2 ⟨e1, e2, e3, q⟩ hs => ?_, rfl, rfl, rfl, q w Hs H (.refl s) rw'⟩
        subst e1 e2 e3
        cases r1
        obtain ⟨vs, kv, ob⟩ := B.ob _ _ _ I
        obtain ⟨z, ev, rz⟩ := RelO.some_of (v := w) (o := valueAt vs l) (by rw [← ez]; exact kv.val l)
        exact dict_sub ob.typeIs (wpAny_getItem_of (knd := leafKind X.prog X.w) (leaf_is hy B.leaf r2) ob.mapOf ev ⟨w, H', I.tok _, rz, q⟩) hs
      · obtain ⟨w, ez, rw'⟩ := (look_tup B.key B.keys B.reps).2 d e
        have er := B.ref
        subst er
        refine ⟨fun x' y' H' Q => x' = .ref a ∧ y' = .ref b ∧ H' = H ∧ Q w H, fun value slice pins s' σ H' x' y' v' u' Q I r1 r2 ⟨e1, e2, e3, q⟩ hs => ?_, rfl, rfl, rfl, q w Hs H (.refl s) rw'⟩
        subst e1 e2 e3
        cases r1; cases r2
        obtain ⟨ys, rel, ob⟩ := B.ob _ _ _ I
        obtain ⟨z, ev, rz⟩ := RelO.some_of (v := w) (o := (atKey ys n).map (·.2)) (by rw [← ez]; exact rel.at_ n)
        obtain ⟨p, hp, rfl⟩ := Option.map_eq_some_iff.mp ev
        have hroom : (nestedKind X.prog X.w).room X.A.in1 := by show X.A.units + 1 + 8 < cLine; omega
        exact dict_sub ob.typeIs (wpAny_getItem_heap (knd := nestedKind X.prog X.w) hroom ⟨rep_nested I s _ _ _ _ hy B.key rfl, B.dep⟩ ob hp ⟨w, H', I.tok _, rz, q⟩) hs
    · cases e
  · exact is_ix e s rx ry q

/-! ### d[k] = v -/
def storeD (k d : D) (ks ds : List D) : List D × List D := if (lookD k ks ds).isSome = true then (ks, replD k d ks ds) else (ks ++ [k], ds ++ [d])
theorem store_leaf {G : Gx} {Hs : Hp} {key d : D} {v : V} {l : Leaf} (hl : leafOf key = some l) (rd : Rep G Hs d v) : ∀ {ks ds : List D} {kvs : List (Leaf × V)}, ks.map leafOf = kvs.map (fun p => some p.1) → RepL G Hs ds (kvs.map (·.2)) →
    RepL G Hs (replD key d ks ds) ((kvs.map fun kv => if kv.1 = l then (kv.1, v) else kv).map (·.2))
  | [], ds, [], _, hr => by unfold replD; exact hr
  | k :: ks, ds, (l', z) :: kvs, hk, hr => by
    rw [List.map_cons, List.map_cons, List.cons.injEq] at hk
    cases ds with
    | nil => cases hr
    | cons d' ds =>
      obtain ⟨v', w', e, h1, h2⟩ := hr
      cases e
      have ih := store_leaf (G := G) hl rd (ks := ks) (ds := ds) hk.2 h2
      have ek : keyOf k = some l'.key := leaf_key hk.1
      unfold replD
      rw [List.map_cons, List.map_cons]
      by_cases q : l' = l
      · subst q
        have es : sameK k key = true := by unfold sameK; rw [ek, leaf_key hl]; exact decide_eq_true rfl
        rw [if_pos es, if_pos rfl]
        exact .cons rd ih
      · have es : ¬ sameK k key = true := by
          unfold sameK; rw [ek, leaf_key hl]
          intro z
          exact q (Leaf.key_inj (Option.some.inj (of_decide_eq_true z)))
        rw [if_neg es, if_neg q]
        exact .cons h1 ih
/-- the entries behind a store -/
def putX (k : NestedKey) (v : V) (x : NestedKey × Addr × V) : NestedKey × Addr × V := if x.1 = k then (x.1, x.2.1, v) else x
theorem putX_fst (k : NestedKey) (v : V) (x : NestedKey × Addr × V) : (putX k v x).1 = x.1 ∧ (putX k v x).2.1 = x.2.1 := by
  unfold putX
  split <;> exact ⟨rfl, rfl⟩
theorem store_tup {G : Gx} {Hs : Hp} {key d : D} {v : V} {n : NestedKey} (hn : keyOf key = some n) (rd : Rep G Hs d v) : ∀ {ks ds : List D} {xs : List (NestedKey × Addr × V)}, ks.map keyOf = xs.map (fun p => some p.1) → RepL G Hs ds (xs.map (·.2.2)) →
    RepL G Hs (replD key d ks ds) ((xs.map (putX n v)).map (·.2.2))
  | [], ds, [], _, hr => by unfold replD; exact hr
  | k :: ks, ds, (n', b, z) :: xs, hk, hr => by
    rw [List.map_cons, List.map_cons, List.cons.injEq] at hk
    cases ds with
    | nil => cases hr
    | cons d' ds =>
      obtain ⟨v', w', e, h1, h2⟩ := hr
      cases e
      have ih := store_tup (G := G) hn rd (ks := ks) (ds := ds) hk.2 h2
      unfold replD
      rw [List.map_cons, List.map_cons]
      by_cases q : n' = n
      · subst q
        have es : sameK k key = true := by unfold sameK; rw [hk.1, hn]; exact decide_eq_true rfl
        rw [if_pos es]
        refine .cons ?_ ih
        unfold putX
        rw [if_pos rfl]
        exact rd
      · have es : ¬ sameK k key = true := by
          unfold sameK; rw [hk.1, hn]
          intro z
          exact q (Option.some.inj (of_decide_eq_true z))
        rw [if_neg es]
        refine .cons ?_ ih
        unfold putX
        rw [if_neg q]
        exact h1
theorem TupRel.put {n : NestedKey} {v : V} {u : Value} (r : RelV v u) : ∀ {xs : List (NestedKey × Addr × V)} {ys : List (NestedKey × Addr × Value)}, TupRel xs ys → TupRel (xs.map (putX n v)) (ys.map (putAt n u))
  | _, _, .nil => .nil
  | (a, b, z) :: xs, (a', b', w) :: ys, .cons h t => by
    obtain ⟨e1, e2, h3⟩ := h
    cases e1; cases e2
    rw [List.map_cons, List.map_cons]
    refine .cons ?_ (TupRel.put r t)
    unfold putX putAt
    by_cases q : a = n
    · rw [if_pos q, if_pos q]; exact ⟨rfl, rfl, r⟩
    · rw [if_neg q, if_neg q]; exact ⟨rfl, rfl, h3⟩
theorem TupRel.snoc {n : NestedKey} {b : Addr} {v : V} {u : Value} (r : RelV v u) : ∀ {xs : List (NestedKey × Addr × V)} {ys : List (NestedKey × Addr × Value)}, TupRel xs ys → TupRel (xs ++ [(n, b, v)]) (ys ++ [(n, b, u)])
  | _, _, .nil => .cons ⟨rfl, rfl, r⟩ .nil
  | _ :: _, _ :: _, .cons h t => .cons h (TupRel.snoc r t)
theorem TupRel.length {xs : List (NestedKey × Addr × V)} {ys : List (NestedKey × Addr × Value)} (h : TupRel xs ys) : xs.length = ys.length := Paired.length h
/-- d[k] = v, by values: what stands at a afterwards -/
theorem dict_put (hu : X.A.units + 16 < cLine) {Hs H : Hp} {x d : D} {u v : V} {a : Addr} {ks ds : List D} (s : Same Hs H) (hx : Rep (gx X) Hs x u) (rd : Rep (gx X) Hs d v) (hk : keyOk x = true) (hs : sort1 x ks = true) (hz : ks.length < cap) (hsa : Hs a = none) (hsm : (a == sysModules) = false) (mu : Mut (H a))
    (hd : (∃ kvs, LeafAt (gx X) Hs H a ks ds kvs) ∨ ∃ xs, TupAt (gx X) Hs H a ks ds xs) :
    ∃ o, OwnV (gx X) Hs (upd H a o) (.dct .own (storeD x d ks ds).1 (storeD x d ks ds).2) (.ref a) ∧
      ∀ (pins : List (Addr × Obj)) (σ : L2.St) (s' : Shared) (iv w : Value) (Q : Unit → Shared → Prop), Inv X pins σ H s' → RelV u iv → RelV v w → (∀ s2, Inv X pins σ (upd H a o) s2 → Q () s2) → wpAny (model X.prog X.w) X.A (setItem (.ref a) iv w) Q X.xe s' := by
  rcases dict_case s hx hk hs hd with ⟨l, kvs, B⟩ | ⟨n, b, xs, B⟩
  · have kl : ks.length = kvs.length := by simpa using congrArg List.length B.keys
    have el := (look_leaf B.leaf B.keys B.reps).1
    refine ⟨leafO (gx X) a (putK kvs l v), ?_, fun pins σ s' iv w Q I r1 r2 h => ?_⟩
    · have main : LeafAt (gx X) Hs (upd H a (leafO (gx X) a (putK kvs l v))) a (storeD x d ks ds).1 (storeD x d ks ds).2 (putK kvs l v) := by
        unfold storeD
        by_cases q : (lookD x ks ds).isSome = true
        · rw [if_pos q]
          rw [el] at q
          have ep : putK kvs l v = kvs.map fun kv => if kv.1 = l then (kv.1, v) else kv := by
            unfold putK; rw [valV_any, if_pos q]
          have ek : kvs.map (fun p => some p.1) = (putK kvs l v).map (fun p => some p.1) := by
            rw [ep, List.map_map]
            refine List.map_congr_left fun p _ => ?_
            simp only [Function.comp_apply]
            split <;> rfl
          refine ⟨upd_same, by rw [← ek]; exact B.keys, ?_, ?_⟩
          · rw [ep, List.length_map, ← kl, sizeCap]; omega
          · rw [ep]; exact store_leaf B.leaf rd B.keys B.reps
        · rw [if_neg q]
          rw [el] at q
          have hn : valV kvs l = none := by
            cases z : valV kvs l with
            | none => rfl
            | some y => rw [z] at q; exact absurd rfl q
          rw [putK_new v hn]
          refine ⟨upd_same, ?_, ?_, ?_⟩
          · rw [List.map_append, List.map_append, B.keys]
            show _ ++ [leafOf x] = _
            rw [B.leaf]
            rfl
          · rw [List.length_append, ← kl, sizeCap]; show ks.length + 1 ≤ cap; omega
          · rw [List.map_append]; exact B.reps.append (.cons rd .nil)
      exact main.own hsa hsm
    · obtain ⟨vs, kv, ob⟩ := B.ob _ _ _ I
      have hl : vs.length ≤ sizeLine := by rw [← kv.length]; exact B.le
      refine wpAny_setItem_pairs (knd := leafKind X.prog X.w) (hsz := hl) (leaf_is hx B.leaf r1) ob fun h' ob' hs' => h _ ?_
      have he : ∃ q, h'.get? a = some q := let ⟨q, _, _, hq, _⟩ := ob'; ⟨q, hq⟩
      exact d_write I mu hs' he ⟨⟨_, kv.put l r2, ob'⟩, he, fun h1 h2 ⟨vs, k1, o, es, ep, g1, g2⟩ st => ⟨vs, k1, o, es, ep, st o g1, g2⟩⟩
  · have kl : ks.length = xs.length := by simpa using congrArg List.length B.keys
    have el := (look_tup B.key B.keys B.reps).1
    have er := B.ref
    subst er
    have hroom : (nestedKind X.prog X.w).room X.A.in1 := by show X.A.units + 1 + 8 < cLine; omega
    by_cases q : (lookD x ks ds).isSome = true
    · refine ⟨tupO (gx X) a (xs.map (putX n v)), ?_, fun pins σ s' iv w Q I r1 r2 h => ?_⟩
      · have main : TupAt (gx X) Hs (upd H a (tupO (gx X) a (xs.map (putX n v)))) a (storeD x d ks ds).1 (storeD x d ks ds).2 (xs.map (putX n v)) := by
          unfold storeD
          rw [if_pos q]
          refine ⟨upd_same, ?_, by rw [List.length_map]; exact B.le, ?_, ?_, ?_, store_tup B.key rd B.keys B.reps⟩
          · rw [List.map_map, B.keys]
            exact List.map_congr_left fun p _ => by simp only [Function.comp_apply, (putX_fst n v p).1]
          · rw [List.map_map]
            have : (fun p => p.1) ∘ putX n v = fun p : NestedKey × Addr × V => p.1 := funext fun p => (putX_fst n v p).1
            rw [this]; exact B.nd
          · intro p hp
            obtain ⟨p0, h0, rfl⟩ := List.mem_map.mp hp
            rw [(putX_fst n v p0).1]; exact B.deps p0 h0
          · rw [List.map_map]
            have : (fun p => V.ref p.2.1) ∘ putX n v = fun p : NestedKey × Addr × V => V.ref p.2.1 := funext fun p => by simp only [Function.comp_apply, (putX_fst n v p).2]
            rw [this]; exact B.refs
        exact main.own hsa hsm
      · cases r1
        obtain ⟨ys, rel, ob⟩ := B.ob _ _ _ I
        have hl : ys.length ≤ sizeLine := by rw [← rel.length]; exact B.le
        refine wpAny_setItem_heap (knd := nestedKind X.prog X.w) (hsz := hl) hroom ⟨rep_nested I s _ _ _ _ hx B.key rfl, B.dep⟩ ob fun h' ob' hs' => h _ ?_
        have es : storedH ys n b w = ys.map (putAt n w) := by
          have ei := (rel.at_ n).isSome_eq
          rw [Option.isSome_map, ← el, q] at ei
          unfold storedH
          rw [if_pos ei.symm]
        rw [es] at ob'
        obtain ⟨o, es', ep, g1, g2, g3, g4, _⟩ := ob'
        exact d_write I mu hs' ⟨o, g1⟩ ⟨⟨es', ep, _, ⟨o, g1, g2, g3⟩, g4, rel.put r2⟩, ⟨o, g1⟩, fun h1 h2 ⟨es, ep, ys, ⟨o, k1, k2⟩, k3⟩ st => ⟨es, ep, ys, ⟨o, st o k1, k2⟩, k3⟩⟩
    · have hn : atV xs n = none := by
        cases z : atV xs n with
        | none => rfl
        | some y => rw [el, z] at q; exact absurd rfl q
      refine ⟨tupO (gx X) a (xs ++ [(n, b, v)]), ?_, fun pins σ s' iv w Q I r1 r2 h => ?_⟩
      · have nm : n ∉ xs.map (·.1) := fun m => by
          obtain ⟨p, hp, ep⟩ := List.mem_map.mp m
          unfold atV at hn
          rw [Option.map_eq_none_iff, List.find?_eq_none] at hn
          exact hn p hp (decide_eq_true ep)
        have main : TupAt (gx X) Hs (upd H a (tupO (gx X) a (xs ++ [(n, b, v)]))) a (storeD x d ks ds).1 (storeD x d ks ds).2 (xs ++ [(n, b, v)]) := by
          unfold storeD
          rw [if_neg q]
          refine ⟨upd_same, ?_, ?_, ?_, ?_, ?_, ?_⟩
          · rw [List.map_append, List.map_append, B.keys]
            show _ ++ [keyOf x] = _
            rw [B.key]
            rfl
          · rw [List.length_append, ← kl, sizeCap]; show ks.length + 1 ≤ cap; omega
          · rw [List.map_append]; exact nd_snoc B.nd nm
          · intro p hp
            rcases List.mem_append.mp hp with z | z
            · exact B.deps p z
            · rw [List.mem_singleton.mp z]; exact B.dep
          · rw [List.map_append]; exact B.refs.append (.cons hx .nil)
          · rw [List.map_append]; exact B.reps.append (.cons rd .nil)
        exact main.own hsa hsm
      · cases r1
        obtain ⟨ys, rel, ob⟩ := B.ob _ _ _ I
        have hl : ys.length ≤ sizeLine := by rw [← rel.length]; exact B.le
        refine wpAny_setItem_heap (knd := nestedKind X.prog X.w) (hsz := hl) hroom ⟨rep_nested I s _ _ _ _ hx B.key rfl, B.dep⟩ ob fun h' ob' hs' => h _ ?_
        have es : storedH ys n b w = ys ++ [(n, b, w)] := by
          have ei := (rel.at_ n).isSome_eq
          rw [Option.isSome_map, hn] at ei
          unfold storedH
          rw [if_neg (by rw [← ei]; exact Bool.false_ne_true)]
        rw [es] at ob'
        obtain ⟨o, es', ep, g1, g2, g3, g4, _⟩ := ob'
        exact d_write I mu hs' ⟨o, g1⟩ ⟨⟨es', ep, _, ⟨o, g1, g2, g3⟩, g4, rel.snoc r2⟩, ⟨o, g1⟩, fun h1 h2 ⟨es, ep, ys, ⟨o, k1, k2⟩, k3⟩ st => ⟨es, ep, ys, ⟨o, st o k1, k2⟩, k3⟩⟩
end
end Sim

/-! Sim, part 10: x[k] = v, displays of dicts, len, isinstance, list, tuple, min, max, abs. -/
namespace Sim
open PySem PySem.Spec PyProof.Rows L2

section
variable {X : Cx} {S : Sc} {e : Expr} {x : Str} {pos p : Pos}
def WSet (X : Cx) : TSet := fun o i v H Q => ∃ t, PSet X t ∧ t o i v H Q
theorem setW : PSet X (WSet X) := fun pins s σ H o i v ov iv u Q I ro ri rv ⟨_, h, q⟩ => h pins s σ H o i v ov iv u Q I ro ri rv q
def stored (c k d : D) : Option D := match c with
  | .lst .own ds => (setIxD ds k d).map fun ds' => .lst .own ds'
  | .dct .own ks ds => if keyOk k = true ∧ sort1 k ks = true ∧ ks.length < cap then some (.dct .own (storeD k d ks ds).1 (storeD k d ks ds).2) else none
  | _ => none
def putDM (i : Nat) (mk me : EM) : SM := fun ρ => (me ρ).bind fun d ρ1 => match ρ1[i]? with
  | some (some _) => (mk ρ1).bind fun k ρ2 => match ρ2[i]? with
    | some (some c) => match stored c k d with
      | some c' => .ok .nxt (ρ2.set i (some c'))
      | none => .fail
    | _ => .fail
  | _ => .fail
theorem mut_ext {G : Gx} {a : Addr} {kvs : List (Leaf × V)} : Mut (some (leafO G a kvs)) := True.intro
theorem sim_putD (i : Nat) {ix : Expr} {mk me : EM} {px : Pos} (hu : X.A.units + 16 < cLine) (hk : SimV X S ix mk) (he : SimV X S e me) (hN : X.N[i]? = some x := by rfl) (hv : Vis X.env.scope x := by first | exact Or.inl rfl | exact Or.inr (Or.inl rfl) | exact Or.inr (Or.inr rfl))
    (hd : (x == ("__debug__" : Str)) = false := by decide) (hcd : (x == ("__classdict__" : Str)) = false := by decide)
    (hs : swapsWithSole [.Subscript (.Name x px) ix p] e pos.line X.env = pure false := by rfl) (hw : swappedStores [.Subscript (.Name x px) ix p] e X.env = pure none := by rfl)
    (h1 : (assignEach [.Subscript (.Name x px) ix p] X.env).map (·.2) = [assign (.Subscript (.Name x px) ix p) X.env] := by rfl)
    (ha : ∀ v, assign (.Subscript (.Name x px) ix p) X.env v = (do
      let ov ← holding [v] (eval (.Name x px) X.env)
      let iv ← holding [v, ov] (eval ix X.env)
      standAt p
      holding [v, ov, iv] (setItem ov iv v)
      release [v, ov, iv] []) := by intro _; rfl) : SimS X S (.Assign [.Subscript (.Name x px) ix p] e pos) (putDM i mk me) := by
  refine ⟨fun {ρ f ρ'} hm {F σ Hs H} rl {E} q => ?_⟩
  obtain ⟨d, ρ1, e1, hm⟩ := Res.bind_ok hm
  split at hm
  · rename_i d1 h1'
    obtain ⟨k, ρ2, e2, hm⟩ := Res.bind_ok hm
    split at hm
    · rename_i c h2
      split at hm
      · rename_i c' h3
        cases hm
        refine ⟨_, ps_asg (peW e) (pg_sub (peW _) (peW ix) setW ha) hs hw h1, he.run e1 rl fun w Hs1 H1 n1 r1 => ?_⟩
        obtain ⟨v, ev, _⟩ := n1.rel.slot i _ h1'
        refine ⟨_, pe_var hN hv hd hcd, v, ev, hk.run e2 n1.rel fun z Hs2 H2 n2 r2 => ?_⟩
        obtain ⟨v', ev', sv⟩ := n2.rel.slot i _ h2
        rw [ev] at ev'; cases ev'
        have n12 := n1.trans n2
        have rd := Rep.mono n2.same _ _ r1
        unfold stored at h3
        split at h3
        · obtain ⟨ds', h4, rfl⟩ := Option.map_eq_some_iff.mp h3
          unfold setIxD at h4
          split at h4
          · obtain ⟨j, ej, rfl⟩ := Option.map_eq_some_iff.mp h4
            obtain ⟨a, vs, e, hn, ha', rs⟩ := sv.own rfl
            cases e
            refine ⟨_, set_list, a, vs, _, j, rfl, r2, ha', by rw [← rs.length]; exact ej, ?_⟩
            exact q σ Hs2 _ (n12.trans (n2.rel.write h2 rfl ev _ rfl ⟨_, _, rfl, hn, upd_same, rs.set rd j⟩))
          · cases h4
        · split at h3
          · rename_i ks ds hc
            cases h3
            obtain ⟨a, ea, hsm, hdd⟩ := sv.dct n2.rel.sub
            subst ea
            have hn : Hs2 a = none := by
              obtain ⟨b, o, eb, hn, _⟩ := (sv.own rfl).ref
              cases eb; exact hn
            have mu : Mut (H2 a) := by
              rcases hdd with ⟨kvs, h⟩ | ⟨xs, h⟩
              · rw [h.at_]; exact True.intro
              · rw [h.at_]; exact True.intro
            obtain ⟨o, own, put⟩ := dict_put hu n2.rel.sub r2 rd hc.1 hc.2.1 hc.2.2 hn hsm mu hdd
            refine ⟨fun o' i' v' H' Q => o' = .ref a ∧ i' = z ∧ v' = w ∧ H' = H2 ∧ Q (upd H2 a o), fun pins s σ' H' o' i' v' ov iv u Q I ro ri rv ⟨g1, g2, g3, g4, g5⟩ => ?_, rfl, rfl, rfl, rfl, ?_⟩
            · subst g1 g2 g3 g4
              cases ro
              exact put pins σ' s iv u _ I ri rv fun s2 I2 => ⟨_, I2, g5⟩
            · exact q σ Hs2 _ (n12.trans (n2.rel.write h2 rfl ev _ rfl own))
          · cases h3
        · cases h3
      · cases hm
    · cases hm
  · cases hm

/-! ### {}, {k: v} -/
theorem leaf_new {h : Heap} (G : Gx) : (leafO G h.objs.size []) = leafO G h.objs.size [] := rfl
theorem leaf_ok {P : Program} {w : World} {K : PySem.W.Frag} {H : Hp} {h : Heap} {a : Addr} {kvs : List (Leaf × V)} {vs : List (Leaf × Value)} (k : KV kvs vs) (d : h.DictOf (leafKind P w) a vs) : ObjOk P w H h a (leafO ⟨P, w, K⟩ a kvs) := by
  have he : ∃ o, h.get? a = some o := let ⟨o, _, _, ho, _⟩ := d; ⟨o, ho⟩
  exact ⟨⟨vs, k, d⟩, he, fun h1 h2 ⟨vs, k1, o, es, ep, g1, g2⟩ st => ⟨vs, k1, o, es, ep, st o g1, g2⟩⟩
theorem tup_ok {P : Program} {w : World} {K : PySem.W.Frag} {H : Hp} {h : Heap} {a : Addr} {xs : List (NestedKey × Addr × V)} {ys : List (NestedKey × Addr × Value)} (k : TupRel xs ys) (d : h.DictOfH (nestedKind P w) a ys) : ObjOk P w H h a (tupO ⟨P, w, K⟩ a xs) := by
  obtain ⟨o, es, ep, ho, hc, hd, he, _⟩ := d
  exact ⟨⟨es, ep, ys, ⟨o, ho, hc, hd⟩, he, k⟩, ⟨o, ho⟩, fun h1 h2 ⟨es, ep, ys, ⟨o, k1, k2⟩, k3⟩ st => ⟨es, ep, ys, ⟨o, st o k1, k2⟩, k3⟩⟩
theorem pe_new : PE X (.Dict [] [] pos) (fun _ H Q => ∀ p, H p = none → (p == sysModules) = false → Q (.ref p) (upd H p (leafO (gx X) p []))) := ⟨fun pins s σ H Q I h =>
  wpAny_Dict_empty ⟨.ref s.heap.objs.size, _, I.laid (a := s.heap.objs.size) (o := leafO (gx X) s.heap.objs.size []) (t' := s.toks) (fun _ _ q => Heap.get?_push_of_some _ q) (Nat.le_refl _) (leaf_ok (K := X.K) .nil (Heap.DictOf.new s.heap)), rfl,
    h _ (I.hok.fresh (Nat.le_refl _)) (beq_eq_false_iff_ne.mpr (Ne.symm (Nat.ne_of_lt I.big)))⟩⟩
def newD : EM := fun ρ => .ok (.dct .own [] []) ρ
theorem sim_newD : SimE X S (.Dict [] [] pos) newD := by
  refine ⟨fun {ρ d ρ'} hm {F σ Hs H} rl {Q} q => ?_⟩
  cases hm
  refine ⟨_, pe_new, fun a ha hsm => q _ _ _ (rl.newOwn ha _) (.ofOwn ⟨a, rfl, rl.sub.free ha, hsm, .inl ⟨[], upd_same, rfl, Nat.zero_le _, rfl⟩⟩ rfl) fun _ b e => ?_⟩
  cases e
  exact ⟨ha, rl.notOwn ha⟩
/-- one pair, its key carried by value -/
theorem pe_dispL {k v : Expr} {tk tv : TE} (hk : PE X k tk) (hv : PE X v tv) : PE X (.Dict [some k] [v] pos) (fun σ H Q => ∀ p, H p = none → (p == sysModules) = false → tk σ (upd H p (leafO (gx X) p [])) fun x H1 => tv σ H1 fun y H2 =>
    H2 p = some (leafO (gx X) p []) ∧ ∃ l, (∀ u, RelV x u → Leaf.isOf l u = true) ∧ Q (.ref p) (upd H2 p (leafO (gx X) p [(l, y)]))) := by
  refine ⟨fun pins s σ H Q I q => ?_⟩
  have hn := I.hok.fresh (Nat.le_refl s.heap.objs.size)
  have I1 := I.laid (a := s.heap.objs.size) (o := leafO (gx X) s.heap.objs.size []) (h' := s.heap.push { cls := .type "dict", data := .dict #[] }) (t' := s.toks) (fun _ _ q => Heap.get?_push_of_some _ q) (Nat.le_refl _) (leaf_ok (K := X.K) .nil (Heap.DictOf.new s.heap))
  refine wpAny_Dict_walk (knd := leafKind X.prog X.w) rfl rfl (fun z => by cases z) (show 1 ≤ 15 by decide) (pairTrees_cons_walk (thn (hk.run pins _ σ _ _ I1 (q _ hn (beq_eq_false_iff_ne.mpr (Ne.symm (Nat.ne_of_lt I.big))))) fun u s1 ⟨x, H1, J1, rx, q1⟩ => thn (hv.run pins s1 σ H1 _ J1 q1) fun w2 s2 ⟨y, H2, J2, ry, hp, l, hl, q2⟩ => pairTrees_nil_walk ?_))
  obtain ⟨vs, kv, ob⟩ := leaf_obj J2 hp
  cases kv
  refine ⟨[(l, w2)], by exact ⟨hl u rx, rfl, True.intro⟩, ob, fun h' ob' hs' => ⟨.ref s.heap.objs.size, _, d_write J2 (by rw [hp]; exact True.intro) hs' (let ⟨q, _, _, hq, _⟩ := ob'; ⟨q, hq⟩) ?_, rfl, q2⟩⟩
  exact leaf_ok (K := X.K) (.cons ⟨rfl, ry⟩ .nil) ob'
/-- .. a tuple -/
theorem pe_dispT {k v : Expr} {tk tv : TE} (hu : X.A.units + 16 < cLine) (hk : PE X k tk) (hv : PE X v tv) : PE X (.Dict [some k] [v] pos) (fun σ H Q => ∀ p, H p = none → (p == sysModules) = false → tk σ (upd H p (leafO (gx X) p [])) fun x H1 => tv σ H1 fun y H2 =>
    H2 p = some (leafO (gx X) p []) ∧ ∃ n b, x = .ref b ∧ n.depth ≤ 8 ∧ (∀ pins σ s, Inv X pins σ H2 s → NestedIs s.heap n (.ref b)) ∧ Q (.ref p) (upd H2 p (tupO (gx X) p [(n, b, y)]))) := by
  refine ⟨fun pins s σ H Q I q => ?_⟩
  have hn := I.hok.fresh (Nat.le_refl s.heap.objs.size)
  have I1 := I.laid (a := s.heap.objs.size) (o := leafO (gx X) s.heap.objs.size []) (h' := s.heap.push { cls := .type "dict", data := .dict #[] }) (t' := s.toks) (fun _ _ q => Heap.get?_push_of_some _ q) (Nat.le_refl _) (leaf_ok (K := X.K) .nil (Heap.DictOf.new s.heap))
  have hroom : (nestedKind X.prog X.w).room X.A := by show X.A.units + 8 < cLine; omega
  rw [arm_eval_Dict, zip_pairTrees [some k] [v] X.env pos rfl rfl, dictDisplay_pairs _ (by simp [pairTrees]) (by simp [pairTrees])]
  refine wpAny_bind (wpAny_standAt (wpAny_bind (wpAny_subDictH (knd := nestedKind X.prog X.w) (Q := fun d s' => wpAny (model X.prog X.w) X.A (pure (Value.ref d)) (EP X pins σ Q) X.xe s') hroom (by simp [pairTrees])
    (pairTrees_cons_walk (thn (hk.run pins _ σ _ _ I1 (q _ hn (beq_eq_false_iff_ne.mpr (Ne.symm (Nat.ne_of_lt I.big))))) fun u s1 ⟨x, H1, J1, rx, q1⟩ => thn (hv.run pins s1 σ H1 _ J1 q1) fun w2 s2 ⟨y, H2, J2, ry, hp, n, b, eb, hdep, hnest, q2⟩ => pairTrees_nil_walk ?_)))))
  subst eb
  cases rx
  obtain ⟨vs, kv, ob⟩ := leaf_obj J2 hp
  cases kv
  obtain ⟨es, ep, ⟨o, ho, hc, hd⟩, he⟩ := empty_leaf ob
  refine ⟨[(n, b, w2)], ⟨rfl, rfl, ⟨hnest _ _ _ J2, hdep⟩, True.intro⟩, ⟨o, es, ep, ho, hc, hd, by simpa using he, fun _ h => by simp at h, List.nodup_nil⟩, fun h' tk ob' hs' => wpAny_pure ⟨.ref s.heap.objs.size, _, d_write J2 (by rw [hp]; exact True.intro) hs' (let ⟨q, _, _, hq, _⟩ := ob'; ⟨q, hq⟩) ?_, rfl, q2⟩⟩
  exact tup_ok (K := X.K) (.cons ⟨rfl, rfl, ry⟩ .nil) ob'
def dispM (mk mv : EM) : EM := fun ρ => (mk ρ).bind fun k ρ1 => (mv ρ1).bind fun d ρ2 => if keyOk k = true then .ok (.dct .own [k] [d]) ρ2 else .fail
theorem sim_disp {k v : Expr} {mk mv : EM} (hu : X.A.units + 16 < cLine) (hk : SimV X S k mk) (hv : SimV X S v mv) : SimE X S (.Dict [some k] [v] pos) (dispM mk mv) := by
  refine ⟨fun {ρ d ρ'} hm {F σ Hs H} rl {Q} q => ?_⟩
  obtain ⟨kd, ρ1, e1, hm⟩ := Res.bind_ok hm
  obtain ⟨vd, ρ2, e2, hm⟩ := Res.bind_ok hm
  split at hm
  · rename_i ok
    cases hm
    unfold keyOk at ok
    split at ok
    · rename_i n hn
      have hdep : n.depth ≤ 8 := of_decide_eq_true ok
      -- the new dict stands while key and value are reckoned
      have step : ∀ {a : Addr}, H a = none → (a == sysModules) = false → ∀ {R : V → V → Hp → Prop}, (∀ x y Hs2 H2, Nxt (gx X) S F ρ σ Hs H ρ' σ Hs2 H2 → H2 a = some (leafO (gx X) a []) → Hs2 a = none → ¬ Own ρ' σ a → Rep (gx X) Hs2 kd x → Rep (gx X) Hs2 vd y → R x y H2) →
          WE X k σ (upd H a (leafO (gx X) a [])) fun x H1 => WE X v σ H1 fun y H2 => R x y H2 := fun {a} ha hsm {R} h => by
        have n0 := rl.newOwn ha (leafO (gx X) a [])
        refine hk.run e1 n0.rel fun x Hs1 H1 n1 r1 => hv.run e2 n1.rel fun y Hs2 H2 n2 r2 => ?_
        have t1 := n1.tmp (o := leafO (gx X) a []) upd_same (rl.sub.free ha) (rl.notOwn ha)
        have t2 := n2.tmp t1.1 t1.2.1 t1.2.2
        exact h x y Hs2 H2 ((n0.trans n1).trans n2) t2.1 t2.2.1 t2.2.2 (Rep.mono n2.same _ _ r1) r2
      cases hl : leafOf kd with
      | some l =>
        refine ⟨_, pe_dispL (peW k) (peW v), fun a ha hsm => step ha hsm fun x y Hs2 H2 n2 hp h0 hno r1 r2 => ⟨hp, l, fun u ru => leaf_is r1 hl ru, ?_⟩⟩
        refine q _ Hs2 _ (n2.tmpWrite ha h0 hno _) (.ofOwn ⟨a, rfl, h0, hsm, .inl ⟨_, upd_same, ?_, by rw [sizeCap]; show 1 ≤ cap; decide, .cons r2 .nil⟩⟩ rfl) fun _ b e => ?_
        · show [leafOf kd] = [some l]
          rw [hl]
        · cases e; exact ⟨ha, hno⟩
      | none =>
        obtain ⟨ts, rfl⟩ := keyTup hn hl
        refine ⟨_, pe_dispT hu (peW k) (peW v), fun a ha hsm => step ha hsm fun x y Hs2 H2 n2 hp h0 hno r1 r2 => ?_⟩
        obtain ⟨b, bs, rfl, _⟩ := id r1
        refine ⟨hp, n, b, rfl, hdep, fun pins σ s I => rep_nested I n2.rel.sub _ _ _ _ r1 hn rfl, ?_⟩
        refine q _ Hs2 _ (n2.tmpWrite ha h0 hno _) (.ofOwn ⟨a, rfl, h0, hsm, .inr ⟨_, upd_same, ?_, by rw [sizeCap]; show 1 ≤ cap; decide, by simp, fun p hp => ?_, .cons r1 .nil, .cons r2 .nil⟩⟩ rfl) fun _ c e => ?_
        · show [keyOf (.tup ts)] = [some n]
          rw [hn]
        · rw [List.mem_singleton.mp hp]; exact hdep
        · cases e; exact ⟨ha, hno⟩
    · cases ok
  · cases hm
end
end Sim

/-! Sim, part 11: built-ins by data; the end of a law. -/
namespace Sim
open PySem PySem.Spec PyProof.Rows L2

section
variable {X : Cx}
/-! ### len -/
def lenD : List D → Option D
  | [.str z] => if z.length ≤ cap then some (.int z.length) else none
  | [.tup ds] => some (.int ds.length)
  | [.lst _ ds] => some (.int ds.length)
  | [.scr ns] => some (.int ns.length)
  | [.dct _ ks _] => some (.int ks.length)
  | _ => none
theorem cv_len : CallV X (.builtin "len") lenD := by
  intro ds d e Hs H vs Q s r q
  unfold lenD at e
  split at e
  · split at e
    · rename_i z hz
      cases e
      cases r with
      | cons r1 rs =>
        cases rs
        exact ⟨_, call_len_str, _, by rw [r1.str], by rw [sizeCap]; exact hz, q _ Hs H (.refl s) rfl⟩
    · cases e
  · cases e
    cases r with
    | cons r1 rs =>
      cases rs
      obtain ⟨a, ws, rfl, t, rw'⟩ := r1.tup
      exact ⟨_, call_len_seq, a, ws, rfl, .inr (Same.seqT s t), q _ Hs H (.refl s) (by rw [← rw'.length]; rfl)⟩
  · cases e
    cases r with
    | cons r1 rs =>
      cases rs
      obtain ⟨a, ws, rfl, t, rw'⟩ := r1.lst s
      exact ⟨_, call_len_seq, a, ws, rfl, .inl (.of t), q _ Hs H (.refl s) (by rw [← rw'.length]; rfl)⟩
  · cases e
    cases r with
    | cons r1 rs =>
      cases rs
      obtain ⟨a, rfl, t⟩ := r1
      exact ⟨_, call_len_seq, a, _, rfl, .inl (s.seq t), q _ Hs H (.refl s) (by rw [List.length_map]; rfl)⟩
  · cases e
    cases r with
    | cons r1 rs =>
      cases rs
      obtain ⟨a, rfl, hsm, hd⟩ := r1.dct s
      rcases hd with ⟨kvs, hd⟩ | ⟨xs, hd⟩
      · refine ⟨fun xs H' Q => xs = [.ref a] ∧ H' = H ∧ Q (.int kvs.length) H, fun pins s' σ H' xs us Q I r2 ⟨g1, g2, g3⟩ => ?_, rfl, rfl, q _ Hs H (.refl s) ?_⟩
        · subst g1 g2
          obtain ⟨u, rfl, ru⟩ := vals1 r2
          cases ru
          obtain ⟨vs, kv, ob⟩ := leaf_obj I hd.at_
          have hl := kv.length
          have hz := hd.le
          refine call_len_dict hsm ob (by rw [← hl]; rw [sizeLine_eq] at hz; omega) ?_
          rw [← hl]
          exact ⟨.int kvs.length, H', I.tok _, ⟨_, rfl⟩, g3⟩
        · have := congrArg List.length hd.keys
          simp only [List.length_map] at this
          rw [this]; rfl
      · refine ⟨fun ys H' Q => ys = [.ref a] ∧ H' = H ∧ Q (.int xs.length) H, fun pins s' σ H' ys us Q I r2 ⟨g1, g2, g3⟩ => ?_, rfl, rfl, q _ Hs H (.refl s) ?_⟩
        · subst g1 g2
          obtain ⟨u, rfl, ru⟩ := vals1 r2
          cases ru
          obtain ⟨vs, rel, ob⟩ := tup_obj I s hd
          have hl := rel.length
          have hz := hd.le
          refine call_len_dictH hsm ob (by rw [← hl]; rw [sizeLine_eq] at hz; omega) ?_
          rw [← hl]
          exact ⟨.int xs.length, H', I.tok _, ⟨_, rfl⟩, g3⟩
        · have := congrArg List.length hd.keys
          simp only [List.length_map] at this
          rw [this]; rfl
  · cases e

/-! ### tuple(x), list(x) -/
def tupleD : List D → Option D
  | [.tup ds] => some (.tup ds)
  | [.lst _ ds] => some (.tup ds)
  | _ => none
theorem cv_tuple : CallV X (.type "tuple") tupleD := by
  intro ds d e Hs H vs Q s r q
  unfold tupleD at e
  split at e
  · cases e
    cases r with
    | cons r1 rs =>
      cases rs
      obtain ⟨a, ws, rfl, t, rw'⟩ := r1.tup
      exact ⟨_, call_tuple_of, a, ws, rfl, .inr ⟨Same.seqT s t, q _ Hs H (.refl s) ⟨a, ws, rfl, t, rw'⟩⟩⟩
  · cases e
    cases r with
    | cons r1 rs =>
      cases rs
      obtain ⟨a, ws, rfl, t, rw'⟩ := r1.lst s
      exact ⟨_, call_tuple_of, a, ws, rfl, .inl ⟨.of t, fun p hp => q _ _ _ (.new s hp _) ⟨p, ws, rfl, .inl (.inl upd_same), RepL.mono (same_new (s.free hp)) _ _ rw'⟩⟩⟩
  · cases e
theorem Ext.newOwn {Hs H : Hp} {a : Addr} (s : Same Hs H) (hn : H a = none) (o : HO) : Ext Hs H Hs (upd H a o) := by
  refine ⟨.refl _, same_new hn, fun b u q => ?_, fun b h => .inl h⟩
  rw [upd_ne (ne_of_none (s b u q) hn)]; exact s b u q
def listD : List D → Option D
  | [.tup ds] => some (.lst .own ds)
  | [.lst _ ds] => some (.lst .own ds)
  | [.scr ns] => some (.lst .own (ns.map .int))
  | _ => none
theorem cs_list : CallS X (.type "list") listD := by
  intro ds d e Hs H vs Q s r q
  have fin : ∀ {a : Addr} {ws : List V} {es : List D}, (SqL X.K H a ws ∨ SqT X.K H a ws) → RepL (gx X) Hs es ws → d = .lst .own es → vs = [.ref a] → WCall X (.type "list") vs H Q := fun {a ws es} t rw' ed ev => by
    subst ed ev
    refine ⟨_, call_list_of, a, ws, rfl, t, fun p hp => q _ _ _ (.newOwn s hp _) (.ofOwn ⟨p, ws, rfl, s.free hp, upd_same, rw'⟩ rfl) fun _ b eb => ?_⟩
    cases eb; exact hp
  unfold listD at e
  split at e
  · cases e
    cases r with
    | cons r1 rs =>
      cases rs
      obtain ⟨a, ws, rfl, t, rw'⟩ := r1.tup
      exact fin (.inr (Same.seqT s t)) rw' rfl rfl
  · cases e
    cases r with
    | cons r1 rs =>
      cases rs
      obtain ⟨a, ws, rfl, t, rw'⟩ := r1.lst s
      exact fin (.inl (.of t)) rw' rfl rfl
  · cases e
    cases r with
    | cons r1 rs =>
      cases rs
      obtain ⟨a, rfl, t⟩ := r1
      exact fin (.inl (s.seq t)) (RepL.ints _) rfl rfl
  · cases e

/-! ### max, min, abs, int -/
def maxD : List D → Option D
  | [.int i, .int j] => some (.int (if j > i then j else i))
  | _ => none
def minD : List D → Option D
  | [.int i, .int j] => some (.int (if j < i then j else i))
  | _ => none
def absD : List D → Option D
  | [.int i] => some (.int (if i < 0 then -i else i))
  | _ => none
def intD : List D → Option D
  | [.int i] => some (.int i)
  | [.bl b] => some (.int (if b then 1 else 0))
  | _ => none
theorem cv_max (hc : X.calm = true) : CallV X (.builtin "max") maxD := by
  intro ds d e Hs H vs Q s r q
  unfold maxD at e
  split at e
  · cases e
    cases r with
    | cons r1 rs =>
      cases rs with
      | cons r2 rs =>
        cases rs
        exact ⟨_, call_max2 hc, _, _, by rw [r1.int, r2.int], q _ Hs H (.refl s) rfl⟩
  · cases e
theorem cv_min (hc : X.calm = true) : CallV X (.builtin "min") minD := by
  intro ds d e Hs H vs Q s r q
  unfold minD at e
  split at e
  · cases e
    cases r with
    | cons r1 rs =>
      cases rs with
      | cons r2 rs =>
        cases rs
        exact ⟨_, call_min2 hc, _, _, by rw [r1.int, r2.int], q _ Hs H (.refl s) rfl⟩
  · cases e
theorem cv_abs : CallV X (.builtin "abs") absD := by
  intro ds d e Hs H vs Q s r q
  unfold absD at e
  split at e
  · cases e
    cases r with
    | cons r1 rs =>
      cases rs
      exact ⟨_, call_abs, _, by rw [r1.int], q _ Hs H (.refl s) rfl⟩
  · cases e
theorem cv_int : CallV X (.type "int") intD := by
  intro ds d e Hs H vs Q s r q
  unfold intD at e
  split at e
  · cases e
    cases r with
    | cons r1 rs =>
      cases rs
      exact ⟨_, call_int1, .inl ⟨_, by rw [r1.int], q _ Hs H (.refl s) rfl⟩⟩
  · cases e
    cases r with
    | cons r1 rs =>
      cases rs
      exact ⟨_, call_int1, .inr ⟨_, by rw [r1.bl], q _ Hs H (.refl s) rfl⟩⟩
  · cases e

/-! ### isinstance(x, T), T a built-in class -/
def tyD : D → String
  | .non => "NoneType"
  | .bl _ => "bool"
  | .int _ => "int"
  | .str _ => "str"
  | .tup _ => "tuple"
  | .lst _ _ => "list"
  | .scr _ => "list"
  | .dct _ _ _ => "dict"
inductive Ty5 where
  | bool | int | str | tuple | list
def Ty5.name : Ty5 → String
  | .bool => "bool" | .int => "int" | .str => "str" | .tuple => "tuple" | .list => "list"
def isiD (T : Ty5) : D → Option Bool
  | .non => some false
  | .bl _ => some (match T with | .bool => true | .int => true | _ => false)
  | .int _ => some (match T with | .int => true | _ => false)
  | .str _ => some (match T with | .str => true | _ => false)
  | .tup _ => some (match T with | .tuple => true | _ => false)
  | .lst _ _ => some (match T with | .list => true | _ => false)
  | .scr _ => some (match T with | .list => true | _ => false)
  | .dct _ _ _ => none
theorem isi_kit (T : Ty5) (d : D) (b : Bool) (h : isiD T d = some b) : kitB (tyD d) T.name = some b := by
  have k1 : ∀ T : Ty5, kitB "NoneType" T.name = some false := fun T => by cases T <;> decide +kernel
  have k2 : ∀ T : Ty5, kitB "bool" T.name = some (match T with | .bool => true | .int => true | _ => false) := fun T => by cases T <;> decide +kernel
  have k3 : ∀ T : Ty5, kitB "int" T.name = some (match T with | .int => true | _ => false) := fun T => by cases T <;> decide +kernel
  have k4 : ∀ T : Ty5, kitB "str" T.name = some (match T with | .str => true | _ => false) := fun T => by cases T <;> decide +kernel
  have k5 : ∀ T : Ty5, kitB "tuple" T.name = some (match T with | .tuple => true | _ => false) := fun T => by cases T <;> decide +kernel
  have k6 : ∀ T : Ty5, kitB "list" T.name = some (match T with | .list => true | _ => false) := fun T => by cases T <;> decide +kernel
  cases d with
  | non => cases h; exact k1 T
  | bl _ => rw [← h]; exact k2 T
  | int _ => rw [← h]; exact k3 T
  | str _ => rw [← h]; exact k4 T
  | tup _ => rw [← h]; exact k5 T
  | lst _ _ => rw [← h]; exact k6 T
  | scr _ => rw [← h]; exact k6 T
  | dct _ _ _ => cases h
theorem isi_ty {Hs H : Hp} {d : D} {v : V} {b : Bool} {T : Ty5} (s : Same Hs H) (h : SlotV (gx X) Hs H d v) (hb : isiD T d = some b) : TyX X.K H v (.type (tyD d)) := by
  have tup : ∀ {a : Addr} {vs : List V}, SqT X.K H a vs → TyX X.K H (.ref a) (.type "tuple") := fun t => by
    rcases t with (t | ⟨o, t⟩) | ⟨o, its, n, t, hc, _⟩
    · exact .base (.tup t)
    · exact .fTuple t
    · exact .kTuple t hc
  cases d with
  | non => cases h.non; exact .base .non
  | bl b => cases h.bl; exact .base (.bl _)
  | int b => cases h.int; exact .base (.int _)
  | str b => cases h.str; exact .base (.str _)
  | tup ds => obtain ⟨a, vs, rfl, t, _⟩ := h.tup; exact tup (Same.seqT s t)
  | lst m ds => obtain ⟨a, vs, rfl, t, _⟩ := h.lst s; exact .base (.lst t)
  | scr ns =>
    obtain ⟨a, rfl, t⟩ := h
    rcases s.seq t with (t | ⟨o, t⟩) | ⟨o, its, n, t, hc, _⟩
    · exact .base (.lst t)
    · exact .base (.frz t)
    · exact .kList t hc
  | dct m ks ds => cases hb
variable {S : Sc} {e : Expr} {pos p p' : Pos}
def isiM (T : Ty5) (m : PM) : EM := fun ρ => (m ρ).bind fun q ρ1 => match res q ρ1 with
  | some d => match isiD T d with
    | some b => .ok (.bl b) ρ1
    | none => .fail
  | none => .fail
theorem sim_isi (T : Ty5) {me : PM} {y : Str} (he : SimP X S e me) (hm : X.mg "isinstance" = none) (hmy : X.mg y = none) (hy : bootBuiltins y = some (.type T.name)) (hg : Gl X "isinstance" := by rfl) (hgy : Gl X y := by rfl) (hny : y ≠ "__name__" := by decide) (hdy : (y == ("__debug__" : Str)) = false := by decide)
    (h1 : starEach [e, .Name y p'] X.env = (false, eval e X.env) :: starEach [.Name y p'] X.env := by rfl) (h2 : starEach [.Name y p'] X.env = (false, eval (.Name y p') X.env) :: starEach [] X.env := by rfl) (hpl : (backTo pos (starEach [.Name y p'] X.env)).any (·.1) = false := by rfl) :
    SimV X S (.Call (.Name "isinstance" p) [e, .Name y p'] [] pos) (isiM T me) := by
  refine ⟨fun {ρ d ρ'} h {F σ Hs H} rl {Q} q => ?_⟩
  obtain ⟨pd, ρ1, e1, h⟩ := Res.bind_ok h
  split at h
  · rename_i d0 hd
    split at h
    · rename_i b hb
      cases h
      refine ⟨_, pe_callB call_isi hg hm (by decide +kernel) (pa_cons (peW e) (pa_cons (pe_bltn (v := .ty T.name) hgy hmy hy rfl hny hdy) pa_nil h2) h1) (by decide) (by decide) h1 hpl, he.run e1 rl fun v Hs' H' n r => ?_⟩
      have sv := r.look n.rel hd
      exact ⟨v, .ty T.name, _, _, b, rfl, .ty _, isi_ty n.rel.sub sv hb, kit_ty (isi_kit T d0 b hb), q _ Hs' H' n rfl⟩
    · cases h
  · cases h
end

/-! ### the end of a law -/
/-- the promise that walk_of wants of the law's def, from what its mirror gives for every script -/
theorem law_end {P : Program} {w : World} {K : PySem.W.Frag} {S : Sc} {n : Nat} {f : Fn} (hio : S.io = []) (h : ∀ ns : List Int, ns.length ≤ 63 → ∃ fs, f [.scr ns] = some (.bl true, fs)) (H : Hp) (a : Addr) (ns : List Int) (hl : ns.length ≤ 63) (hS : SqL K H a (ns.map V.int)) :
    spF ⟨P, w, K⟩ S 1 n f [.ref a] H (fun v _ => v = .bl true) fun _ _ _ => False := by
  obtain ⟨fs, e⟩ := h ns hl
  refine ⟨rfl, [.scr ns], .bl true, fs, H, e, rel_sh (.refl _) (.cons ⟨a, rfl, hS⟩ .nil), fun v σ' Hs' H' ρ' n rv _ => ?_⟩
  exact rv.1.bl
end Sim

/-! Sim, part 12: what the printed walks lean on. -/
namespace Sim
open PySem PySem.Spec PyProof.Rows L2
/-- the bound of every while of the mirrors -/
def wf : Nat := 100000
theorem hu16 {k : Nat} {A : Around} (h : Room k A) : A.units + 16 < cLine := by have := h.units; omega
theorem none_ok {P : Program} {w : World} {K : PySem.W.Frag} {mg : Str → Option Value} {base : Heap} {f : Addr} {fd : FuncData} {ps : List Str} {G : Gx} {S : Sc} {np n : Nat} :
    FnOk P w K mg base CX0 0 f fd ps (spF G S np n (fun _ => none)) := by
  refine ⟨fun vs H Q E h => ?_, fun A outer s H args us vs Q E hr h0 hb hv h => ?_⟩
  · obtain ⟨_, _, _, _, _, e, _⟩ := h
    cases e
  · obtain ⟨_, _, _, _, _, e, _⟩ := h
    cases e
end Sim

/-! Sim, part 13: reading the mirrors; no program in sight. -/
namespace Sim
open PySem PySem.Spec PyProof.Rows L2
/-- it ends well, and then Q -/
def T {α : Type} (r : Res α) (Q : α → Rho → Prop) : Prop := match r with
  | .ok a ρ => Q a ρ
  | _ => False
/-- f answers, and then Q -/
def FT (f : Fn) (ds : List D) (Q : D → List D → Prop) : Prop := ∃ d fs, f ds = some (d, fs) ∧ Q d fs
section
variable {α β : Type} {Q : α → Rho → Prop} {ρ : Rho}
@[simp] theorem T_ok (a : α) : T (.ok a ρ) Q = Q a ρ := rfl
@[simp] theorem T_fail : T (.fail : Res α) Q = False := rfl
@[simp] theorem T_bind {r : Res β} {f : β → Rho → Res α} : T (r.bind f) Q = T r (fun b ρ1 => T (f b ρ1) Q) := by cases r <;> rfl
theorem T_if {c : Prop} [Decidable c] {a : Res α} : T (if c then a else .fail) Q = (c ∧ T a Q) := by
  by_cases h : c
  · rw [if_pos h]; exact propext ⟨fun x => ⟨h, x⟩, fun x => x.2⟩
  · rw [if_neg h]; exact propext ⟨fun x => x.elim, fun x => absurd x.1 h⟩
@[simp] theorem T_pureO {o : Option α} : T (pureO o ρ) Q = ∃ a, o = some a ∧ Q a ρ := by
  cases o with
  | none => exact propext ⟨fun x => x.elim, fun ⟨_, h, _⟩ => by cases h⟩
  | some a => exact propext ⟨fun x => ⟨a, rfl, x⟩, fun ⟨_, h, q⟩ => by cases h; exact q⟩
theorem T_mono {r : Res α} {Q' : α → Rho → Prop} (h : T r Q) (k : ∀ a ρ, Q a ρ → Q' a ρ) : T r Q' := by
  cases r with
  | ok a ρ => exact k _ _ h
  | fail => exact h
  | ex _ _ => exact h
theorem T_and {r : Res α} {Q' : α → Rho → Prop} (h : T r Q) (h' : T r Q') : T r (fun a ρ => Q a ρ ∧ Q' a ρ) := by
  cases r with
  | ok a ρ => exact ⟨h, h'⟩
  | fail => exact h
  | ex _ _ => exact h
end
theorem FT_mono {f : Fn} {ds : List D} {Q Q' : D → List D → Prop} (h : FT f ds Q) (k : ∀ a ρ, Q a ρ → Q' a ρ) : FT f ds Q' := by
  obtain ⟨d, fs, e, q⟩ := h
  exact ⟨d, fs, e, k _ _ q⟩
/-- for a def: what is asked of its body's end -/
def EndQ (io : List Nat) (Q : D → List D → Prop) : Flow → Rho → Prop := fun fl ρ => match fl with
  | .nxt => ∃ fs, lasts io ρ = some fs ∧ Q .non fs
  | .ret d => ∃ fs, lasts io ρ = some fs ∧ Q d fs
  | _ => False
theorem FT_def {n : Nat} {io : List Nat} {b : SM} {ds : List D} {Q : D → List D → Prop} (h : T (b (pad n ds)) (EndQ io Q)) : FT (defF n io b) ds Q := by
  unfold FT defF
  cases hb : b (pad n ds) with
  | fail => rw [hb] at h; exact h.elim
  | ex _ _ => rw [hb] at h; exact h.elim
  | ok f ρ =>
    rw [hb] at h
    cases f with
    | nxt => obtain ⟨fs, e, q⟩ := h; exact ⟨.non, fs, by simp [e], q⟩
    | ret d => obtain ⟨fs, e, q⟩ := h; exact ⟨d, fs, by simp [e], q⟩
    | brk => exact h.elim
    | cnt => exact h.elim
@[simp] theorem EndQ_nxt {io : List Nat} {Q : D → List D → Prop} {ρ : Rho} : EndQ io Q .nxt ρ = ∃ fs, lasts io ρ = some fs ∧ Q .non fs := rfl
@[simp] theorem EndQ_ret {io : List Nat} {Q : D → List D → Prop} {ρ : Rho} {d : D} : EndQ io Q (.ret d) ρ = ∃ fs, lasts io ρ = some fs ∧ Q d fs := rfl
@[simp] theorem lasts_nil {ρ : Rho} {P : List D → Prop} : (∃ fs, lasts [] ρ = some fs ∧ P fs) = P [] := propext ⟨fun ⟨_, h, q⟩ => by cases h; exact q, fun q => ⟨_, rfl, q⟩⟩
section
variable {Q : D → Rho → Prop} {QB : Bool → Rho → Prop} {QS : Flow → Rho → Prop} {QL : List D → Rho → Prop} {ρ : Rho}
@[simp] theorem T_call {f : Fn} {m : AM} : T (callF f m ρ) Q = T (m ρ) (fun ds ρ1 => FT f ds (fun d _ => Q d ρ1)) := by
  unfold callF
  rw [T_bind]
  congr 1
  funext ds ρ1
  unfold FT
  cases h : f ds with
  | none => exact propext ⟨fun x => x.elim, fun ⟨_, _, h, _⟩ => by cases h⟩
  | some p => exact propext ⟨fun x => ⟨p.1, p.2, rfl, x⟩, fun ⟨_, _, h, q⟩ => by cases h; exact q⟩
@[simp] theorem T_name {i : Nat} : T (nameM i ρ) Q = ∃ d, ρ[i]? = some (some d) ∧ Q d ρ := by
  unfold nameM
  rcases h : ρ[i]? with _ | _ | d
  · exact propext ⟨fun x => x.elim, fun ⟨_, h, _⟩ => by cases h⟩
  · exact propext ⟨fun x => x.elim, fun ⟨_, h, _⟩ => by cases h⟩
  · exact propext ⟨fun x => ⟨d, rfl, x⟩, fun ⟨_, h, q⟩ => by cases h; exact q⟩
@[simp] theorem T_frz {i : Nat} : T (frzM i ρ) Q = ∃ d, ρ[i]? = some (some d) ∧ Q d.frz (ρ.set i (some d.frz)) := by
  unfold frzM
  rcases h : ρ[i]? with _ | _ | d
  · exact propext ⟨fun x => x.elim, fun ⟨_, h, _⟩ => by cases h⟩
  · exact propext ⟨fun x => x.elim, fun ⟨_, h, _⟩ => by cases h⟩
  · exact propext ⟨fun x => ⟨d, rfl, x⟩, fun ⟨_, h, q⟩ => by cases h; exact q⟩
@[simp] theorem T_const {d : D} : T (constM d ρ) Q = Q d ρ := rfl
@[simp] theorem T_sh {m : EM} : T (shM m ρ) Q = T (m ρ) (fun d ρ1 => Q d.frz ρ1) := by unfold shM; rw [T_bind]; rfl
@[simp] theorem T_op2 {f : D → D → Option D} {a b : EM} : T (op2 f a b ρ) Q = T (a ρ) (fun x ρ1 => T (b ρ1) (fun y ρ2 => ∃ d, f x y = some d ∧ Q d ρ2)) := by
  unfold op2; simp only [T_bind, T_pureO]
@[simp] theorem T_op1 {f : D → Option D} {a : EM} : T (op1 f a ρ) Q = T (a ρ) (fun x ρ1 => ∃ d, f x = some d ∧ Q d ρ1) := by
  unfold op1; simp only [T_bind, T_pureO]
@[simp] theorem T_test {m : EM} : T (testM m ρ) QB = T (m ρ) (fun d ρ1 => ∃ c, d = .bl c ∧ QB c ρ1) := by
  unfold testM; rw [T_bind]; congr 1; funext d ρ1
  cases d <;> first | exact propext ⟨fun x => x.elim, fun ⟨_, h, _⟩ => by cases h⟩ | exact propext ⟨fun x => ⟨_, rfl, x⟩, fun ⟨_, h, q⟩ => by cases h; exact q⟩
theorem T_bif {α : Type} {Q : α → Rho → Prop} {b : Bool} {x y : Res α} : T (match b with | true => x | false => y) Q = ((b = true → T x Q) ∧ (b = false → T y Q)) := by
  cases b
  · exact propext ⟨fun h => ⟨fun e => (by cases e), fun _ => h⟩, fun h => h.2 rfl⟩
  · exact propext ⟨fun h => ⟨fun _ => h, fun e => (by cases e)⟩, fun h => h.1 rfl⟩
@[simp] theorem T_not {m : TM} : T (notM m ρ) QB = T (m ρ) (fun c ρ1 => QB (!c) ρ1) := by unfold notM; rw [T_bind]; rfl
@[simp] theorem T_andM {m n : TM} : T (andM m n ρ) QB = T (m ρ) (fun c ρ1 => (c = true → T (n ρ1) QB) ∧ (c = false → QB false ρ1)) := by
  unfold andM; rw [T_bind]; congr 1; funext c ρ1; exact T_bif
@[simp] theorem T_orM {m n : TM} : T (orM m n ρ) QB = T (m ρ) (fun c ρ1 => (c = true → QB true ρ1) ∧ (c = false → T (n ρ1) QB)) := by
  unfold orM; rw [T_bind]; congr 1; funext c ρ1; exact T_bif
@[simp] theorem T_ifM {c : TM} {m n : EM} : T (ifM c m n ρ) Q = T (c ρ) (fun c ρ1 => (c = true → T (m ρ1) Q) ∧ (c = false → T (n ρ1) Q)) := by
  unfold ifM; rw [T_bind]; congr 1; funext c ρ1; exact T_bif
@[simp] theorem T_bl {m : TM} : T (blM m ρ) Q = T (m ρ) (fun c ρ1 => Q (.bl c) ρ1) := by unfold blM; rw [T_bind]; rfl
@[simp] theorem T_andV {m n : EM} : T (andV m n ρ) Q = T (testM m ρ) (fun c ρ1 => (c = true → T (n ρ1) Q) ∧ (c = false → Q (.bl false) ρ1)) := by
  unfold andV; rw [T_bind]; congr 1; funext c ρ1; exact T_bif
@[simp] theorem T_orV {m n : EM} : T (orV m n ρ) Q = T (testM m ρ) (fun c ρ1 => (c = true → Q (.bl true) ρ1) ∧ (c = false → T (n ρ1) Q)) := by
  unfold orV; rw [T_bind]; congr 1; funext c ρ1; exact T_bif
@[simp] theorem T_notV {m : EM} : T (notV m ρ) Q = T (testM m ρ) (fun c ρ1 => Q (.bl (!c)) ρ1) := by unfold notV; rw [T_bind]; rfl
@[simp] theorem T_peek {QP : PD → Rho → Prop} {i : Nat} : T (peekM i ρ) QP = ∃ d, ρ[i]? = some (some d) ∧ QP (.inr i) ρ := by
  unfold peekM
  rcases h : ρ[i]? with _ | _ | d
  · exact propext ⟨fun x => x.elim, fun ⟨_, h, _⟩ => by cases h⟩
  · exact propext ⟨fun x => x.elim, fun ⟨_, h, _⟩ => by cases h⟩
  · exact propext ⟨fun x => ⟨d, rfl, x⟩, fun ⟨_, h, q⟩ => by cases h; exact q⟩
@[simp] theorem T_vP {QP : PD → Rho → Prop} {m : EM} : T (vP m ρ) QP = T (m ρ) (fun d ρ1 => QP (.inl d) ρ1) := by unfold vP; rw [T_bind]; rfl
@[simp] theorem res_inl {d : D} : res (.inl d) ρ = some d := rfl
@[simp] theorem res_inr {i : Nat} {d : D} : (res (.inr i) ρ = some d) = (ρ[i]? = some (some d)) := by
  unfold res
  rcases h : ρ[i]? with _ | _ | d' <;> simp_all
@[simp] theorem T_opP {f : D → D → Option D} {a b : PM} : T (opP f a b ρ) Q = T (a ρ) (fun p ρ1 => T (b ρ1) (fun q ρ2 => ∃ x, res p ρ2 = some x ∧ ∃ y, res q ρ2 = some y ∧ ∃ d, f x y = some d ∧ Q d ρ2)) := by
  unfold opP; simp only [T_bind]; congr 1; funext p ρ1; congr 1; funext q ρ2
  rcases res p ρ2 with _ | x
  · exact propext ⟨fun x => x.elim, fun ⟨_, h, _⟩ => by cases h⟩
  · rcases res q ρ2 with _ | y
    · exact propext ⟨fun x => x.elim, fun ⟨_, _, _, h, _⟩ => by cases h⟩
    · simp only [T_pureO]
      exact propext ⟨fun x => ⟨_, rfl, _, rfl, x⟩, fun ⟨_, h1, _, h2, q⟩ => by cases h1; cases h2; exact q⟩
@[simp] theorem T_nilA : T (nilA ρ) QL = QL [] ρ := rfl
@[simp] theorem T_consA {m : EM} {n : AM} : T (consA m n ρ) QL = T (m ρ) (fun d ρ1 => T (n ρ1) (fun ds ρ2 => QL (d :: ds) ρ2)) := by unfold consA; simp only [T_bind, T_ok]
@[simp] theorem T_nilP {QP : List PD → Rho → Prop} : T (nilP ρ) QP = QP [] ρ := rfl
@[simp] theorem T_consP {QP : List PD → Rho → Prop} {m : PM} {n : Rho → Res (List PD)} : T (consP m n ρ) QP = T (m ρ) (fun d ρ1 => T (n ρ1) (fun ds ρ2 => QP (d :: ds) ρ2)) := by unfold consP; simp only [T_bind, T_ok]
@[simp] theorem T_tup {m : AM} : T (tupM m ρ) Q = T (m ρ) (fun ds ρ1 => ds.length ≤ cap ∧ Q (.tup ds) ρ1) := by unfold tupM; simp only [T_bind, T_if, T_ok]
@[simp] theorem T_lst {m : AM} : T (lstM m ρ) Q = T (m ρ) (fun ds ρ1 => ds.length ≤ cap ∧ Q (.lst .own ds) ρ1) := by unfold lstM; simp only [T_bind, T_if, T_ok]
@[simp] theorem T_noO {QO : Option Int → Rho → Prop} : T (noO ρ) QO = QO none ρ := rfl
@[simp] theorem T_someO {QO : Option Int → Rho → Prop} {m : EM} : T (someO m ρ) QO = T (m ρ) (fun d ρ1 => ∃ i, d = .int i ∧ QO (some i) ρ1) := by
  unfold someO; rw [T_bind]; congr 1; funext d ρ1
  cases d <;> first | exact propext ⟨fun x => x.elim, fun ⟨_, h, _⟩ => by cases h⟩ | exact propext ⟨fun x => ⟨_, rfl, x⟩, fun ⟨_, h, q⟩ => by cases h; exact q⟩
@[simp] theorem T_slice {m : PM} {ml mh : Rho → Res (Option Int)} : T (sliceM m ml mh ρ) Q = T (m ρ) (fun p ρ1 => T (ml ρ1) (fun lo ρ2 => T (mh ρ2) (fun hi ρ3 => ∃ x, res p ρ3 = some x ∧ ∃ d, sliceD x lo hi = some d ∧ Q d ρ3))) := by
  unfold sliceM; simp only [T_bind]; congr 1; funext p ρ1; congr 1; funext lo ρ2; congr 1; funext hi ρ3
  rcases res p ρ3 with _ | x
  · exact propext ⟨fun x => x.elim, fun ⟨_, h, _⟩ => by cases h⟩
  · simp only [T_pureO]
    exact propext ⟨fun x => ⟨_, rfl, x⟩, fun ⟨_, h1, q⟩ => by cases h1; exact q⟩
@[simp] theorem T_callM {f : List D → Option D} {m : Rho → Res (List PD)} : T (callM f m ρ) Q = T (m ρ) (fun ps ρ1 => ∃ ds, resL ps ρ1 = some ds ∧ ∃ d, f ds = some d ∧ Q d ρ1) := by
  unfold callM; simp only [T_bind]; congr 1; funext ps ρ1
  rcases resL ps ρ1 with _ | x
  · exact propext ⟨fun x => x.elim, fun ⟨_, h, _⟩ => by cases h⟩
  · simp only [T_pureO]
    exact propext ⟨fun x => ⟨_, rfl, x⟩, fun ⟨_, h1, q⟩ => by cases h1; exact q⟩
@[simp] theorem resL_nil : resL [] ρ = some [] := rfl
@[simp] theorem resL_cons {p : PD} {ps : List PD} {R : List D → Prop} : (∃ ds, resL (p :: ps) ρ = some ds ∧ R ds) = ∃ d, res p ρ = some d ∧ ∃ ds, resL ps ρ = some ds ∧ R (d :: ds) := by
  have e : resL (p :: ps) ρ = (match res p ρ, resL ps ρ with
    | some d, some ds => some (d :: ds)
    | _, _ => none) := rfl
  rw [e]
  rcases res p ρ with _ | x
  · exact propext ⟨fun ⟨_, h, _⟩ => (by cases h), fun ⟨_, h, _⟩ => by cases h⟩
  · rcases resL ps ρ with _ | y
    · exact propext ⟨fun ⟨_, h, _⟩ => (by cases h), fun ⟨_, _, _, h, _⟩ => by cases h⟩
    · exact propext ⟨fun ⟨_, h, q⟩ => (by cases h; exact ⟨_, rfl, _, rfl, q⟩), fun ⟨_, h1, _, h2, q⟩ => by cases h1; cases h2; exact ⟨_, rfl, q⟩⟩
@[simp] theorem resL_nil' {R : List D → Prop} : (∃ ds, resL [] ρ = some ds ∧ R ds) = R [] := propext ⟨fun ⟨_, h, q⟩ => (by cases h; exact q), fun q => ⟨_, rfl, q⟩⟩
@[simp] theorem T_isi {t : Ty5} {m : PM} : T (isiM t m ρ) Q = T (m ρ) (fun p ρ1 => ∃ x, res p ρ1 = some x ∧ ∃ b, isiD t x = some b ∧ Q (.bl b) ρ1) := by
  unfold isiM; simp only [T_bind]; congr 1; funext p ρ1
  rcases res p ρ1 with _ | x
  · exact propext ⟨fun x => x.elim, fun ⟨_, h, _⟩ => by cases h⟩
  · show T (match isiD t x with | some b => Res.ok (.bl b) ρ1 | none => .fail) Q = _
    rcases h : isiD t x with _ | b
    · exact propext ⟨fun x => x.elim, fun ⟨_, h1, _, h2, _⟩ => by cases h1; rw [h] at h2; cases h2⟩
    · exact propext ⟨fun x => ⟨_, rfl, b, h, x⟩, fun ⟨_, h1, _, h2, q⟩ => by cases h1; rw [h] at h2; cases h2; exact q⟩
/-! statements -/
@[simp] theorem T_nil : T (nilM ρ) QS = QS .nxt ρ := rfl
@[simp] theorem T_brk : T (brkM ρ) QS = QS .brk ρ := rfl
@[simp] theorem T_cnt : T (cntM ρ) QS = QS .cnt ρ := rfl
/-- after a statement: on with the next, or out -/
def SeqQ (n : SM) (Q : Flow → Rho → Prop) : Flow → Rho → Prop := fun f ρ => match f with
  | .nxt => T (n ρ) Q
  | f => Q f ρ
@[simp] theorem SeqQ_nxt {n : SM} : SeqQ n QS .nxt ρ = T (n ρ) QS := rfl
@[simp] theorem SeqQ_brk {n : SM} : SeqQ n QS .brk ρ = QS .brk ρ := rfl
@[simp] theorem SeqQ_cnt {n : SM} : SeqQ n QS .cnt ρ = QS .cnt ρ := rfl
@[simp] theorem SeqQ_ret {n : SM} {d : D} : SeqQ n QS (.ret d) ρ = QS (.ret d) ρ := rfl
@[simp] theorem T_seq {m n : SM} : T (seqM m n ρ) QS = T (m ρ) (SeqQ n QS) := by
  unfold seqM; rw [T_bind]; congr 1; funext f ρ1; cases f <;> rfl
@[simp] theorem T_set {i : Nat} {m : EM} : T (setM i m ρ) QS = T (m ρ) (fun d ρ1 => QS .nxt (ρ1.set i (some d))) := by unfold setM; rw [T_bind]; rfl
@[simp] theorem T_drop {m : EM} : T (dropM m ρ) QS = T (m ρ) (fun d ρ1 => QS .nxt ρ1) := by unfold dropM; rw [T_bind]; rfl
@[simp] theorem T_ret {m : EM} : T (retM m ρ) QS = T (m ρ) (fun d ρ1 => QS (.ret d) ρ1) := by unfold retM; rw [T_bind]; rfl
@[simp] theorem T_retN : T (retN ρ) QS = QS (.ret .non) ρ := rfl
@[simp] theorem T_retS {i : Nat} : T (retS i ρ) QS = ∃ d, ρ[i]? = some (some d) ∧ QS (.ret d) (ρ.set i none) := by
  unfold retS
  rcases h : ρ[i]? with _ | _ | d
  · exact propext ⟨fun x => x.elim, fun ⟨_, h, _⟩ => by cases h⟩
  · exact propext ⟨fun x => x.elim, fun ⟨_, h, _⟩ => by cases h⟩
  · exact propext ⟨fun x => ⟨d, rfl, x⟩, fun ⟨_, h, q⟩ => by cases h; exact q⟩
@[simp] theorem T_ite {c : TM} {m n : SM} : T (iteM c m n ρ) QS = T (c ρ) (fun b ρ1 => (b = true → T (m ρ1) QS) ∧ (b = false → T (n ρ1) QS)) := by
  unfold iteM; rw [T_bind]; congr 1; funext c ρ1; exact T_bif
@[simp] theorem T_asg {g : GM} {m : EM} : T (asgM g m ρ) QS = T (m ρ) (fun d ρ1 => T (g d ρ1) (fun _ ρ2 => QS .nxt ρ2)) := by unfold asgM; simp only [T_bind, T_ok]
@[simp] theorem T_nameG {i : Nat} {d : D} {QG : Unit → Rho → Prop} : T (nameG i d ρ) QG = QG () (ρ.set i (some d)) := rfl
@[simp] theorem T_tupG {n : Nat} {gs : List D → Rho → Res Unit} {ds : List D} {QG : Unit → Rho → Prop} : T (tupG n gs (.tup ds) ρ) QG = (ds.length = n ∧ T (gs ds ρ) QG) := by unfold tupG; simp only [T_if]
@[simp] theorem T_nilG {QG : Unit → Rho → Prop} : T (nilG [] ρ) QG = QG () ρ := rfl
@[simp] theorem T_consG {g : GM} {gs : List D → Rho → Res Unit} {d : D} {ds : List D} {QG : Unit → Rho → Prop} : T (consG g gs (d :: ds) ρ) QG = T (g d ρ) (fun _ ρ1 => T (gs ds ρ1) QG) := by unfold consG; simp only [T_bind]
@[simp] theorem T_aug {i : Nat} {f : D → D → Option D} {m : EM} : T (augM i f m ρ) QS = ∃ x, ρ[i]? = some (some x) ∧ T (m ρ) (fun y ρ1 => ∃ d, f x y = some d ∧ QS .nxt (ρ1.set i (some d))) := by
  unfold augM
  rcases h : ρ[i]? with _ | _ | x
  · exact propext ⟨fun x => x.elim, fun ⟨_, h, _⟩ => by cases h⟩
  · exact propext ⟨fun x => x.elim, fun ⟨_, h, _⟩ => by cases h⟩
  · show T ((m ρ).bind _) QS = _
    rw [T_bind]
    have e : ∀ (y : D) (ρ1 : Rho), T (match f x y with | some d => Res.ok Flow.nxt (ρ1.set i (some d)) | none => .fail) QS = ∃ d, f x y = some d ∧ QS .nxt (ρ1.set i (some d)) := fun y ρ1 => by
      rcases f x y with _ | d
      · exact propext ⟨fun x => x.elim, fun ⟨_, h, _⟩ => by cases h⟩
      · exact propext ⟨fun x => ⟨_, rfl, x⟩, fun ⟨_, h1, q⟩ => by cases h1; exact q⟩
    exact propext ⟨fun h => ⟨x, rfl, T_mono h fun y ρ1 q => (e y ρ1).mp q⟩, fun ⟨_, h1, q⟩ => by cases h1; exact T_mono q fun y ρ1 q => (e y ρ1).mpr q⟩
@[simp] theorem T_app {i : Nat} {m : EM} : T (appM i m ρ) QS = ∃ md0 ds0, ρ[i]? = some (some (.lst md0 ds0)) ∧ T (m ρ) (fun d ρ1 => ∃ ds, ρ1[i]? = some (some (.lst .own ds)) ∧ ds.length < cap ∧ QS .nxt (ρ1.set i (some (.lst .own (ds ++ [d]))))) := by
  unfold appM
  rcases h : ρ[i]? with _ | _ | x
  · exact propext ⟨fun x => x.elim, fun ⟨_, _, h, _⟩ => by cases h⟩
  · exact propext ⟨fun x => x.elim, fun ⟨_, _, h, _⟩ => by cases h⟩
  · cases x
    case lst md0 ds0 =>
      show T ((m ρ).bind _) QS = _
      rw [T_bind]
      refine propext ⟨fun q => ⟨_, _, rfl, T_mono q ?_⟩, fun ⟨_, _, _, q⟩ => T_mono q ?_⟩
      · intro d ρ1 q
        split at q
        · rename_i ds e
          rw [T_if] at q
          exact ⟨ds, e, q⟩
        · exact q.elim
      · intro d ρ1 ⟨ds, e, q⟩
        rw [e]
        show T (if _ then _ else _) QS
        rw [T_if]
        exact q
    all_goals exact propext ⟨fun x => x.elim, fun ⟨_, _, h, _⟩ => by cases h⟩
@[simp] theorem T_putD {i : Nat} {mk me : EM} : T (putDM i mk me ρ) QS = T (me ρ) (fun d ρ1 => ∃ x, ρ1[i]? = some (some x) ∧ T (mk ρ1) (fun k ρ2 => ∃ c, ρ2[i]? = some (some c) ∧ ∃ c', stored c k d = some c' ∧ QS .nxt (ρ2.set i (some c')))) := by
  unfold putDM; rw [T_bind]; congr 1; funext d ρ1
  rcases h : ρ1[i]? with _ | _ | x
  · exact propext ⟨fun x => x.elim, fun ⟨_, h, _⟩ => by cases h⟩
  · exact propext ⟨fun x => x.elim, fun ⟨_, h, _⟩ => by cases h⟩
  · show T ((mk ρ1).bind _) QS = _
    rw [T_bind]
    refine propext ⟨fun q => ⟨_, rfl, T_mono q ?_⟩, fun ⟨_, _, q⟩ => T_mono q ?_⟩
    · intro d ρ1 q
      split at q
      · rename_i c e
        split at q
        · rename_i c' e'
          exact ⟨c, e, c', e', q⟩
        · exact q.elim
      · exact q.elim
    · intro d ρ1 ⟨c, e, c', e', q⟩
      rw [e]
      show T (match stored c _ _ with | some c' => _ | none => .fail) QS
      rw [e']
      exact q
@[simp] theorem T_newD : T (newD ρ) Q = Q (.dct .own [] []) ρ := rfl
@[simp] theorem T_disp {mk mv : EM} : T (dispM mk mv ρ) Q = T (mk ρ) (fun k ρ1 => T (mv ρ1) (fun d ρ2 => keyOk k = true ∧ Q (.dct .own [k] [d]) ρ2)) := by unfold dispM; simp only [T_bind, T_if, T_ok]
@[simp] theorem T_iter {m : EM} : T (iterM m ρ) QL = T (m ρ) (fun d ρ1 => ∃ ds, itemsD d = some ds ∧ QL ds ρ1) := by unfold iterM; simp only [T_bind, T_pureO]
@[simp] theorem T_range1 {m : EM} : T (range1 (consA m nilA) ρ) QL = T (m ρ) (fun d ρ1 => ∃ j, d = .int j ∧ (-1000000000000 ≤ j ∧ j ≤ 1000000000000) ∧ QL (rangeL 0 j.toNat) ρ1) := by
  unfold range1; simp only [T_bind, T_consA, T_nilA]; congr 1; funext d ρ1
  cases d <;> first | exact propext ⟨fun x => x.elim, fun ⟨_, h, _⟩ => by cases h⟩ | skip
  show T (if _ then _ else _) QL = _
  rw [T_if]
  exact propext ⟨fun x => ⟨_, rfl, x⟩, fun ⟨_, h, q⟩ => by cases h; exact q⟩
@[simp] theorem T_range2 {m n : EM} : T (range2 (consA m (consA n nilA)) ρ) QL = T (m ρ) (fun d ρ1 => T (n ρ1) (fun e ρ2 => ∃ i, d = .int i ∧ ∃ j, e = .int j ∧ (-1000000000000 ≤ i ∧ i ≤ 1000000000000 ∧ -1000000000000 ≤ j ∧ j ≤ 1000000000000) ∧ QL (rangeL i (j - i).toNat) ρ2)) := by
  unfold range2; simp only [T_bind, T_consA, T_nilA]; congr 1; funext d ρ1; congr 1; funext e ρ2
  cases d <;> first | exact propext ⟨fun x => x.elim, fun ⟨_, h, _⟩ => by cases h⟩ | skip
  cases e <;> first | exact propext ⟨fun x => x.elim, fun ⟨_, _, _, h, _⟩ => by cases h⟩ | skip
  show T (if _ then _ else _) QL = _
  rw [T_if]
  exact propext ⟨fun x => ⟨_, rfl, _, rfl, x⟩, fun ⟨_, h, _, h', q⟩ => by cases h; cases h'; exact q⟩
end

/-! ### loops -/
/-- what a loop's body must leave: I, or the loop's own end -/
def LoopQ (I : Rho → Prop) (Q : Flow → Rho → Prop) : Flow → Rho → Prop := fun f ρ => match f with
  | .nxt => I ρ
  | .cnt => I ρ
  | .brk => Q .nxt ρ
  | .ret d => Q (.ret d) ρ
@[simp] theorem LoopQ_nxt {I : Rho → Prop} {Q : Flow → Rho → Prop} {ρ : Rho} : LoopQ I Q .nxt ρ = I ρ := rfl
@[simp] theorem LoopQ_cnt {I : Rho → Prop} {Q : Flow → Rho → Prop} {ρ : Rho} : LoopQ I Q .cnt ρ = I ρ := rfl
@[simp] theorem LoopQ_brk {I : Rho → Prop} {Q : Flow → Rho → Prop} {ρ : Rho} : LoopQ I Q .brk ρ = Q .nxt ρ := rfl
@[simp] theorem LoopQ_ret {I : Rho → Prop} {Q : Flow → Rho → Prop} {ρ : Rho} {d : D} : LoopQ I Q (.ret d) ρ = Q (.ret d) ρ := rfl
/-- a for by an invariant over the items still to come -/
theorem T_go {g : GM} {b : SM} {Q : Flow → Rho → Prop} (I : List D → Rho → Prop) (hs : ∀ d ds ρ, I (d :: ds) ρ → T (g d ρ) fun _ ρ1 => T (b ρ1) (LoopQ (I ds) Q)) (hq : ∀ ρ, I [] ρ → Q .nxt ρ) : ∀ (ds : List D) (ρ : Rho), I ds ρ → T (forGo g b ds ρ) Q
  | [], ρ, h => hq ρ h
  | d :: ds, ρ, h => by
    unfold forGo
    rw [T_bind]
    refine T_mono (hs d ds ρ h) fun _ ρ1 q => ?_
    rw [T_bind]
    refine T_mono q fun f ρ2 q => ?_
    cases f with
    | nxt => exact T_go I hs hq ds ρ2 q
    | cnt => exact T_go I hs hq ds ρ2 q
    | brk => exact q
    | ret d => exact q
@[simp] theorem T_for {it : AM} {g : GM} {b : SM} {ρ : Rho} {Q : Flow → Rho → Prop} : T (forM it g b ρ) Q = T (it ρ) (fun ds ρ1 => T (forGo g b ds ρ1) Q) := by unfold forM; rw [T_bind]
/-- a for by an invariant over the number of items done -/
theorem T_goIx {g : GM} {b : SM} {Q : Flow → Rho → Prop} {ds : List D} {ρ : Rho} (I : Nat → Rho → Prop) (h0 : I 0 ρ) (hs : ∀ (k : Nat) (d : D) (ρ : Rho), ds[k]? = some d → I k ρ → T (g d ρ) fun _ ρ1 => T (b ρ1) (LoopQ (I (k + 1)) Q)) (hq : ∀ ρ, I ds.length ρ → Q .nxt ρ) :
    T (forGo g b ds ρ) Q := by
  refine T_go (fun r ρ => ∃ k, r = ds.drop k ∧ k ≤ ds.length ∧ I k ρ) (fun d r ρ h => ?_) (fun ρ h => ?_) ds ρ ⟨0, rfl, Nat.zero_le _, h0⟩
  · obtain ⟨k, e, hk, hI⟩ := h
    have e0 : ds[k]? = some d := by
      have := congrArg (·[0]?) e
      simpa using this.symm
    have e1 : r = ds.drop (k + 1) := by
      have := congrArg List.tail e
      simpa using this
    have hl : k < ds.length := (List.getElem?_eq_some_iff.mp e0).1
    refine T_mono (hs k d ρ e0 hI) fun _ ρ1 q => T_mono q fun f ρ2 q => ?_
    cases f with
    | nxt => exact ⟨k + 1, e1, hl, q⟩
    | cnt => exact ⟨k + 1, e1, hl, q⟩
    | brk => exact q
    | ret d => exact q
  · obtain ⟨k, e, hk, hI⟩ := h
    have : ds.length = k := by
      have := congrArg List.length e
      simp at this
      omega
    exact hq ρ (this ▸ hI)
@[simp] theorem rangeL_len (lo : Int) (n : Nat) : (rangeL lo n).length = n := by unfold rangeL; simp
theorem rangeL_get {lo : Int} {n k : Nat} {d : D} (h : (rangeL lo n)[k]? = some d) : k < n ∧ d = .int (lo + k) := by
  unfold rangeL at h
  rw [List.getElem?_map] at h
  by_cases hk : k < n
  · rw [List.getElem?_range hk] at h
    exact ⟨hk, by simpa using h.symm⟩
  · rw [List.getElem?_eq_none (by simpa using Nat.le_of_not_lt hk)] at h
    cases h
theorem T_goR {g : GM} {b : SM} {Q : Flow → Rho → Prop} {lo : Int} {n : Nat} {ρ : Rho} (I : Nat → Rho → Prop) (h0 : I 0 ρ) (hs : ∀ (k : Nat) (ρ : Rho), k < n → I k ρ → T (g (.int (lo + k)) ρ) fun _ ρ1 => T (b ρ1) (LoopQ (I (k + 1)) Q)) (hq : ∀ ρ, I n ρ → Q .nxt ρ) :
    T (forGo g b (rangeL lo n) ρ) Q := by
  refine T_goIx I h0 (fun k d ρ hd h => ?_) (fun ρ h => hq ρ (by rwa [rangeL_len] at h))
  obtain ⟨hk, rfl⟩ := rangeL_get hd
  exact hs k ρ hk h
/-- a while by an invariant and a number that falls -/
theorem T_while {c : TM} {b : SM} {Q : Flow → Rho → Prop} (I : Nat → Rho → Prop)
    (hs : ∀ m ρ, I m ρ → T (c ρ) fun t ρ1 => (t = false → Q .nxt ρ1) ∧ (t = true → T (b ρ1) (LoopQ (fun ρ2 => ∃ m', m' < m ∧ I m' ρ2) Q))) : ∀ (n m : Nat) (ρ : Rho), m < n → I m ρ → T (whileM c b n ρ) Q
  | 0, _, _, h, _ => absurd h (Nat.not_lt_zero _)
  | n + 1, m, ρ, h, hI => by
    unfold whileM
    rw [T_bind]
    refine T_mono (hs m ρ hI) fun t ρ1 q => ?_
    cases t with
    | false => exact q.1 rfl
    | true =>
      show T ((b ρ1).bind _) Q
      rw [T_bind]
      refine T_mono (q.2 rfl) fun f ρ2 q => ?_
      cases f with
      | nxt => obtain ⟨m', l, hI'⟩ := q; exact T_while I hs n m' ρ2 (by omega) hI'
      | cnt => obtain ⟨m', l, hI'⟩ := q; exact T_while I hs n m' ρ2 (by omega) hI'
      | brk => exact q
      | ret d => exact q
/-- a comprehension whose parts leave the places as they were -/
theorem T_compGo {vs : List Nat} {g : GM} {c : TM} {e : EM} {ρ : Rho} {Q : List D → Rho → Prop} (h : D → Option D) :
    ∀ (ds acc : List D), (∀ d ∈ ds, T (g d ρ) fun _ ρ1 => T (c ρ1) fun b ρ2 => (b = true → T (e ρ2) fun y ρ3 => wipeR ρ3 vs = ρ ∧ h d = some y) ∧ (b = false → wipeR ρ2 vs = ρ ∧ h d = none)) → Q (acc ++ ds.filterMap h) ρ → T (compGo vs g c e ds acc ρ) Q
  | [], acc, _, q => by unfold compGo; simpa [T_ok] using q
  | d :: ds, acc, hs, q => by
    unfold compGo
    rw [T_bind]
    refine T_mono (hs d (.head _)) fun _ ρ1 h1 => ?_
    rw [T_bind]
    refine T_mono h1 fun b ρ2 h2 => ?_
    cases b with
    | true =>
      show T ((e ρ2).bind _) Q
      rw [T_bind]
      refine T_mono (h2.1 rfl) fun y ρ3 h3 => ?_
      rw [h3.1]
      refine T_compGo h ds _ (fun d' hd => hs d' (.tail _ hd)) ?_
      rw [List.filterMap_cons_some h3.2] at q
      simpa using q
    | false =>
      show T (compGo vs g c e ds acc (wipeR ρ2 vs)) Q
      rw [(h2.2 rfl).1]
      refine T_compGo h ds _ (fun d' hd => hs d' (.tail _ hd)) ?_
      rw [List.filterMap_cons_none (h2.2 rfl).2] at q
      exact q
@[simp] theorem T_comp {n : Nat} {vs : List Nat} {it : AM} {g : GM} {c : TM} {e : EM} {ρ : Rho} {Q : D → Rho → Prop} :
    T (compM n vs it g c e ρ) Q = T (it ρ) (fun ds ρ1 => (ρ1.length = n ∧ ds.length ≤ cap) ∧ T (compGo vs g c e ds [] (wipeR ρ1 vs)) (fun acc ρ2 => Q (.lst .own acc) (wipeR ρ2 vs))) := by
  unfold compM; simp only [T_bind, T_if, T_ok]
@[simp] theorem T_yes {ρ : Rho} {Q : Bool → Rho → Prop} : T (yesM ρ) Q = Q true ρ := rfl
end Sim

/-! Sim, part 14: small facts for reading the mirrors. -/
namespace Sim
open PySem PySem.Spec PyProof.Rows L2
@[simp] theorem atI_nat {α : Type} (xs : List α) (k : Nat) : atI xs (k : Int) = xs[k]? := by
  unfold atI ixN
  rw [if_pos (by omega)]
  by_cases h : k < xs.length
  · rw [if_pos (by omega)]; simp
  · rw [if_neg (by omega)]; simp [List.getElem?_eq_none (Nat.le_of_not_lt h)]
theorem atI_pos {α : Type} (xs : List α) {i : Int} (h : 0 ≤ i) : atI xs i = xs[i.toNat]? := by
  obtain ⟨k, rfl⟩ := Int.eq_ofNat_of_zero_le h
  simpa using atI_nat xs k
@[simp] theorem atI_lit {α : Type} (xs : List α) (n : Nat) : atI xs (no_index (@OfNat.ofNat Int n instOfNat)) = xs[n]? := atI_nat xs n
@[simp] theorem ixDD_tup (ds : List D) (i : Int) : ixDD (.tup ds) (.int i) = atI ds i := rfl
@[simp] theorem ixDD_lst (m : Md) (ds : List D) (i : Int) : ixDD (.lst m ds) (.int i) = atI ds i := rfl
@[simp] theorem ixDD_scr (ns : List Int) (i : Int) : ixDD (.scr ns) (.int i) = (atI ns i).map .int := rfl
@[simp] theorem ixDD_dct (m : Md) (ks ds : List D) (k : D) : ixDD (.dct m ks ds) k = if keyOk k = true ∧ sort1 k ks = true then lookD k ks ds else none := rfl
@[simp] theorem lenD_tup (ds : List D) : lenD [.tup ds] = some (.int ds.length) := rfl
@[simp] theorem lenD_lst (m : Md) (ds : List D) : lenD [.lst m ds] = some (.int ds.length) := rfl
@[simp] theorem lenD_scr (ns : List Int) : lenD [.scr ns] = some (.int ns.length) := rfl
@[simp] theorem lenD_dct (m : Md) (ks ds : List D) : lenD [.dct m ks ds] = some (.int ks.length) := rfl
@[simp] theorem addD_int (i j : Int) : addD (.int i) (.int j) = some (.int (i + j)) := rfl
@[simp] theorem iaddD_int (i j : Int) : iaddD (.int i) (.int j) = some (.int (i + j)) := rfl
@[simp] theorem subD_int (i j : Int) : subD (.int i) (.int j) = some (.int (i - j)) := rfl
@[simp] theorem mulD_int (i j : Int) : mulD (.int i) (.int j) = if (-18446744073709551616 < i ∧ i < 18446744073709551616) ∨ (-18446744073709551616 < j ∧ j < 18446744073709551616) then some (.int (i * j)) else none := rfl
@[simp] theorem mulD_lst (m : Md) (xs : List D) (k : Int) : mulD (.lst m xs) (.int k) = if -1000000000 < k ∧ k < 1000000000 ∧ xs.length * k.toNat ≤ cap then some (.lst .sh (List.replicate k.toNat xs).flatten) else none := rfl
@[simp] theorem fdivD_int (i j : Int) : fdivD (.int i) (.int j) = if 0 < j ∧ j < 1073741824 then some (.int (i / j)) else none := rfl
@[simp] theorem modD_int (i j : Int) : modD (.int i) (.int j) = if 0 < j then some (.int (i % j)) else none := rfl
@[simp] theorem powD_int (i j : Int) : powD (.int i) (.int j) = if 0 ≤ j ∧ j ≤ 1000 ∧ i.natAbs < 18446744073709551616 then some (.int (i ^ j.toNat)) else none := rfl
@[simp] theorem addD_tup (xs ys : List D) : addD (.tup xs) (.tup ys) = if xs.length + ys.length ≤ cap then some (.tup (xs ++ ys)) else none := rfl
@[simp] theorem addD_lst (m n : Md) (xs ys : List D) : addD (.lst m xs) (.lst n ys) = if xs.length + ys.length ≤ cap then some (.lst .sh (xs ++ ys)) else none := rfl
@[simp] theorem negD_int (i : Int) : negD (.int i) = some (.int (-i)) := rfl
@[simp] theorem ltD_int (i j : Int) : ltD (.int i) (.int j) = some (.bl (decide (i < j))) := rfl
@[simp] theorem leD_int (i j : Int) : leD (.int i) (.int j) = some (.bl (decide (i ≤ j))) := rfl
@[simp] theorem gtD_int (i j : Int) : gtD (.int i) (.int j) = some (.bl (decide (j < i))) := rfl
@[simp] theorem geD_int (i j : Int) : geD (.int i) (.int j) = some (.bl (decide (j ≤ i))) := rfl
@[simp] theorem eqB_int (i j : Int) : eqB (.int i) (.int j) = some (decide (i = j)) := rfl
@[simp] theorem eqB_str (x y : Str) : eqB (.str x) (.str y) = some (decide (x = y)) := rfl
@[simp] theorem eqB_bl (a b : Bool) : eqB (.bl a) (.bl b) = some (decide (a = b)) := rfl
@[simp] theorem eqB_non : eqB .non .non = some true := rfl
@[simp] theorem eqD_of (x y : D) : eqD x y = (eqB x y).map .bl := rfl
@[simp] theorem neD_of (x y : D) : neD x y = (eqB x y).map fun b => .bl (!b) := rfl
@[simp] theorem isD_non (x : D) : isD x .non = some (.bl (isN x)) := rfl
@[simp] theorem isNotD_non (x : D) : isNotD x .non = some (.bl (!isN x)) := rfl
@[simp] theorem isN_non : isN .non = true := rfl
@[simp] theorem isN_bl (b : Bool) : isN (.bl b) = false := rfl
@[simp] theorem isN_int (b : Int) : isN (.int b) = false := rfl
@[simp] theorem isN_str (b : Str) : isN (.str b) = false := rfl
@[simp] theorem isN_tup (b : List D) : isN (.tup b) = false := rfl
@[simp] theorem isN_lst (m : Md) (b : List D) : isN (.lst m b) = false := rfl
@[simp] theorem frz_non : D.frz .non = .non := rfl
@[simp] theorem frz_bl (b : Bool) : D.frz (.bl b) = .bl b := rfl
@[simp] theorem frz_int (b : Int) : D.frz (.int b) = .int b := rfl
@[simp] theorem frz_str (b : Str) : D.frz (.str b) = .str b := rfl
@[simp] theorem frz_tup (b : List D) : D.frz (.tup b) = .tup b := rfl
@[simp] theorem frz_lst (m : Md) (b : List D) : D.frz (.lst m b) = .lst .sh b := rfl
@[simp] theorem frz_dct (m : Md) (ks b : List D) : D.frz (.dct m ks b) = .dct .sh ks b := rfl
@[simp] theorem frz_scr (b : List Int) : D.frz (.scr b) = .scr b := rfl
@[simp] theorem maxD_int (i j : Int) : maxD [.int i, .int j] = some (.int (if j > i then j else i)) := rfl
@[simp] theorem minD_int (i j : Int) : minD [.int i, .int j] = some (.int (if j < i then j else i)) := rfl
@[simp] theorem absD_int (i : Int) : absD [.int i] = some (.int (if i < 0 then -i else i)) := rfl
@[simp] theorem intD_int (i : Int) : intD [.int i] = some (.int i) := rfl
@[simp] theorem tupleD_tup (ds : List D) : tupleD [.tup ds] = some (.tup ds) := rfl
@[simp] theorem tupleD_lst (m : Md) (ds : List D) : tupleD [.lst m ds] = some (.tup ds) := rfl
@[simp] theorem listD_tup (ds : List D) : listD [.tup ds] = some (.lst .own ds) := rfl
@[simp] theorem listD_lst (m : Md) (ds : List D) : listD [.lst m ds] = some (.lst .own ds) := rfl
@[simp] theorem listD_scr (ns : List Int) : listD [.scr ns] = some (.lst .own (ns.map .int)) := rfl
@[simp] theorem itemsD_sh (ds : List D) : itemsD (.lst .sh ds) = some ds := rfl
@[simp] theorem itemsD_tup (ds : List D) : itemsD (.tup ds) = some ds := rfl
@[simp] theorem itemsD_scr (ns : List Int) : itemsD (.scr ns) = some (ns.map .int) := rfl
@[simp] theorem isi_non (t : Ty5) : isiD t .non = some false := rfl
@[simp] theorem isi_bl (t : Ty5) (b : Bool) : isiD t (.bl b) = some (match t with | .bool => true | .int => true | _ => false) := rfl
@[simp] theorem isi_int (t : Ty5) (b : Int) : isiD t (.int b) = some (match t with | .int => true | _ => false) := rfl
@[simp] theorem isi_str (t : Ty5) (b : Str) : isiD t (.str b) = some (match t with | .str => true | _ => false) := rfl
@[simp] theorem isi_tup (t : Ty5) (b : List D) : isiD t (.tup b) = some (match t with | .tuple => true | _ => false) := rfl
@[simp] theorem isi_lst (t : Ty5) (m : Md) (b : List D) : isiD t (.lst m b) = some (match t with | .list => true | _ => false) := rfl
@[simp] theorem slice_tup (ds : List D) (lo hi : Option Int) : sliceD (.tup ds) lo hi = some (.tup (cutG ds lo hi)) := rfl
@[simp] theorem slice_lst (m : Md) (ds : List D) (lo hi : Option Int) : sliceD (.lst m ds) lo hi = some (.lst .sh (cutG ds lo hi)) := rfl
@[simp] theorem inDD_of (x y : D) : inDD x y = (inD x y).map .bl := rfl
@[simp] theorem notInDD_of (x y : D) : notInDD x y = (inD x y).map fun b => .bl (!b) := rfl
@[simp] theorem inD_tup (x : D) (ds : List D) : inD x (.tup ds) = inD.inL x ds := rfl
@[simp] theorem inD_lst (x : D) (m : Md) (ds : List D) : inD x (.lst m ds) = inD.inL x ds := rfl
@[simp] theorem inD_dct (x : D) (m : Md) (ks ds : List D) : inD x (.dct m ks ds) = if keyOk x = true ∧ sort1 x ks = true then some (lookD x ks ds).isSome else none := rfl
/-- ints are in a list of ints -/
theorem inL_int (x : Int) (ds : List Int) : inD.inL (.int x) (ds.map .int) = some (decide (x ∈ ds)) := by
  have h1 : ∀ l : List Int, (l.map D.int).all inD.flat = true := fun l => by
    induction l with
    | nil => rfl
    | cons a l ih => simp [ih, inD.flat]
  have h2 : ∀ l : List Int, (l.map D.int).any (fun d => inD.eqF d (.int x)) = decide (x ∈ l) := fun l => by
    induction l with
    | nil => rfl
    | cons a l ih =>
      simp only [List.map_cons, List.any_cons, ih]
      by_cases h : a = x
      · subst h; simp [inD.eqF]
      · have : ¬ x = a := fun e => h e.symm
        simp [inD.eqF, h, this]
  unfold inD.inL
  rw [if_pos ⟨rfl, h1 ds⟩, h2]
theorem keyOk_int (i : Int) : keyOk (.int i) = true := by simp [keyOk, keyOf, NestedKey.depth]
theorem sameK_int (i j : Int) : sameK (.int i) (.int j) = decide (i = j) := by simp [sameK, keyOf]
theorem sort1_int (i : Int) (ks : List Int) : sort1 (.int i) (ks.map .int) = true := by cases ks <;> simp [sort1, leafOf]
/-- a dict over ints -/
theorem look_int (i : Int) : ∀ (ks : List Int) (ds : List D), ks.length = ds.length → (lookD (.int i) (ks.map .int) ds).isSome = decide (i ∈ ks)
  | [], _, _ => by simp [lookD]
  | k :: ks, d :: ds, h => by
    simp only [List.map_cons, lookD, sameK_int]
    by_cases e : k = i
    · subst e; simp
    · have : ¬ i = k := fun x => e x.symm
      simp [e, this, look_int i ks ds (by simpa using h)]
theorem store_new (k : Int) (d : D) (ks : List Int) (ds : List D) (h : ks.length = ds.length) (hk : k ∉ ks) : storeD (.int k) d (ks.map .int) ds = ((ks ++ [k]).map .int, ds ++ [d]) := by
  unfold storeD
  rw [look_int k ks ds h, if_neg (by simpa using hk)]
  simp
end Sim

/-! Sim, part 15: normal forms of what must be shown. -/
namespace Sim
open PySem PySem.Spec PyProof.Rows L2
section
variable {α β : Type} {x : α} {Q : α → Prop}
theorem ex_some : (∃ d, some x = some d ∧ Q d) = Q x := propext ⟨fun ⟨_, h, q⟩ => (by cases h; exact q), fun q => ⟨_, rfl, q⟩⟩
theorem ex_some2 : (∃ d, some (some x) = some (some d) ∧ Q d) = Q x := propext ⟨fun ⟨_, h, q⟩ => (by cases h; exact q), fun q => ⟨_, rfl, q⟩⟩
theorem ex_if {c : Prop} [Decidable c] : (∃ d, (if c then some x else none) = some d ∧ Q d) = (c ∧ Q x) := by
  by_cases h : c
  · simp only [if_pos h]; exact propext ⟨fun ⟨_, e, q⟩ => (by cases e; exact ⟨h, q⟩), fun q => ⟨_, rfl, q.2⟩⟩
  · simp only [if_neg h]; exact propext ⟨fun ⟨_, e, q⟩ => (by cases e), fun q => absurd q.1 h⟩
theorem ex_map {o : Option β} {f : β → α} : (∃ d, o.map f = some d ∧ Q d) = ∃ a, o = some a ∧ Q (f a) := by
  cases o with
  | none => exact propext ⟨fun ⟨_, h, _⟩ => (by cases h), fun ⟨_, h, _⟩ => by cases h⟩
  | some b => exact propext ⟨fun ⟨_, h, q⟩ => (by cases h; exact ⟨b, rfl, q⟩), fun ⟨_, h, q⟩ => (by cases h; exact ⟨_, rfl, q⟩)⟩
theorem ex_eq : (∃ d, x = d ∧ Q d) = Q x := propext ⟨fun ⟨_, h, q⟩ => (by cases h; exact q), fun q => ⟨_, rfl, q⟩⟩
end
theorem ex_bl {b : Bool} {Q : Bool → Prop} : (∃ c, D.bl b = .bl c ∧ Q c) = Q b := propext ⟨fun ⟨_, h, q⟩ => (by cases h; exact q), fun q => ⟨_, rfl, q⟩⟩
theorem ex_int {b : Int} {Q : Int → Prop} : (∃ c, D.int b = .int c ∧ Q c) = Q b := propext ⟨fun ⟨_, h, q⟩ => (by cases h; exact q), fun q => ⟨_, rfl, q⟩⟩
theorem ex_own {ds : List D} {Q : List D → Prop} : (∃ c, some (some (D.lst .own ds)) = some (some (.lst .own c)) ∧ Q c) = Q ds := propext ⟨fun ⟨_, h, q⟩ => (by cases h; exact q), fun q => ⟨_, rfl, q⟩⟩
theorem ex_lst {m : Md} {ds : List D} {Q : Prop} : (∃ n c, some (some (D.lst m ds)) = some (some (.lst n c)) ∧ Q) = Q := propext ⟨fun ⟨_, _, h, q⟩ => q, fun q => ⟨_, _, rfl, q⟩⟩
theorem inr_at {i : Nat} {ρ : Rho} {Q : D → Prop} : (∃ d, res (.inr i) ρ = some d ∧ Q d) = ∃ d, ρ[i]? = some (some d) ∧ Q d := by simp only [res_inr]
theorem inl_at {d0 : D} {ρ : Rho} {Q : D → Prop} : (∃ d, res (.inl d0) ρ = some d ∧ Q d) = Q d0 := by simp only [res_inl]; exact ex_some
theorem tt_c {P Q : Prop} : ((true = true → P) ∧ (true = false → Q)) = P := propext ⟨fun h => h.1 rfl, fun h => ⟨fun _ => h, fun e => (by cases e)⟩⟩
theorem ff_c {P Q : Prop} : ((false = true → P) ∧ (false = false → Q)) = Q := propext ⟨fun h => h.2 rfl, fun h => ⟨fun e => (by cases e), fun _ => h⟩⟩
theorem pad_nil {ds : List D} : pad 0 ds = ds.map some := List.append_nil _
theorem pad_of {n : Nat} {ds : List D} : pad n ds = ds.map some ++ List.replicate n none := rfl
/-- ints of a drawn list -/
def below (m : Int) (d : D) : Prop := ∃ i : Int, d = .int i ∧ 0 ≤ i ∧ i < m
theorem get_ex {ds : List D} {k : Nat} (h : k < ds.length) {Q : D → Prop} (q : ∀ d, ds[k]? = some d → Q d) : ∃ d, ds[k]? = some d ∧ Q d := ⟨ds[k], List.getElem?_eq_getElem h, q _ (List.getElem?_eq_getElem h)⟩
def nones : Nat → Rho
  | 0 => []
  | n + 1 => none :: nones n
theorem nones_0 : nones 0 = [] := rfl
theorem nones_s {n : Nat} : nones (n + 1) = none :: nones n := rfl
theorem pad_n : ∀ {n : Nat} {ds : List D}, pad n ds = ds.map some ++ nones n := fun {n ds} => by
  have : ∀ n : Nat, List.replicate n (none : Option D) = nones n := fun n => by
    induction n with
    | zero => rfl
    | succ n ih => rw [List.replicate_succ, ih]; rfl
  rw [pad_of, this]
theorem mulD_one (m : Md) (x : D) (k : Int) : mulD (.lst m [x]) (.int k) = if -1000000000 < k ∧ k < 1000000000 ∧ k.toNat ≤ cap then some (.lst .sh (List.replicate k.toNat x)) else none := by
  rw [mulD_lst]
  simp
theorem at_ex {α : Type} {xs : List α} {i : Int} {Q : α → Prop} (h0 : 0 ≤ i) (h1 : i < xs.length) (q : ∀ d, d ∈ xs → xs[i.toNat]? = some d → Q d) : ∃ d, atI xs i = some d ∧ Q d := by
  have hl : i.toNat < xs.length := by omega
  have e : xs[i.toNat]? = some xs[i.toNat] := List.getElem?_eq_getElem hl
  exact ⟨_, (atI_pos xs h0).trans e, q _ (List.getElem_mem hl) e⟩
theorem at_map {α β : Type} {f : α → β} {xs : List α} {i : Int} {Q : β → Prop} (h0 : 0 ≤ i) (h1 : i < xs.length) (q : ∀ x, x ∈ xs → xs[i.toNat]? = some x → Q (f x)) : ∃ d, atI (xs.map f) i = some d ∧ Q d := by
  have hl : i.toNat < xs.length := by omega
  have e : xs[i.toNat]? = some xs[i.toNat] := List.getElem?_eq_getElem hl
  exact ⟨f xs[i.toNat], by rw [atI_pos _ h0, List.getElem?_map, e]; rfl, q _ (List.getElem_mem hl) e⟩
theorem pow10_18 : (10 : Int) ^ (18 : Int).toNat = 1000000000000000000 := by decide +kernel
theorem nat10 : (Int.natAbs 10 < 18446744073709551616) = True := eq_true (by decide)
theorem nat2 : (Int.natAbs 2 < 18446744073709551616) = True := eq_true (by decide)
theorem T_cut {m n : SM} {ρ : Rho} {Q : Flow → Rho → Prop} (I : Rho → Prop) (h : T (m ρ) fun f ρ1 => f = .nxt ∧ I ρ1) (k : ∀ ρ1, I ρ1 → T (n ρ1) Q) : T (m ρ) (SeqQ n Q) := by
  refine T_mono h fun f ρ1 q => ?_
  obtain ⟨rfl, q⟩ := q
  exact k ρ1 q
end Sim

/-! Sim, part 16: plain data. -/
namespace Sim
open PySem PySem.Spec PyProof.Rows L2
mutual
def rank : D → Nat
  | .tup ds => ranks ds + 1
  | .lst _ ds => ranks ds + 1
  | _ => 0
def ranks : List D → Nat
  | [] => 0
  | d :: ds => max (rank d) (ranks ds)
end
mutual
def plain : D → Bool
  | .tup ds => plains ds
  | .lst .sh ds => plains ds
  | .lst _ _ => false
  | .dct _ _ _ => false
  | .scr _ => false
  | _ => true
def plains : List D → Bool
  | [] => true
  | d :: ds => plain d && plains ds
end
theorem plains_get : ∀ {ds : List D}, plains ds = true → ∀ d ∈ ds, plain d = true
  | d :: ds, h, _, .head _ => by rw [plains, Bool.and_eq_true] at h; exact h.1
  | d :: ds, h, _, .tail _ m => by rw [plains, Bool.and_eq_true] at h; exact plains_get h.2 _ m
theorem ranks_get : ∀ {ds : List D}, ∀ d ∈ ds, rank d ≤ ranks ds
  | d :: ds, _, .head _ => by rw [ranks]; exact Nat.le_max_left _ _
  | d :: ds, _, .tail _ m => by rw [ranks]; exact Nat.le_trans (ranks_get _ m) (Nat.le_max_right _ _)
theorem plains_of : ∀ {ds : List D}, (∀ d ∈ ds, plain d = true) → plains ds = true
  | [], _ => rfl
  | d :: ds, h => by rw [plains, h d (.head _), plains_of fun e he => h e (.tail _ he)]; rfl
theorem ranks_of {n : Nat} : ∀ {ds : List D}, (∀ d ∈ ds, rank d ≤ n) → ranks ds ≤ n
  | [], _ => Nat.zero_le _
  | d :: ds, h => by rw [ranks]; exact Nat.max_le.mpr ⟨h d (.head _), ranks_of fun e he => h e (.tail _ he)⟩
mutual
def short : D → Bool
  | .tup ds => decide (ds.length ≤ 1000000) && shorts ds
  | .lst _ ds => decide (ds.length ≤ 1000000) && shorts ds
  | _ => true
def shorts : List D → Bool
  | [] => true
  | d :: ds => short d && shorts ds
end
theorem shorts_mem : ∀ {ds : List D}, shorts ds = true → ∀ d ∈ ds, short d = true
  | d :: ds, h, _, .head _ => by rw [shorts, Bool.and_eq_true] at h; exact h.1
  | d :: ds, h, _, .tail _ m => by rw [shorts, Bool.and_eq_true] at h; exact shorts_mem h.2 _ m
theorem shorts_get {ds : List D} (h : (decide (ds.length ≤ 1000000) && shorts ds) = true) : ds.length ≤ 1000000 ∧ ∀ d ∈ ds, short d = true := by
  rw [Bool.and_eq_true] at h
  exact ⟨of_decide_eq_true h.1, shorts_mem h.2⟩
theorem shorts_of : ∀ {ds : List D}, (∀ d ∈ ds, short d = true) → shorts ds = true
  | [], _ => rfl
  | d :: ds, h => by rw [shorts, h d (.head _), shorts_of fun e he => h e (.tail _ he)]; rfl
/-- all the items of lists and tuples within are few -/
theorem FT_of {f : Fn} {ds : List D} {d : D} {fs : List D} {Q : D → List D → Prop} (h : f ds = some (d, fs)) (q : Q d fs) : FT f ds Q := ⟨d, fs, h, q⟩
theorem FT_eq {f : Fn} {ds : List D} {d : D} (h : FT f ds fun d' fs => fs = [] ∧ d' = d) : f ds = some (d, []) := by
  obtain ⟨_, _, e, rfl, rfl⟩ := h
  exact e
theorem stored_dct (ks ds : List D) (k d : D) : Sim.stored (.dct .own ks ds) k d = if keyOk k = true ∧ sort1 k ks = true ∧ ks.length < cap then some (.dct .own (storeD k d ks ds).1 (storeD k d ks ds).2) else none := rfl
theorem stored_lst (ds : List D) (k d : D) : Sim.stored (.lst .own ds) k d = (setIxD ds k d).map fun ds' => .lst .own ds' := rfl
/-- a comprehension over F's of a list, by a test p -/
theorem T_compF {α : Type} {vs : List Nat} {g : GM} {c : TM} {e : EM} {ρ : Rho} {Q : List D → Rho → Prop} (F : α → D) (p : α → Bool) (G : α → D) : ∀ (r : List α) (acc : List D),
    (∀ x ∈ r, T (g (F x) ρ) fun _ ρ1 => T (c ρ1) fun b ρ2 => b = p x ∧ (p x = true → T (e ρ2) fun y ρ3 => wipeR ρ3 vs = ρ ∧ y = G x) ∧ (p x = false → wipeR ρ2 vs = ρ)) → Q (acc ++ (r.filter p).map G) ρ → T (compGo vs g c e (r.map F) acc ρ) Q
  | [], acc, _, q => by rw [List.map_nil]; unfold compGo; simpa [T_ok] using q
  | x :: r, acc, hs, q => by
    rw [List.map_cons]
    unfold compGo
    rw [T_bind]
    refine T_mono (hs x (.head _)) fun _ ρ1 h1 => ?_
    rw [T_bind]
    refine T_mono h1 fun b ρ2 h2 => ?_
    obtain ⟨rfl, h2, h3⟩ := h2
    cases hp : p x with
    | true =>
      show T ((e ρ2).bind _) Q
      rw [T_bind]
      refine T_mono (h2 hp) fun y ρ3 h3 => ?_
      rw [h3.1, h3.2]
      refine T_compF F p G r _ (fun d' hd => hs d' (.tail _ hd)) ?_
      rw [List.filter_cons_of_pos hp, List.map_cons] at q
      simpa using q
    | false =>
      show T (compGo vs g c e (r.map F) acc (wipeR ρ2 vs)) Q
      rw [h3 hp]
      refine T_compF F p G r _ (fun d' hd => hs d' (.tail _ hd)) ?_
      rwa [List.filter_cons_of_neg (by simp [hp])] at q
theorem T_iteTo {c : TM} {m n : SM} {ρ : Rho} {Q : Flow → Rho → Prop} (C : Bool → Prop) (hc : T (c ρ) fun b ρ1 => ρ1 = ρ ∧ C b) (h1 : C true → T (m ρ) Q) (h2 : C false → T (n ρ) Q) : T (iteM c m n ρ) Q := by
  rw [T_ite]
  refine T_mono hc fun b ρ1 h => ?_
  obtain ⟨rfl, h⟩ := h
  exact ⟨fun e => by subst e; exact h1 h, fun e => by subst e; exact h2 h⟩
theorem cutG_take {α : Type} (xs : List α) (k : Nat) : cutG xs none (some (k : Int)) = xs.take k := by
  unfold cutG
  rw [HT.sIx_none, HT.sIx_nat, List.drop_zero, Nat.sub_zero]
  by_cases h : k ≤ xs.length
  · rw [Nat.min_eq_left h]
  · rw [Nat.min_eq_right (by omega), List.take_of_length_le (Nat.le_refl _), List.take_of_length_le (by omega)]
theorem get_map {α β : Type} {f : α → β} {xs : List α} {k : Nat} {Q : β → Prop} (d : α) (h : k < xs.length) (q : Q (f (xs.getD k d))) : ∃ a, (xs.map f)[k]? = some a ∧ Q a := by
  refine ⟨f (xs.getD k d), ?_, q⟩
  rw [List.getElem?_map, List.getElem?_eq_getElem h, List.getD_eq_getElem?_getD, List.getElem?_eq_getElem h]
  rfl
end Sim

/-! Sim, part 17: == over data. -/
namespace Sim
open PySem PySem.Spec PyProof.Rows L2
mutual
def laid : D → Bool
  | .str x => PyData.strOk x
  | .tup ds => laids ds
  | .lst _ ds => laids ds
  | .dct _ _ _ => false
  | .scr _ => false
  | _ => true
def laids : List D → Bool
  | [] => true
  | d :: ds => laid d && laids ds
end
theorem laids_of : ∀ {ds : List D}, (∀ d ∈ ds, laid d = true) → laids ds = true
  | [], _ => rfl
  | d :: ds, h => by rw [laids, h d (.head _), laids_of fun e he => h e (.tail _ he)]; rfl
mutual
theorem toPy_laid : ∀ (d : D), laid d = true → ∃ p, toPy d = some p ∧ p.canLay0 = true ∧ p.depth = rank d
  | .non, _ => ⟨_, rfl, rfl, rfl⟩
  | .bl _, _ => ⟨_, rfl, rfl, rfl⟩
  | .int _, _ => ⟨_, rfl, rfl, rfl⟩
  | .str x, h => ⟨_, rfl, h, rfl⟩
  | .tup ds, h => by
    obtain ⟨ps, e, c, r⟩ := toPys_laid ds h
    exact ⟨.tuple ps, by simp only [toPy, e], c, by simp only [PyData.depth, rank, r]⟩
  | .lst m ds, h => by
    obtain ⟨ps, e, c, r⟩ := toPys_laid ds h
    exact ⟨.list ps, by simp only [toPy, e], c, by simp only [PyData.depth, rank, r]⟩
  | .dct _ _ _, h => by cases h
  | .scr _, h => by cases h
theorem toPys_laid : ∀ (ds : List D), laids ds = true → ∃ ps, toPys ds = some ps ∧ PyData.canLayAll0 ps = true ∧ PyData.depthAll ps = ranks ds
  | [], _ => ⟨_, rfl, rfl, rfl⟩
  | d :: ds, h => by
    rw [laids, Bool.and_eq_true] at h
    obtain ⟨p, e1, c1, r1⟩ := toPy_laid d h.1
    obtain ⟨ps, e2, c2, r2⟩ := toPys_laid ds h.2
    exact ⟨p :: ps, by simp only [toPys, e1, e2], by simp only [PyData.canLayAll0, c1, c2, Bool.and_self], by simp only [PyData.depthAll, ranks, r1, r2]⟩
end
mutual
/-- as Python's == over data -/
def eqv : D → D → Bool
  | .non, .non => true
  | .bl a, .bl b => a == b
  | .bl a, .int j => (if a then 1 else 0) == j
  | .int i, .bl b => i == (if b then 1 else 0)
  | .int i, .int j => i == j
  | .str x, .str y => x == y
  | .tup xs, .tup ys => eqvs xs ys
  | .lst _ xs, .lst _ ys => eqvs xs ys
  | _, _ => false
def eqvs : List D → List D → Bool
  | [], [] => true
  | x :: xs, y :: ys => eqv x y && eqvs xs ys
  | _, _ => false
end
mutual
theorem eqv_py : ∀ (x y : D) (p q : PyData), toPy x = some p → toPy y = some q → PyData.eqv p q = eqv x y
  | x, y, p, q, hx, hy => by
    cases x with
    | dct _ _ _ => cases hx
    | scr _ => cases hx
    | non => cases hx; cases y with
      | dct _ _ _ => cases hy
      | scr _ => cases hy
      | tup ys => rw [toPy] at hy; split at hy <;> cases hy; simp [PyData.eqv, eqv]
      | lst m ys => rw [toPy] at hy; split at hy <;> cases hy; simp [PyData.eqv, eqv]
      | _ => cases hy; simp [PyData.eqv, eqv]
    | bl a => cases hx; cases y with
      | dct _ _ _ => cases hy
      | scr _ => cases hy
      | tup ys => rw [toPy] at hy; split at hy <;> cases hy; simp [PyData.eqv, eqv]
      | lst m ys => rw [toPy] at hy; split at hy <;> cases hy; simp [PyData.eqv, eqv]
      | _ => cases hy; simp [PyData.eqv, eqv]
    | int a => cases hx; cases y with
      | dct _ _ _ => cases hy
      | scr _ => cases hy
      | tup ys => rw [toPy] at hy; split at hy <;> cases hy; simp [PyData.eqv, eqv]
      | lst m ys => rw [toPy] at hy; split at hy <;> cases hy; simp [PyData.eqv, eqv]
      | _ => cases hy; simp [PyData.eqv, eqv]
    | str a => cases hx; cases y with
      | dct _ _ _ => cases hy
      | scr _ => cases hy
      | tup ys => rw [toPy] at hy; split at hy <;> cases hy; simp [PyData.eqv, eqv]
      | lst m ys => rw [toPy] at hy; split at hy <;> cases hy; simp [PyData.eqv, eqv]
      | _ => cases hy; simp [PyData.eqv, eqv]
    | tup xs =>
      rw [toPy] at hx
      split at hx
      · rename_i ps hps
        cases hx
        cases y with
        | dct _ _ _ => cases hy
        | scr _ => cases hy
        | tup ys =>
          rw [toPy] at hy
          split at hy
          · rename_i qs hqs
            cases hy
            rw [PyData.eqv, eqv]
            exact eqvs_py xs ys ps qs hps hqs
          · cases hy
        | lst m ys => rw [toPy] at hy; split at hy <;> cases hy; simp [PyData.eqv, eqv]
        | _ => cases hy; simp [PyData.eqv, eqv]
      · cases hx
    | lst m xs =>
      rw [toPy] at hx
      split at hx
      · rename_i ps hps
        cases hx
        cases y with
        | dct _ _ _ => cases hy
        | scr _ => cases hy
        | lst m ys =>
          rw [toPy] at hy
          split at hy
          · rename_i qs hqs
            cases hy
            rw [PyData.eqv, eqv]
            exact eqvs_py xs ys ps qs hps hqs
          · cases hy
        | tup ys => rw [toPy] at hy; split at hy <;> cases hy; simp [PyData.eqv, eqv]
        | _ => cases hy; simp [PyData.eqv, eqv]
      · cases hx
theorem eqvs_py : ∀ (xs ys : List D) (ps qs : List PyData), toPys xs = some ps → toPys ys = some qs → PyData.eqvAll ps qs = eqvs xs ys
  | [], [], _, _, hx, hy => by cases hx; cases hy; rfl
  | [], y :: ys, _, _, hx, hy => by
    cases hx
    rw [toPys] at hy
    split at hy <;> cases hy
    rfl
  | x :: xs, [], _, _, hx, hy => by
    cases hy
    rw [toPys] at hx
    split at hx <;> cases hx
    rfl
  | x :: xs, y :: ys, _, _, hx, hy => by
    rw [toPys] at hx hy
    split at hx
    · rename_i p ps h1 h2
      split at hy
      · rename_i q qs h3 h4
        cases hx
        cases hy
        rw [PyData.eqvAll, eqvs, eqv_py x y p q h1 h3, eqvs_py xs ys ps qs h2 h4]
      · cases hy
    · cases hx
end
theorem eqB_data (x y : D) (hx : laid x = true) (hy : laid y = true) (rx : rank x ≤ 64) (ry : rank y ≤ 64) : eqB x y = some (eqv x y) := by
  obtain ⟨p, e1, c1, r1⟩ := toPy_laid x hx
  obtain ⟨q, e2, c2, r2⟩ := toPy_laid y hy
  have s1 : SeqAt.shaped p = true := by unfold SeqAt.shaped; rw [c1, Bool.true_and]; exact decide_eq_true (by omega)
  have s2 : SeqAt.shaped q = true := by unfold SeqAt.shaped; rw [c2, Bool.true_and]; exact decide_eq_true (by omega)
  have g : (match toPy x, toPy y with
    | some p, some q => if SeqAt.shaped p = true ∧ SeqAt.shaped q = true then some (PyData.eqv p q) else none
    | _, _ => none) = some (eqv x y) := by
    rw [e1, e2]
    show (if _ then _ else _) = _
    rw [if_pos ⟨s1, s2⟩, eqv_py x y p q e1 e2]
  have b : ∀ {α : Type} [BEq α] [DecidableEq α] [LawfulBEq α] (a b : α), (a == b) = decide (a = b) := fun a b => by
    by_cases h : a = b
    · subst h; simp
    · simp [h]
  cases x <;> cases y <;> first | exact g | (simp [eqB, eqv, b])
end Sim

/-! Sim, part 18: sum, str, xs[::-1], reversed(..), list(range(..)). -/
namespace Sim
open PySem PySem.Spec PyProof.Rows L2
def intsOf : List D → Option (List Int)
  | [] => some []
  | .int i :: ds => match intsOf ds with
    | some is => some (i :: is)
    | none => none
  | _ => none
theorem intsOf_eq : ∀ {ds : List D} {is : List Int}, intsOf ds = some is → ds = is.map .int
  | [], _, h => by cases h; rfl
  | .int i :: ds, is, h => by
    unfold intsOf at h
    split at h
    · rename_i js hj
      cases h
      rw [intsOf_eq hj]; rfl
    · cases h
  | .non :: ds, _, h => by cases h
  | .bl _ :: ds, _, h => by cases h
  | .str _ :: ds, _, h => by cases h
  | .tup _ :: ds, _, h => by cases h
  | .lst _ _ :: ds, _, h => by cases h
  | .dct _ _ _ :: ds, _, h => by cases h
  | .scr _ :: ds, _, h => by cases h
theorem intsOf_map : ∀ is : List Int, intsOf (is.map .int) = some is
  | [] => rfl
  | i :: is => by rw [List.map_cons, intsOf, intsOf_map is]
theorem reps_ints {G : Gx} {H : Hp} {is : List Int} {vs : List V} (r : RepL G H (is.map .int) vs) : vs = is.map V.int := by
  induction is generalizing vs with
  | nil => exact r
  | cons i is ih =>
    obtain ⟨v, w, rfl, h1, h2⟩ := r
    rw [ih h2, show v = .int i from h1]; rfl
def sumD : List D → Option D
  | [.lst _ ds] => match intsOf ds with
    | some is => some (.int is.sum)
    | none => none
  | _ => none
def strD : List D → Option D
  | [.int i] => if i.natAbs.log2 < 1920 then some (.str (toString i)) else none
  | [.str x] => some (.str x)
  | _ => none
section
variable {X : Cx}
theorem cv_sum (hc : X.calm = true) : CallV X (.builtin "sum") sumD := by
  intro ds d e Hs H vs Q s r q
  unfold sumD at e
  split at e
  · rename_i m es
    split at e
    · rename_i is hi
      cases e
      cases r with
      | cons r1 rs =>
        cases rs
        obtain ⟨a, ws, rfl, t, rw'⟩ := r1.lst s
        rw [intsOf_eq hi] at rw'
        have := reps_ints rw'
        subst this
        exact ⟨_, cr_sum hc, a, is, rfl, .of t, q _ Hs H (.refl s) rfl⟩
    · cases e
  · cases e
theorem cv_str : CallV X (.type "str") strD := by
  intro ds d e Hs H vs Q s r q
  unfold strD at e
  split at e
  · split at e
    · rename_i hz
      cases e
      cases r with
      | cons r1 rs =>
        cases rs
        exact ⟨_, call_str_int, _, by rw [r1.int], hz, q _ Hs H (.refl s) rfl⟩
    · cases e
  · cases e
    cases r with
    | cons r1 rs =>
      cases rs
      exact ⟨_, SkE.call_str_str, _, by rw [r1.str], q _ Hs H (.refl s) rfl⟩
  · cases e
end
/-! xs[::-1] -/
def revD : D → Option D
  | .lst _ ds => some (.lst .sh ds.reverse)
  | _ => none
def revM (m : PM) : EM := fun ρ => (m ρ).bind fun p ρ1 => match res p ρ1 with
  | some x => pureO (revD x) ρ1
  | none => .fail
section
variable {X : Cx} {S : Sc} {a : Expr} {ma : PM} {pos : Pos}
theorem sim_rev {k : Nat} {p1 p2 p3 : Pos} (ha : SimP X S a ma) : SimV X S (.Subscript a (.Slice none none (some (.UnaryOp .USub (.Constant (.int 1) k p1) p2)) p3) pos) (revM ma) := by
  refine ⟨fun {ρ d ρ'} h {F σ Hs H} rl {Q} q => ?_⟩
  obtain ⟨p, ρ1, e1, h⟩ := Res.bind_ok h
  split at h
  · rename_i x hx
    obtain ⟨e4, rfl⟩ := pureO_ok h
    refine ⟨_, pe_revL (peW a), ha.run e1 rl fun v Hs1 H1 n r1 => ?_⟩
    have sx := r1.look n.rel hx
    unfold revD at e4
    split at e4
    · cases e4
      obtain ⟨b, vs, rfl, t, r⟩ := sx.lst n.rel.sub
      refine ⟨b, vs, rfl, .of t, fun p hp => ?_⟩
      exact q _ _ _ (n.trans (n.rel.newSh hp _)) ⟨rfl, p, _, rfl, upd_same, RepL.mono (same_new (n.rel.sub.free hp)) _ _ r.reverse⟩
    · cases e4
  · cases h
end
/-! reversed(..) as what is walked -/
def revI (m : EM) : AM := fun ρ => (m ρ).bind fun d ρ1 => match d with
  | .lst .sh ds => .ok ds.reverse ρ1
  | .tup ds => .ok ds.reverse ρ1
  | _ => .fail
theorem rev_at {α : Type} {xs : List α} {i : Nat} {x : α} (h : xs.reverse[i]? = some x) : xs[xs.length - 1 - i]? = some x := by
  have hl := (List.getElem?_eq_some_iff.mp h).1
  rw [List.length_reverse] at hl
  rwa [List.getElem?_reverse hl] at h
theorem feeds_rev {G : Gx} {a : Addr} {vs : List V} {ds : List D} {Hs0 : Hp} (t : SqL G.K Hs0 a vs) (r : RepL G Hs0 ds vs) : Feeds G (Itv G.K a vs.length) ds.reverse Hs0 := by
  refine ⟨fun i d Hs H e s1 s2 => ?_, fun Hs H s1 s2 => by rw [List.length_reverse, r.length]; exact Nat.le_refl _⟩
  have hl := (List.getElem?_eq_some_iff.mp e).1
  rw [List.length_reverse, r.length] at hl
  obtain ⟨v, ev, rv⟩ := r.get (rev_at e)
  rw [r.length] at ev
  refine ⟨⟨hl, vs, v, (s1.trans s2).seq t, ev⟩, fun x H' y => ?_⟩
  obtain ⟨rfl, y⟩ := y
  have := y vs ((s1.trans s2).seq t)
  rw [ev] at this; cases this
  exact ⟨Hs, .refl s2, Rep.mono s1 _ _ rv⟩
theorem feeds_revT {G : Gx} {a : Addr} {vs : List V} {ds : List D} {Hs0 : Hp} (t : SqT G.K Hs0 a vs) (r : RepL G Hs0 ds vs) : Feeds G (RT.ItvT G.K a vs.length) ds.reverse Hs0 := by
  refine ⟨fun i d Hs H e s1 s2 => ?_, fun Hs H s1 s2 => by rw [List.length_reverse, r.length]; exact Nat.le_refl _⟩
  have hl := (List.getElem?_eq_some_iff.mp e).1
  rw [List.length_reverse, r.length] at hl
  obtain ⟨v, ev, rv⟩ := r.get (rev_at e)
  rw [r.length] at ev
  refine ⟨⟨hl, vs, v, Same.seqT (s1.trans s2) t, ev⟩, fun x H' y => ?_⟩
  obtain ⟨rfl, y⟩ := y
  have := y vs (Same.seqT (s1.trans s2) t)
  rw [ev] at this; cases this
  exact ⟨Hs, .refl s2, Rep.mono s1 _ _ rv⟩
section
variable {X : Cx} {S : Sc} {e e2 : Expr} {pos p p2 pos2 : Pos} {tg : Expr}
theorem sim_revI {me : EM} (hm : X.mg "reversed" = none) (he : SimV X S e me) (hg : Gl X "reversed" := by rfl) (hs : starEach [e] X.env = (false, eval e X.env) :: starEach [] X.env := by rfl) : SimI X S tg (.Call (.Name "reversed" p) [e] [] pos) (revI me) := by
  refine ⟨fun {ρ ds ρ'} hm' {F σ Hs H} rl {R} q => ?_⟩
  obtain ⟨d, ρ1, e1, e2⟩ := Res.bind_ok hm'
  refine ⟨_, RT.pi_revA hg hm (peW e) hs, he.run e1 rl fun v Hs' H' n r => ?_⟩
  split at e2
  · cases e2
    obtain ⟨_, a, vs, rfl, t, rs⟩ := r
    exact ⟨a, vs, rfl, .inl ⟨.of (n.rel.sub _ _ t), q _ Hs' H' n (feeds_rev (G := gx X) (.of t) rs)⟩⟩
  · cases e2
    obtain ⟨a, vs, rfl, t, rs⟩ := r
    exact ⟨a, vs, rfl, .inr ⟨Same.seqT n.rel.sub t, q _ Hs' H' n (feeds_revT (G := gx X) t rs)⟩⟩
  · cases e2
/-- reversed(range(n)), reversed(range(a, b)) -/
def revR1 (m : EM) : AM := fun ρ => (m ρ).bind fun d ρ1 => match d with
  | .int j => if -1000000000000 ≤ j ∧ j ≤ 1000000000000 then .ok (rangeL 0 j.toNat).reverse ρ1 else .fail
  | _ => .fail
def revR2 (m n : EM) : AM := fun ρ => (m ρ).bind fun d ρ1 => (n ρ1).bind fun d2 ρ2 => match d, d2 with
  | .int i, .int j => if -1000000000000 ≤ i ∧ i ≤ 1000000000000 ∧ -1000000000000 ≤ j ∧ j ≤ 1000000000000 then .ok (rangeL i (j - i).toNat).reverse ρ2 else .fail
  | _, _ => .fail
theorem feeds_rc {G : Gx} {lo : Int} {n : Nat} {Hs0 : Hp} : Feeds G (Itc (lo + ((n : Nat) : Int) - 1) (-1) n) (rangeL lo n).reverse Hs0 := by
  refine ⟨fun i d Hs H e s1 s2 => ?_, fun Hs H s1 s2 => by unfold rangeL; simp [Itc]⟩
  have hl := (List.getElem?_eq_some_iff.mp e).1
  have h := rev_at e
  unfold rangeL at h hl
  rw [List.length_reverse, List.length_map, List.length_range] at hl
  rw [List.length_map, List.length_range, List.getElem?_map, List.getElem?_range (by omega)] at h
  cases h
  refine ⟨hl, fun x H' y => ?_⟩
  obtain ⟨rfl, rfl⟩ := y
  exact ⟨Hs, .refl s2, by show V.int _ = V.int _; congr 1; omega⟩
theorem sim_revR1 {me : EM} (hm : X.mg "reversed" = none) (hm2 : X.mg "range" = none) (he : SimV X S e me) (hg : Gl X "reversed" := by rfl) (hg2 : Gl X "range" := by rfl) (hs2 : starEach [e] X.env = (false, eval e X.env) :: starEach [] X.env := by rfl)
    (hs : starEach [.Call (.Name "range" p2) [e] [] pos2] X.env = (false, eval (.Call (.Name "range" p2) [e] [] pos2) X.env) :: starEach [] X.env := by rfl) : SimI X S tg (.Call (.Name "reversed" p) [.Call (.Name "range" p2) [e] [] pos2] [] pos) (revR1 me) := by
  refine ⟨fun {ρ ds ρ'} hm' {F σ Hs H} rl {R} q => ?_⟩
  obtain ⟨d, ρ1, e1, e2⟩ := Res.bind_ok hm'
  split at e2
  · split at e2
    · rename_i hj
      cases e2
      refine ⟨_, pi_revR hg hm (prg_1 hg2 hm2 (peW e) hs2) hs, he.run e1 rl fun v Hs' H' n r => ?_⟩
      rw [show v = _ from r]
      refine ⟨_, rfl, by omega, by omega, by omega, by omega, ?_⟩
      have := q _ Hs' H' n (feeds_rc (G := gx X) (lo := 0))
      rw [Int.sub_zero]
      exact this
    · cases e2
  · cases e2
end
end Sim

/-! Sim, part 19: list(range(..)), tuple(range(..)), x[k] += e. -/
namespace Sim
open PySem PySem.Spec PyProof.Rows L2
def rgM1 (m : EM) : Rho → Res (Int × Int) := fun ρ => (m ρ).bind fun d ρ1 => match d with
  | .int j => .ok (0, j) ρ1
  | _ => .fail
def rgM2 (m n : EM) : Rho → Res (Int × Int) := fun ρ => (m ρ).bind fun d ρ1 => (n ρ1).bind fun e ρ2 => match d, e with
  | .int i, .int j => .ok (i, j) ρ2
  | _, _ => .fail
def rgOk (i j : Int) : Prop := -1000000000000 ≤ i ∧ i ≤ 1000000000000 ∧ -1000000000000 ≤ j ∧ j ≤ 1000000000000 ∧ (j - i).toNat ≤ cap
instance (i j : Int) : Decidable (rgOk i j) := by unfold rgOk; infer_instance
def lstRgM (m : Rho → Res (Int × Int)) : EM := fun ρ => (m ρ).bind fun p ρ1 => if rgOk p.1 p.2 then .ok (.lst .own (rangeL p.1 (p.2 - p.1).toNat)) ρ1 else .fail
def tupRgM (m : Rho → Res (Int × Int)) : EM := fun ρ => (m ρ).bind fun p ρ1 => if rgOk p.1 p.2 then .ok (.tup (rangeL p.1 (p.2 - p.1).toNat)) ρ1 else .fail
section
variable {X : Cx} {S : Sc} {e e2 : Expr} {pos p p2 pos2 : Pos}
def WR (X : Cx) (e : Expr) : L2.St → Hp → (Int → Int → Hp → Prop) → Prop := fun σ H Q => ∃ t, PRg X e t ∧ t σ H Q
theorem rgW (e : Expr) : PRg X e (WR X e) := fun pins s σ H Q I ⟨t, h, q⟩ => h pins s σ H Q I q
structure SimR (X : Cx) (S : Sc) (e : Expr) (m : Rho → Res (Int × Int)) : Prop where
  run : ∀ {ρ : Rho} {a : Int × Int} {ρ' : Rho}, m ρ = .ok a ρ' → ∀ {F : Fm} {σ : L2.St} {Hs H : Hp}, Rel (gx X) S F Hs H ρ σ → ∀ {Q : Int → Int → Hp → Prop},
    (∀ Hs' H', Nxt (gx X) S F ρ σ Hs H ρ' σ Hs' H' → Q a.1 a.2 H') → WR X e σ H Q
theorem sim_rg1 {ma : EM} (hm : X.mg "range" = none) (ha : SimV X S e ma) (hg : Gl X "range" := by rfl) (na : starEach [e] X.env = (false, eval e X.env) :: starEach [] X.env := by rfl) : SimR X S (.Call (.Name "range" p) [e] [] pos) (rgM1 ma) := by
  refine ⟨fun {ρ a ρ'} h {F σ Hs H} rl {Q} q => ?_⟩
  obtain ⟨d, ρ1, e1, h⟩ := Res.bind_ok h
  split at h
  · cases h
    exact ⟨_, prg_1 hg hm (peW e) na, ha.run e1 rl fun v Hs' H' n r => ⟨_, r, q Hs' H' n⟩⟩
  · cases h
theorem sim_rg2 {ma mb : EM} (hm : X.mg "range" = none) (ha : SimV X S e ma) (hb : SimV X S e2 mb) (hg : Gl X "range" := by rfl) (na : starEach [e, e2] X.env = (false, eval e X.env) :: starEach [e2] X.env := by rfl) (nb : starEach [e2] X.env = (false, eval e2 X.env) :: starEach [] X.env := by rfl)
    (hp : (backTo pos (starEach [e2] X.env)).any (·.1) = false := by rfl) : SimR X S (.Call (.Name "range" p) [e, e2] [] pos) (rgM2 ma mb) := by
  refine ⟨fun {ρ a ρ'} h {F σ Hs H} rl {Q} q => ?_⟩
  obtain ⟨d, ρ1, e1, h⟩ := Res.bind_ok h
  obtain ⟨d2, ρ2, e3, h⟩ := Res.bind_ok h
  split at h
  · cases h
    exact ⟨_, prg_2 hg hm (peW e) (peW e2) na nb hp, ha.run e1 rl fun v Hs' H' n r => hb.run e3 n.rel fun u Hs2 H2 n2 r2 => ⟨_, _, r, r2, q Hs2 H2 (n.trans n2)⟩⟩
  · cases h
theorem rg_ok {i j : Int} (h : rgOk i j) : RgOk i j := by
  obtain ⟨h1, h2, h3, h4, h5⟩ := h
  have h5 : (j - i).toNat ≤ 16777216 := h5
  exact ⟨by omega, by omega, by omega, by omega, by omega⟩
theorem rep_rg {G : Gx} {Hs : Hp} (i j : Int) : RepL G Hs (rangeL i (j - i).toNat) (rgV i j) := by
  unfold rangeL rgV
  generalize List.range (j - i).toNat = l
  induction l with
  | nil => rfl
  | cons a l ih => exact .cons rfl ih
theorem sim_lstRg {m : Rho → Res (Int × Int)} (hc : X.calm = true) (hm : X.mg "list" = none) (he : SimR X S e m) (hg : Gl X "list" := by rfl) (na : starEach [e] X.env = (false, eval e X.env) :: starEach [] X.env := by rfl) : SimE X S (.Call (.Name "list" p) [e] [] pos) (lstRgM m) := by
  refine ⟨fun {ρ d ρ'} h {F σ Hs H} rl {Q} q => ?_⟩
  obtain ⟨a, ρ1, e1, h⟩ := Res.bind_ok h
  split at h
  · rename_i ok
    cases h
    refine ⟨_, pe_listRg hc hg hm (rgW e) na, he.run e1 rl fun Hs' H' n => ⟨rg_ok ok, fun b hb => ?_⟩⟩
    refine q _ Hs' _ (n.trans (n.rel.newOwn hb _)) (.ofOwn ⟨b, _, rfl, n.rel.sub.free hb, upd_same, rep_rg _ _⟩ rfl) fun _ c ec => ?_
    cases ec
    exact ⟨n.unn hb, n.rel.notOwn hb⟩
  · cases h
theorem sim_tupRg {m : Rho → Res (Int × Int)} (hc : X.calm = true) (hm : X.mg "tuple" = none) (he : SimR X S e m) (hg : Gl X "tuple" := by rfl) (na : starEach [e] X.env = (false, eval e X.env) :: starEach [] X.env := by rfl) : SimV X S (.Call (.Name "tuple" p) [e] [] pos) (tupRgM m) := by
  refine ⟨fun {ρ d ρ'} h {F σ Hs H} rl {Q} q => ?_⟩
  obtain ⟨a, ρ1, e1, h⟩ := Res.bind_ok h
  split at h
  · rename_i ok
    cases h
    refine ⟨_, pe_tupRg hc hg hm (rgW e) na, he.run e1 rl fun Hs' H' n => ⟨rg_ok ok, fun b hb => ?_⟩⟩
    exact q _ _ _ (n.trans (n.rel.newSh hb _)) ⟨b, _, rfl, .inl (.inl upd_same), rep_rg _ _⟩
  · cases h
end
end Sim

/-! Sim, part 20: x[k] op= e for a list that only this place holds. -/
namespace Sim
open PySem PySem.Spec PyProof.Rows L2
section
variable {X : Cx} {S : Sc} {e ix : Expr} {pos p : Pos} {x : Str}
theorem get_lst : PGet X (fun o i H Q => ∃ a xs k z, o = .ref a ∧ i = .int k ∧ 0 ≤ k ∧ H a = some (.lst xs) ∧ xs[k.toNat]? = some z ∧ Q z H) := by
  intro pins s σ H o i ov iv Q I ro ri h
  obtain ⟨a, xs, k, z, rfl, rfl, h0, ha, hz, q⟩ := h
  cases ro
  obtain ⟨t, rfl⟩ := ri
  obtain ⟨its, r, pl, hsz⟩ := I.list (.of ha)
  obtain ⟨w, ew, rw'⟩ := r.get hz
  have hl := r.length
  have hk := (List.getElem?_eq_some_iff.mp hz).1
  have hn := line63
  exact getItem_listL pl.isList h0 (by omega) ew ⟨z, H, I, rw', q⟩
def augIxM (i : Nat) (f : D → D → Option D) (mk me : EM) : SM := fun ρ => match ρ[i]? with
  | some (some (.lst .own _)) => (mk ρ).bind fun k ρ1 => match k, ρ1[i]? with
    | .int k, some (some (.lst .own ds)) => if 0 ≤ k then match ds[k.toNat]? with
      | some d => (me ρ1).bind fun y ρ2 => match f d y, ρ2[i]? with
        | some z, some (some (.lst .own ds2)) => if k.toNat < ds2.length then .ok .nxt (ρ2.set i (some (.lst .own (ds2.set k.toNat z)))) else .fail
        | _, _ => .fail
      | none => .fail
      else .fail
    | _, _ => .fail
  | _ => .fail
theorem sim_augIx (i : Nat) {op : Operator} {f : D → D → Option D} {mk me : EM} {px : Pos} (ho : IpS X op f) (hk : SimV X S ix mk) (he : SimV X S e me) (hN : X.N[i]? = some x := by rfl) (hv : Vis X.env.scope x := by first | exact Or.inl rfl | exact Or.inr (Or.inl rfl) | exact Or.inr (Or.inr rfl))
    (hd : (x == ("__debug__" : Str)) = false := by decide) (hcd : (x == ("__classdict__" : Str)) = false := by decide)
    (ha : ∀ ov iv new, augStore ix ov iv new = (do holding [new, ov, iv] (setItem ov iv new); release [new, ov, iv] []; pure .next) := by intros; rfl) : SimS X S (.AugAssign (.Subscript (.Name x px) ix p) op e pos) (augIxM i f mk me) := by
  refine ⟨fun {ρ f' ρ'} hm {F σ Hs H} rl {E} q => ?_⟩
  unfold augIxM at hm
  split at hm
  · rename_i ds0 h0
    obtain ⟨k, ρ1, e1, hm⟩ := Res.bind_ok hm
    split at hm
    · rename_i k ds h1
      split at hm
      · rename_i hk0
        split at hm
        · rename_i d hd1
          obtain ⟨y, ρ2, e2, hm⟩ := Res.bind_ok hm
          split at hm
          · rename_i z ds2 hz h2
            split at hm
            · rename_i hlt
              cases hm
              obtain ⟨v, ev, _⟩ := rl.slot i _ h0
              refine ⟨_, ps_augS (pe_var hN hv hd hcd) (peW ix) get_lst (peW e) (ipW op) set_list ha, _, ev, hk.run e1 rl fun kv Hs1 H1 n1 r1 => ?_⟩
              obtain ⟨v1, ev1, sv1⟩ := n1.rel.slot i _ h1
              rw [ev] at ev1; cases ev1
              obtain ⟨a, vs, ea, hn1, ha1, rs1⟩ := sv1.own rfl
              cases ea
              obtain ⟨w, ew, rw'⟩ := rs1.get hd1
              refine ⟨a, vs, k, w, rfl, r1, hk0, ha1, ew, he.run e2 n1.rel fun yv Hs2 H2 n2 r2 => ?_⟩
              refine ho hz n2.rel.sub (Rep.mono n2.same _ _ rw') r2 fun zv Hs3 H3 ex r3 => ?_
              have n3 := ex.nxt n2.rel
              have nn := (n1.trans n2).trans n3
              obtain ⟨v2, ev2, sv2⟩ := n3.rel.slot i _ h2
              rw [ev] at ev2; cases ev2
              obtain ⟨a2, vs2, ea2, hn2, ha2, rs2⟩ := sv2.own rfl
              cases ea2
              have hj : ixN vs2.length k = some k.toNat := by
                unfold ixN
                rw [if_pos hk0, if_pos (by rw [← rs2.length]; omega)]
              refine ⟨a, vs2, k, k.toNat, rfl, r1, ha2, hj, ?_⟩
              exact q σ Hs3 _ (nn.trans (n3.rel.write h2 rfl ev _ rfl ⟨_, _, rfl, hn2, upd_same, rs2.set r3 _⟩))
            · cases hm
          · cases hm
        · cases hm
      · cases hm
    · cases hm
  · cases hm
end
end Sim

/-! Sim, part 21: reading the mirrors of parts 18 to 20. -/
namespace Sim
open PySem PySem.Spec PyProof.Rows L2
section
variable {Q : D → Rho → Prop} {QL : List D → Rho → Prop} {ρ : Rho}
theorem T_rev {m : PM} : T (revM m ρ) Q = T (m ρ) (fun p ρ1 => ∃ x, res p ρ1 = some x ∧ ∃ d, revD x = some d ∧ Q d ρ1) := by
  unfold revM; simp only [T_bind]; congr 1; funext p ρ1
  rcases res p ρ1 with _ | x
  · exact propext ⟨fun x => x.elim, fun ⟨_, h, _⟩ => by cases h⟩
  · simp only [T_pureO]
    exact propext ⟨fun x => ⟨_, rfl, x⟩, fun ⟨_, h1, q⟩ => by cases h1; exact q⟩
theorem revD_lst (m : Md) (ds : List D) : revD (.lst m ds) = some (.lst .sh ds.reverse) := rfl
theorem addD_str (a b : Str) (h : a.length + b.length ≤ cap) : addD (.str a) (.str b) = some (.str (a ++ b)) := if_pos h
theorem sumD_ints (m : Md) (is : List Int) : sumD [.lst m (is.map .int)] = some (.int is.sum) := by
  show (match intsOf (is.map .int) with | some is => some (D.int is.sum) | none => none) = _
  rw [intsOf_map]
theorem T_revI {m : EM} : T (revI m ρ) QL = T (m ρ) (fun d ρ1 => ∃ ds, (d = .lst .sh ds ∨ d = .tup ds) ∧ QL ds.reverse ρ1) := by
  unfold revI; rw [T_bind]; congr 1; funext d ρ1
  cases d with
  | lst md ds => cases md with
    | sh => exact propext ⟨fun q => ⟨ds, .inl rfl, q⟩, fun ⟨_, h, q⟩ => by rcases h with h | h <;> cases h; exact q⟩
    | own => exact propext ⟨fun q => q.elim, fun ⟨_, h, q⟩ => by rcases h with h | h <;> cases h⟩
    | brw => exact propext ⟨fun q => q.elim, fun ⟨_, h, q⟩ => by rcases h with h | h <;> cases h⟩
  | tup ds => exact propext ⟨fun q => ⟨ds, .inr rfl, q⟩, fun ⟨_, h, q⟩ => by rcases h with h | h <;> cases h; exact q⟩
  | non => exact propext ⟨fun q => q.elim, fun ⟨_, h, q⟩ => by rcases h with h | h <;> cases h⟩
  | bl _ => exact propext ⟨fun q => q.elim, fun ⟨_, h, q⟩ => by rcases h with h | h <;> cases h⟩
  | int _ => exact propext ⟨fun q => q.elim, fun ⟨_, h, q⟩ => by rcases h with h | h <;> cases h⟩
  | str _ => exact propext ⟨fun q => q.elim, fun ⟨_, h, q⟩ => by rcases h with h | h <;> cases h⟩
  | dct _ _ _ => exact propext ⟨fun q => q.elim, fun ⟨_, h, q⟩ => by rcases h with h | h <;> cases h⟩
  | scr _ => exact propext ⟨fun q => q.elim, fun ⟨_, h, q⟩ => by rcases h with h | h <;> cases h⟩
theorem T_revR1 {m : EM} : T (revR1 m ρ) QL = T (m ρ) (fun d ρ1 => ∃ j, d = .int j ∧ (-1000000000000 ≤ j ∧ j ≤ 1000000000000) ∧ QL (rangeL 0 j.toNat).reverse ρ1) := by
  unfold revR1; simp only [T_bind]; congr 1; funext d ρ1
  cases d <;> first | exact propext ⟨fun x => x.elim, fun ⟨_, h, _⟩ => by cases h⟩ | skip
  show T (if _ then _ else _) QL = _
  rw [T_if]
  exact propext ⟨fun x => ⟨_, rfl, x⟩, fun ⟨_, h, q⟩ => by cases h; exact q⟩
theorem T_rg1 {QR : Int × Int → Rho → Prop} {m : EM} : T (rgM1 m ρ) QR = T (m ρ) (fun d ρ1 => ∃ j, d = .int j ∧ QR (0, j) ρ1) := by
  unfold rgM1; rw [T_bind]; congr 1; funext d ρ1
  cases d <;> first | exact propext ⟨fun x => x.elim, fun ⟨_, h, _⟩ => by cases h⟩ | exact propext ⟨fun x => ⟨_, rfl, x⟩, fun ⟨_, h, q⟩ => by cases h; exact q⟩
theorem T_rg2 {QR : Int × Int → Rho → Prop} {m n : EM} : T (rgM2 m n ρ) QR = T (m ρ) (fun d ρ1 => T (n ρ1) (fun e ρ2 => ∃ i, d = .int i ∧ ∃ j, e = .int j ∧ QR (i, j) ρ2)) := by
  unfold rgM2; simp only [T_bind]; congr 1; funext d ρ1; congr 1; funext e ρ2
  cases d <;> first | exact propext ⟨fun x => x.elim, fun ⟨_, h, _⟩ => by cases h⟩ | skip
  cases e <;> first | exact propext ⟨fun x => x.elim, fun ⟨_, _, _, h, _⟩ => by cases h⟩ | exact propext ⟨fun x => ⟨_, rfl, _, rfl, x⟩, fun ⟨_, h, _, h', q⟩ => by cases h; cases h'; exact q⟩
theorem T_augIx {i : Nat} {f : D → D → Option D} {mk me : EM} {QS : Flow → Rho → Prop} : (∃ ds0, ρ[i]? = some (some (.lst .own ds0)) ∧ T (mk ρ) fun k ρ1 => ∃ j : Nat, k = .int j ∧ ∃ ds, ρ1[i]? = some (some (.lst .own ds)) ∧ ∃ d, ds[j]? = some d ∧ T (me ρ1) fun y ρ2 => ∃ z, f d y = some z ∧ ∃ ds2, ρ2[i]? = some (some (.lst .own ds2)) ∧ j < ds2.length ∧ QS .nxt (ρ2.set i (some (.lst .own (ds2.set j z))))) → T (augIxM i f mk me ρ) QS := by
  rintro ⟨ds0, e0, h⟩
  unfold augIxM
  rw [e0]
  show T ((mk ρ).bind _) QS
  rw [T_bind]
  refine T_mono h ?_
  rintro _ ρ1 ⟨j, rfl, ds, e1, d, e2, h⟩
  show T (match (D.int j), ρ1[i]? with | .int k, some (some (.lst .own ds)) => _ | _, _ => _) QS
  rw [e1]
  show T (if (0 : Int) ≤ (j : Int) then _ else _) QS
  rw [if_pos (Int.natCast_nonneg j)]
  have e2' : ds[((j : Int)).toNat]? = some d := by rw [Int.toNat_natCast]; exact e2
  show T (match ds[((j : Int)).toNat]? with | some d => _ | none => _) QS
  rw [e2']
  show T ((me ρ1).bind _) QS
  rw [T_bind]
  refine T_mono h ?_
  rintro y ρ2 ⟨z, e3, ds2, e4, h5, q⟩
  show T (match f d y, ρ2[i]? with | some z, some (some (.lst .own ds2)) => _ | _, _ => _) QS
  rw [e3, e4]
  show T (if ((j : Int)).toNat < ds2.length then _ else _) QS
  rw [Int.toNat_natCast, if_pos h5]
  exact q
theorem setIx_nat (ds : List D) (j : Nat) (d : D) (h : j < ds.length) : setIxD ds (.int j) d = some (ds.set j d) := by
  unfold setIxD ixN
  show Option.map _ (if (0 : Int) ≤ (j : Int) then _ else _) = _
  rw [if_pos (Int.natCast_nonneg j), if_pos (by omega)]
  rfl
theorem T_lstRg {m : Rho → Res (Int × Int)} : T (lstRgM m ρ) Q = T (m ρ) (fun p ρ1 => rgOk p.1 p.2 ∧ Q (.lst .own (rangeL p.1 (p.2 - p.1).toNat)) ρ1) := by unfold lstRgM; simp only [T_bind, T_if, T_ok]
theorem T_tupRg {m : Rho → Res (Int × Int)} : T (tupRgM m ρ) Q = T (m ρ) (fun p ρ1 => rgOk p.1 p.2 ∧ Q (.tup (rangeL p.1 (p.2 - p.1).toNat)) ρ1) := by unfold tupRgM; simp only [T_bind, T_if, T_ok]
end
end Sim

namespace Law
open PySem PySem.Spec PyProof.Rows L2 Sim

/-! ### the text by places -/
def topS (i : Nat) : Stmt := PySem.Challenge.pw_wardens_k25_first_values.main.body.getD i (.Pass ⟨0, 0, 0, 0⟩)
abbrev s_following : Stmt := topS 1
abbrev s_first_spans : Stmt := topS 3
abbrev s_count_first : Stmt := topS 4
abbrev s_first_values : Stmt := topS 5
abbrev s__law_cell : Stmt := topS 7
abbrev s__law_draw : Stmt := topS 8
abbrev s__law_term : Stmt := topS 9
abbrev s__law_condition : Stmt := topS 10
abbrev s__law_move : Stmt := topS 11
abbrev s__law_plant : Stmt := topS 12
abbrev s__law_sensors : Stmt := topS 13
abbrev s__law_box : Stmt := topS 14
abbrev s__law_first : Stmt := topS 15
abbrev s__law_alike : Stmt := topS 16
abbrev s_law : Stmt := topS 17

/-! ### the mirrors -/
structure Fs where
  f_following : Fn
  f_first_spans : Fn
  f_count_first : Fn
  f_first_values : Fn
  f__law_cell : Fn
  f__law_draw : Fn
  f__law_term : Fn
  f__law_condition : Fn
  f__law_move : Fn
  f__law_plant : Fn
  f__law_sensors : Fn
  f__law_box : Fn
  f__law_first : Fn
  f__law_alike : Fn
  f_law : Fn
def b_following (R : Fs) : SM :=
  (seqM (setM 2 (callM listD (consP (vP (nameM 0)) nilP)))
  (seqM (forM (revR1 (callM lenD (consP (vP (nameM 1)) nilP))) (nameG 3)
  (seqM (iteM (testM (op2 ltD (opP ixDD (peekM 2) (vP (nameM 3))) (opP ixDD (vP (opP ixDD (vP (nameM 1)) (vP (nameM 3)))) (vP (constM (.int 1))))))
  (seqM (augIxM 2 iaddD (nameM 3) (constM (.int 1)))
  (retM (callM tupleD (consP (peekM 2) nilP))))
  nilM)
  (putDM 2 (nameM 3) (opP ixDD (vP (opP ixDD (vP (nameM 1)) (vP (nameM 3)))) (vP (constM (.int 0)))))))
  (retM (constM .non))))
abbrev S_following : Sc := ⟨[2], [], []⟩
def b_first_spans (R : Fs) : SM :=
  (retM (compM 2 [1] (iterM (opP ixDD (vP (nameM 0)) (vP (constM (.int 0))))) (nameG 1) yesM (tupM (consA (opP ixDD (vP (nameM 1)) (vP (constM (.int 3)))) (consA (opP ixDD (vP (nameM 1)) (vP (constM (.int 4)))) nilA)))))
abbrev S_first_spans : Sc := ⟨[], [], []⟩
def b_count_first (R : Fs) : SM :=
  (seqM (setM 1 (constM (.int 1)))
  (seqM (forM (iterM (shM (callF R.f_first_spans (consA (nameM 0) nilA)))) (tupG 2 (consG (nameG 2) (consG (nameG 3) nilG)))
  (setM 1 (op2 mulD (nameM 1) (op2 addD (op2 subD (nameM 3) (nameM 2)) (constM (.int 1))))))
  (retM (nameM 1))))
abbrev S_count_first : Sc := ⟨[], [], []⟩
def b_first_values (R : Fs) : SM :=
  (seqM (setM 1 (shM (callF R.f_first_spans (consA (nameM 0) nilA))))
  (seqM (setM 2 (lstM nilA))
  (seqM (setM 3 (callM tupleD (consP (vP (shM (compM 5 [4] (iterM (nameM 1)) (nameG 4) yesM (opP ixDD (vP (nameM 4)) (vP (constM (.int 0))))))) nilP)))
  (seqM (whileM (testM (op2 isNotD (nameM 3) (constM .non)))
  (seqM (appM 2 (nameM 3))
  (setM 3 (shM (callF R.f_following (consA (nameM 3) (consA (nameM 1) nilA)))))) wf)
  (retS 2)))))
abbrev S_first_values : Sc := ⟨[2], [], []⟩
def b__law_cell (R : Fs) : SM :=
  (seqM (iteM (testM (op2 ltD (nameM 1) (callM lenD (consP (vP (nameM 0)) nilP))))
  (retM (opP ixDD (vP (nameM 0)) (vP (nameM 1))))
  nilM)
  (retM (constM (.int 0))))
abbrev S__law_cell : Sc := ⟨[], [], []⟩
def b__law_draw (R : Fs) : SM :=
  (seqM (setM 3 (shM (callF R.f__law_cell (consA (nameM 0) (consA (nameM 1) nilA)))))
  (seqM (iteM (testM (op2 ltD (nameM 3) (constM (.int 0))))
  (setM 3 (op1 negD (nameM 3)))
  nilM)
  (seqM (setM 4 (lstM nilA))
  (seqM (iteM (testM (op2 geD (nameM 3) (op2 powD (constM (.int 10)) (constM (.int 18)))))
  (seqM (setM 3 (op2 subD (nameM 3) (op2 powD (constM (.int 10)) (constM (.int 18)))))
  (seqM (forM (iterM (nameM 2)) (nameG 5)
  (seqM (appM 4 (op2 modD (nameM 3) (nameM 5)))
  (setM 3 (op2 fdivD (nameM 3) (nameM 5)))))
  (retS 4)))
  nilM)
  (seqM (setM 6 (op2 modD (op2 addD (op2 addD (nameM 3) (constM (.int 1))) (op2 mulD (constM (.int 31)) (nameM 1))) (constM (.int 2147483647))))
  (seqM (forM (range1 (consA (callM lenD (consP (vP (nameM 2)) nilP)) nilA)) (nameG 7)
  (seqM (setM 6 (op2 modD (op2 addD (op2 addD (op2 mulD (nameM 6) (constM (.int 48271))) (constM (.int 11))) (nameM 7)) (constM (.int 2147483647))))
  (seqM (setM 6 (op2 modD (op2 addD (op2 mulD (nameM 6) (constM (.int 69621))) (constM (.int 3))) (constM (.int 2147483647))))
  (appM 4 (op2 modD (op2 fdivD (nameM 6) (constM (.int 7))) (opP ixDD (vP (nameM 2)) (vP (nameM 7))))))))
  (retS 4)))))))
abbrev S__law_draw : Sc := ⟨[4], [], []⟩
def b__law_term (R : Fs) : SM :=
  (seqM (setM 3 (op2 modD (opP ixDD (vP (nameM 0)) (vP (nameM 1))) (constM (.int 9))))
  (seqM (setM 4 (tupM (consA (constM (.str "var")) (consA (op2 modD (opP ixDD (vP (nameM 0)) (vP (op2 addD (nameM 1) (constM (.int 1))))) (nameM 2)) nilA))))
  (seqM (setM 5 (tupM (consA (constM (.str "num")) (consA (op2 subD (op2 modD (opP ixDD (vP (nameM 0)) (vP (op2 addD (nameM 1) (constM (.int 2))))) (constM (.int 4))) (constM (.int 1))) nilA))))
  (seqM (iteM (testM (op2 eqD (nameM 3) (constM (.int 0))))
  (retM (nameM 5))
  nilM)
  (seqM (iteM (testM (op2 eqD (nameM 3) (constM (.int 1))))
  (retM (tupM (consA (constM (.str "add")) (consA (nameM 4) (consA (nameM 5) nilA)))))
  nilM)
  (seqM (iteM (testM (op2 eqD (nameM 3) (constM (.int 2))))
  (retM (tupM (consA (constM (.str "sub")) (consA (nameM 5) (consA (nameM 4) nilA)))))
  nilM)
  (seqM (iteM (testM (op2 eqD (nameM 3) (constM (.int 3))))
  (retM (tupM (consA (constM (.str "min")) (consA (tupM (consA (constM (.str "add")) (consA (nameM 4) (consA (tupM (consA (constM (.str "num")) (consA (constM (.int 1)) nilA))) nilA)))) (consA (nameM 5) nilA)))))
  nilM)
  (seqM (iteM (testM (op2 eqD (nameM 3) (constM (.int 4))))
  (retM (tupM (consA (constM (.str "max")) (consA (nameM 4) (consA (nameM 5) nilA)))))
  nilM)
  (seqM (iteM (testM (op2 eqD (nameM 3) (constM (.int 5))))
  (retM (tupM (consA (constM (.str "mul")) (consA (nameM 5) (consA (nameM 4) nilA)))))
  nilM)
  (seqM (iteM (testM (op2 eqD (nameM 3) (constM (.int 6))))
  (retM (tupM (consA (constM (.str "neg")) (consA (tupM (consA (constM (.str "var")) (consA (op2 modD (opP ixDD (vP (nameM 0)) (vP (op2 addD (nameM 1) (constM (.int 2))))) (nameM 2)) nilA))) nilA))))
  nilM)
  (seqM (iteM (testM (op2 eqD (nameM 3) (constM (.int 7))))
  (retM (tupM (consA (constM (.str "sub")) (consA (nameM 4) (consA (tupM (consA (constM (.str "var")) (consA (op2 modD (opP ixDD (vP (nameM 0)) (vP (op2 addD (nameM 1) (constM (.int 2))))) (nameM 2)) nilA))) nilA)))))
  nilM)
  (retM (nameM 4)))))))))))))
abbrev S__law_term : Sc := ⟨[], [], []⟩
def b__law_condition (R : Fs) : SM :=
  (seqM (setM 3 (op2 modD (opP ixDD (vP (nameM 0)) (vP (nameM 1))) (constM (.int 7))))
  (seqM (setM 4 (tupM (consA (constM (.str "less")) (consA (shM (callF R.f__law_term (consA (nameM 0) (consA (op2 addD (nameM 1) (constM (.int 1))) (consA (nameM 2) nilA))))) (consA (shM (callF R.f__law_term (consA (nameM 0) (consA (op2 addD (nameM 1) (constM (.int 4))) (consA (nameM 2) nilA))))) nilA)))))
  (seqM (setM 5 (tupM (consA (constM (.str "same")) (consA (tupM (consA (constM (.str "var")) (consA (op2 modD (opP ixDD (vP (nameM 0)) (vP (op2 addD (nameM 1) (constM (.int 5))))) (nameM 2)) nilA))) (consA (tupM (consA (constM (.str "num")) (consA (op2 subD (op2 modD (opP ixDD (vP (nameM 0)) (vP (op2 addD (nameM 1) (constM (.int 6))))) (constM (.int 3))) (constM (.int 1))) nilA))) nilA)))))
  (seqM (iteM (orM (testM (op2 eqD (nameM 3) (constM (.int 0)))) (testM (op2 eqD (nameM 3) (constM (.int 1)))))
  (retM (tupM (consA (constM (.str "true")) nilA)))
  nilM)
  (seqM (iteM (testM (op2 eqD (nameM 3) (constM (.int 2))))
  (retM (nameM 4))
  nilM)
  (seqM (iteM (testM (op2 eqD (nameM 3) (constM (.int 3))))
  (retM (nameM 5))
  nilM)
  (seqM (iteM (testM (op2 eqD (nameM 3) (constM (.int 4))))
  (retM (tupM (consA (constM (.str "not")) (consA (nameM 4) nilA))))
  nilM)
  (seqM (iteM (testM (op2 eqD (nameM 3) (constM (.int 5))))
  (retM (tupM (consA (constM (.str "or")) (consA (nameM 4) (consA (nameM 5) nilA)))))
  nilM)
  (retM (tupM (consA (constM (.str "and")) (consA (tupM (consA (constM (.str "not")) (consA (nameM 5) nilA))) (consA (tupM (consA (constM (.str "or")) (consA (nameM 4) (consA (tupM (consA (constM (.str "false")) nilA)) nilA)))) nilA)))))))))))))
abbrev S__law_condition : Sc := ⟨[], [], []⟩
def b__law_move (R : Fs) : SM :=
  (seqM (setM 6 (shM (callF R.f__law_draw (consA (nameM 0) (consA (nameM 1) (consA (op2 mulD (shM (lstM (consA (constM (.int 9)) nilA))) (constM (.int 24))) nilA))))))
  (seqM (setM 7 (lstM nilA))
  (seqM (forM (range1 (consA (nameM 4) nilA)) (nameG 8)
  (iteM (testM (op2 neD (op2 modD (opP ixDD (vP (nameM 6)) (vP (op2 addD (constM (.int 7)) (nameM 8)))) (constM (.int 3))) (constM (.int 0))))
  (seqM (setM 9 (shM (callF R.f__law_term (consA (nameM 6) (consA (op2 addD (constM (.int 9)) (op2 mulD (constM (.int 6)) (nameM 8))) (consA (nameM 5) nilA))))))
  (seqM (setM 10 (nameM 9))
  (seqM (iteM (testM (op2 eqD (op2 modD (opP ixDD (vP (nameM 6)) (vP (op2 addD (constM (.int 7)) (nameM 8)))) (constM (.int 3))) (constM (.int 2))))
  (setM 10 (tupM (consA (constM (.str "add")) (consA (nameM 9) (consA (tupM (consA (constM (.str "num")) (consA (op2 modD (opP ixDD (vP (nameM 6)) (vP (op2 addD (constM (.int 12)) (op2 mulD (constM (.int 6)) (nameM 8))))) (constM (.int 3))) nilA))) nilA)))))
  nilM)
  (appM 7 (tupM (consA (op2 addD (nameM 3) (nameM 8)) (consA (nameM 9) (consA (nameM 10) nilA))))))))
  nilM))
  (seqM (iteM (testM (op2 eqD (op2 modD (opP ixDD (vP (nameM 6)) (vP (constM (.int 22)))) (constM (.int 2))) (constM (.int 1))))
  (setM 7 (revM (peekM 7)))
  nilM)
  (retM (tupM (consA (op2 addD (constM (.str "m")) (callM strD (consP (vP (nameM 2)) nilP))) (consA (shM (callF R.f__law_condition (consA (nameM 6) (consA (constM (.int 0)) (consA (nameM 5) nilA))))) (consA (callM tupleD (consP (peekM 7) nilP)) nilA)))))))))
abbrev S__law_move : Sc := ⟨[7], [], []⟩
def b__law_plant (R : Fs) : SM :=
  (seqM (setM 1 (shM (callF R.f__law_draw (consA (nameM 0) (consA (constM (.int 0)) (consA (shM (lstM (consA (constM (.int 3)) (consA (constM (.int 2)) (consA (constM (.int 2)) (consA (constM (.int 2)) (consA (constM (.int 4)) (consA (constM (.int 4)) (consA (constM (.int 4)) (consA (constM (.int 3)) nilA)))))))))) nilA))))))
  (seqM (setM 2 (sliceM (vP (shM (lstM (consA (op2 addD (constM (.int 1)) (opP ixDD (vP (nameM 1)) (vP (constM (.int 1))))) (consA (op2 addD (constM (.int 1)) (opP ixDD (vP (nameM 1)) (vP (constM (.int 2))))) (consA (constM (.int 1)) nilA)))))) noO (someO (op2 addD (constM (.int 1)) (callM maxD (consP (vP (constM (.int 0))) (consP (vP (op2 subD (opP ixDD (vP (nameM 1)) (vP (constM (.int 0)))) (opP ixDD (vP (nameM 1)) (vP (constM (.int 3)))))) nilP)))))))
  (seqM (setM 3 (callM sumD (consP (vP (nameM 2)) nilP)))
  (seqM (setM 4 (lstM nilA))
  (seqM (setM 5 (lstM nilA))
  (seqM (setM 6 (constM (.int 1)))
  (seqM (forM (range1 (consA (callM lenD (consP (vP (nameM 2)) nilP)) nilA)) (nameG 7)
  (seqM (setM 8 (callM lenD (consP (peekM 4) nilP)))
  (seqM (forM (range1 (consA (opP ixDD (vP (nameM 2)) (vP (nameM 7))) nilA)) (nameG 9)
  (seqM (setM 10 (shM (callF R.f__law_draw (consA (nameM 0) (consA (nameM 6) (consA (shM (lstM (consA (constM (.int 3)) (consA (constM (.int 3)) (consA (constM (.int 3)) (consA (constM (.int 3)) nilA)))))) nilA))))))
  (seqM (setM 11 (op2 subD (opP ixDD (vP (nameM 10)) (vP (constM (.int 0)))) (constM (.int 1))))
  (seqM (setM 12 (op2 addD (nameM 11) (op2 modD (opP ixDD (vP (nameM 10)) (vP (constM (.int 2)))) (op2 addD (opP ixDD (vP (nameM 10)) (vP (constM (.int 1)))) (constM (.int 1))))))
  (seqM (setM 13 (op2 addD (nameM 12) (op2 modD (opP ixDD (vP (nameM 10)) (vP (constM (.int 3)))) (op2 addD (op2 subD (op2 addD (nameM 11) (opP ixDD (vP (nameM 10)) (vP (constM (.int 1))))) (nameM 12)) (constM (.int 1))))))
  (seqM (appM 4 (tupM (consA (op2 addD (op2 addD (op2 addD (constM (.str "p")) (callM strD (consP (vP (nameM 7)) nilP))) (constM (.str ".v"))) (callM strD (consP (vP (nameM 9)) nilP))) (consA (nameM 11) (consA (op2 addD (nameM 11) (opP ixDD (vP (nameM 10)) (vP (constM (.int 1))))) (consA (nameM 12) (consA (nameM 13) nilA)))))))
  (setM 6 (op2 addD (nameM 6) (constM (.int 1))))))))))
  (seqM (setM 14 (lstM nilA))
  (seqM (forM (range1 (consA (op2 addD (constM (.int 1)) (op2 modD (opP ixDD (vP (nameM 1)) (vP (op2 addD (constM (.int 4)) (op2 modD (nameM 7) (constM (.int 3)))))) (constM (.int 4)))) nilA)) (nameG 9)
  (seqM (appM 14 (shM (callF R.f__law_move (consA (nameM 0) (consA (nameM 6) (consA (nameM 9) (consA (nameM 8) (consA (opP ixDD (vP (nameM 2)) (vP (nameM 7))) (consA (nameM 3) nilA)))))))))
  (setM 6 (op2 addD (nameM 6) (constM (.int 1))))))
  (appM 5 (tupM (consA (op2 addD (constM (.str "p")) (callM strD (consP (vP (nameM 7)) nilP))) (consA (nameM 8) (consA (opP ixDD (vP (nameM 2)) (vP (nameM 7))) (consA (callM tupleD (consP (peekM 14) nilP)) nilA)))))))))))
  (retM (tupM (consA (callM tupleD (consP (peekM 4) nilP)) (consA (callM tupleD (consP (peekM 5) nilP)) (consA (callM tupleD (consP (vP (shM (callF R.f__law_sensors (consA (nameM 0) (consA (nameM 3) nilA))))) nilP)) nilA))))))))))))
abbrev S__law_plant : Sc := ⟨[4, 5, 14], [], []⟩
def b__law_sensors (R : Fs) : SM :=
  (seqM (setM 2 (lstM nilA))
  (seqM (setM 3 (shM (callF R.f__law_draw (consA (nameM 0) (consA (constM (.int 20)) (consA (shM (lstM (consA (constM (.int 4)) nilA))) nilA))))))
  (seqM (forM (range1 (consA (opP ixDD (vP (shM (lstM (consA (constM (.int 1)) (consA (constM (.int 0)) (consA (constM (.int 2)) (consA (constM (.int 1)) nilA))))))) (vP (opP ixDD (vP (nameM 3)) (vP (constM (.int 0)))))) nilA)) (nameG 4)
  (seqM (setM 5 (shM (callF R.f__law_draw (consA (nameM 0) (consA (op2 addD (constM (.int 21)) (nameM 4)) (consA (shM (lstM (consA (constM (.int 9)) (consA (constM (.int 9)) (consA (constM (.int 9)) (consA (constM (.int 3)) (consA (constM (.int 3)) nilA))))))) nilA))))))
  (appM 2 (tupM (consA (op2 addD (constM (.str "s")) (callM strD (consP (vP (nameM 4)) nilP))) (consA (shM (callF R.f__law_term (consA (nameM 5) (consA (constM (.int 0)) (consA (nameM 1) nilA))))) (consA (opP ixDD (vP (nameM 5)) (vP (constM (.int 3)))) (consA (op2 eqD (opP ixDD (vP (nameM 5)) (vP (constM (.int 4)))) (constM (.int 1))) nilA))))))))
  (retS 2))))
abbrev S__law_sensors : Sc := ⟨[2], [], []⟩
def b__law_box (R : Fs) : SM :=
  (seqM (setM 2 (lstM nilA))
  (seqM (forM (iterM (nameM 0)) (nameG 3)
  (forM (iterM (nameM 1)) (nameG 4)
  (appM 2 (op2 addD (nameM 3) (tupM (consA (nameM 4) nilA))))))
  (retS 2)))
abbrev S__law_box : Sc := ⟨[2], [], []⟩
def b__law_first (R : Fs) : SM :=
  (seqM (setM 1 (lstM (consA (tupM nilA) nilA)))
  (seqM (forM (iterM (opP ixDD (vP (nameM 0)) (vP (constM (.int 0))))) (nameG 2)
  (setM 1 (callF R.f__law_box (consA (frzM 1) (consA (shM (lstRgM (rgM2 (opP ixDD (vP (nameM 2)) (vP (constM (.int 3)))) (op2 addD (opP ixDD (vP (nameM 2)) (vP (constM (.int 4)))) (constM (.int 1)))))) nilA)))))
  (retS 1)))
abbrev S__law_first : Sc := ⟨[1], [], []⟩
def b__law_alike (R : Fs) : SM :=
  (seqM (iteM (testM (op2 isD (nameM 1) (constM .non)))
  (retM (op2 isD (nameM 0) (constM .non)))
  nilM)
  (seqM (iteM (testM (isiM .bool (vP (nameM 1))))
  (retM (andV (isiM .bool (vP (nameM 0))) (op2 eqD (nameM 0) (nameM 1))))
  nilM)
  (seqM (iteM (testM (isiM .int (vP (nameM 1))))
  (retM (andV (isiM .int (vP (nameM 0))) (andV (notV (isiM .bool (vP (nameM 0)))) (op2 eqD (nameM 0) (nameM 1)))))
  nilM)
  (seqM (iteM (testM (isiM .str (vP (nameM 1))))
  (retM (andV (isiM .str (vP (nameM 0))) (op2 eqD (nameM 0) (nameM 1))))
  nilM)
  (seqM (iteM (andM (testM (isiM .tuple (vP (nameM 1)))) (notM (testM (isiM .tuple (vP (nameM 0))))))
  (retM (constM (.bl false)))
  nilM)
  (seqM (iteM (andM (testM (isiM .list (vP (nameM 1)))) (notM (testM (isiM .list (vP (nameM 0))))))
  (retM (constM (.bl false)))
  nilM)
  (seqM (iteM (testM (op2 neD (callM lenD (consP (vP (nameM 0)) nilP)) (callM lenD (consP (vP (nameM 1)) nilP))))
  (retM (constM (.bl false)))
  nilM)
  (seqM (forM (range1 (consA (callM lenD (consP (vP (nameM 1)) nilP)) nilA)) (nameG 2)
  (iteM (notM (testM (shM (callF R.f__law_alike (consA (opP ixDD (vP (nameM 0)) (vP (nameM 2))) (consA (opP ixDD (vP (nameM 1)) (vP (nameM 2))) nilA))))))
  (retM (constM (.bl false)))
  nilM))
  (retM (constM (.bl true)))))))))))
abbrev S__law_alike : Sc := ⟨[], [], []⟩
def b_law (R : Fs) : SM :=
  (seqM (setM 1 (shM (callF R.f__law_plant (consA (nameM 0) nilA))))
  (seqM (setM 2 (shM (callF R.f__law_first (consA (nameM 1) nilA))))
  (seqM (iteM (orM (notM (testM (shM (callF R.f__law_alike (consA (shM (callF R.f_first_values (consA (nameM 1) nilA))) (consA (nameM 2) nilA)))))) (notM (testM (shM (callF R.f__law_alike (consA (shM (callF R.f_count_first (consA (nameM 1) nilA))) (consA (callM lenD (consP (vP (nameM 2)) nilP)) nilA)))))))
  (retM (constM (.bl false)))
  nilM)
  (seqM (setM 3 (shM (callF R.f__law_draw (consA (nameM 0) (consA (constM (.int 30)) (consA (shM (lstM (consA (constM (.int 1000000001)) (consA (constM (.int 1000000001)) nilA)))) nilA))))))
  (seqM (setM 4 (op2 addD (tupM (consA (tupM (consA (constM (.str "a.x")) (consA (op1 negD (constM (.int 5))) (consA (op2 subD (opP ixDD (vP (nameM 3)) (vP (constM (.int 0)))) (constM (.int 5))) (consA (op1 negD (constM (.int 5))) (consA (op2 subD (opP ixDD (vP (nameM 3)) (vP (constM (.int 0)))) (constM (.int 5))) nilA)))))) (consA (tupM (consA (constM (.str "a.y")) (consA (constM (.int 0)) (consA (opP ixDD (vP (nameM 3)) (vP (constM (.int 1)))) (consA (constM (.int 0)) (consA (opP ixDD (vP (nameM 3)) (vP (constM (.int 1)))) nilA)))))) nilA))) (opP ixDD (vP (nameM 1)) (vP (constM (.int 0))))))
  (seqM (setM 5 (tupM (consA (constM (.str "a")) (consA (constM (.int 0)) (consA (callM lenD (consP (vP (nameM 4)) nilP)) (consA (tupM (consA (tupM (consA (constM (.str "m")) (consA (tupM (consA (constM (.str "true")) nilA)) (consA (tupM nilA) nilA)))) nilA)) nilA))))))
  (retM (callF R.f__law_alike (consA (shM (callF R.f_count_first (consA (tupM (consA (nameM 4) (consA (tupM (consA (nameM 5) nilA)) (consA (tupM nilA) nilA)))) nilA))) (consA (op2 mulD (op2 mulD (op2 addD (opP ixDD (vP (nameM 3)) (vP (constM (.int 0)))) (constM (.int 1))) (op2 addD (opP ixDD (vP (nameM 3)) (vP (constM (.int 1)))) (constM (.int 1)))) (callM lenD (consP (vP (nameM 2)) nilP))) nilA))))))))))
abbrev S_law : Sc := ⟨[], [], []⟩
def M : Nat → Fs
  | 0 => ⟨fun _ => none, fun _ => none, fun _ => none, fun _ => none, fun _ => none, fun _ => none, fun _ => none, fun _ => none, fun _ => none, fun _ => none, fun _ => none, fun _ => none, fun _ => none, fun _ => none, fun _ => none⟩
  | k + 1 => ⟨defF 2 [] (b_following (M k)), defF 1 [] (b_first_spans (M k)), defF 3 [] (b_count_first (M k)), defF 4 [] (b_first_values (M k)), defF 0 [] (b__law_cell (M k)), defF 5 [] (b__law_draw (M k)), defF 3 [] (b__law_term (M k)), defF 3 [] (b__law_condition (M k)), defF 5 [] (b__law_move (M k)), defF 14 [] (b__law_plant (M k)), defF 4 [] (b__law_sensors (M k)), defF 3 [] (b__law_box (M k)), defF 2 [] (b__law_first (M k)), defF 1 [] (b__law_alike (M k)), defF 5 [] (b_law (M k))⟩

/-! ### what the top has written -/
structure Top (K : PySem.W.Frag) (mg : Str → Option Value) where
  a_following : Addr
  d_following : FuncData
  F_following : Fun K "following" "following" s_following a_following d_following
  m_following : mg "following" = some (.ref a_following)
  b_following : Binds K d_following ["values", "spans"] []
  a_first_spans : Addr
  d_first_spans : FuncData
  F_first_spans : Fun K "first_spans" "first_spans" s_first_spans a_first_spans d_first_spans
  m_first_spans : mg "first_spans" = some (.ref a_first_spans)
  b_first_spans : Binds K d_first_spans ["plant"] []
  a_count_first : Addr
  d_count_first : FuncData
  F_count_first : Fun K "count_first" "count_first" s_count_first a_count_first d_count_first
  m_count_first : mg "count_first" = some (.ref a_count_first)
  b_count_first : Binds K d_count_first ["plant"] []
  a_first_values : Addr
  d_first_values : FuncData
  F_first_values : Fun K "first_values" "first_values" s_first_values a_first_values d_first_values
  m_first_values : mg "first_values" = some (.ref a_first_values)
  b_first_values : Binds K d_first_values ["plant"] []
  a__law_cell : Addr
  d__law_cell : FuncData
  F__law_cell : Fun K "_law_cell" "_law_cell" s__law_cell a__law_cell d__law_cell
  m__law_cell : mg "_law_cell" = some (.ref a__law_cell)
  b__law_cell : Binds K d__law_cell ["_law_script", "_law_k"] []
  a__law_draw : Addr
  d__law_draw : FuncData
  F__law_draw : Fun K "_law_draw" "_law_draw" s__law_draw a__law_draw d__law_draw
  m__law_draw : mg "_law_draw" = some (.ref a__law_draw)
  b__law_draw : Binds K d__law_draw ["_law_script", "_law_k", "_law_sizes"] []
  a__law_term : Addr
  d__law_term : FuncData
  F__law_term : Fun K "_law_term" "_law_term" s__law_term a__law_term d__law_term
  m__law_term : mg "_law_term" = some (.ref a__law_term)
  b__law_term : Binds K d__law_term ["_law_digits", "_law_at", "_law_many"] []
  a__law_condition : Addr
  d__law_condition : FuncData
  F__law_condition : Fun K "_law_condition" "_law_condition" s__law_condition a__law_condition d__law_condition
  m__law_condition : mg "_law_condition" = some (.ref a__law_condition)
  b__law_condition : Binds K d__law_condition ["_law_digits", "_law_at", "_law_many"] []
  a__law_move : Addr
  d__law_move : FuncData
  F__law_move : Fun K "_law_move" "_law_move" s__law_move a__law_move d__law_move
  m__law_move : mg "_law_move" = some (.ref a__law_move)
  b__law_move : Binds K d__law_move ["_law_script", "_law_k", "_law_at", "_law_first_here", "_law_count", "_law_many"] []
  a__law_plant : Addr
  d__law_plant : FuncData
  F__law_plant : Fun K "_law_plant" "_law_plant" s__law_plant a__law_plant d__law_plant
  m__law_plant : mg "_law_plant" = some (.ref a__law_plant)
  b__law_plant : Binds K d__law_plant ["_law_script"] []
  a__law_sensors : Addr
  d__law_sensors : FuncData
  F__law_sensors : Fun K "_law_sensors" "_law_sensors" s__law_sensors a__law_sensors d__law_sensors
  m__law_sensors : mg "_law_sensors" = some (.ref a__law_sensors)
  b__law_sensors : Binds K d__law_sensors ["_law_script", "_law_many"] []
  a__law_box : Addr
  d__law_box : FuncData
  F__law_box : Fun K "_law_box" "_law_box" s__law_box a__law_box d__law_box
  m__law_box : mg "_law_box" = some (.ref a__law_box)
  b__law_box : Binds K d__law_box ["_law_rows", "_law_choices"] []
  a__law_first : Addr
  d__law_first : FuncData
  F__law_first : Fun K "_law_first" "_law_first" s__law_first a__law_first d__law_first
  m__law_first : mg "_law_first" = some (.ref a__law_first)
  b__law_first : Binds K d__law_first ["_law_plant_here"] []
  a__law_alike : Addr
  d__law_alike : FuncData
  F__law_alike : Fun K "_law_alike" "_law_alike" s__law_alike a__law_alike d__law_alike
  m__law_alike : mg "_law_alike" = some (.ref a__law_alike)
  b__law_alike : Binds K d__law_alike ["_law_actual", "_law_expected"] []
  a_law : Addr
  d_law : FuncData
  F_law : Fun K "law" "law" s_law a_law d_law
  m_law : mg "law" = some (.ref a_law)
  b_law : Binds K d_law ["_law_script"] []
  z_bool : mg "bool" = none
  z_int : mg "int" = none
  z_isinstance : mg "isinstance" = none
  z_len : mg "len" = none
  z_list : mg "list" = none
  z_max : mg "max" = none
  z_range : mg "range" = none
  z_reversed : mg "reversed" = none
  z_str : mg "str" = none
  z_sum : mg "sum" = none
  z_tuple : mg "tuple" = none
theorem sc_following : FnScope ["values", "spans", "result", "k"] ["values", "spans"] (defScope s_following) := ⟨rfl, rfl, rfl, by decide +kernel, rfl, by decide +kernel, by decide +kernel⟩
theorem sc_first_spans : FnScope ["plant", "row"] ["plant"] (defScope s_first_spans) := ⟨rfl, rfl, rfl, by decide +kernel, rfl, by decide +kernel, by decide +kernel⟩
theorem sc_count_first : FnScope ["plant", "many", "low", "high"] ["plant"] (defScope s_count_first) := ⟨rfl, rfl, rfl, by decide +kernel, rfl, by decide +kernel, by decide +kernel⟩
theorem sc_first_values : FnScope ["plant", "spans", "rows", "values", "span"] ["plant"] (defScope s_first_values) := ⟨rfl, rfl, rfl, by decide +kernel, rfl, by decide +kernel, by decide +kernel⟩
theorem sc__law_cell : FnScope ["_law_script", "_law_k"] ["_law_script", "_law_k"] (defScope s__law_cell) := ⟨rfl, rfl, rfl, by decide +kernel, rfl, by decide +kernel, by decide +kernel⟩
theorem sc__law_draw : FnScope ["_law_script", "_law_k", "_law_sizes", "_law_cell_here", "_law_drawn", "_law_size", "_law_mixed", "_law_j"] ["_law_script", "_law_k", "_law_sizes"] (defScope s__law_draw) := ⟨rfl, rfl, rfl, by decide +kernel, rfl, by decide +kernel, by decide +kernel⟩
theorem sc__law_term : FnScope ["_law_digits", "_law_at", "_law_many", "_law_kind", "_law_var", "_law_num"] ["_law_digits", "_law_at", "_law_many"] (defScope s__law_term) := ⟨rfl, rfl, rfl, by decide +kernel, rfl, by decide +kernel, by decide +kernel⟩
theorem sc__law_condition : FnScope ["_law_digits", "_law_at", "_law_many", "_law_kind", "_law_left", "_law_right"] ["_law_digits", "_law_at", "_law_many"] (defScope s__law_condition) := ⟨rfl, rfl, rfl, by decide +kernel, rfl, by decide +kernel, by decide +kernel⟩
theorem sc__law_move : FnScope ["_law_script", "_law_k", "_law_at", "_law_first_here", "_law_count", "_law_many", "_law_digits", "_law_settings", "_law_j", "_law_low", "_law_high"] ["_law_script", "_law_k", "_law_at", "_law_first_here", "_law_count", "_law_many"] (defScope s__law_move) := ⟨rfl, rfl, rfl, by decide +kernel, rfl, by decide +kernel, by decide +kernel⟩
theorem sc__law_plant : FnScope ["_law_script", "_law_head", "_law_counts", "_law_many", "_law_variables", "_law_parts", "_law_at", "_law_p", "_law_first_here", "_law_j", "_law_size", "_law_least", "_law_low", "_law_high", "_law_moves"] ["_law_script"] (defScope s__law_plant) := ⟨rfl, rfl, rfl, by decide +kernel, rfl, by decide +kernel, by decide +kernel⟩
theorem sc__law_sensors : FnScope ["_law_script", "_law_many", "_law_sensors_here", "_law_head", "_law_j", "_law_digits"] ["_law_script", "_law_many"] (defScope s__law_sensors) := ⟨rfl, rfl, rfl, by decide +kernel, rfl, by decide +kernel, by decide +kernel⟩
theorem sc__law_box : FnScope ["_law_rows", "_law_choices", "_law_out", "_law_row", "_law_choice"] ["_law_rows", "_law_choices"] (defScope s__law_box) := ⟨rfl, rfl, rfl, by decide +kernel, rfl, by decide +kernel, by decide +kernel⟩
theorem sc__law_first : FnScope ["_law_plant_here", "_law_rows", "_law_variable"] ["_law_plant_here"] (defScope s__law_first) := ⟨rfl, rfl, rfl, by decide +kernel, rfl, by decide +kernel, by decide +kernel⟩
theorem sc__law_alike : FnScope ["_law_actual", "_law_expected", "_law_k"] ["_law_actual", "_law_expected"] (defScope s__law_alike) := ⟨rfl, rfl, rfl, by decide +kernel, rfl, by decide +kernel, by decide +kernel⟩
theorem sc_law : FnScope ["_law_script", "_law_plant_here", "_law_due", "_law_wide", "_law_rows", "_law_part"] ["_law_script"] (defScope s_law) := ⟨rfl, rfl, rfl, by decide +kernel, rfl, by decide +kernel, by decide +kernel⟩
section
variable {P : Program} {w : World} {K : PySem.W.Frag} {mg : Str → Option Value} {base : Heap} {T : Top K mg}
structure AllOk (P : Program) (w : World) (K : PySem.W.Frag) (mg : Str → Option Value) (base : Heap) (T : Top K mg) (k : Nat) (R : Fs) : Prop where
  f_following : FnOk P w K mg base CX0 k T.a_following T.d_following ["values", "spans"] (spF ⟨P, w, K⟩ S_following 2 2 R.f_following)
  f_first_spans : FnOk P w K mg base CX0 k T.a_first_spans T.d_first_spans ["plant"] (spF ⟨P, w, K⟩ S_first_spans 1 1 R.f_first_spans)
  f_count_first : FnOk P w K mg base CX0 k T.a_count_first T.d_count_first ["plant"] (spF ⟨P, w, K⟩ S_count_first 1 3 R.f_count_first)
  f_first_values : FnOk P w K mg base CX0 k T.a_first_values T.d_first_values ["plant"] (spF ⟨P, w, K⟩ S_first_values 1 4 R.f_first_values)
  f__law_cell : FnOk P w K mg base CX0 k T.a__law_cell T.d__law_cell ["_law_script", "_law_k"] (spF ⟨P, w, K⟩ S__law_cell 2 0 R.f__law_cell)
  f__law_draw : FnOk P w K mg base CX0 k T.a__law_draw T.d__law_draw ["_law_script", "_law_k", "_law_sizes"] (spF ⟨P, w, K⟩ S__law_draw 3 5 R.f__law_draw)
  f__law_term : FnOk P w K mg base CX0 k T.a__law_term T.d__law_term ["_law_digits", "_law_at", "_law_many"] (spF ⟨P, w, K⟩ S__law_term 3 3 R.f__law_term)
  f__law_condition : FnOk P w K mg base CX0 k T.a__law_condition T.d__law_condition ["_law_digits", "_law_at", "_law_many"] (spF ⟨P, w, K⟩ S__law_condition 3 3 R.f__law_condition)
  f__law_move : FnOk P w K mg base CX0 k T.a__law_move T.d__law_move ["_law_script", "_law_k", "_law_at", "_law_first_here", "_law_count", "_law_many"] (spF ⟨P, w, K⟩ S__law_move 6 5 R.f__law_move)
  f__law_plant : FnOk P w K mg base CX0 k T.a__law_plant T.d__law_plant ["_law_script"] (spF ⟨P, w, K⟩ S__law_plant 1 14 R.f__law_plant)
  f__law_sensors : FnOk P w K mg base CX0 k T.a__law_sensors T.d__law_sensors ["_law_script", "_law_many"] (spF ⟨P, w, K⟩ S__law_sensors 2 4 R.f__law_sensors)
  f__law_box : FnOk P w K mg base CX0 k T.a__law_box T.d__law_box ["_law_rows", "_law_choices"] (spF ⟨P, w, K⟩ S__law_box 2 3 R.f__law_box)
  f__law_first : FnOk P w K mg base CX0 k T.a__law_first T.d__law_first ["_law_plant_here"] (spF ⟨P, w, K⟩ S__law_first 1 2 R.f__law_first)
  f__law_alike : FnOk P w K mg base CX0 k T.a__law_alike T.d__law_alike ["_law_actual", "_law_expected"] (spF ⟨P, w, K⟩ S__law_alike 2 1 R.f__law_alike)
  f_law : FnOk P w K mg base CX0 k T.a_law T.d_law ["_law_script"] (spF ⟨P, w, K⟩ S_law 1 5 R.f_law)

/-! ### each def by its body -/
theorem ok_following {k : Nat} {R : Fs} (hR : AllOk P w K mg base T k R) : FnOk P w K mg base CX0 (k + 1) T.a_following T.d_following ["values", "spans"] (spF ⟨P, w, K⟩ S_following 2 2 (defF 2 [] (b_following R))) := by
  refine def_ok (S := S_following) T.F_following sc_following rfl rfl fun cdv A outer s H E hr => ?_
  have nd := sc_following.nd
  have hu := hu16 hr
  have hu64 := hr.units
  exact (sim_bcons (sim_setE 2 nd (sim_callTyE cs_list (by rfl) T.z_list (by decide +kernel) (sim_consP ((sim_name 0)).p sim_nilP)))
      (sim_bcons (sim_for PassesOwn.never rfl (sim_revR1 T.z_reversed T.z_range (sim_callB cv_len (by rfl) T.z_len (by decide +kernel) (sim_consP ((sim_name 1)).p sim_nilP))) (sim_gname 3 nd)
      (sim_bcons (sim_if (sim_cmpT os_lt (sim_ix (is_ixD hu) (sim_peek 2) ((sim_name 3)).p) (sim_ix (is_ixD hu) ((sim_ix (is_ixD hu) ((sim_name 1)).p ((sim_name 3)).p)).p (sim_int).p) (nomark _))
      (sim_bcons (sim_augIx 2 ip_addS (sim_name 3) sim_int)
      (sim_bone (sim_ret ((sim_callTy cv_tuple (by rfl) T.z_tuple (by decide +kernel) (sim_consP (sim_peek 2) sim_nilP))).e)))
      sim_bnil)
      (sim_bone (sim_putD 2 hu (sim_name 3) (sim_ix (is_ixD hu) ((sim_ix (is_ixD hu) ((sim_name 1)).p ((sim_name 3)).p)).p (sim_int).p)))))
      (sim_bone (sim_ret (sim_non).e))))
theorem ok_first_spans {k : Nat} {R : Fs} (hR : AllOk P w K mg base T k R) : FnOk P w K mg base CX0 (k + 1) T.a_first_spans T.d_first_spans ["plant"] (spF ⟨P, w, K⟩ S_first_spans 1 1 (defF 1 [] (b_first_spans R))) := by
  refine def_ok (S := S_first_spans) T.F_first_spans sc_first_spans rfl rfl fun cdv A outer s H E hr => ?_
  have nd := sc_first_spans.nd
  have hu := hu16 hr
  have hu64 := hr.units
  exact (sim_bone (sim_ret (sim_lc (own := [("row", 1)]) (S' := ⟨[], [], [0]⟩) (n := 2) rfl nd (sim_iter (sim_ix (is_ixD hu) ((sim_name 0)).p (sim_int).p)) (fun _ _ _ _ _ => (sim_gname 1 nd)) (fun _ _ _ _ _ => sim_ts0) (fun _ _ _ _ _ => (sim_tup (sim_cons (sim_ix (is_ixD hu) ((sim_name 1)).p (sim_int).p) (sim_cons (sim_ix (is_ixD hu) ((sim_name 1)).p (sim_int).p) sim_nil)))) (by decide) (by decide) (blkOk_by (by rfl)))))
theorem ok_count_first {k : Nat} {R : Fs} (hR : AllOk P w K mg base T k R) : FnOk P w K mg base CX0 (k + 1) T.a_count_first T.d_count_first ["plant"] (spF ⟨P, w, K⟩ S_count_first 1 3 (defF 3 [] (b_count_first R))) := by
  refine def_ok (S := S_count_first) T.F_count_first sc_count_first rfl rfl fun cdv A outer s H E hr => ?_
  have nd := sc_count_first.nd
  have hu := hu16 hr
  have hu64 := hr.units
  exact (sim_bcons (sim_set 1 nd sim_int)
      (sim_bcons (sim_for PassesOwn.never rfl (sim_iter ((sim_call (hR.f_first_spans) hr T.m_first_spans T.F_first_spans.kp T.b_first_spans rfl rfl (sim_cons (sim_name 0) sim_nil) (hla := (lenA_cons lenA_nil)))).v) (sim_gtup rfl (sim_gcons (sim_gname 2 nd) (sim_gcons (sim_gname 3 nd) sim_gnil)))
      (sim_bone (sim_set 1 nd (sim_bin os_mul (sim_name 1) (sim_bin os_add (sim_bin os_sub (sim_name 3) (sim_name 2)) sim_int)))))
      (sim_bone (sim_ret ((sim_name 1)).e))))
theorem ok_first_values {k : Nat} {R : Fs} (hR : AllOk P w K mg base T k R) : FnOk P w K mg base CX0 (k + 1) T.a_first_values T.d_first_values ["plant"] (spF ⟨P, w, K⟩ S_first_values 1 4 (defF 4 [] (b_first_values R))) := by
  refine def_ok (S := S_first_values) T.F_first_values sc_first_values rfl rfl fun cdv A outer s H E hr => ?_
  have nd := sc_first_values.nd
  have hu := hu16 hr
  have hu64 := hr.units
  exact (sim_bcons (sim_set 1 nd ((sim_call (hR.f_first_spans) hr T.m_first_spans T.F_first_spans.kp T.b_first_spans rfl rfl (sim_cons (sim_name 0) sim_nil) (hla := (lenA_cons lenA_nil)))).v)
      (sim_bcons (sim_setE 2 nd (sim_lst sim_nil))
      (sim_bcons (sim_set 3 nd (sim_callTy cv_tuple (by rfl) T.z_tuple (by decide +kernel) (sim_consP (((sim_lc (own := [("span", 4)]) (S' := ⟨[2], [], [0, 1, 2, 3]⟩) (n := 5) rfl nd (sim_iter (sim_name 1)) (fun _ _ _ _ _ => (sim_gname 4 nd)) (fun _ _ _ _ _ => sim_ts0) (fun _ _ _ _ _ => (sim_ix (is_ixD hu) ((sim_name 4)).p (sim_int).p)) (by decide) (by decide) (blkOk_by (by rfl)))).v).p sim_nilP)))
      (sim_bcons (sim_while wf PassesOwn.never (sim_cmpT os_isNot (sim_name 3) sim_non (nomark _))
      (sim_bcons (sim_app 2 (sim_name 3))
      (sim_bone (sim_set 3 nd ((sim_call (hR.f_following) hr T.m_following T.F_following.kp T.b_following rfl rfl (sim_cons (sim_name 3) (sim_cons (sim_name 1) sim_nil)) (hla := (lenA_cons (lenA_cons lenA_nil))))).v))))
      (sim_bone (sim_retS 2))))))
theorem ok__law_cell {k : Nat} {R : Fs} (hR : AllOk P w K mg base T k R) : FnOk P w K mg base CX0 (k + 1) T.a__law_cell T.d__law_cell ["_law_script", "_law_k"] (spF ⟨P, w, K⟩ S__law_cell 2 0 (defF 0 [] (b__law_cell R))) := by
  refine def_ok (S := S__law_cell) T.F__law_cell sc__law_cell rfl rfl fun cdv A outer s H E hr => ?_
  have nd := sc__law_cell.nd
  have hu := hu16 hr
  have hu64 := hr.units
  exact (sim_bcons (sim_if (sim_cmpT os_lt (sim_name 1) (sim_callB cv_len (by rfl) T.z_len (by decide +kernel) (sim_consP ((sim_name 0)).p sim_nilP)) (nomark _))
      (sim_bone (sim_ret ((sim_ix (is_ixD hu) ((sim_name 0)).p ((sim_name 1)).p)).e))
      sim_bnil)
      (sim_bone (sim_ret (sim_int).e)))
theorem ok__law_draw {k : Nat} {R : Fs} (hR : AllOk P w K mg base T k R) : FnOk P w K mg base CX0 (k + 1) T.a__law_draw T.d__law_draw ["_law_script", "_law_k", "_law_sizes"] (spF ⟨P, w, K⟩ S__law_draw 3 5 (defF 5 [] (b__law_draw R))) := by
  refine def_ok (S := S__law_draw) T.F__law_draw sc__law_draw rfl rfl fun cdv A outer s H E hr => ?_
  have nd := sc__law_draw.nd
  have hu := hu16 hr
  have hu64 := hr.units
  exact (sim_bcons (sim_set 3 nd ((sim_call (hR.f__law_cell) hr T.m__law_cell T.F__law_cell.kp T.b__law_cell rfl rfl (sim_cons (sim_name 0) (sim_cons (sim_name 1) sim_nil)) (hla := (lenA_cons (lenA_cons lenA_nil))))).v)
      (sim_bcons (sim_if (sim_cmpT os_lt (sim_name 3) sim_int (nomark _))
      (sim_bone (sim_set 3 nd (sim_neg (sim_name 3))))
      sim_bnil)
      (sim_bcons (sim_setE 4 nd (sim_lst sim_nil))
      (sim_bcons (sim_if (sim_cmpT os_ge (sim_name 3) (sim_bin os_pow sim_int sim_int) (nomark _))
      (sim_bcons (sim_set 3 nd (sim_bin os_sub (sim_name 3) (sim_bin os_pow sim_int sim_int)))
      (sim_bcons (sim_for PassesOwn.never rfl (sim_iter (sim_name 2)) (sim_gname 5 nd)
      (sim_bcons (sim_app 4 (sim_bin os_mod (sim_name 3) (sim_name 5)))
      (sim_bone (sim_set 3 nd (sim_bin os_fdiv (sim_name 3) (sim_name 5))))))
      (sim_bone (sim_retS 4))))
      sim_bnil)
      (sim_bcons (sim_set 6 nd (sim_bin os_mod (sim_bin os_add (sim_bin os_add (sim_name 3) sim_int) (sim_bin os_mul sim_int (sim_name 1))) sim_int))
      (sim_bcons (sim_for PassesOwn.never rfl (sim_range1 T.z_range (sim_cons (sim_callB cv_len (by rfl) T.z_len (by decide +kernel) (sim_consP ((sim_name 2)).p sim_nilP)) sim_nil)) (sim_gname 7 nd)
      (sim_bcons (sim_set 6 nd (sim_bin os_mod (sim_bin os_add (sim_bin os_add (sim_bin os_mul (sim_name 6) sim_int) sim_int) (sim_name 7)) sim_int))
      (sim_bcons (sim_set 6 nd (sim_bin os_mod (sim_bin os_add (sim_bin os_mul (sim_name 6) sim_int) sim_int) sim_int))
      (sim_bone (sim_app 4 (sim_bin os_mod (sim_bin os_fdiv (sim_name 6) sim_int) (sim_ix (is_ixD hu) ((sim_name 2)).p ((sim_name 7)).p)))))))
      (sim_bone (sim_retS 4))))))))
theorem ok__law_term {k : Nat} {R : Fs} (hR : AllOk P w K mg base T k R) : FnOk P w K mg base CX0 (k + 1) T.a__law_term T.d__law_term ["_law_digits", "_law_at", "_law_many"] (spF ⟨P, w, K⟩ S__law_term 3 3 (defF 3 [] (b__law_term R))) := by
  refine def_ok (S := S__law_term) T.F__law_term sc__law_term rfl rfl fun cdv A outer s H E hr => ?_
  have nd := sc__law_term.nd
  have hu := hu16 hr
  have hu64 := hr.units
  exact (sim_bcons (sim_set 3 nd (sim_bin os_mod (sim_ix (is_ixD hu) ((sim_name 0)).p ((sim_name 1)).p) sim_int))
      (sim_bcons (sim_set 4 nd (sim_tup (sim_cons sim_str (sim_cons (sim_bin os_mod (sim_ix (is_ixD hu) ((sim_name 0)).p ((sim_bin os_add (sim_name 1) sim_int)).p) (sim_name 2)) sim_nil))))
      (sim_bcons (sim_set 5 nd (sim_tup (sim_cons sim_str (sim_cons (sim_bin os_sub (sim_bin os_mod (sim_ix (is_ixD hu) ((sim_name 0)).p ((sim_bin os_add (sim_name 1) sim_int)).p) sim_int) sim_int) sim_nil))))
      (sim_bcons (sim_if (sim_cmpT (os_eq hu64) (sim_name 3) sim_int (nomark _))
      (sim_bone (sim_ret ((sim_name 5)).e))
      sim_bnil)
      (sim_bcons (sim_if (sim_cmpT (os_eq hu64) (sim_name 3) sim_int (nomark _))
      (sim_bone (sim_ret ((sim_tup (sim_cons sim_str (sim_cons (sim_name 4) (sim_cons (sim_name 5) sim_nil))))).e))
      sim_bnil)
      (sim_bcons (sim_if (sim_cmpT (os_eq hu64) (sim_name 3) sim_int (nomark _))
      (sim_bone (sim_ret ((sim_tup (sim_cons sim_str (sim_cons (sim_name 5) (sim_cons (sim_name 4) sim_nil))))).e))
      sim_bnil)
      (sim_bcons (sim_if (sim_cmpT (os_eq hu64) (sim_name 3) sim_int (nomark _))
      (sim_bone (sim_ret ((sim_tup (sim_cons sim_str (sim_cons (sim_tup (sim_cons sim_str (sim_cons (sim_name 4) (sim_cons (sim_tup (sim_cons sim_str (sim_cons sim_int sim_nil))) sim_nil)))) (sim_cons (sim_name 5) sim_nil))))).e))
      sim_bnil)
      (sim_bcons (sim_if (sim_cmpT (os_eq hu64) (sim_name 3) sim_int (nomark _))
      (sim_bone (sim_ret ((sim_tup (sim_cons sim_str (sim_cons (sim_name 4) (sim_cons (sim_name 5) sim_nil))))).e))
      sim_bnil)
      (sim_bcons (sim_if (sim_cmpT (os_eq hu64) (sim_name 3) sim_int (nomark _))
      (sim_bone (sim_ret ((sim_tup (sim_cons sim_str (sim_cons (sim_name 5) (sim_cons (sim_name 4) sim_nil))))).e))
      sim_bnil)
      (sim_bcons (sim_if (sim_cmpT (os_eq hu64) (sim_name 3) sim_int (nomark _))
      (sim_bone (sim_ret ((sim_tup (sim_cons sim_str (sim_cons (sim_tup (sim_cons sim_str (sim_cons (sim_bin os_mod (sim_ix (is_ixD hu) ((sim_name 0)).p ((sim_bin os_add (sim_name 1) sim_int)).p) (sim_name 2)) sim_nil))) sim_nil)))).e))
      sim_bnil)
      (sim_bcons (sim_if (sim_cmpT (os_eq hu64) (sim_name 3) sim_int (nomark _))
      (sim_bone (sim_ret ((sim_tup (sim_cons sim_str (sim_cons (sim_name 4) (sim_cons (sim_tup (sim_cons sim_str (sim_cons (sim_bin os_mod (sim_ix (is_ixD hu) ((sim_name 0)).p ((sim_bin os_add (sim_name 1) sim_int)).p) (sim_name 2)) sim_nil))) sim_nil))))).e))
      sim_bnil)
      (sim_bone (sim_ret ((sim_name 4)).e)))))))))))))
theorem ok__law_condition {k : Nat} {R : Fs} (hR : AllOk P w K mg base T k R) : FnOk P w K mg base CX0 (k + 1) T.a__law_condition T.d__law_condition ["_law_digits", "_law_at", "_law_many"] (spF ⟨P, w, K⟩ S__law_condition 3 3 (defF 3 [] (b__law_condition R))) := by
  refine def_ok (S := S__law_condition) T.F__law_condition sc__law_condition rfl rfl fun cdv A outer s H E hr => ?_
  have nd := sc__law_condition.nd
  have hu := hu16 hr
  have hu64 := hr.units
  exact (sim_bcons (sim_set 3 nd (sim_bin os_mod (sim_ix (is_ixD hu) ((sim_name 0)).p ((sim_name 1)).p) sim_int))
      (sim_bcons (sim_set 4 nd (sim_tup (sim_cons sim_str (sim_cons ((sim_call (hR.f__law_term) hr T.m__law_term T.F__law_term.kp T.b__law_term rfl rfl (sim_cons (sim_name 0) (sim_cons (sim_bin os_add (sim_name 1) sim_int) (sim_cons (sim_name 2) sim_nil))) (hla := (lenA_cons (lenA_cons (lenA_cons lenA_nil)))))).v (sim_cons ((sim_call (hR.f__law_term) hr T.m__law_term T.F__law_term.kp T.b__law_term rfl rfl (sim_cons (sim_name 0) (sim_cons (sim_bin os_add (sim_name 1) sim_int) (sim_cons (sim_name 2) sim_nil))) (hla := (lenA_cons (lenA_cons (lenA_cons lenA_nil)))))).v sim_nil)))))
      (sim_bcons (sim_set 5 nd (sim_tup (sim_cons sim_str (sim_cons (sim_tup (sim_cons sim_str (sim_cons (sim_bin os_mod (sim_ix (is_ixD hu) ((sim_name 0)).p ((sim_bin os_add (sim_name 1) sim_int)).p) (sim_name 2)) sim_nil))) (sim_cons (sim_tup (sim_cons sim_str (sim_cons (sim_bin os_sub (sim_bin os_mod (sim_ix (is_ixD hu) ((sim_name 0)).p ((sim_bin os_add (sim_name 1) sim_int)).p) sim_int) sim_int) sim_nil))) sim_nil)))))
      (sim_bcons (sim_if ((sim_orW (sim_cmpT (os_eq hu64) (sim_name 3) sim_int (nomark _)) (sim_or1 (sim_cmpT (os_eq hu64) (sim_name 3) sim_int (nomark _))))).t
      (sim_bone (sim_ret ((sim_tup (sim_cons sim_str sim_nil))).e))
      sim_bnil)
      (sim_bcons (sim_if (sim_cmpT (os_eq hu64) (sim_name 3) sim_int (nomark _))
      (sim_bone (sim_ret ((sim_name 4)).e))
      sim_bnil)
      (sim_bcons (sim_if (sim_cmpT (os_eq hu64) (sim_name 3) sim_int (nomark _))
      (sim_bone (sim_ret ((sim_name 5)).e))
      sim_bnil)
      (sim_bcons (sim_if (sim_cmpT (os_eq hu64) (sim_name 3) sim_int (nomark _))
      (sim_bone (sim_ret ((sim_tup (sim_cons sim_str (sim_cons (sim_name 4) sim_nil)))).e))
      sim_bnil)
      (sim_bcons (sim_if (sim_cmpT (os_eq hu64) (sim_name 3) sim_int (nomark _))
      (sim_bone (sim_ret ((sim_tup (sim_cons sim_str (sim_cons (sim_name 4) (sim_cons (sim_name 5) sim_nil))))).e))
      sim_bnil)
      (sim_bone (sim_ret ((sim_tup (sim_cons sim_str (sim_cons (sim_tup (sim_cons sim_str (sim_cons (sim_name 5) sim_nil))) (sim_cons (sim_tup (sim_cons sim_str (sim_cons (sim_name 4) (sim_cons (sim_tup (sim_cons sim_str sim_nil)) sim_nil)))) sim_nil))))).e))))))))))
theorem ok__law_move {k : Nat} {R : Fs} (hR : AllOk P w K mg base T k R) : FnOk P w K mg base CX0 (k + 1) T.a__law_move T.d__law_move ["_law_script", "_law_k", "_law_at", "_law_first_here", "_law_count", "_law_many"] (spF ⟨P, w, K⟩ S__law_move 6 5 (defF 5 [] (b__law_move R))) := by
  refine def_ok (S := S__law_move) T.F__law_move sc__law_move rfl rfl fun cdv A outer s H E hr => ?_
  have nd := sc__law_move.nd
  have hu := hu16 hr
  have hu64 := hr.units
  exact (sim_bcons (sim_set 6 nd ((sim_call (hR.f__law_draw) hr T.m__law_draw T.F__law_draw.kp T.b__law_draw rfl rfl (sim_cons (sim_name 0) (sim_cons (sim_name 1) (sim_cons (sim_bin os_mul ((sim_lst (sim_cons sim_int sim_nil))).v sim_int) sim_nil))) (hla := (lenA_cons (lenA_cons (lenA_cons lenA_nil)))))).v)
      (sim_bcons (sim_setE 7 nd (sim_lst sim_nil))
      (sim_bcons (sim_for PassesOwn.never rfl (sim_range1 T.z_range (sim_cons (sim_name 4) sim_nil)) (sim_gname 8 nd)
      (sim_bone (sim_if (sim_cmpT (os_ne hu64) (sim_bin os_mod (sim_ix (is_ixD hu) ((sim_name 6)).p ((sim_bin os_add sim_int (sim_name 8))).p) sim_int) sim_int (nomark _))
      (sim_bcons (sim_set 9 nd ((sim_call (hR.f__law_term) hr T.m__law_term T.F__law_term.kp T.b__law_term rfl rfl (sim_cons (sim_name 6) (sim_cons (sim_bin os_add sim_int (sim_bin os_mul sim_int (sim_name 8))) (sim_cons (sim_name 5) sim_nil))) (hla := (lenA_cons (lenA_cons (lenA_cons lenA_nil)))))).v)
      (sim_bcons (sim_set 10 nd (sim_name 9))
      (sim_bcons (sim_if (sim_cmpT (os_eq hu64) (sim_bin os_mod (sim_ix (is_ixD hu) ((sim_name 6)).p ((sim_bin os_add sim_int (sim_name 8))).p) sim_int) sim_int (nomark _))
      (sim_bone (sim_set 10 nd (sim_tup (sim_cons sim_str (sim_cons (sim_name 9) (sim_cons (sim_tup (sim_cons sim_str (sim_cons (sim_bin os_mod (sim_ix (is_ixD hu) ((sim_name 6)).p ((sim_bin os_add sim_int (sim_bin os_mul sim_int (sim_name 8)))).p) sim_int) sim_nil))) sim_nil))))))
      sim_bnil)
      (sim_bone (sim_app 7 (sim_tup (sim_cons (sim_bin os_add (sim_name 3) (sim_name 8)) (sim_cons (sim_name 9) (sim_cons (sim_name 10) sim_nil)))))))))
      sim_bnil)))
      (sim_bcons (sim_if (sim_cmpT (os_eq hu64) (sim_bin os_mod (sim_ix (is_ixD hu) ((sim_name 6)).p (sim_int).p) sim_int) sim_int (nomark _))
      (sim_bone (sim_setE 7 nd ((sim_rev (sim_peek 7))).e))
      sim_bnil)
      (sim_bone (sim_ret ((sim_tup (sim_cons (sim_bin os_add sim_str (sim_callTy cv_str (by rfl) T.z_str (by decide +kernel) (sim_consP ((sim_name 2)).p sim_nilP))) (sim_cons ((sim_call (hR.f__law_condition) hr T.m__law_condition T.F__law_condition.kp T.b__law_condition rfl rfl (sim_cons (sim_name 6) (sim_cons sim_int (sim_cons (sim_name 5) sim_nil))) (hla := (lenA_cons (lenA_cons (lenA_cons lenA_nil)))))).v (sim_cons (sim_callTy cv_tuple (by rfl) T.z_tuple (by decide +kernel) (sim_consP (sim_peek 7) sim_nilP)) sim_nil))))).e))))))
theorem ok__law_plant {k : Nat} {R : Fs} (hR : AllOk P w K mg base T k R) : FnOk P w K mg base CX0 (k + 1) T.a__law_plant T.d__law_plant ["_law_script"] (spF ⟨P, w, K⟩ S__law_plant 1 14 (defF 14 [] (b__law_plant R))) := by
  refine def_ok (S := S__law_plant) T.F__law_plant sc__law_plant rfl rfl fun cdv A outer s H E hr => ?_
  have nd := sc__law_plant.nd
  have hu := hu16 hr
  have hu64 := hr.units
  exact (sim_bcons (sim_set 1 nd ((sim_call (hR.f__law_draw) hr T.m__law_draw T.F__law_draw.kp T.b__law_draw rfl rfl (sim_cons (sim_name 0) (sim_cons sim_int (sim_cons ((sim_lst (sim_cons sim_int (sim_cons sim_int (sim_cons sim_int (sim_cons sim_int (sim_cons sim_int (sim_cons sim_int (sim_cons sim_int (sim_cons sim_int sim_nil)))))))))).v sim_nil))) (hla := (lenA_cons (lenA_cons (lenA_cons lenA_nil)))))).v)
      (sim_bcons (sim_set 2 nd (sim_slice (((sim_lst (sim_cons (sim_bin os_add sim_int (sim_ix (is_ixD hu) ((sim_name 1)).p (sim_int).p)) (sim_cons (sim_bin os_add sim_int (sim_ix (is_ixD hu) ((sim_name 1)).p (sim_int).p)) (sim_cons sim_int sim_nil))))).v).p sim_noO (sim_someO (sim_bin os_add sim_int (sim_callB (cv_max rfl) (by rfl) T.z_max (by decide +kernel) (sim_consP (sim_int).p (sim_consP ((sim_bin os_sub (sim_ix (is_ixD hu) ((sim_name 1)).p (sim_int).p) (sim_ix (is_ixD hu) ((sim_name 1)).p (sim_int).p))).p sim_nilP)))))))
      (sim_bcons (sim_set 3 nd (sim_callB (cv_sum rfl) (by rfl) T.z_sum (by decide +kernel) (sim_consP ((sim_name 2)).p sim_nilP)))
      (sim_bcons (sim_setE 4 nd (sim_lst sim_nil))
      (sim_bcons (sim_setE 5 nd (sim_lst sim_nil))
      (sim_bcons (sim_set 6 nd sim_int)
      (sim_bcons (sim_for PassesOwn.never rfl (sim_range1 T.z_range (sim_cons (sim_callB cv_len (by rfl) T.z_len (by decide +kernel) (sim_consP ((sim_name 2)).p sim_nilP)) sim_nil)) (sim_gname 7 nd)
      (sim_bcons (sim_set 8 nd (sim_callB cv_len (by rfl) T.z_len (by decide +kernel) (sim_consP (sim_peek 4) sim_nilP)))
      (sim_bcons (sim_for PassesOwn.never rfl (sim_range1 T.z_range (sim_cons (sim_ix (is_ixD hu) ((sim_name 2)).p ((sim_name 7)).p) sim_nil)) (sim_gname 9 nd)
      (sim_bcons (sim_set 10 nd ((sim_call (hR.f__law_draw) hr T.m__law_draw T.F__law_draw.kp T.b__law_draw rfl rfl (sim_cons (sim_name 0) (sim_cons (sim_name 6) (sim_cons ((sim_lst (sim_cons sim_int (sim_cons sim_int (sim_cons sim_int (sim_cons sim_int sim_nil)))))).v sim_nil))) (hla := (lenA_cons (lenA_cons (lenA_cons lenA_nil)))))).v)
      (sim_bcons (sim_set 11 nd (sim_bin os_sub (sim_ix (is_ixD hu) ((sim_name 10)).p (sim_int).p) sim_int))
      (sim_bcons (sim_set 12 nd (sim_bin os_add (sim_name 11) (sim_bin os_mod (sim_ix (is_ixD hu) ((sim_name 10)).p (sim_int).p) (sim_bin os_add (sim_ix (is_ixD hu) ((sim_name 10)).p (sim_int).p) sim_int))))
      (sim_bcons (sim_set 13 nd (sim_bin os_add (sim_name 12) (sim_bin os_mod (sim_ix (is_ixD hu) ((sim_name 10)).p (sim_int).p) (sim_bin os_add (sim_bin os_sub (sim_bin os_add (sim_name 11) (sim_ix (is_ixD hu) ((sim_name 10)).p (sim_int).p)) (sim_name 12)) sim_int))))
      (sim_bcons (sim_app 4 (sim_tup (sim_cons (sim_bin os_add (sim_bin os_add (sim_bin os_add sim_str (sim_callTy cv_str (by rfl) T.z_str (by decide +kernel) (sim_consP ((sim_name 7)).p sim_nilP))) sim_str) (sim_callTy cv_str (by rfl) T.z_str (by decide +kernel) (sim_consP ((sim_name 9)).p sim_nilP))) (sim_cons (sim_name 11) (sim_cons (sim_bin os_add (sim_name 11) (sim_ix (is_ixD hu) ((sim_name 10)).p (sim_int).p)) (sim_cons (sim_name 12) (sim_cons (sim_name 13) sim_nil)))))))
      (sim_bone (sim_set 6 nd (sim_bin os_add (sim_name 6) sim_int)))))))))
      (sim_bcons (sim_setE 14 nd (sim_lst sim_nil))
      (sim_bcons (sim_for PassesOwn.never rfl (sim_range1 T.z_range (sim_cons (sim_bin os_add sim_int (sim_bin os_mod (sim_ix (is_ixD hu) ((sim_name 1)).p ((sim_bin os_add sim_int (sim_bin os_mod (sim_name 7) sim_int))).p) sim_int)) sim_nil)) (sim_gname 9 nd)
      (sim_bcons (sim_app 14 ((sim_call (hR.f__law_move) hr T.m__law_move T.F__law_move.kp T.b__law_move rfl rfl (sim_cons (sim_name 0) (sim_cons (sim_name 6) (sim_cons (sim_name 9) (sim_cons (sim_name 8) (sim_cons (sim_ix (is_ixD hu) ((sim_name 2)).p ((sim_name 7)).p) (sim_cons (sim_name 3) sim_nil)))))) (hla := (lenA_cons (lenA_cons (lenA_cons (lenA_cons (lenA_cons (lenA_cons lenA_nil))))))))).v)
      (sim_bone (sim_set 6 nd (sim_bin os_add (sim_name 6) sim_int)))))
      (sim_bone (sim_app 5 (sim_tup (sim_cons (sim_bin os_add sim_str (sim_callTy cv_str (by rfl) T.z_str (by decide +kernel) (sim_consP ((sim_name 7)).p sim_nilP))) (sim_cons (sim_name 8) (sim_cons (sim_ix (is_ixD hu) ((sim_name 2)).p ((sim_name 7)).p) (sim_cons (sim_callTy cv_tuple (by rfl) T.z_tuple (by decide +kernel) (sim_consP (sim_peek 14) sim_nilP)) sim_nil))))))))))))
      (sim_bone (sim_ret ((sim_tup (sim_cons (sim_callTy cv_tuple (by rfl) T.z_tuple (by decide +kernel) (sim_consP (sim_peek 4) sim_nilP)) (sim_cons (sim_callTy cv_tuple (by rfl) T.z_tuple (by decide +kernel) (sim_consP (sim_peek 5) sim_nilP)) (sim_cons (sim_callTy cv_tuple (by rfl) T.z_tuple (by decide +kernel) (sim_consP (((sim_call (hR.f__law_sensors) hr T.m__law_sensors T.F__law_sensors.kp T.b__law_sensors rfl rfl (sim_cons (sim_name 0) (sim_cons (sim_name 3) sim_nil)) (hla := (lenA_cons (lenA_cons lenA_nil))))).v).p sim_nilP)) sim_nil))))).e)))))))))
theorem ok__law_sensors {k : Nat} {R : Fs} (hR : AllOk P w K mg base T k R) : FnOk P w K mg base CX0 (k + 1) T.a__law_sensors T.d__law_sensors ["_law_script", "_law_many"] (spF ⟨P, w, K⟩ S__law_sensors 2 4 (defF 4 [] (b__law_sensors R))) := by
  refine def_ok (S := S__law_sensors) T.F__law_sensors sc__law_sensors rfl rfl fun cdv A outer s H E hr => ?_
  have nd := sc__law_sensors.nd
  have hu := hu16 hr
  have hu64 := hr.units
  exact (sim_bcons (sim_setE 2 nd (sim_lst sim_nil))
      (sim_bcons (sim_set 3 nd ((sim_call (hR.f__law_draw) hr T.m__law_draw T.F__law_draw.kp T.b__law_draw rfl rfl (sim_cons (sim_name 0) (sim_cons sim_int (sim_cons ((sim_lst (sim_cons sim_int sim_nil))).v sim_nil))) (hla := (lenA_cons (lenA_cons (lenA_cons lenA_nil)))))).v)
      (sim_bcons (sim_for PassesOwn.never rfl (sim_range1 T.z_range (sim_cons (sim_ix (is_ixD hu) (((sim_lst (sim_cons sim_int (sim_cons sim_int (sim_cons sim_int (sim_cons sim_int sim_nil)))))).v).p ((sim_ix (is_ixD hu) ((sim_name 3)).p (sim_int).p)).p) sim_nil)) (sim_gname 4 nd)
      (sim_bcons (sim_set 5 nd ((sim_call (hR.f__law_draw) hr T.m__law_draw T.F__law_draw.kp T.b__law_draw rfl rfl (sim_cons (sim_name 0) (sim_cons (sim_bin os_add sim_int (sim_name 4)) (sim_cons ((sim_lst (sim_cons sim_int (sim_cons sim_int (sim_cons sim_int (sim_cons sim_int (sim_cons sim_int sim_nil))))))).v sim_nil))) (hla := (lenA_cons (lenA_cons (lenA_cons lenA_nil)))))).v)
      (sim_bone (sim_app 2 (sim_tup (sim_cons (sim_bin os_add sim_str (sim_callTy cv_str (by rfl) T.z_str (by decide +kernel) (sim_consP ((sim_name 4)).p sim_nilP))) (sim_cons ((sim_call (hR.f__law_term) hr T.m__law_term T.F__law_term.kp T.b__law_term rfl rfl (sim_cons (sim_name 5) (sim_cons sim_int (sim_cons (sim_name 1) sim_nil))) (hla := (lenA_cons (lenA_cons (lenA_cons lenA_nil)))))).v (sim_cons (sim_ix (is_ixD hu) ((sim_name 5)).p (sim_int).p) (sim_cons (sim_cmp (os_eq hu64) (sim_ix (is_ixD hu) ((sim_name 5)).p (sim_int).p) sim_int (nomark _)) sim_nil)))))))))
      (sim_bone (sim_retS 2)))))
theorem ok__law_box {k : Nat} {R : Fs} (hR : AllOk P w K mg base T k R) : FnOk P w K mg base CX0 (k + 1) T.a__law_box T.d__law_box ["_law_rows", "_law_choices"] (spF ⟨P, w, K⟩ S__law_box 2 3 (defF 3 [] (b__law_box R))) := by
  refine def_ok (S := S__law_box) T.F__law_box sc__law_box rfl rfl fun cdv A outer s H E hr => ?_
  have nd := sc__law_box.nd
  have hu := hu16 hr
  have hu64 := hr.units
  exact (sim_bcons (sim_setE 2 nd (sim_lst sim_nil))
      (sim_bcons (sim_for PassesOwn.never rfl (sim_iter (sim_name 0)) (sim_gname 3 nd)
      (sim_bone (sim_for PassesOwn.never rfl (sim_iter (sim_name 1)) (sim_gname 4 nd)
      (sim_bone (sim_app 2 (sim_bin os_add (sim_name 3) (sim_tup (sim_cons (sim_name 4) sim_nil))))))))
      (sim_bone (sim_retS 2))))
theorem ok__law_first {k : Nat} {R : Fs} (hR : AllOk P w K mg base T k R) : FnOk P w K mg base CX0 (k + 1) T.a__law_first T.d__law_first ["_law_plant_here"] (spF ⟨P, w, K⟩ S__law_first 1 2 (defF 2 [] (b__law_first R))) := by
  refine def_ok (S := S__law_first) T.F__law_first sc__law_first rfl rfl fun cdv A outer s H E hr => ?_
  have nd := sc__law_first.nd
  have hu := hu16 hr
  have hu64 := hr.units
  exact (sim_bcons (sim_setE 1 nd (sim_lst (sim_cons (sim_tup sim_nil) sim_nil)))
      (sim_bcons (sim_for PassesOwn.never rfl (sim_iter (sim_ix (is_ixD hu) ((sim_name 0)).p (sim_int).p)) (sim_gname 2 nd)
      (sim_bone (sim_setE 1 nd (sim_call (hR.f__law_box) hr T.m__law_box T.F__law_box.kp T.b__law_box rfl rfl (sim_cons (sim_frz 1) (sim_cons ((sim_lstRg rfl T.z_list (sim_rg2 T.z_range (sim_ix (is_ixD hu) ((sim_name 2)).p (sim_int).p) (sim_bin os_add (sim_ix (is_ixD hu) ((sim_name 2)).p (sim_int).p) sim_int)))).v sim_nil)) (hla := (lenA_cons (lenA_cons lenA_nil)))))))
      (sim_bone (sim_retS 1))))
theorem ok__law_alike {k : Nat} {R : Fs} (hR : AllOk P w K mg base T k R) : FnOk P w K mg base CX0 (k + 1) T.a__law_alike T.d__law_alike ["_law_actual", "_law_expected"] (spF ⟨P, w, K⟩ S__law_alike 2 1 (defF 1 [] (b__law_alike R))) := by
  refine def_ok (S := S__law_alike) T.F__law_alike sc__law_alike rfl rfl fun cdv A outer s H E hr => ?_
  have nd := sc__law_alike.nd
  have hu := hu16 hr
  have hu64 := hr.units
  exact (sim_bcons (sim_if (sim_cmpT os_is (sim_name 1) sim_non (nomark _))
      (sim_bone (sim_ret ((sim_cmp os_is (sim_name 0) sim_non (nomark _))).e))
      sim_bnil)
      (sim_bcons (sim_if (sim_test (sim_isi .bool ((sim_name 1)).p T.z_isinstance T.z_bool (by decide +kernel)))
      (sim_bone (sim_ret ((sim_andV (sim_isi .bool ((sim_name 0)).p T.z_isinstance T.z_bool (by decide +kernel)) (sim_oneV (sim_cmp (os_eq hu64) (sim_name 0) (sim_name 1) (nomark _))))).e))
      sim_bnil)
      (sim_bcons (sim_if (sim_test (sim_isi .int ((sim_name 1)).p T.z_isinstance T.z_int (by decide +kernel)))
      (sim_bone (sim_ret ((sim_andV (sim_isi .int ((sim_name 0)).p T.z_isinstance T.z_int (by decide +kernel)) (sim_andV (sim_notV (sim_isi .bool ((sim_name 0)).p T.z_isinstance T.z_bool (by decide +kernel))) (sim_oneV (sim_cmp (os_eq hu64) (sim_name 0) (sim_name 1) (nomark _)))))).e))
      sim_bnil)
      (sim_bcons (sim_if (sim_test (sim_isi .str ((sim_name 1)).p T.z_isinstance T.z_str (by decide +kernel)))
      (sim_bone (sim_ret ((sim_andV (sim_isi .str ((sim_name 0)).p T.z_isinstance T.z_str (by decide +kernel)) (sim_oneV (sim_cmp (os_eq hu64) (sim_name 0) (sim_name 1) (nomark _))))).e))
      sim_bnil)
      (sim_bcons (sim_if ((sim_andW (sim_test (sim_isi .tuple ((sim_name 1)).p T.z_isinstance T.z_tuple (by decide +kernel))) (sim_and1 (sim_notT (sim_test (sim_isi .tuple ((sim_name 0)).p T.z_isinstance T.z_tuple (by decide +kernel))))))).t
      (sim_bone (sim_ret (sim_bl).e))
      sim_bnil)
      (sim_bcons (sim_if ((sim_andW (sim_test (sim_isi .list ((sim_name 1)).p T.z_isinstance T.z_list (by decide +kernel))) (sim_and1 (sim_notT (sim_test (sim_isi .list ((sim_name 0)).p T.z_isinstance T.z_list (by decide +kernel))))))).t
      (sim_bone (sim_ret (sim_bl).e))
      sim_bnil)
      (sim_bcons (sim_if (sim_cmpT (os_ne hu64) (sim_callB cv_len (by rfl) T.z_len (by decide +kernel) (sim_consP ((sim_name 0)).p sim_nilP)) (sim_callB cv_len (by rfl) T.z_len (by decide +kernel) (sim_consP ((sim_name 1)).p sim_nilP)) (nomark _))
      (sim_bone (sim_ret (sim_bl).e))
      sim_bnil)
      (sim_bcons (sim_for PassesOwn.never rfl (sim_range1 T.z_range (sim_cons (sim_callB cv_len (by rfl) T.z_len (by decide +kernel) (sim_consP ((sim_name 1)).p sim_nilP)) sim_nil)) (sim_gname 2 nd)
      (sim_bone (sim_if (sim_notT (sim_test ((sim_call (hR.f__law_alike) hr T.m__law_alike T.F__law_alike.kp T.b__law_alike rfl rfl (sim_cons (sim_ix (is_ixD hu) ((sim_name 0)).p ((sim_name 2)).p) (sim_cons (sim_ix (is_ixD hu) ((sim_name 1)).p ((sim_name 2)).p) sim_nil)) (hla := (lenA_cons (lenA_cons lenA_nil))))).v))
      (sim_bone (sim_ret (sim_bl).e))
      sim_bnil)))
      (sim_bone (sim_ret (sim_bl).e))))))))))
theorem ok_law {k : Nat} {R : Fs} (hR : AllOk P w K mg base T k R) : FnOk P w K mg base CX0 (k + 1) T.a_law T.d_law ["_law_script"] (spF ⟨P, w, K⟩ S_law 1 5 (defF 5 [] (b_law R))) := by
  refine def_ok (S := S_law) T.F_law sc_law rfl rfl fun cdv A outer s H E hr => ?_
  have nd := sc_law.nd
  have hu := hu16 hr
  have hu64 := hr.units
  exact (sim_bcons (sim_set 1 nd ((sim_call (hR.f__law_plant) hr T.m__law_plant T.F__law_plant.kp T.b__law_plant rfl rfl (sim_cons (sim_name 0) sim_nil) (hla := (lenA_cons lenA_nil)))).v)
      (sim_bcons (sim_set 2 nd ((sim_call (hR.f__law_first) hr T.m__law_first T.F__law_first.kp T.b__law_first rfl rfl (sim_cons (sim_name 1) sim_nil) (hla := (lenA_cons lenA_nil)))).v)
      (sim_bcons (sim_if ((sim_orW (sim_notT (sim_test ((sim_call (hR.f__law_alike) hr T.m__law_alike T.F__law_alike.kp T.b__law_alike rfl rfl (sim_cons ((sim_call (hR.f_first_values) hr T.m_first_values T.F_first_values.kp T.b_first_values rfl rfl (sim_cons (sim_name 1) sim_nil) (hla := (lenA_cons lenA_nil)))).v (sim_cons (sim_name 2) sim_nil)) (hla := (lenA_cons (lenA_cons lenA_nil))))).v)) (sim_or1 (sim_notT (sim_test ((sim_call (hR.f__law_alike) hr T.m__law_alike T.F__law_alike.kp T.b__law_alike rfl rfl (sim_cons ((sim_call (hR.f_count_first) hr T.m_count_first T.F_count_first.kp T.b_count_first rfl rfl (sim_cons (sim_name 1) sim_nil) (hla := (lenA_cons lenA_nil)))).v (sim_cons (sim_callB cv_len (by rfl) T.z_len (by decide +kernel) (sim_consP ((sim_name 2)).p sim_nilP)) sim_nil)) (hla := (lenA_cons (lenA_cons lenA_nil))))).v))))).t
      (sim_bone (sim_ret (sim_bl).e))
      sim_bnil)
      (sim_bcons (sim_set 3 nd ((sim_call (hR.f__law_draw) hr T.m__law_draw T.F__law_draw.kp T.b__law_draw rfl rfl (sim_cons (sim_name 0) (sim_cons sim_int (sim_cons ((sim_lst (sim_cons sim_int (sim_cons sim_int sim_nil)))).v sim_nil))) (hla := (lenA_cons (lenA_cons (lenA_cons lenA_nil)))))).v)
      (sim_bcons (sim_set 4 nd (sim_bin os_add (sim_tup (sim_cons (sim_tup (sim_cons sim_str (sim_cons (sim_neg sim_int) (sim_cons (sim_bin os_sub (sim_ix (is_ixD hu) ((sim_name 3)).p (sim_int).p) sim_int) (sim_cons (sim_neg sim_int) (sim_cons (sim_bin os_sub (sim_ix (is_ixD hu) ((sim_name 3)).p (sim_int).p) sim_int) sim_nil)))))) (sim_cons (sim_tup (sim_cons sim_str (sim_cons sim_int (sim_cons (sim_ix (is_ixD hu) ((sim_name 3)).p (sim_int).p) (sim_cons sim_int (sim_cons (sim_ix (is_ixD hu) ((sim_name 3)).p (sim_int).p) sim_nil)))))) sim_nil))) (sim_ix (is_ixD hu) ((sim_name 1)).p (sim_int).p)))
      (sim_bcons (sim_set 5 nd (sim_tup (sim_cons sim_str (sim_cons sim_int (sim_cons (sim_callB cv_len (by rfl) T.z_len (by decide +kernel) (sim_consP ((sim_name 4)).p sim_nilP)) (sim_cons (sim_tup (sim_cons (sim_tup (sim_cons sim_str (sim_cons (sim_tup (sim_cons sim_str sim_nil)) (sim_cons (sim_tup sim_nil) sim_nil)))) sim_nil)) sim_nil))))))
      (sim_bone (sim_ret (sim_call (hR.f__law_alike) hr T.m__law_alike T.F__law_alike.kp T.b__law_alike rfl rfl (sim_cons ((sim_call (hR.f_count_first) hr T.m_count_first T.F_count_first.kp T.b_count_first rfl rfl (sim_cons (sim_tup (sim_cons (sim_name 4) (sim_cons (sim_tup (sim_cons (sim_name 5) sim_nil)) (sim_cons (sim_tup sim_nil) sim_nil)))) sim_nil) (hla := (lenA_cons lenA_nil)))).v (sim_cons (sim_bin os_mul (sim_bin os_mul (sim_bin os_add (sim_ix (is_ixD hu) ((sim_name 3)).p (sim_int).p) sim_int) (sim_bin os_add (sim_ix (is_ixD hu) ((sim_name 3)).p (sim_int).p) sim_int)) (sim_callB cv_len (by rfl) T.z_len (by decide +kernel) (sim_consP ((sim_name 2)).p sim_nilP))) sim_nil)) (hla := (lenA_cons (lenA_cons lenA_nil))))))))))))
theorem all_ok : ∀ k : Nat, AllOk P w K mg base T k (M k)
  | 0 => ⟨none_ok, none_ok, none_ok, none_ok, none_ok, none_ok, none_ok, none_ok, none_ok, none_ok, none_ok, none_ok, none_ok, none_ok, none_ok⟩
  | k + 1 => by
    have hR := all_ok k
    exact ⟨ok_following hR, ok_first_spans hR, ok_count_first hR, ok_first_values hR, ok__law_cell hR, ok__law_draw hR, ok__law_term hR, ok__law_condition hR, ok__law_move hR, ok__law_plant hR, ok__law_sensors hR, ok__law_box hR, ok__law_first hR, ok__law_alike hR, ok_law hR⟩
end
theorem top_mk {K : PySem.W.Frag} {h : Heap} {mg : Str → Option Value} (X : K.In h) (G : h.Ns mainGlobals mg)
    {f0 : Addr} {od0 an0 : Option Addr} {sl0 : Array (Option Value)} {oc0 kV0 dc0 pm0 cd0 ct0 : Value}
    (a0 : PySem.W.nsIn K mainGlobals "following" = some (some (.ref f0))) (l0 : K.lookup f0 = some ⟨oc0, od0, .func (PySem.W.fnOf "following" "following" (defArgs s_following) (defBody s_following) (defScope s_following) .none kV0 dc0 pm0 an0 cd0 ct0), sl0⟩) (c0 : PySem.W.codeIn K cd0 "following" = true) (k0 : PySem.W.keepIn K (.ref f0) = true)
    {f1 : Addr} {od1 an1 : Option Addr} {sl1 : Array (Option Value)} {oc1 kV1 dc1 pm1 cd1 ct1 : Value}
    (a1 : PySem.W.nsIn K mainGlobals "first_spans" = some (some (.ref f1))) (l1 : K.lookup f1 = some ⟨oc1, od1, .func (PySem.W.fnOf "first_spans" "first_spans" (defArgs s_first_spans) (defBody s_first_spans) (defScope s_first_spans) .none kV1 dc1 pm1 an1 cd1 ct1), sl1⟩) (c1 : PySem.W.codeIn K cd1 "first_spans" = true) (k1 : PySem.W.keepIn K (.ref f1) = true)
    {f2 : Addr} {od2 an2 : Option Addr} {sl2 : Array (Option Value)} {oc2 kV2 dc2 pm2 cd2 ct2 : Value}
    (a2 : PySem.W.nsIn K mainGlobals "count_first" = some (some (.ref f2))) (l2 : K.lookup f2 = some ⟨oc2, od2, .func (PySem.W.fnOf "count_first" "count_first" (defArgs s_count_first) (defBody s_count_first) (defScope s_count_first) .none kV2 dc2 pm2 an2 cd2 ct2), sl2⟩) (c2 : PySem.W.codeIn K cd2 "count_first" = true) (k2 : PySem.W.keepIn K (.ref f2) = true)
    {f3 : Addr} {od3 an3 : Option Addr} {sl3 : Array (Option Value)} {oc3 kV3 dc3 pm3 cd3 ct3 : Value}
    (a3 : PySem.W.nsIn K mainGlobals "first_values" = some (some (.ref f3))) (l3 : K.lookup f3 = some ⟨oc3, od3, .func (PySem.W.fnOf "first_values" "first_values" (defArgs s_first_values) (defBody s_first_values) (defScope s_first_values) .none kV3 dc3 pm3 an3 cd3 ct3), sl3⟩) (c3 : PySem.W.codeIn K cd3 "first_values" = true) (k3 : PySem.W.keepIn K (.ref f3) = true)
    {f4 : Addr} {od4 an4 : Option Addr} {sl4 : Array (Option Value)} {oc4 kV4 dc4 pm4 cd4 ct4 : Value}
    (a4 : PySem.W.nsIn K mainGlobals "_law_cell" = some (some (.ref f4))) (l4 : K.lookup f4 = some ⟨oc4, od4, .func (PySem.W.fnOf "_law_cell" "_law_cell" (defArgs s__law_cell) (defBody s__law_cell) (defScope s__law_cell) .none kV4 dc4 pm4 an4 cd4 ct4), sl4⟩) (c4 : PySem.W.codeIn K cd4 "_law_cell" = true) (k4 : PySem.W.keepIn K (.ref f4) = true)
    {f5 : Addr} {od5 an5 : Option Addr} {sl5 : Array (Option Value)} {oc5 kV5 dc5 pm5 cd5 ct5 : Value}
    (a5 : PySem.W.nsIn K mainGlobals "_law_draw" = some (some (.ref f5))) (l5 : K.lookup f5 = some ⟨oc5, od5, .func (PySem.W.fnOf "_law_draw" "_law_draw" (defArgs s__law_draw) (defBody s__law_draw) (defScope s__law_draw) .none kV5 dc5 pm5 an5 cd5 ct5), sl5⟩) (c5 : PySem.W.codeIn K cd5 "_law_draw" = true) (k5 : PySem.W.keepIn K (.ref f5) = true)
    {f6 : Addr} {od6 an6 : Option Addr} {sl6 : Array (Option Value)} {oc6 kV6 dc6 pm6 cd6 ct6 : Value}
    (a6 : PySem.W.nsIn K mainGlobals "_law_term" = some (some (.ref f6))) (l6 : K.lookup f6 = some ⟨oc6, od6, .func (PySem.W.fnOf "_law_term" "_law_term" (defArgs s__law_term) (defBody s__law_term) (defScope s__law_term) .none kV6 dc6 pm6 an6 cd6 ct6), sl6⟩) (c6 : PySem.W.codeIn K cd6 "_law_term" = true) (k6 : PySem.W.keepIn K (.ref f6) = true)
    {f7 : Addr} {od7 an7 : Option Addr} {sl7 : Array (Option Value)} {oc7 kV7 dc7 pm7 cd7 ct7 : Value}
    (a7 : PySem.W.nsIn K mainGlobals "_law_condition" = some (some (.ref f7))) (l7 : K.lookup f7 = some ⟨oc7, od7, .func (PySem.W.fnOf "_law_condition" "_law_condition" (defArgs s__law_condition) (defBody s__law_condition) (defScope s__law_condition) .none kV7 dc7 pm7 an7 cd7 ct7), sl7⟩) (c7 : PySem.W.codeIn K cd7 "_law_condition" = true) (k7 : PySem.W.keepIn K (.ref f7) = true)
    {f8 : Addr} {od8 an8 : Option Addr} {sl8 : Array (Option Value)} {oc8 kV8 dc8 pm8 cd8 ct8 : Value}
    (a8 : PySem.W.nsIn K mainGlobals "_law_move" = some (some (.ref f8))) (l8 : K.lookup f8 = some ⟨oc8, od8, .func (PySem.W.fnOf "_law_move" "_law_move" (defArgs s__law_move) (defBody s__law_move) (defScope s__law_move) .none kV8 dc8 pm8 an8 cd8 ct8), sl8⟩) (c8 : PySem.W.codeIn K cd8 "_law_move" = true) (k8 : PySem.W.keepIn K (.ref f8) = true)
    {f9 : Addr} {od9 an9 : Option Addr} {sl9 : Array (Option Value)} {oc9 kV9 dc9 pm9 cd9 ct9 : Value}
    (a9 : PySem.W.nsIn K mainGlobals "_law_plant" = some (some (.ref f9))) (l9 : K.lookup f9 = some ⟨oc9, od9, .func (PySem.W.fnOf "_law_plant" "_law_plant" (defArgs s__law_plant) (defBody s__law_plant) (defScope s__law_plant) .none kV9 dc9 pm9 an9 cd9 ct9), sl9⟩) (c9 : PySem.W.codeIn K cd9 "_law_plant" = true) (k9 : PySem.W.keepIn K (.ref f9) = true)
    {f10 : Addr} {od10 an10 : Option Addr} {sl10 : Array (Option Value)} {oc10 kV10 dc10 pm10 cd10 ct10 : Value}
    (a10 : PySem.W.nsIn K mainGlobals "_law_sensors" = some (some (.ref f10))) (l10 : K.lookup f10 = some ⟨oc10, od10, .func (PySem.W.fnOf "_law_sensors" "_law_sensors" (defArgs s__law_sensors) (defBody s__law_sensors) (defScope s__law_sensors) .none kV10 dc10 pm10 an10 cd10 ct10), sl10⟩) (c10 : PySem.W.codeIn K cd10 "_law_sensors" = true) (k10 : PySem.W.keepIn K (.ref f10) = true)
    {f11 : Addr} {od11 an11 : Option Addr} {sl11 : Array (Option Value)} {oc11 kV11 dc11 pm11 cd11 ct11 : Value}
    (a11 : PySem.W.nsIn K mainGlobals "_law_box" = some (some (.ref f11))) (l11 : K.lookup f11 = some ⟨oc11, od11, .func (PySem.W.fnOf "_law_box" "_law_box" (defArgs s__law_box) (defBody s__law_box) (defScope s__law_box) .none kV11 dc11 pm11 an11 cd11 ct11), sl11⟩) (c11 : PySem.W.codeIn K cd11 "_law_box" = true) (k11 : PySem.W.keepIn K (.ref f11) = true)
    {f12 : Addr} {od12 an12 : Option Addr} {sl12 : Array (Option Value)} {oc12 kV12 dc12 pm12 cd12 ct12 : Value}
    (a12 : PySem.W.nsIn K mainGlobals "_law_first" = some (some (.ref f12))) (l12 : K.lookup f12 = some ⟨oc12, od12, .func (PySem.W.fnOf "_law_first" "_law_first" (defArgs s__law_first) (defBody s__law_first) (defScope s__law_first) .none kV12 dc12 pm12 an12 cd12 ct12), sl12⟩) (c12 : PySem.W.codeIn K cd12 "_law_first" = true) (k12 : PySem.W.keepIn K (.ref f12) = true)
    {f13 : Addr} {od13 an13 : Option Addr} {sl13 : Array (Option Value)} {oc13 kV13 dc13 pm13 cd13 ct13 : Value}
    (a13 : PySem.W.nsIn K mainGlobals "_law_alike" = some (some (.ref f13))) (l13 : K.lookup f13 = some ⟨oc13, od13, .func (PySem.W.fnOf "_law_alike" "_law_alike" (defArgs s__law_alike) (defBody s__law_alike) (defScope s__law_alike) .none kV13 dc13 pm13 an13 cd13 ct13), sl13⟩) (c13 : PySem.W.codeIn K cd13 "_law_alike" = true) (k13 : PySem.W.keepIn K (.ref f13) = true)
    {f14 : Addr} {od14 an14 : Option Addr} {sl14 : Array (Option Value)} {oc14 kV14 dc14 pm14 cd14 ct14 : Value}
    (a14 : PySem.W.nsIn K mainGlobals "law" = some (some (.ref f14))) (l14 : K.lookup f14 = some ⟨oc14, od14, .func (PySem.W.fnOf "law" "law" (defArgs s_law) (defBody s_law) (defScope s_law) .none kV14 dc14 pm14 an14 cd14 ct14), sl14⟩) (c14 : PySem.W.codeIn K cd14 "law" = true) (k14 : PySem.W.keepIn K (.ref f14) = true)
    (z_bool : PySem.W.nsIn K mainGlobals "bool" = some none)
    (z_int : PySem.W.nsIn K mainGlobals "int" = some none)
    (z_isinstance : PySem.W.nsIn K mainGlobals "isinstance" = some none)
    (z_len : PySem.W.nsIn K mainGlobals "len" = some none)
    (z_list : PySem.W.nsIn K mainGlobals "list" = some none)
    (z_max : PySem.W.nsIn K mainGlobals "max" = some none)
    (z_range : PySem.W.nsIn K mainGlobals "range" = some none)
    (z_reversed : PySem.W.nsIn K mainGlobals "reversed" = some none)
    (z_str : PySem.W.nsIn K mainGlobals "str" = some none)
    (z_sum : PySem.W.nsIn K mainGlobals "sum" = some none)
    (z_tuple : PySem.W.nsIn K mainGlobals "tuple" = some none)
    {C : Prop} (fin : ∀ T : Top K mg, mg "law" = some (.ref T.a_law) → (∀ (s : Shared) (v : Value), BindsTo s T.d_law ⟨[v], []⟩ [("_law_script", v)]) → C) : C := by
  have F0 := fun_mk (st := s_following) l0 c0 k0
  have b0 := F0.binds (ps := ["values", "spans"]) fun _ _ _ _ _ _ us hl => match us, hl with | [_, _], _ => rfl
  have F1 := fun_mk (st := s_first_spans) l1 c1 k1
  have b1 := F1.binds (ps := ["plant"]) fun _ _ _ _ _ _ us hl => match us, hl with | [_], _ => rfl
  have F2 := fun_mk (st := s_count_first) l2 c2 k2
  have b2 := F2.binds (ps := ["plant"]) fun _ _ _ _ _ _ us hl => match us, hl with | [_], _ => rfl
  have F3 := fun_mk (st := s_first_values) l3 c3 k3
  have b3 := F3.binds (ps := ["plant"]) fun _ _ _ _ _ _ us hl => match us, hl with | [_], _ => rfl
  have F4 := fun_mk (st := s__law_cell) l4 c4 k4
  have b4 := F4.binds (ps := ["_law_script", "_law_k"]) fun _ _ _ _ _ _ us hl => match us, hl with | [_, _], _ => rfl
  have F5 := fun_mk (st := s__law_draw) l5 c5 k5
  have b5 := F5.binds (ps := ["_law_script", "_law_k", "_law_sizes"]) fun _ _ _ _ _ _ us hl => match us, hl with | [_, _, _], _ => rfl
  have F6 := fun_mk (st := s__law_term) l6 c6 k6
  have b6 := F6.binds (ps := ["_law_digits", "_law_at", "_law_many"]) fun _ _ _ _ _ _ us hl => match us, hl with | [_, _, _], _ => rfl
  have F7 := fun_mk (st := s__law_condition) l7 c7 k7
  have b7 := F7.binds (ps := ["_law_digits", "_law_at", "_law_many"]) fun _ _ _ _ _ _ us hl => match us, hl with | [_, _, _], _ => rfl
  have F8 := fun_mk (st := s__law_move) l8 c8 k8
  have b8 := F8.binds (ps := ["_law_script", "_law_k", "_law_at", "_law_first_here", "_law_count", "_law_many"]) fun _ _ _ _ _ _ us hl => match us, hl with | [_, _, _, _, _, _], _ => rfl
  have F9 := fun_mk (st := s__law_plant) l9 c9 k9
  have b9 := F9.binds (ps := ["_law_script"]) fun _ _ _ _ _ _ us hl => match us, hl with | [_], _ => rfl
  have F10 := fun_mk (st := s__law_sensors) l10 c10 k10
  have b10 := F10.binds (ps := ["_law_script", "_law_many"]) fun _ _ _ _ _ _ us hl => match us, hl with | [_, _], _ => rfl
  have F11 := fun_mk (st := s__law_box) l11 c11 k11
  have b11 := F11.binds (ps := ["_law_rows", "_law_choices"]) fun _ _ _ _ _ _ us hl => match us, hl with | [_, _], _ => rfl
  have F12 := fun_mk (st := s__law_first) l12 c12 k12
  have b12 := F12.binds (ps := ["_law_plant_here"]) fun _ _ _ _ _ _ us hl => match us, hl with | [_], _ => rfl
  have F13 := fun_mk (st := s__law_alike) l13 c13 k13
  have b13 := F13.binds (ps := ["_law_actual", "_law_expected"]) fun _ _ _ _ _ _ us hl => match us, hl with | [_, _], _ => rfl
  have F14 := fun_mk (st := s_law) l14 c14 k14
  have b14 := F14.binds (ps := ["_law_script"]) fun _ _ _ _ _ _ us hl => match us, hl with | [_], _ => rfl
  exact fin ⟨_, _, F0, PySem.W.mg_of X G a0, b0, _, _, F1, PySem.W.mg_of X G a1, b1, _, _, F2, PySem.W.mg_of X G a2, b2, _, _, F3, PySem.W.mg_of X G a3, b3, _, _, F4, PySem.W.mg_of X G a4, b4, _, _, F5, PySem.W.mg_of X G a5, b5, _, _, F6, PySem.W.mg_of X G a6, b6, _, _, F7, PySem.W.mg_of X G a7, b7, _, _, F8, PySem.W.mg_of X G a8, b8, _, _, F9, PySem.W.mg_of X G a9, b9, _, _, F10, PySem.W.mg_of X G a10, b10, _, _, F11, PySem.W.mg_of X G a11, b11, _, _, F12, PySem.W.mg_of X G a12, b12, _, _, F13, PySem.W.mg_of X G a13, b13, _, _, F14, PySem.W.mg_of X G a14, b14, PySem.W.mg_none_of X G z_bool, PySem.W.mg_none_of X G z_int, PySem.W.mg_none_of X G z_isinstance, PySem.W.mg_none_of X G z_len, PySem.W.mg_none_of X G z_list, PySem.W.mg_none_of X G z_max, PySem.W.mg_none_of X G z_range, PySem.W.mg_none_of X G z_reversed, PySem.W.mg_none_of X G z_str, PySem.W.mg_none_of X G z_sum, PySem.W.mg_none_of X G z_tuple⟩ (PySem.W.mg_of X G a14) (fun s v => .of_eq rfl)
end Law

namespace Law
open PySem PySem.Spec PyProof.Rows L2 Sim
/-! ### helpers of the laws -/
theorem cell_ok {R : Fs} (ns : List Int) (k : Nat) : FT (defF 0 [] (b__law_cell R)) [.scr ns, .int k] fun d fs => fs = [] ∧ ∃ c, d = .int c := by
  refine FT_def ?_
  simp only [Sim.T_ok, Sim.T_fail, Sim.T_bind, Sim.T_pureO, Sim.EndQ_nxt, Sim.EndQ_ret, Sim.lasts_nil, Sim.T_call, Sim.T_name, Sim.T_frz, Sim.T_const, Sim.T_sh, Sim.T_op2, Sim.T_op1, Sim.T_test, Sim.T_not, Sim.T_andM, Sim.T_orM, Sim.T_ifM, Sim.T_bl, Sim.T_andV, Sim.T_orV, Sim.T_notV, Sim.T_peek, Sim.T_vP, Sim.T_opP, Sim.T_nilA, Sim.T_consA, Sim.T_nilP, Sim.T_consP, Sim.T_tup, Sim.T_lst, Sim.T_noO, Sim.T_someO, Sim.T_slice, Sim.T_callM, Sim.resL_cons, Sim.resL_nil', Sim.T_isi, Sim.T_nil, Sim.T_brk, Sim.T_cnt, Sim.SeqQ_nxt, Sim.SeqQ_brk, Sim.SeqQ_cnt, Sim.SeqQ_ret, Sim.T_seq, Sim.T_set, Sim.T_drop, Sim.T_ret, Sim.T_retN, Sim.T_retS, Sim.T_ite, Sim.T_asg, Sim.T_nameG, Sim.T_tupG, Sim.T_nilG, Sim.T_consG, Sim.T_aug, Sim.T_app, Sim.T_putD, Sim.T_newD, Sim.T_disp, Sim.T_iter, Sim.T_range1, Sim.T_range2, Sim.LoopQ_nxt, Sim.LoopQ_cnt, Sim.LoopQ_brk, Sim.LoopQ_ret, Sim.T_for, Sim.T_comp, Sim.T_yes, Sim.wipeR, Sim.T_rev, Sim.revD_lst, Sim.T_revR1, Sim.T_rg1, Sim.T_rg2, Sim.T_lstRg, Sim.T_tupRg, Sim.sumD_ints, Sim.ixDD_tup, Sim.ixDD_lst, Sim.ixDD_scr, Sim.ixDD_dct, Sim.atI_nat, Sim.atI_lit, Sim.lenD_tup, Sim.lenD_lst, Sim.lenD_scr, Sim.lenD_dct, Sim.addD_int, Sim.iaddD_int, Sim.subD_int, Sim.mulD_int, Sim.mulD_one, Sim.fdivD_int, Sim.modD_int, Sim.powD_int, Sim.addD_tup, Sim.addD_lst, Sim.negD_int, Sim.ltD_int, Sim.leD_int, Sim.gtD_int, Sim.geD_int, Sim.eqB_int, Sim.eqB_str, Sim.eqB_bl, Sim.eqB_non, Sim.eqD_of, Sim.neD_of, Sim.isD_non, Sim.isNotD_non, Sim.isN_non, Sim.isN_bl, Sim.isN_int, Sim.isN_str, Sim.isN_tup, Sim.isN_lst, Sim.frz_non, Sim.frz_bl, Sim.frz_int, Sim.frz_str, Sim.frz_tup, Sim.frz_lst, Sim.frz_dct, Sim.frz_scr, Sim.maxD_int, Sim.minD_int, Sim.absD_int, Sim.intD_int, Sim.tupleD_tup, Sim.tupleD_lst, Sim.listD_tup, Sim.listD_lst, Sim.listD_scr, Sim.itemsD_sh, Sim.itemsD_tup, Sim.itemsD_scr, Sim.isi_non, Sim.isi_bl, Sim.isi_int, Sim.isi_str, Sim.isi_tup, Sim.isi_lst, Sim.slice_tup, Sim.slice_lst, Sim.inDD_of, Sim.notInDD_of, Sim.inD_tup, Sim.inD_lst, Sim.inD_dct, Sim.cap, Sim.nat10, Sim.nat2, Nat.zero_le, Sim.ex_some, Sim.ex_some2, Sim.ex_if, Sim.ex_map, Sim.ex_eq, Sim.ex_bl, Sim.ex_int, Sim.ex_own, Sim.ex_lst, Sim.inr_at, Sim.inl_at, Sim.tt_c, Sim.ff_c, Sim.pad_nil, Sim.pad_n, Sim.nones_0, Sim.nones_s, List.getElem?_cons_zero, List.getElem?_cons_succ, List.set_cons_zero, List.set_cons_succ, List.map_cons, List.map_nil, List.cons_append, List.nil_append, Option.map_some, List.length_cons, List.length_nil, Int.zero_add, Nat.zero_add, Nat.reduceAdd, Nat.reduceLeDiff, Nat.reduceMul, true_and, and_true, decide_eq_true_eq, decide_eq_false_iff_not, Bool.false_eq_true, Bool.true_eq_false, false_implies, true_implies, implies_true, eq_self, decide_true, decide_false, not_true_eq_false, not_false_eq_true, Bool.not_true, Bool.not_false, Int.reduceLT, Int.reduceLE, Int.reduceNeg, Int.reducePow, Int.reduceToNat, b__law_cell]
  refine ⟨fun h => ?_, fun h => ⟨_, rfl⟩⟩
  have h : k < ns.length := by omega
  exact ⟨ns[k], by simp [h], _, rfl⟩
/-- what a draw gives: as many as asked, each below its size -/
def Drawn (ms : List Int) (xs : List Int) : Prop := xs.length = ms.length ∧ ∀ (j : Nat) (x m : Int), xs[j]? = some x → ms[j]? = some m → 0 ≤ x ∧ x < m
theorem Drawn.snoc {ms xs : List Int} {x m : Int} (h : Drawn (ms.take xs.length) xs) (hm : ms[xs.length]? = some m) (h0 : 0 ≤ x) (h1 : x < m) : Drawn (ms.take (xs.length + 1)) (xs ++ [x]) := by
  have hl : xs.length < ms.length := (List.getElem?_eq_some_iff.mp hm).1
  refine ⟨by simp; omega, fun j y n hy hn => ?_⟩
  rw [List.getElem?_take] at hn
  split at hn
  · by_cases hj : j < xs.length
    · rw [List.getElem?_append_left hj] at hy
      exact h.2 j y n hy (by rw [List.getElem?_take, if_pos hj]; exact hn)
    · have : j = xs.length := by omega
      subst this
      simp at hy
      rw [hm] at hn
      cases hn
      exact hy ▸ ⟨h0, h1⟩
  · cases hn
theorem draw_ok {R : Fs} (hc : ∀ (ns : List Int) (k : Nat), FT R.f__law_cell [.scr ns, .int k] fun d fs => fs = [] ∧ ∃ c, d = .int c) (ns : List Int) (k : Nat) (ms : List Int) (hl : ms.length ≤ 1000) (hm : ∀ m ∈ ms, 0 < m ∧ m < 1073741824) :
    FT (defF 5 [] (b__law_draw R)) [.scr ns, .int k, .lst .sh (ms.map .int)] fun d fs => fs = [] ∧ ∃ xs, d = .lst .own (xs.map .int) ∧ Drawn ms xs := by
  refine FT_def ?_
  simp only [Sim.T_ok, Sim.T_fail, Sim.T_bind, Sim.T_pureO, Sim.EndQ_nxt, Sim.EndQ_ret, Sim.lasts_nil, Sim.T_call, Sim.T_name, Sim.T_frz, Sim.T_const, Sim.T_sh, Sim.T_op2, Sim.T_op1, Sim.T_test, Sim.T_not, Sim.T_andM, Sim.T_orM, Sim.T_ifM, Sim.T_bl, Sim.T_andV, Sim.T_orV, Sim.T_notV, Sim.T_peek, Sim.T_vP, Sim.T_opP, Sim.T_nilA, Sim.T_consA, Sim.T_nilP, Sim.T_consP, Sim.T_tup, Sim.T_lst, Sim.T_noO, Sim.T_someO, Sim.T_slice, Sim.T_callM, Sim.resL_cons, Sim.resL_nil', Sim.T_isi, Sim.T_nil, Sim.T_brk, Sim.T_cnt, Sim.SeqQ_nxt, Sim.SeqQ_brk, Sim.SeqQ_cnt, Sim.SeqQ_ret, Sim.T_seq, Sim.T_set, Sim.T_drop, Sim.T_ret, Sim.T_retN, Sim.T_retS, Sim.T_asg, Sim.T_nameG, Sim.T_tupG, Sim.T_nilG, Sim.T_consG, Sim.T_aug, Sim.T_app, Sim.T_putD, Sim.T_newD, Sim.T_disp, Sim.T_iter, Sim.T_range1, Sim.T_range2, Sim.LoopQ_nxt, Sim.LoopQ_cnt, Sim.LoopQ_brk, Sim.LoopQ_ret, Sim.T_for, Sim.T_comp, Sim.T_yes, Sim.wipeR, Sim.T_rev, Sim.revD_lst, Sim.T_revR1, Sim.T_rg1, Sim.T_rg2, Sim.T_lstRg, Sim.T_tupRg, Sim.sumD_ints, Sim.ixDD_tup, Sim.ixDD_lst, Sim.ixDD_scr, Sim.ixDD_dct, Sim.atI_nat, Sim.atI_lit, Sim.lenD_tup, Sim.lenD_lst, Sim.lenD_scr, Sim.lenD_dct, Sim.addD_int, Sim.iaddD_int, Sim.subD_int, Sim.mulD_int, Sim.mulD_one, Sim.fdivD_int, Sim.modD_int, Sim.powD_int, Sim.addD_tup, Sim.addD_lst, Sim.negD_int, Sim.ltD_int, Sim.leD_int, Sim.gtD_int, Sim.geD_int, Sim.eqB_int, Sim.eqB_str, Sim.eqB_bl, Sim.eqB_non, Sim.eqD_of, Sim.neD_of, Sim.isD_non, Sim.isNotD_non, Sim.isN_non, Sim.isN_bl, Sim.isN_int, Sim.isN_str, Sim.isN_tup, Sim.isN_lst, Sim.frz_non, Sim.frz_bl, Sim.frz_int, Sim.frz_str, Sim.frz_tup, Sim.frz_lst, Sim.frz_dct, Sim.frz_scr, Sim.maxD_int, Sim.minD_int, Sim.absD_int, Sim.intD_int, Sim.tupleD_tup, Sim.tupleD_lst, Sim.listD_tup, Sim.listD_lst, Sim.listD_scr, Sim.itemsD_sh, Sim.itemsD_tup, Sim.itemsD_scr, Sim.isi_non, Sim.isi_bl, Sim.isi_int, Sim.isi_str, Sim.isi_tup, Sim.isi_lst, Sim.slice_tup, Sim.slice_lst, Sim.inDD_of, Sim.notInDD_of, Sim.inD_tup, Sim.inD_lst, Sim.inD_dct, Sim.cap, Sim.nat10, Sim.nat2, Nat.zero_le, Sim.ex_some, Sim.ex_some2, Sim.ex_if, Sim.ex_map, Sim.ex_eq, Sim.ex_bl, Sim.ex_int, Sim.ex_own, Sim.ex_lst, Sim.inr_at, Sim.inl_at, Sim.tt_c, Sim.ff_c, Sim.pad_nil, Sim.pad_n, Sim.nones_0, Sim.nones_s, List.getElem?_cons_zero, List.getElem?_cons_succ, List.set_cons_zero, List.set_cons_succ, List.map_cons, List.map_nil, List.cons_append, List.nil_append, Option.map_some, List.length_cons, List.length_nil, Int.zero_add, Nat.zero_add, Nat.reduceAdd, Nat.reduceLeDiff, Nat.reduceMul, true_and, and_true, decide_eq_true_eq, decide_eq_false_iff_not, Bool.false_eq_true, Bool.true_eq_false, false_implies, true_implies, implies_true, eq_self, decide_true, decide_false, not_true_eq_false, not_false_eq_true, Bool.not_true, Bool.not_false, Int.reduceLT, Int.reduceLE, Int.reduceNeg, Int.reducePow, Int.reduceToNat, b__law_draw]
  refine FT_mono (hc ns k) ?_
  rintro _ _ ⟨rfl, c, rfl⟩
  simp only [Sim.T_ok, Sim.T_fail, Sim.T_bind, Sim.T_pureO, Sim.EndQ_nxt, Sim.EndQ_ret, Sim.lasts_nil, Sim.T_call, Sim.T_name, Sim.T_frz, Sim.T_const, Sim.T_sh, Sim.T_op2, Sim.T_op1, Sim.T_test, Sim.T_not, Sim.T_andM, Sim.T_orM, Sim.T_ifM, Sim.T_bl, Sim.T_andV, Sim.T_orV, Sim.T_notV, Sim.T_peek, Sim.T_vP, Sim.T_opP, Sim.T_nilA, Sim.T_consA, Sim.T_nilP, Sim.T_consP, Sim.T_tup, Sim.T_lst, Sim.T_noO, Sim.T_someO, Sim.T_slice, Sim.T_callM, Sim.resL_cons, Sim.resL_nil', Sim.T_isi, Sim.T_nil, Sim.T_brk, Sim.T_cnt, Sim.SeqQ_nxt, Sim.SeqQ_brk, Sim.SeqQ_cnt, Sim.SeqQ_ret, Sim.T_seq, Sim.T_set, Sim.T_drop, Sim.T_ret, Sim.T_retN, Sim.T_retS, Sim.T_asg, Sim.T_nameG, Sim.T_tupG, Sim.T_nilG, Sim.T_consG, Sim.T_aug, Sim.T_app, Sim.T_putD, Sim.T_newD, Sim.T_disp, Sim.T_iter, Sim.T_range1, Sim.T_range2, Sim.LoopQ_nxt, Sim.LoopQ_cnt, Sim.LoopQ_brk, Sim.LoopQ_ret, Sim.T_for, Sim.T_comp, Sim.T_yes, Sim.wipeR, Sim.T_rev, Sim.revD_lst, Sim.T_revR1, Sim.T_rg1, Sim.T_rg2, Sim.T_lstRg, Sim.T_tupRg, Sim.sumD_ints, Sim.ixDD_tup, Sim.ixDD_lst, Sim.ixDD_scr, Sim.ixDD_dct, Sim.atI_nat, Sim.atI_lit, Sim.lenD_tup, Sim.lenD_lst, Sim.lenD_scr, Sim.lenD_dct, Sim.addD_int, Sim.iaddD_int, Sim.subD_int, Sim.mulD_int, Sim.mulD_one, Sim.fdivD_int, Sim.modD_int, Sim.powD_int, Sim.addD_tup, Sim.addD_lst, Sim.negD_int, Sim.ltD_int, Sim.leD_int, Sim.gtD_int, Sim.geD_int, Sim.eqB_int, Sim.eqB_str, Sim.eqB_bl, Sim.eqB_non, Sim.eqD_of, Sim.neD_of, Sim.isD_non, Sim.isNotD_non, Sim.isN_non, Sim.isN_bl, Sim.isN_int, Sim.isN_str, Sim.isN_tup, Sim.isN_lst, Sim.frz_non, Sim.frz_bl, Sim.frz_int, Sim.frz_str, Sim.frz_tup, Sim.frz_lst, Sim.frz_dct, Sim.frz_scr, Sim.maxD_int, Sim.minD_int, Sim.absD_int, Sim.intD_int, Sim.tupleD_tup, Sim.tupleD_lst, Sim.listD_tup, Sim.listD_lst, Sim.listD_scr, Sim.itemsD_sh, Sim.itemsD_tup, Sim.itemsD_scr, Sim.isi_non, Sim.isi_bl, Sim.isi_int, Sim.isi_str, Sim.isi_tup, Sim.isi_lst, Sim.slice_tup, Sim.slice_lst, Sim.inDD_of, Sim.notInDD_of, Sim.inD_tup, Sim.inD_lst, Sim.inD_dct, Sim.cap, Sim.nat10, Sim.nat2, Nat.zero_le, Sim.ex_some, Sim.ex_some2, Sim.ex_if, Sim.ex_map, Sim.ex_eq, Sim.ex_bl, Sim.ex_int, Sim.ex_own, Sim.ex_lst, Sim.inr_at, Sim.inl_at, Sim.tt_c, Sim.ff_c, Sim.pad_nil, Sim.pad_n, Sim.nones_0, Sim.nones_s, List.getElem?_cons_zero, List.getElem?_cons_succ, List.set_cons_zero, List.set_cons_succ, List.map_cons, List.map_nil, List.cons_append, List.nil_append, Option.map_some, List.length_cons, List.length_nil, Int.zero_add, Nat.zero_add, Nat.reduceAdd, Nat.reduceLeDiff, Nat.reduceMul, true_and, and_true, decide_eq_true_eq, decide_eq_false_iff_not, Bool.false_eq_true, Bool.true_eq_false, false_implies, true_implies, implies_true, eq_self, decide_true, decide_false, not_true_eq_false, not_false_eq_true, Bool.not_true, Bool.not_false, Int.reduceLT, Int.reduceLE, Int.reduceNeg, Int.reducePow, Int.reduceToNat]
  refine T_cut (fun ρ => ∃ c : Int, ρ = [some (.scr ns), some (.int k), some (.lst .sh (ms.map .int)), some (.int c), none, none, none, none]) ?_ ?_
  · simp only [Sim.T_ok, Sim.T_fail, Sim.T_bind, Sim.T_pureO, Sim.EndQ_nxt, Sim.EndQ_ret, Sim.lasts_nil, Sim.T_call, Sim.T_name, Sim.T_frz, Sim.T_const, Sim.T_sh, Sim.T_op2, Sim.T_op1, Sim.T_test, Sim.T_not, Sim.T_andM, Sim.T_orM, Sim.T_ifM, Sim.T_bl, Sim.T_andV, Sim.T_orV, Sim.T_notV, Sim.T_peek, Sim.T_vP, Sim.T_opP, Sim.T_nilA, Sim.T_consA, Sim.T_nilP, Sim.T_consP, Sim.T_tup, Sim.T_lst, Sim.T_noO, Sim.T_someO, Sim.T_slice, Sim.T_callM, Sim.resL_cons, Sim.resL_nil', Sim.T_isi, Sim.T_nil, Sim.T_brk, Sim.T_cnt, Sim.SeqQ_nxt, Sim.SeqQ_brk, Sim.SeqQ_cnt, Sim.SeqQ_ret, Sim.T_seq, Sim.T_set, Sim.T_drop, Sim.T_ret, Sim.T_retN, Sim.T_retS, Sim.T_ite, Sim.T_asg, Sim.T_nameG, Sim.T_tupG, Sim.T_nilG, Sim.T_consG, Sim.T_aug, Sim.T_app, Sim.T_putD, Sim.T_newD, Sim.T_disp, Sim.T_iter, Sim.T_range1, Sim.T_range2, Sim.LoopQ_nxt, Sim.LoopQ_cnt, Sim.LoopQ_brk, Sim.LoopQ_ret, Sim.T_for, Sim.T_comp, Sim.T_yes, Sim.wipeR, Sim.T_rev, Sim.revD_lst, Sim.T_revR1, Sim.T_rg1, Sim.T_rg2, Sim.T_lstRg, Sim.T_tupRg, Sim.sumD_ints, Sim.ixDD_tup, Sim.ixDD_lst, Sim.ixDD_scr, Sim.ixDD_dct, Sim.atI_nat, Sim.atI_lit, Sim.lenD_tup, Sim.lenD_lst, Sim.lenD_scr, Sim.lenD_dct, Sim.addD_int, Sim.iaddD_int, Sim.subD_int, Sim.mulD_int, Sim.mulD_one, Sim.fdivD_int, Sim.modD_int, Sim.powD_int, Sim.addD_tup, Sim.addD_lst, Sim.negD_int, Sim.ltD_int, Sim.leD_int, Sim.gtD_int, Sim.geD_int, Sim.eqB_int, Sim.eqB_str, Sim.eqB_bl, Sim.eqB_non, Sim.eqD_of, Sim.neD_of, Sim.isD_non, Sim.isNotD_non, Sim.isN_non, Sim.isN_bl, Sim.isN_int, Sim.isN_str, Sim.isN_tup, Sim.isN_lst, Sim.frz_non, Sim.frz_bl, Sim.frz_int, Sim.frz_str, Sim.frz_tup, Sim.frz_lst, Sim.frz_dct, Sim.frz_scr, Sim.maxD_int, Sim.minD_int, Sim.absD_int, Sim.intD_int, Sim.tupleD_tup, Sim.tupleD_lst, Sim.listD_tup, Sim.listD_lst, Sim.listD_scr, Sim.itemsD_sh, Sim.itemsD_tup, Sim.itemsD_scr, Sim.isi_non, Sim.isi_bl, Sim.isi_int, Sim.isi_str, Sim.isi_tup, Sim.isi_lst, Sim.slice_tup, Sim.slice_lst, Sim.inDD_of, Sim.notInDD_of, Sim.inD_tup, Sim.inD_lst, Sim.inD_dct, Sim.cap, Sim.nat10, Sim.nat2, Nat.zero_le, Sim.ex_some, Sim.ex_some2, Sim.ex_if, Sim.ex_map, Sim.ex_eq, Sim.ex_bl, Sim.ex_int, Sim.ex_own, Sim.ex_lst, Sim.inr_at, Sim.inl_at, Sim.tt_c, Sim.ff_c, Sim.pad_nil, Sim.pad_n, Sim.nones_0, Sim.nones_s, List.getElem?_cons_zero, List.getElem?_cons_succ, List.set_cons_zero, List.set_cons_succ, List.map_cons, List.map_nil, List.cons_append, List.nil_append, Option.map_some, List.length_cons, List.length_nil, Int.zero_add, Nat.zero_add, Nat.reduceAdd, Nat.reduceLeDiff, Nat.reduceMul, true_and, and_true, decide_eq_true_eq, decide_eq_false_iff_not, Bool.false_eq_true, Bool.true_eq_false, false_implies, true_implies, implies_true, eq_self, decide_true, decide_false, not_true_eq_false, not_false_eq_true, Bool.not_true, Bool.not_false, Int.reduceLT, Int.reduceLE, Int.reduceNeg, Int.reducePow, Int.reduceToNat]
    exact ⟨fun _ => ⟨_, rfl⟩, fun _ => ⟨_, rfl⟩⟩
  rintro _ ⟨c0, rfl⟩
  simp only [Sim.T_ok, Sim.T_fail, Sim.T_bind, Sim.T_pureO, Sim.EndQ_nxt, Sim.EndQ_ret, Sim.lasts_nil, Sim.T_call, Sim.T_name, Sim.T_frz, Sim.T_const, Sim.T_sh, Sim.T_op2, Sim.T_op1, Sim.T_test, Sim.T_not, Sim.T_andM, Sim.T_orM, Sim.T_ifM, Sim.T_bl, Sim.T_andV, Sim.T_orV, Sim.T_notV, Sim.T_peek, Sim.T_vP, Sim.T_opP, Sim.T_nilA, Sim.T_consA, Sim.T_nilP, Sim.T_consP, Sim.T_tup, Sim.T_lst, Sim.T_noO, Sim.T_someO, Sim.T_slice, Sim.T_callM, Sim.resL_cons, Sim.resL_nil', Sim.T_isi, Sim.T_nil, Sim.T_brk, Sim.T_cnt, Sim.SeqQ_nxt, Sim.SeqQ_brk, Sim.SeqQ_cnt, Sim.SeqQ_ret, Sim.T_seq, Sim.T_set, Sim.T_drop, Sim.T_ret, Sim.T_retN, Sim.T_retS, Sim.T_ite, Sim.T_asg, Sim.T_nameG, Sim.T_tupG, Sim.T_nilG, Sim.T_consG, Sim.T_aug, Sim.T_app, Sim.T_putD, Sim.T_newD, Sim.T_disp, Sim.T_iter, Sim.T_range1, Sim.T_range2, Sim.LoopQ_nxt, Sim.LoopQ_cnt, Sim.LoopQ_brk, Sim.LoopQ_ret, Sim.T_for, Sim.T_comp, Sim.T_yes, Sim.wipeR, Sim.T_rev, Sim.revD_lst, Sim.T_revR1, Sim.T_rg1, Sim.T_rg2, Sim.T_lstRg, Sim.T_tupRg, Sim.sumD_ints, Sim.ixDD_tup, Sim.ixDD_lst, Sim.ixDD_scr, Sim.ixDD_dct, Sim.atI_nat, Sim.atI_lit, Sim.lenD_tup, Sim.lenD_lst, Sim.lenD_scr, Sim.lenD_dct, Sim.addD_int, Sim.iaddD_int, Sim.subD_int, Sim.mulD_int, Sim.mulD_one, Sim.fdivD_int, Sim.modD_int, Sim.powD_int, Sim.addD_tup, Sim.addD_lst, Sim.negD_int, Sim.ltD_int, Sim.leD_int, Sim.gtD_int, Sim.geD_int, Sim.eqB_int, Sim.eqB_str, Sim.eqB_bl, Sim.eqB_non, Sim.eqD_of, Sim.neD_of, Sim.isD_non, Sim.isNotD_non, Sim.isN_non, Sim.isN_bl, Sim.isN_int, Sim.isN_str, Sim.isN_tup, Sim.isN_lst, Sim.frz_non, Sim.frz_bl, Sim.frz_int, Sim.frz_str, Sim.frz_tup, Sim.frz_lst, Sim.frz_dct, Sim.frz_scr, Sim.maxD_int, Sim.minD_int, Sim.absD_int, Sim.intD_int, Sim.tupleD_tup, Sim.tupleD_lst, Sim.listD_tup, Sim.listD_lst, Sim.listD_scr, Sim.itemsD_sh, Sim.itemsD_tup, Sim.itemsD_scr, Sim.isi_non, Sim.isi_bl, Sim.isi_int, Sim.isi_str, Sim.isi_tup, Sim.isi_lst, Sim.slice_tup, Sim.slice_lst, Sim.inDD_of, Sim.notInDD_of, Sim.inD_tup, Sim.inD_lst, Sim.inD_dct, Sim.cap, Sim.nat10, Sim.nat2, Nat.zero_le, Sim.ex_some, Sim.ex_some2, Sim.ex_if, Sim.ex_map, Sim.ex_eq, Sim.ex_bl, Sim.ex_int, Sim.ex_own, Sim.ex_lst, Sim.inr_at, Sim.inl_at, Sim.tt_c, Sim.ff_c, Sim.pad_nil, Sim.pad_n, Sim.nones_0, Sim.nones_s, List.getElem?_cons_zero, List.getElem?_cons_succ, List.set_cons_zero, List.set_cons_succ, List.map_cons, List.map_nil, List.cons_append, List.nil_append, Option.map_some, List.length_cons, List.length_nil, Int.zero_add, Nat.zero_add, Nat.reduceAdd, Nat.reduceLeDiff, Nat.reduceMul, true_and, and_true, decide_eq_true_eq, decide_eq_false_iff_not, Bool.false_eq_true, Bool.true_eq_false, false_implies, true_implies, implies_true, eq_self, decide_true, decide_false, not_true_eq_false, not_false_eq_true, Bool.not_true, Bool.not_false, Int.reduceLT, Int.reduceLE, Int.reduceNeg, Int.reducePow, Int.reduceToNat]
  refine ⟨fun h => ?_, fun h => ⟨.inl trivial, by simp; omega, ?_⟩⟩
  · refine T_goIx (fun j ρ => ∃ (c : Int) (xs : List Int) (o : Option D), ρ = [some (.scr ns), some (.int k), some (.lst .sh (ms.map .int)), some (.int c), some (.lst .own (xs.map .int)), o, none, none] ∧ xs.length = j ∧ Drawn (ms.take j) xs) ⟨_, [], none, rfl, rfl, rfl, by simp⟩ ?_ ?_
    · rintro j d ρ hd ⟨c, xs, o, rfl, hj, hx⟩
      obtain ⟨m, hm', rfl⟩ : ∃ m, ms[j]? = some m ∧ d = .int m := by
        rw [List.getElem?_map] at hd
        obtain ⟨m, h1, h2⟩ := Option.map_eq_some_iff.mp hd
        exact ⟨m, h1, h2.symm⟩
      have hr := hm m (List.mem_of_getElem? hm')
      have hjl : j < ms.length := (List.getElem?_eq_some_iff.mp hm').1
      simp only [Sim.T_ok, Sim.T_fail, Sim.T_bind, Sim.T_pureO, Sim.EndQ_nxt, Sim.EndQ_ret, Sim.lasts_nil, Sim.T_call, Sim.T_name, Sim.T_frz, Sim.T_const, Sim.T_sh, Sim.T_op2, Sim.T_op1, Sim.T_test, Sim.T_not, Sim.T_andM, Sim.T_orM, Sim.T_ifM, Sim.T_bl, Sim.T_andV, Sim.T_orV, Sim.T_notV, Sim.T_peek, Sim.T_vP, Sim.T_opP, Sim.T_nilA, Sim.T_consA, Sim.T_nilP, Sim.T_consP, Sim.T_tup, Sim.T_lst, Sim.T_noO, Sim.T_someO, Sim.T_slice, Sim.T_callM, Sim.resL_cons, Sim.resL_nil', Sim.T_isi, Sim.T_nil, Sim.T_brk, Sim.T_cnt, Sim.SeqQ_nxt, Sim.SeqQ_brk, Sim.SeqQ_cnt, Sim.SeqQ_ret, Sim.T_seq, Sim.T_set, Sim.T_drop, Sim.T_ret, Sim.T_retN, Sim.T_retS, Sim.T_ite, Sim.T_asg, Sim.T_nameG, Sim.T_tupG, Sim.T_nilG, Sim.T_consG, Sim.T_aug, Sim.T_app, Sim.T_putD, Sim.T_newD, Sim.T_disp, Sim.T_iter, Sim.T_range1, Sim.T_range2, Sim.LoopQ_nxt, Sim.LoopQ_cnt, Sim.LoopQ_brk, Sim.LoopQ_ret, Sim.T_for, Sim.T_comp, Sim.T_yes, Sim.wipeR, Sim.T_rev, Sim.revD_lst, Sim.T_revR1, Sim.T_rg1, Sim.T_rg2, Sim.T_lstRg, Sim.T_tupRg, Sim.sumD_ints, Sim.ixDD_tup, Sim.ixDD_lst, Sim.ixDD_scr, Sim.ixDD_dct, Sim.atI_nat, Sim.atI_lit, Sim.lenD_tup, Sim.lenD_lst, Sim.lenD_scr, Sim.lenD_dct, Sim.addD_int, Sim.iaddD_int, Sim.subD_int, Sim.mulD_int, Sim.mulD_one, Sim.fdivD_int, Sim.modD_int, Sim.powD_int, Sim.addD_tup, Sim.addD_lst, Sim.negD_int, Sim.ltD_int, Sim.leD_int, Sim.gtD_int, Sim.geD_int, Sim.eqB_int, Sim.eqB_str, Sim.eqB_bl, Sim.eqB_non, Sim.eqD_of, Sim.neD_of, Sim.isD_non, Sim.isNotD_non, Sim.isN_non, Sim.isN_bl, Sim.isN_int, Sim.isN_str, Sim.isN_tup, Sim.isN_lst, Sim.frz_non, Sim.frz_bl, Sim.frz_int, Sim.frz_str, Sim.frz_tup, Sim.frz_lst, Sim.frz_dct, Sim.frz_scr, Sim.maxD_int, Sim.minD_int, Sim.absD_int, Sim.intD_int, Sim.tupleD_tup, Sim.tupleD_lst, Sim.listD_tup, Sim.listD_lst, Sim.listD_scr, Sim.itemsD_sh, Sim.itemsD_tup, Sim.itemsD_scr, Sim.isi_non, Sim.isi_bl, Sim.isi_int, Sim.isi_str, Sim.isi_tup, Sim.isi_lst, Sim.slice_tup, Sim.slice_lst, Sim.inDD_of, Sim.notInDD_of, Sim.inD_tup, Sim.inD_lst, Sim.inD_dct, Sim.cap, Sim.nat10, Sim.nat2, Nat.zero_le, Sim.ex_some, Sim.ex_some2, Sim.ex_if, Sim.ex_map, Sim.ex_eq, Sim.ex_bl, Sim.ex_int, Sim.ex_own, Sim.ex_lst, Sim.inr_at, Sim.inl_at, Sim.tt_c, Sim.ff_c, Sim.pad_nil, Sim.pad_n, Sim.nones_0, Sim.nones_s, List.getElem?_cons_zero, List.getElem?_cons_succ, List.set_cons_zero, List.set_cons_succ, List.map_cons, List.map_nil, List.cons_append, List.nil_append, Option.map_some, List.length_cons, List.length_nil, Int.zero_add, Nat.zero_add, Nat.reduceAdd, Nat.reduceLeDiff, Nat.reduceMul, true_and, and_true, decide_eq_true_eq, decide_eq_false_iff_not, Bool.false_eq_true, Bool.true_eq_false, false_implies, true_implies, implies_true, eq_self, decide_true, decide_false, not_true_eq_false, not_false_eq_true, Bool.not_true, Bool.not_false, Int.reduceLT, Int.reduceLE, Int.reduceNeg, Int.reducePow, Int.reduceToNat]
      refine ⟨hr.1, by simp; omega, hr, ?_⟩
      refine ⟨c / m, xs ++ [c % m], some (.int m), by simp, by simp [hj], ?_⟩
      subst hj
      exact hx.snoc hm' (Int.emod_nonneg _ (by omega)) (Int.emod_lt_of_pos _ hr.1)
    · rintro ρ ⟨c, xs, o, rfl, hj, hx⟩
      simp only [Sim.T_ok, Sim.T_fail, Sim.T_bind, Sim.T_pureO, Sim.EndQ_nxt, Sim.EndQ_ret, Sim.lasts_nil, Sim.T_call, Sim.T_name, Sim.T_frz, Sim.T_const, Sim.T_sh, Sim.T_op2, Sim.T_op1, Sim.T_test, Sim.T_not, Sim.T_andM, Sim.T_orM, Sim.T_ifM, Sim.T_bl, Sim.T_andV, Sim.T_orV, Sim.T_notV, Sim.T_peek, Sim.T_vP, Sim.T_opP, Sim.T_nilA, Sim.T_consA, Sim.T_nilP, Sim.T_consP, Sim.T_tup, Sim.T_lst, Sim.T_noO, Sim.T_someO, Sim.T_slice, Sim.T_callM, Sim.resL_cons, Sim.resL_nil', Sim.T_isi, Sim.T_nil, Sim.T_brk, Sim.T_cnt, Sim.SeqQ_nxt, Sim.SeqQ_brk, Sim.SeqQ_cnt, Sim.SeqQ_ret, Sim.T_seq, Sim.T_set, Sim.T_drop, Sim.T_ret, Sim.T_retN, Sim.T_retS, Sim.T_ite, Sim.T_asg, Sim.T_nameG, Sim.T_tupG, Sim.T_nilG, Sim.T_consG, Sim.T_aug, Sim.T_app, Sim.T_putD, Sim.T_newD, Sim.T_disp, Sim.T_iter, Sim.T_range1, Sim.T_range2, Sim.LoopQ_nxt, Sim.LoopQ_cnt, Sim.LoopQ_brk, Sim.LoopQ_ret, Sim.T_for, Sim.T_comp, Sim.T_yes, Sim.wipeR, Sim.T_rev, Sim.revD_lst, Sim.T_revR1, Sim.T_rg1, Sim.T_rg2, Sim.T_lstRg, Sim.T_tupRg, Sim.sumD_ints, Sim.ixDD_tup, Sim.ixDD_lst, Sim.ixDD_scr, Sim.ixDD_dct, Sim.atI_nat, Sim.atI_lit, Sim.lenD_tup, Sim.lenD_lst, Sim.lenD_scr, Sim.lenD_dct, Sim.addD_int, Sim.iaddD_int, Sim.subD_int, Sim.mulD_int, Sim.mulD_one, Sim.fdivD_int, Sim.modD_int, Sim.powD_int, Sim.addD_tup, Sim.addD_lst, Sim.negD_int, Sim.ltD_int, Sim.leD_int, Sim.gtD_int, Sim.geD_int, Sim.eqB_int, Sim.eqB_str, Sim.eqB_bl, Sim.eqB_non, Sim.eqD_of, Sim.neD_of, Sim.isD_non, Sim.isNotD_non, Sim.isN_non, Sim.isN_bl, Sim.isN_int, Sim.isN_str, Sim.isN_tup, Sim.isN_lst, Sim.frz_non, Sim.frz_bl, Sim.frz_int, Sim.frz_str, Sim.frz_tup, Sim.frz_lst, Sim.frz_dct, Sim.frz_scr, Sim.maxD_int, Sim.minD_int, Sim.absD_int, Sim.intD_int, Sim.tupleD_tup, Sim.tupleD_lst, Sim.listD_tup, Sim.listD_lst, Sim.listD_scr, Sim.itemsD_sh, Sim.itemsD_tup, Sim.itemsD_scr, Sim.isi_non, Sim.isi_bl, Sim.isi_int, Sim.isi_str, Sim.isi_tup, Sim.isi_lst, Sim.slice_tup, Sim.slice_lst, Sim.inDD_of, Sim.notInDD_of, Sim.inD_tup, Sim.inD_lst, Sim.inD_dct, Sim.cap, Sim.nat10, Sim.nat2, Nat.zero_le, Sim.ex_some, Sim.ex_some2, Sim.ex_if, Sim.ex_map, Sim.ex_eq, Sim.ex_bl, Sim.ex_int, Sim.ex_own, Sim.ex_lst, Sim.inr_at, Sim.inl_at, Sim.tt_c, Sim.ff_c, Sim.pad_nil, Sim.pad_n, Sim.nones_0, Sim.nones_s, List.getElem?_cons_zero, List.getElem?_cons_succ, List.set_cons_zero, List.set_cons_succ, List.map_cons, List.map_nil, List.cons_append, List.nil_append, Option.map_some, List.length_cons, List.length_nil, Int.zero_add, Nat.zero_add, Nat.reduceAdd, Nat.reduceLeDiff, Nat.reduceMul, true_and, and_true, decide_eq_true_eq, decide_eq_false_iff_not, Bool.false_eq_true, Bool.true_eq_false, false_implies, true_implies, implies_true, eq_self, decide_true, decide_false, not_true_eq_false, not_false_eq_true, Bool.not_true, Bool.not_false, Int.reduceLT, Int.reduceLE, Int.reduceNeg, Int.reducePow, Int.reduceToNat]
      refine ⟨xs, rfl, ?_⟩
      simpa using hx
  · simp only [List.length_map]
    refine T_goR (fun j ρ => ∃ (c : Int) (xs : List Int) (o : Option D), ρ = [some (.scr ns), some (.int k), some (.lst .sh (ms.map .int)), some (.int c0), some (.lst .own (xs.map .int)), none, some (.int c), o] ∧ xs.length = j ∧ Drawn (ms.take j) xs) ⟨_, [], none, rfl, rfl, rfl, by simp⟩ ?_ ?_
    · rintro j ρ hj ⟨c, xs, o, rfl, hl', hx⟩
      obtain ⟨m, hm'⟩ : ∃ m, ms[j]? = some m := ⟨_, List.getElem?_eq_getElem hj⟩
      have hr := hm m (List.mem_of_getElem? hm')
      simp only [Sim.T_ok, Sim.T_fail, Sim.T_bind, Sim.T_pureO, Sim.EndQ_nxt, Sim.EndQ_ret, Sim.lasts_nil, Sim.T_call, Sim.T_name, Sim.T_frz, Sim.T_const, Sim.T_sh, Sim.T_op2, Sim.T_op1, Sim.T_test, Sim.T_not, Sim.T_andM, Sim.T_orM, Sim.T_ifM, Sim.T_bl, Sim.T_andV, Sim.T_orV, Sim.T_notV, Sim.T_peek, Sim.T_vP, Sim.T_opP, Sim.T_nilA, Sim.T_consA, Sim.T_nilP, Sim.T_consP, Sim.T_tup, Sim.T_lst, Sim.T_noO, Sim.T_someO, Sim.T_slice, Sim.T_callM, Sim.resL_cons, Sim.resL_nil', Sim.T_isi, Sim.T_nil, Sim.T_brk, Sim.T_cnt, Sim.SeqQ_nxt, Sim.SeqQ_brk, Sim.SeqQ_cnt, Sim.SeqQ_ret, Sim.T_seq, Sim.T_set, Sim.T_drop, Sim.T_ret, Sim.T_retN, Sim.T_retS, Sim.T_ite, Sim.T_asg, Sim.T_nameG, Sim.T_tupG, Sim.T_nilG, Sim.T_consG, Sim.T_aug, Sim.T_app, Sim.T_putD, Sim.T_newD, Sim.T_disp, Sim.T_iter, Sim.T_range1, Sim.T_range2, Sim.LoopQ_nxt, Sim.LoopQ_cnt, Sim.LoopQ_brk, Sim.LoopQ_ret, Sim.T_for, Sim.T_comp, Sim.T_yes, Sim.wipeR, Sim.T_rev, Sim.revD_lst, Sim.T_revR1, Sim.T_rg1, Sim.T_rg2, Sim.T_lstRg, Sim.T_tupRg, Sim.sumD_ints, Sim.ixDD_tup, Sim.ixDD_lst, Sim.ixDD_scr, Sim.ixDD_dct, Sim.atI_nat, Sim.atI_lit, Sim.lenD_tup, Sim.lenD_lst, Sim.lenD_scr, Sim.lenD_dct, Sim.addD_int, Sim.iaddD_int, Sim.subD_int, Sim.mulD_int, Sim.mulD_one, Sim.fdivD_int, Sim.modD_int, Sim.powD_int, Sim.addD_tup, Sim.addD_lst, Sim.negD_int, Sim.ltD_int, Sim.leD_int, Sim.gtD_int, Sim.geD_int, Sim.eqB_int, Sim.eqB_str, Sim.eqB_bl, Sim.eqB_non, Sim.eqD_of, Sim.neD_of, Sim.isD_non, Sim.isNotD_non, Sim.isN_non, Sim.isN_bl, Sim.isN_int, Sim.isN_str, Sim.isN_tup, Sim.isN_lst, Sim.frz_non, Sim.frz_bl, Sim.frz_int, Sim.frz_str, Sim.frz_tup, Sim.frz_lst, Sim.frz_dct, Sim.frz_scr, Sim.maxD_int, Sim.minD_int, Sim.absD_int, Sim.intD_int, Sim.tupleD_tup, Sim.tupleD_lst, Sim.listD_tup, Sim.listD_lst, Sim.listD_scr, Sim.itemsD_sh, Sim.itemsD_tup, Sim.itemsD_scr, Sim.isi_non, Sim.isi_bl, Sim.isi_int, Sim.isi_str, Sim.isi_tup, Sim.isi_lst, Sim.slice_tup, Sim.slice_lst, Sim.inDD_of, Sim.notInDD_of, Sim.inD_tup, Sim.inD_lst, Sim.inD_dct, Sim.cap, Sim.nat10, Sim.nat2, Nat.zero_le, Sim.ex_some, Sim.ex_some2, Sim.ex_if, Sim.ex_map, Sim.ex_eq, Sim.ex_bl, Sim.ex_int, Sim.ex_own, Sim.ex_lst, Sim.inr_at, Sim.inl_at, Sim.tt_c, Sim.ff_c, Sim.pad_nil, Sim.pad_n, Sim.nones_0, Sim.nones_s, List.getElem?_cons_zero, List.getElem?_cons_succ, List.set_cons_zero, List.set_cons_succ, List.map_cons, List.map_nil, List.cons_append, List.nil_append, Option.map_some, List.length_cons, List.length_nil, Int.zero_add, Nat.zero_add, Nat.reduceAdd, Nat.reduceLeDiff, Nat.reduceMul, true_and, and_true, decide_eq_true_eq, decide_eq_false_iff_not, Bool.false_eq_true, Bool.true_eq_false, false_implies, true_implies, implies_true, eq_self, decide_true, decide_false, not_true_eq_false, not_false_eq_true, Bool.not_true, Bool.not_false, Int.reduceLT, Int.reduceLE, Int.reduceNeg, Int.reducePow, Int.reduceToNat, List.getElem?_map, hm']
      refine ⟨.inr trivial, .inr trivial, hr.1, by simp; omega, ?_⟩
      refine ⟨_, xs ++ [_], some (D.int j), by rw [List.map_append]; rfl, by simp [hl'], ?_⟩
      subst hl'
      exact hx.snoc hm' (Int.emod_nonneg _ (by omega)) (Int.emod_lt_of_pos _ hr.1)
    · rintro ρ ⟨c, xs, o, rfl, hj, hx⟩
      simp only [Sim.T_ok, Sim.T_fail, Sim.T_bind, Sim.T_pureO, Sim.EndQ_nxt, Sim.EndQ_ret, Sim.lasts_nil, Sim.T_call, Sim.T_name, Sim.T_frz, Sim.T_const, Sim.T_sh, Sim.T_op2, Sim.T_op1, Sim.T_test, Sim.T_not, Sim.T_andM, Sim.T_orM, Sim.T_ifM, Sim.T_bl, Sim.T_andV, Sim.T_orV, Sim.T_notV, Sim.T_peek, Sim.T_vP, Sim.T_opP, Sim.T_nilA, Sim.T_consA, Sim.T_nilP, Sim.T_consP, Sim.T_tup, Sim.T_lst, Sim.T_noO, Sim.T_someO, Sim.T_slice, Sim.T_callM, Sim.resL_cons, Sim.resL_nil', Sim.T_isi, Sim.T_nil, Sim.T_brk, Sim.T_cnt, Sim.SeqQ_nxt, Sim.SeqQ_brk, Sim.SeqQ_cnt, Sim.SeqQ_ret, Sim.T_seq, Sim.T_set, Sim.T_drop, Sim.T_ret, Sim.T_retN, Sim.T_retS, Sim.T_ite, Sim.T_asg, Sim.T_nameG, Sim.T_tupG, Sim.T_nilG, Sim.T_consG, Sim.T_aug, Sim.T_app, Sim.T_putD, Sim.T_newD, Sim.T_disp, Sim.T_iter, Sim.T_range1, Sim.T_range2, Sim.LoopQ_nxt, Sim.LoopQ_cnt, Sim.LoopQ_brk, Sim.LoopQ_ret, Sim.T_for, Sim.T_comp, Sim.T_yes, Sim.wipeR, Sim.T_rev, Sim.revD_lst, Sim.T_revR1, Sim.T_rg1, Sim.T_rg2, Sim.T_lstRg, Sim.T_tupRg, Sim.sumD_ints, Sim.ixDD_tup, Sim.ixDD_lst, Sim.ixDD_scr, Sim.ixDD_dct, Sim.atI_nat, Sim.atI_lit, Sim.lenD_tup, Sim.lenD_lst, Sim.lenD_scr, Sim.lenD_dct, Sim.addD_int, Sim.iaddD_int, Sim.subD_int, Sim.mulD_int, Sim.mulD_one, Sim.fdivD_int, Sim.modD_int, Sim.powD_int, Sim.addD_tup, Sim.addD_lst, Sim.negD_int, Sim.ltD_int, Sim.leD_int, Sim.gtD_int, Sim.geD_int, Sim.eqB_int, Sim.eqB_str, Sim.eqB_bl, Sim.eqB_non, Sim.eqD_of, Sim.neD_of, Sim.isD_non, Sim.isNotD_non, Sim.isN_non, Sim.isN_bl, Sim.isN_int, Sim.isN_str, Sim.isN_tup, Sim.isN_lst, Sim.frz_non, Sim.frz_bl, Sim.frz_int, Sim.frz_str, Sim.frz_tup, Sim.frz_lst, Sim.frz_dct, Sim.frz_scr, Sim.maxD_int, Sim.minD_int, Sim.absD_int, Sim.intD_int, Sim.tupleD_tup, Sim.tupleD_lst, Sim.listD_tup, Sim.listD_lst, Sim.listD_scr, Sim.itemsD_sh, Sim.itemsD_tup, Sim.itemsD_scr, Sim.isi_non, Sim.isi_bl, Sim.isi_int, Sim.isi_str, Sim.isi_tup, Sim.isi_lst, Sim.slice_tup, Sim.slice_lst, Sim.inDD_of, Sim.notInDD_of, Sim.inD_tup, Sim.inD_lst, Sim.inD_dct, Sim.cap, Sim.nat10, Sim.nat2, Nat.zero_le, Sim.ex_some, Sim.ex_some2, Sim.ex_if, Sim.ex_map, Sim.ex_eq, Sim.ex_bl, Sim.ex_int, Sim.ex_own, Sim.ex_lst, Sim.inr_at, Sim.inl_at, Sim.tt_c, Sim.ff_c, Sim.pad_nil, Sim.pad_n, Sim.nones_0, Sim.nones_s, List.getElem?_cons_zero, List.getElem?_cons_succ, List.set_cons_zero, List.set_cons_succ, List.map_cons, List.map_nil, List.cons_append, List.nil_append, Option.map_some, List.length_cons, List.length_nil, Int.zero_add, Nat.zero_add, Nat.reduceAdd, Nat.reduceLeDiff, Nat.reduceMul, true_and, and_true, decide_eq_true_eq, decide_eq_false_iff_not, Bool.false_eq_true, Bool.true_eq_false, false_implies, true_implies, implies_true, eq_self, decide_true, decide_false, not_true_eq_false, not_false_eq_true, Bool.not_true, Bool.not_false, Int.reduceLT, Int.reduceLE, Int.reduceNeg, Int.reducePow, Int.reduceToNat]
      refine ⟨xs, rfl, ?_⟩
      simpa using hx
end Law

namespace Law
open PySem PySem.Spec PyProof.Rows L2 Sim
abbrev IsTrue : D → List D → Prop := fun d fs => fs = [] ∧ d = .bl true
theorem alike_seq {R : Fs} {ds : List D} (hl : ds.length ≤ 1000000) (h : ∀ e ∈ ds, FT R.f__law_alike [e, e] IsTrue) (mk : List D → D) (hmk : mk ds = .tup ds ∨ mk ds = .lst .sh ds) : FT (defF 1 [] (b__law_alike R)) [mk ds, mk ds] IsTrue := by
  have go : ∀ (d : D), lenD [d] = some (.int ds.length) → (∀ i : Int, ixDD d (.int i) = atI ds i) → T (seqM (Sim.forM (range1 (consA (callM lenD (consP (vP (nameM 1)) nilP)) nilA)) (nameG 2)
  (iteM (notM (testM (shM (callF R.f__law_alike (consA (opP ixDD (vP (nameM 0)) (vP (nameM 2))) (consA (opP ixDD (vP (nameM 1)) (vP (nameM 2))) nilA))))))
  (retM (constM (.bl false)))
  nilM))
  (retM (constM (.bl true))) [some d, some d, none]) (EndQ [] IsTrue) := by
    intro d h1 h2
    simp only [Sim.T_ok, Sim.T_fail, Sim.T_bind, Sim.T_pureO, Sim.EndQ_nxt, Sim.EndQ_ret, Sim.lasts_nil, Sim.T_call, Sim.T_name, Sim.T_frz, Sim.T_const, Sim.T_sh, Sim.T_op2, Sim.T_op1, Sim.T_test, Sim.T_not, Sim.T_andM, Sim.T_orM, Sim.T_ifM, Sim.T_bl, Sim.T_andV, Sim.T_orV, Sim.T_notV, Sim.T_peek, Sim.T_vP, Sim.T_opP, Sim.T_nilA, Sim.T_consA, Sim.T_nilP, Sim.T_consP, Sim.T_tup, Sim.T_lst, Sim.T_noO, Sim.T_someO, Sim.T_slice, Sim.T_callM, Sim.resL_cons, Sim.resL_nil', Sim.T_isi, Sim.T_nil, Sim.T_brk, Sim.T_cnt, Sim.SeqQ_nxt, Sim.SeqQ_brk, Sim.SeqQ_cnt, Sim.SeqQ_ret, Sim.T_seq, Sim.T_set, Sim.T_drop, Sim.T_ret, Sim.T_retN, Sim.T_retS, Sim.T_asg, Sim.T_nameG, Sim.T_tupG, Sim.T_nilG, Sim.T_consG, Sim.T_aug, Sim.T_app, Sim.T_putD, Sim.T_newD, Sim.T_disp, Sim.T_iter, Sim.T_range1, Sim.T_range2, Sim.LoopQ_nxt, Sim.LoopQ_cnt, Sim.LoopQ_brk, Sim.LoopQ_ret, Sim.T_for, Sim.T_comp, Sim.T_yes, Sim.wipeR, Sim.T_rev, Sim.revD_lst, Sim.T_revR1, Sim.T_rg1, Sim.T_rg2, Sim.T_lstRg, Sim.T_tupRg, Sim.sumD_ints, Sim.ixDD_tup, Sim.ixDD_lst, Sim.ixDD_scr, Sim.ixDD_dct, Sim.atI_nat, Sim.atI_lit, Sim.lenD_tup, Sim.lenD_lst, Sim.lenD_scr, Sim.lenD_dct, Sim.addD_int, Sim.iaddD_int, Sim.subD_int, Sim.mulD_int, Sim.mulD_one, Sim.fdivD_int, Sim.modD_int, Sim.powD_int, Sim.addD_tup, Sim.addD_lst, Sim.negD_int, Sim.ltD_int, Sim.leD_int, Sim.gtD_int, Sim.geD_int, Sim.eqB_int, Sim.eqB_str, Sim.eqB_bl, Sim.eqB_non, Sim.eqD_of, Sim.neD_of, Sim.isD_non, Sim.isNotD_non, Sim.isN_non, Sim.isN_bl, Sim.isN_int, Sim.isN_str, Sim.isN_tup, Sim.isN_lst, Sim.frz_non, Sim.frz_bl, Sim.frz_int, Sim.frz_str, Sim.frz_tup, Sim.frz_lst, Sim.frz_dct, Sim.frz_scr, Sim.maxD_int, Sim.minD_int, Sim.absD_int, Sim.intD_int, Sim.tupleD_tup, Sim.tupleD_lst, Sim.listD_tup, Sim.listD_lst, Sim.listD_scr, Sim.itemsD_sh, Sim.itemsD_tup, Sim.itemsD_scr, Sim.isi_non, Sim.isi_bl, Sim.isi_int, Sim.isi_str, Sim.isi_tup, Sim.isi_lst, Sim.slice_tup, Sim.slice_lst, Sim.inDD_of, Sim.notInDD_of, Sim.inD_tup, Sim.inD_lst, Sim.inD_dct, Sim.cap, Sim.nat10, Sim.nat2, Nat.zero_le, Sim.ex_some, Sim.ex_some2, Sim.ex_if, Sim.ex_map, Sim.ex_eq, Sim.ex_bl, Sim.ex_int, Sim.ex_own, Sim.ex_lst, Sim.inr_at, Sim.inl_at, Sim.tt_c, Sim.ff_c, Sim.pad_nil, Sim.pad_n, Sim.nones_0, Sim.nones_s, List.getElem?_cons_zero, List.getElem?_cons_succ, List.set_cons_zero, List.set_cons_succ, List.map_cons, List.map_nil, List.cons_append, List.nil_append, Option.map_some, List.length_cons, List.length_nil, Int.zero_add, Nat.zero_add, Nat.reduceAdd, Nat.reduceLeDiff, Nat.reduceMul, true_and, and_true, decide_eq_true_eq, decide_eq_false_iff_not, Bool.false_eq_true, Bool.true_eq_false, false_implies, true_implies, implies_true, eq_self, decide_true, decide_false, not_true_eq_false, not_false_eq_true, Bool.not_true, Bool.not_false, Int.reduceLT, Int.reduceLE, Int.reduceNeg, Int.reducePow, Int.reduceToNat, h1]
    refine ⟨by omega, ?_⟩
    refine T_goR (fun j ρ => ∃ o, ρ = [some d, some d, o]) ⟨_, rfl⟩ ?_ ?_
    · rintro j ρ hj ⟨o, rfl⟩
      have hj : j < ds.length := by omega
      have hg : ds[j]? = some ds[j] := List.getElem?_eq_getElem hj
      simp only [Sim.T_ok, Sim.T_fail, Sim.T_bind, Sim.T_pureO, Sim.EndQ_nxt, Sim.EndQ_ret, Sim.lasts_nil, Sim.T_call, Sim.T_name, Sim.T_frz, Sim.T_const, Sim.T_sh, Sim.T_op2, Sim.T_op1, Sim.T_test, Sim.T_not, Sim.T_andM, Sim.T_orM, Sim.T_ifM, Sim.T_bl, Sim.T_andV, Sim.T_orV, Sim.T_notV, Sim.T_peek, Sim.T_vP, Sim.T_opP, Sim.T_nilA, Sim.T_consA, Sim.T_nilP, Sim.T_consP, Sim.T_tup, Sim.T_lst, Sim.T_noO, Sim.T_someO, Sim.T_slice, Sim.T_callM, Sim.resL_cons, Sim.resL_nil', Sim.T_isi, Sim.T_nil, Sim.T_brk, Sim.T_cnt, Sim.SeqQ_nxt, Sim.SeqQ_brk, Sim.SeqQ_cnt, Sim.SeqQ_ret, Sim.T_seq, Sim.T_set, Sim.T_drop, Sim.T_ret, Sim.T_retN, Sim.T_retS, Sim.T_ite, Sim.T_asg, Sim.T_nameG, Sim.T_tupG, Sim.T_nilG, Sim.T_consG, Sim.T_aug, Sim.T_app, Sim.T_putD, Sim.T_newD, Sim.T_disp, Sim.T_iter, Sim.T_range1, Sim.T_range2, Sim.LoopQ_nxt, Sim.LoopQ_cnt, Sim.LoopQ_brk, Sim.LoopQ_ret, Sim.T_for, Sim.T_comp, Sim.T_yes, Sim.wipeR, Sim.T_rev, Sim.revD_lst, Sim.T_revR1, Sim.T_rg1, Sim.T_rg2, Sim.T_lstRg, Sim.T_tupRg, Sim.sumD_ints, Sim.ixDD_tup, Sim.ixDD_lst, Sim.ixDD_scr, Sim.ixDD_dct, Sim.atI_nat, Sim.atI_lit, Sim.lenD_tup, Sim.lenD_lst, Sim.lenD_scr, Sim.lenD_dct, Sim.addD_int, Sim.iaddD_int, Sim.subD_int, Sim.mulD_int, Sim.mulD_one, Sim.fdivD_int, Sim.modD_int, Sim.powD_int, Sim.addD_tup, Sim.addD_lst, Sim.negD_int, Sim.ltD_int, Sim.leD_int, Sim.gtD_int, Sim.geD_int, Sim.eqB_int, Sim.eqB_str, Sim.eqB_bl, Sim.eqB_non, Sim.eqD_of, Sim.neD_of, Sim.isD_non, Sim.isNotD_non, Sim.isN_non, Sim.isN_bl, Sim.isN_int, Sim.isN_str, Sim.isN_tup, Sim.isN_lst, Sim.frz_non, Sim.frz_bl, Sim.frz_int, Sim.frz_str, Sim.frz_tup, Sim.frz_lst, Sim.frz_dct, Sim.frz_scr, Sim.maxD_int, Sim.minD_int, Sim.absD_int, Sim.intD_int, Sim.tupleD_tup, Sim.tupleD_lst, Sim.listD_tup, Sim.listD_lst, Sim.listD_scr, Sim.itemsD_sh, Sim.itemsD_tup, Sim.itemsD_scr, Sim.isi_non, Sim.isi_bl, Sim.isi_int, Sim.isi_str, Sim.isi_tup, Sim.isi_lst, Sim.slice_tup, Sim.slice_lst, Sim.inDD_of, Sim.notInDD_of, Sim.inD_tup, Sim.inD_lst, Sim.inD_dct, Sim.cap, Sim.nat10, Sim.nat2, Nat.zero_le, Sim.ex_some, Sim.ex_some2, Sim.ex_if, Sim.ex_map, Sim.ex_eq, Sim.ex_bl, Sim.ex_int, Sim.ex_own, Sim.ex_lst, Sim.inr_at, Sim.inl_at, Sim.tt_c, Sim.ff_c, Sim.pad_nil, Sim.pad_n, Sim.nones_0, Sim.nones_s, List.getElem?_cons_zero, List.getElem?_cons_succ, List.set_cons_zero, List.set_cons_succ, List.map_cons, List.map_nil, List.cons_append, List.nil_append, Option.map_some, List.length_cons, List.length_nil, Int.zero_add, Nat.zero_add, Nat.reduceAdd, Nat.reduceLeDiff, Nat.reduceMul, true_and, and_true, decide_eq_true_eq, decide_eq_false_iff_not, Bool.false_eq_true, Bool.true_eq_false, false_implies, true_implies, implies_true, eq_self, decide_true, decide_false, not_true_eq_false, not_false_eq_true, Bool.not_true, Bool.not_false, Int.reduceLT, Int.reduceLE, Int.reduceNeg, Int.reducePow, Int.reduceToNat, h2, hg]
      refine FT_mono (h ds[j] (List.getElem_mem hj)) ?_
      rintro _ _ ⟨rfl, rfl⟩
      simp only [Sim.T_ok, Sim.T_fail, Sim.T_bind, Sim.T_pureO, Sim.EndQ_nxt, Sim.EndQ_ret, Sim.lasts_nil, Sim.T_call, Sim.T_name, Sim.T_frz, Sim.T_const, Sim.T_sh, Sim.T_op2, Sim.T_op1, Sim.T_test, Sim.T_not, Sim.T_andM, Sim.T_orM, Sim.T_ifM, Sim.T_bl, Sim.T_andV, Sim.T_orV, Sim.T_notV, Sim.T_peek, Sim.T_vP, Sim.T_opP, Sim.T_nilA, Sim.T_consA, Sim.T_nilP, Sim.T_consP, Sim.T_tup, Sim.T_lst, Sim.T_noO, Sim.T_someO, Sim.T_slice, Sim.T_callM, Sim.resL_cons, Sim.resL_nil', Sim.T_isi, Sim.T_nil, Sim.T_brk, Sim.T_cnt, Sim.SeqQ_nxt, Sim.SeqQ_brk, Sim.SeqQ_cnt, Sim.SeqQ_ret, Sim.T_seq, Sim.T_set, Sim.T_drop, Sim.T_ret, Sim.T_retN, Sim.T_retS, Sim.T_ite, Sim.T_asg, Sim.T_nameG, Sim.T_tupG, Sim.T_nilG, Sim.T_consG, Sim.T_aug, Sim.T_app, Sim.T_putD, Sim.T_newD, Sim.T_disp, Sim.T_iter, Sim.T_range1, Sim.T_range2, Sim.LoopQ_nxt, Sim.LoopQ_cnt, Sim.LoopQ_brk, Sim.LoopQ_ret, Sim.T_for, Sim.T_comp, Sim.T_yes, Sim.wipeR, Sim.T_rev, Sim.revD_lst, Sim.T_revR1, Sim.T_rg1, Sim.T_rg2, Sim.T_lstRg, Sim.T_tupRg, Sim.sumD_ints, Sim.ixDD_tup, Sim.ixDD_lst, Sim.ixDD_scr, Sim.ixDD_dct, Sim.atI_nat, Sim.atI_lit, Sim.lenD_tup, Sim.lenD_lst, Sim.lenD_scr, Sim.lenD_dct, Sim.addD_int, Sim.iaddD_int, Sim.subD_int, Sim.mulD_int, Sim.mulD_one, Sim.fdivD_int, Sim.modD_int, Sim.powD_int, Sim.addD_tup, Sim.addD_lst, Sim.negD_int, Sim.ltD_int, Sim.leD_int, Sim.gtD_int, Sim.geD_int, Sim.eqB_int, Sim.eqB_str, Sim.eqB_bl, Sim.eqB_non, Sim.eqD_of, Sim.neD_of, Sim.isD_non, Sim.isNotD_non, Sim.isN_non, Sim.isN_bl, Sim.isN_int, Sim.isN_str, Sim.isN_tup, Sim.isN_lst, Sim.frz_non, Sim.frz_bl, Sim.frz_int, Sim.frz_str, Sim.frz_tup, Sim.frz_lst, Sim.frz_dct, Sim.frz_scr, Sim.maxD_int, Sim.minD_int, Sim.absD_int, Sim.intD_int, Sim.tupleD_tup, Sim.tupleD_lst, Sim.listD_tup, Sim.listD_lst, Sim.listD_scr, Sim.itemsD_sh, Sim.itemsD_tup, Sim.itemsD_scr, Sim.isi_non, Sim.isi_bl, Sim.isi_int, Sim.isi_str, Sim.isi_tup, Sim.isi_lst, Sim.slice_tup, Sim.slice_lst, Sim.inDD_of, Sim.notInDD_of, Sim.inD_tup, Sim.inD_lst, Sim.inD_dct, Sim.cap, Sim.nat10, Sim.nat2, Nat.zero_le, Sim.ex_some, Sim.ex_some2, Sim.ex_if, Sim.ex_map, Sim.ex_eq, Sim.ex_bl, Sim.ex_int, Sim.ex_own, Sim.ex_lst, Sim.inr_at, Sim.inl_at, Sim.tt_c, Sim.ff_c, Sim.pad_nil, Sim.pad_n, Sim.nones_0, Sim.nones_s, List.getElem?_cons_zero, List.getElem?_cons_succ, List.set_cons_zero, List.set_cons_succ, List.map_cons, List.map_nil, List.cons_append, List.nil_append, Option.map_some, List.length_cons, List.length_nil, Int.zero_add, Nat.zero_add, Nat.reduceAdd, Nat.reduceLeDiff, Nat.reduceMul, true_and, and_true, decide_eq_true_eq, decide_eq_false_iff_not, Bool.false_eq_true, Bool.true_eq_false, false_implies, true_implies, implies_true, eq_self, decide_true, decide_false, not_true_eq_false, not_false_eq_true, Bool.not_true, Bool.not_false, Int.reduceLT, Int.reduceLE, Int.reduceNeg, Int.reducePow, Int.reduceToNat]
      exact ⟨_, rfl⟩
    · rintro ρ ⟨o, rfl⟩
      simp only [Sim.T_ok, Sim.T_fail, Sim.T_bind, Sim.T_pureO, Sim.EndQ_nxt, Sim.EndQ_ret, Sim.lasts_nil, Sim.T_call, Sim.T_name, Sim.T_frz, Sim.T_const, Sim.T_sh, Sim.T_op2, Sim.T_op1, Sim.T_test, Sim.T_not, Sim.T_andM, Sim.T_orM, Sim.T_ifM, Sim.T_bl, Sim.T_andV, Sim.T_orV, Sim.T_notV, Sim.T_peek, Sim.T_vP, Sim.T_opP, Sim.T_nilA, Sim.T_consA, Sim.T_nilP, Sim.T_consP, Sim.T_tup, Sim.T_lst, Sim.T_noO, Sim.T_someO, Sim.T_slice, Sim.T_callM, Sim.resL_cons, Sim.resL_nil', Sim.T_isi, Sim.T_nil, Sim.T_brk, Sim.T_cnt, Sim.SeqQ_nxt, Sim.SeqQ_brk, Sim.SeqQ_cnt, Sim.SeqQ_ret, Sim.T_seq, Sim.T_set, Sim.T_drop, Sim.T_ret, Sim.T_retN, Sim.T_retS, Sim.T_ite, Sim.T_asg, Sim.T_nameG, Sim.T_tupG, Sim.T_nilG, Sim.T_consG, Sim.T_aug, Sim.T_app, Sim.T_putD, Sim.T_newD, Sim.T_disp, Sim.T_iter, Sim.T_range1, Sim.T_range2, Sim.LoopQ_nxt, Sim.LoopQ_cnt, Sim.LoopQ_brk, Sim.LoopQ_ret, Sim.T_for, Sim.T_comp, Sim.T_yes, Sim.wipeR, Sim.T_rev, Sim.revD_lst, Sim.T_revR1, Sim.T_rg1, Sim.T_rg2, Sim.T_lstRg, Sim.T_tupRg, Sim.sumD_ints, Sim.ixDD_tup, Sim.ixDD_lst, Sim.ixDD_scr, Sim.ixDD_dct, Sim.atI_nat, Sim.atI_lit, Sim.lenD_tup, Sim.lenD_lst, Sim.lenD_scr, Sim.lenD_dct, Sim.addD_int, Sim.iaddD_int, Sim.subD_int, Sim.mulD_int, Sim.mulD_one, Sim.fdivD_int, Sim.modD_int, Sim.powD_int, Sim.addD_tup, Sim.addD_lst, Sim.negD_int, Sim.ltD_int, Sim.leD_int, Sim.gtD_int, Sim.geD_int, Sim.eqB_int, Sim.eqB_str, Sim.eqB_bl, Sim.eqB_non, Sim.eqD_of, Sim.neD_of, Sim.isD_non, Sim.isNotD_non, Sim.isN_non, Sim.isN_bl, Sim.isN_int, Sim.isN_str, Sim.isN_tup, Sim.isN_lst, Sim.frz_non, Sim.frz_bl, Sim.frz_int, Sim.frz_str, Sim.frz_tup, Sim.frz_lst, Sim.frz_dct, Sim.frz_scr, Sim.maxD_int, Sim.minD_int, Sim.absD_int, Sim.intD_int, Sim.tupleD_tup, Sim.tupleD_lst, Sim.listD_tup, Sim.listD_lst, Sim.listD_scr, Sim.itemsD_sh, Sim.itemsD_tup, Sim.itemsD_scr, Sim.isi_non, Sim.isi_bl, Sim.isi_int, Sim.isi_str, Sim.isi_tup, Sim.isi_lst, Sim.slice_tup, Sim.slice_lst, Sim.inDD_of, Sim.notInDD_of, Sim.inD_tup, Sim.inD_lst, Sim.inD_dct, Sim.cap, Sim.nat10, Sim.nat2, Nat.zero_le, Sim.ex_some, Sim.ex_some2, Sim.ex_if, Sim.ex_map, Sim.ex_eq, Sim.ex_bl, Sim.ex_int, Sim.ex_own, Sim.ex_lst, Sim.inr_at, Sim.inl_at, Sim.tt_c, Sim.ff_c, Sim.pad_nil, Sim.pad_n, Sim.nones_0, Sim.nones_s, List.getElem?_cons_zero, List.getElem?_cons_succ, List.set_cons_zero, List.set_cons_succ, List.map_cons, List.map_nil, List.cons_append, List.nil_append, Option.map_some, List.length_cons, List.length_nil, Int.zero_add, Nat.zero_add, Nat.reduceAdd, Nat.reduceLeDiff, Nat.reduceMul, true_and, and_true, decide_eq_true_eq, decide_eq_false_iff_not, Bool.false_eq_true, Bool.true_eq_false, false_implies, true_implies, implies_true, eq_self, decide_true, decide_false, not_true_eq_false, not_false_eq_true, Bool.not_true, Bool.not_false, Int.reduceLT, Int.reduceLE, Int.reduceNeg, Int.reducePow, Int.reduceToNat]
      exact ⟨rfl, rfl⟩
  rcases hmk with e | e <;> rw [e]
  · refine FT_def ?_
    have := go (.tup ds) rfl (fun _ => rfl)
    simp only [Sim.T_ok, Sim.T_fail, Sim.T_bind, Sim.T_pureO, Sim.EndQ_nxt, Sim.EndQ_ret, Sim.lasts_nil, Sim.T_call, Sim.T_name, Sim.T_frz, Sim.T_const, Sim.T_sh, Sim.T_op2, Sim.T_op1, Sim.T_test, Sim.T_not, Sim.T_andM, Sim.T_orM, Sim.T_ifM, Sim.T_bl, Sim.T_andV, Sim.T_orV, Sim.T_notV, Sim.T_peek, Sim.T_vP, Sim.T_opP, Sim.T_nilA, Sim.T_consA, Sim.T_nilP, Sim.T_consP, Sim.T_tup, Sim.T_lst, Sim.T_noO, Sim.T_someO, Sim.T_slice, Sim.T_callM, Sim.resL_cons, Sim.resL_nil', Sim.T_isi, Sim.T_nil, Sim.T_brk, Sim.T_cnt, Sim.SeqQ_nxt, Sim.SeqQ_brk, Sim.SeqQ_cnt, Sim.SeqQ_ret, Sim.T_seq, Sim.T_set, Sim.T_drop, Sim.T_ret, Sim.T_retN, Sim.T_retS, Sim.T_ite, Sim.T_asg, Sim.T_nameG, Sim.T_tupG, Sim.T_nilG, Sim.T_consG, Sim.T_aug, Sim.T_app, Sim.T_putD, Sim.T_newD, Sim.T_disp, Sim.T_iter, Sim.T_range1, Sim.T_range2, Sim.LoopQ_nxt, Sim.LoopQ_cnt, Sim.LoopQ_brk, Sim.LoopQ_ret, Sim.T_for, Sim.T_comp, Sim.T_yes, Sim.wipeR, Sim.T_rev, Sim.revD_lst, Sim.T_revR1, Sim.T_rg1, Sim.T_rg2, Sim.T_lstRg, Sim.T_tupRg, Sim.sumD_ints, Sim.ixDD_tup, Sim.ixDD_lst, Sim.ixDD_scr, Sim.ixDD_dct, Sim.atI_nat, Sim.atI_lit, Sim.lenD_tup, Sim.lenD_lst, Sim.lenD_scr, Sim.lenD_dct, Sim.addD_int, Sim.iaddD_int, Sim.subD_int, Sim.mulD_int, Sim.mulD_one, Sim.fdivD_int, Sim.modD_int, Sim.powD_int, Sim.addD_tup, Sim.addD_lst, Sim.negD_int, Sim.ltD_int, Sim.leD_int, Sim.gtD_int, Sim.geD_int, Sim.eqB_int, Sim.eqB_str, Sim.eqB_bl, Sim.eqB_non, Sim.eqD_of, Sim.neD_of, Sim.isD_non, Sim.isNotD_non, Sim.isN_non, Sim.isN_bl, Sim.isN_int, Sim.isN_str, Sim.isN_tup, Sim.isN_lst, Sim.frz_non, Sim.frz_bl, Sim.frz_int, Sim.frz_str, Sim.frz_tup, Sim.frz_lst, Sim.frz_dct, Sim.frz_scr, Sim.maxD_int, Sim.minD_int, Sim.absD_int, Sim.intD_int, Sim.tupleD_tup, Sim.tupleD_lst, Sim.listD_tup, Sim.listD_lst, Sim.listD_scr, Sim.itemsD_sh, Sim.itemsD_tup, Sim.itemsD_scr, Sim.isi_non, Sim.isi_bl, Sim.isi_int, Sim.isi_str, Sim.isi_tup, Sim.isi_lst, Sim.slice_tup, Sim.slice_lst, Sim.inDD_of, Sim.notInDD_of, Sim.inD_tup, Sim.inD_lst, Sim.inD_dct, Sim.cap, Sim.nat10, Sim.nat2, Nat.zero_le, Sim.ex_some, Sim.ex_some2, Sim.ex_if, Sim.ex_map, Sim.ex_eq, Sim.ex_bl, Sim.ex_int, Sim.ex_own, Sim.ex_lst, Sim.inr_at, Sim.inl_at, Sim.tt_c, Sim.ff_c, Sim.pad_nil, Sim.pad_n, Sim.nones_0, Sim.nones_s, List.getElem?_cons_zero, List.getElem?_cons_succ, List.set_cons_zero, List.set_cons_succ, List.map_cons, List.map_nil, List.cons_append, List.nil_append, Option.map_some, List.length_cons, List.length_nil, Int.zero_add, Nat.zero_add, Nat.reduceAdd, Nat.reduceLeDiff, Nat.reduceMul, true_and, and_true, decide_eq_true_eq, decide_eq_false_iff_not, Bool.false_eq_true, Bool.true_eq_false, false_implies, true_implies, implies_true, eq_self, decide_true, decide_false, not_true_eq_false, not_false_eq_true, Bool.not_true, Bool.not_false, Int.reduceLT, Int.reduceLE, Int.reduceNeg, Int.reducePow, Int.reduceToNat, b__law_alike] at this ⊢
    simpa using this
  · refine FT_def ?_
    have := go (.lst .sh ds) rfl (fun _ => rfl)
    simp only [Sim.T_ok, Sim.T_fail, Sim.T_bind, Sim.T_pureO, Sim.EndQ_nxt, Sim.EndQ_ret, Sim.lasts_nil, Sim.T_call, Sim.T_name, Sim.T_frz, Sim.T_const, Sim.T_sh, Sim.T_op2, Sim.T_op1, Sim.T_test, Sim.T_not, Sim.T_andM, Sim.T_orM, Sim.T_ifM, Sim.T_bl, Sim.T_andV, Sim.T_orV, Sim.T_notV, Sim.T_peek, Sim.T_vP, Sim.T_opP, Sim.T_nilA, Sim.T_consA, Sim.T_nilP, Sim.T_consP, Sim.T_tup, Sim.T_lst, Sim.T_noO, Sim.T_someO, Sim.T_slice, Sim.T_callM, Sim.resL_cons, Sim.resL_nil', Sim.T_isi, Sim.T_nil, Sim.T_brk, Sim.T_cnt, Sim.SeqQ_nxt, Sim.SeqQ_brk, Sim.SeqQ_cnt, Sim.SeqQ_ret, Sim.T_seq, Sim.T_set, Sim.T_drop, Sim.T_ret, Sim.T_retN, Sim.T_retS, Sim.T_ite, Sim.T_asg, Sim.T_nameG, Sim.T_tupG, Sim.T_nilG, Sim.T_consG, Sim.T_aug, Sim.T_app, Sim.T_putD, Sim.T_newD, Sim.T_disp, Sim.T_iter, Sim.T_range1, Sim.T_range2, Sim.LoopQ_nxt, Sim.LoopQ_cnt, Sim.LoopQ_brk, Sim.LoopQ_ret, Sim.T_for, Sim.T_comp, Sim.T_yes, Sim.wipeR, Sim.T_rev, Sim.revD_lst, Sim.T_revR1, Sim.T_rg1, Sim.T_rg2, Sim.T_lstRg, Sim.T_tupRg, Sim.sumD_ints, Sim.ixDD_tup, Sim.ixDD_lst, Sim.ixDD_scr, Sim.ixDD_dct, Sim.atI_nat, Sim.atI_lit, Sim.lenD_tup, Sim.lenD_lst, Sim.lenD_scr, Sim.lenD_dct, Sim.addD_int, Sim.iaddD_int, Sim.subD_int, Sim.mulD_int, Sim.mulD_one, Sim.fdivD_int, Sim.modD_int, Sim.powD_int, Sim.addD_tup, Sim.addD_lst, Sim.negD_int, Sim.ltD_int, Sim.leD_int, Sim.gtD_int, Sim.geD_int, Sim.eqB_int, Sim.eqB_str, Sim.eqB_bl, Sim.eqB_non, Sim.eqD_of, Sim.neD_of, Sim.isD_non, Sim.isNotD_non, Sim.isN_non, Sim.isN_bl, Sim.isN_int, Sim.isN_str, Sim.isN_tup, Sim.isN_lst, Sim.frz_non, Sim.frz_bl, Sim.frz_int, Sim.frz_str, Sim.frz_tup, Sim.frz_lst, Sim.frz_dct, Sim.frz_scr, Sim.maxD_int, Sim.minD_int, Sim.absD_int, Sim.intD_int, Sim.tupleD_tup, Sim.tupleD_lst, Sim.listD_tup, Sim.listD_lst, Sim.listD_scr, Sim.itemsD_sh, Sim.itemsD_tup, Sim.itemsD_scr, Sim.isi_non, Sim.isi_bl, Sim.isi_int, Sim.isi_str, Sim.isi_tup, Sim.isi_lst, Sim.slice_tup, Sim.slice_lst, Sim.inDD_of, Sim.notInDD_of, Sim.inD_tup, Sim.inD_lst, Sim.inD_dct, Sim.cap, Sim.nat10, Sim.nat2, Nat.zero_le, Sim.ex_some, Sim.ex_some2, Sim.ex_if, Sim.ex_map, Sim.ex_eq, Sim.ex_bl, Sim.ex_int, Sim.ex_own, Sim.ex_lst, Sim.inr_at, Sim.inl_at, Sim.tt_c, Sim.ff_c, Sim.pad_nil, Sim.pad_n, Sim.nones_0, Sim.nones_s, List.getElem?_cons_zero, List.getElem?_cons_succ, List.set_cons_zero, List.set_cons_succ, List.map_cons, List.map_nil, List.cons_append, List.nil_append, Option.map_some, List.length_cons, List.length_nil, Int.zero_add, Nat.zero_add, Nat.reduceAdd, Nat.reduceLeDiff, Nat.reduceMul, true_and, and_true, decide_eq_true_eq, decide_eq_false_iff_not, Bool.false_eq_true, Bool.true_eq_false, false_implies, true_implies, implies_true, eq_self, decide_true, decide_false, not_true_eq_false, not_false_eq_true, Bool.not_true, Bool.not_false, Int.reduceLT, Int.reduceLE, Int.reduceNeg, Int.reducePow, Int.reduceToNat, b__law_alike] at this ⊢
    simpa using this
theorem alike_leaf {R : Fs} (d : D) (h : rank d = 0) (hp : plain d = true) : FT (defF 1 [] (b__law_alike R)) [d, d] IsTrue := by
  refine FT_def ?_
  cases d with
  | tup ds => simp [Sim.rank] at h
  | lst m ds => simp [Sim.rank] at h
  | dct _ _ _ => simp [Sim.plain] at hp
  | scr _ => simp [Sim.plain] at hp
  | non => simp only [Sim.T_ok, Sim.T_fail, Sim.T_bind, Sim.T_pureO, Sim.EndQ_nxt, Sim.EndQ_ret, Sim.lasts_nil, Sim.T_call, Sim.T_name, Sim.T_frz, Sim.T_const, Sim.T_sh, Sim.T_op2, Sim.T_op1, Sim.T_test, Sim.T_not, Sim.T_andM, Sim.T_orM, Sim.T_ifM, Sim.T_bl, Sim.T_andV, Sim.T_orV, Sim.T_notV, Sim.T_peek, Sim.T_vP, Sim.T_opP, Sim.T_nilA, Sim.T_consA, Sim.T_nilP, Sim.T_consP, Sim.T_tup, Sim.T_lst, Sim.T_noO, Sim.T_someO, Sim.T_slice, Sim.T_callM, Sim.resL_cons, Sim.resL_nil', Sim.T_isi, Sim.T_nil, Sim.T_brk, Sim.T_cnt, Sim.SeqQ_nxt, Sim.SeqQ_brk, Sim.SeqQ_cnt, Sim.SeqQ_ret, Sim.T_seq, Sim.T_set, Sim.T_drop, Sim.T_ret, Sim.T_retN, Sim.T_retS, Sim.T_ite, Sim.T_asg, Sim.T_nameG, Sim.T_tupG, Sim.T_nilG, Sim.T_consG, Sim.T_aug, Sim.T_app, Sim.T_putD, Sim.T_newD, Sim.T_disp, Sim.T_iter, Sim.T_range1, Sim.T_range2, Sim.LoopQ_nxt, Sim.LoopQ_cnt, Sim.LoopQ_brk, Sim.LoopQ_ret, Sim.T_for, Sim.T_comp, Sim.T_yes, Sim.wipeR, Sim.T_rev, Sim.revD_lst, Sim.T_revR1, Sim.T_rg1, Sim.T_rg2, Sim.T_lstRg, Sim.T_tupRg, Sim.sumD_ints, Sim.ixDD_tup, Sim.ixDD_lst, Sim.ixDD_scr, Sim.ixDD_dct, Sim.atI_nat, Sim.atI_lit, Sim.lenD_tup, Sim.lenD_lst, Sim.lenD_scr, Sim.lenD_dct, Sim.addD_int, Sim.iaddD_int, Sim.subD_int, Sim.mulD_int, Sim.mulD_one, Sim.fdivD_int, Sim.modD_int, Sim.powD_int, Sim.addD_tup, Sim.addD_lst, Sim.negD_int, Sim.ltD_int, Sim.leD_int, Sim.gtD_int, Sim.geD_int, Sim.eqB_int, Sim.eqB_str, Sim.eqB_bl, Sim.eqB_non, Sim.eqD_of, Sim.neD_of, Sim.isD_non, Sim.isNotD_non, Sim.isN_non, Sim.isN_bl, Sim.isN_int, Sim.isN_str, Sim.isN_tup, Sim.isN_lst, Sim.frz_non, Sim.frz_bl, Sim.frz_int, Sim.frz_str, Sim.frz_tup, Sim.frz_lst, Sim.frz_dct, Sim.frz_scr, Sim.maxD_int, Sim.minD_int, Sim.absD_int, Sim.intD_int, Sim.tupleD_tup, Sim.tupleD_lst, Sim.listD_tup, Sim.listD_lst, Sim.listD_scr, Sim.itemsD_sh, Sim.itemsD_tup, Sim.itemsD_scr, Sim.isi_non, Sim.isi_bl, Sim.isi_int, Sim.isi_str, Sim.isi_tup, Sim.isi_lst, Sim.slice_tup, Sim.slice_lst, Sim.inDD_of, Sim.notInDD_of, Sim.inD_tup, Sim.inD_lst, Sim.inD_dct, Sim.cap, Sim.nat10, Sim.nat2, Nat.zero_le, Sim.ex_some, Sim.ex_some2, Sim.ex_if, Sim.ex_map, Sim.ex_eq, Sim.ex_bl, Sim.ex_int, Sim.ex_own, Sim.ex_lst, Sim.inr_at, Sim.inl_at, Sim.tt_c, Sim.ff_c, Sim.pad_nil, Sim.pad_n, Sim.nones_0, Sim.nones_s, List.getElem?_cons_zero, List.getElem?_cons_succ, List.set_cons_zero, List.set_cons_succ, List.map_cons, List.map_nil, List.cons_append, List.nil_append, Option.map_some, List.length_cons, List.length_nil, Int.zero_add, Nat.zero_add, Nat.reduceAdd, Nat.reduceLeDiff, Nat.reduceMul, true_and, and_true, decide_eq_true_eq, decide_eq_false_iff_not, Bool.false_eq_true, Bool.true_eq_false, false_implies, true_implies, implies_true, eq_self, decide_true, decide_false, not_true_eq_false, not_false_eq_true, Bool.not_true, Bool.not_false, Int.reduceLT, Int.reduceLE, Int.reduceNeg, Int.reducePow, Int.reduceToNat, b__law_alike]; exact ⟨rfl, rfl⟩
  | bl b => simp only [Sim.T_ok, Sim.T_fail, Sim.T_bind, Sim.T_pureO, Sim.EndQ_nxt, Sim.EndQ_ret, Sim.lasts_nil, Sim.T_call, Sim.T_name, Sim.T_frz, Sim.T_const, Sim.T_sh, Sim.T_op2, Sim.T_op1, Sim.T_test, Sim.T_not, Sim.T_andM, Sim.T_orM, Sim.T_ifM, Sim.T_bl, Sim.T_andV, Sim.T_orV, Sim.T_notV, Sim.T_peek, Sim.T_vP, Sim.T_opP, Sim.T_nilA, Sim.T_consA, Sim.T_nilP, Sim.T_consP, Sim.T_tup, Sim.T_lst, Sim.T_noO, Sim.T_someO, Sim.T_slice, Sim.T_callM, Sim.resL_cons, Sim.resL_nil', Sim.T_isi, Sim.T_nil, Sim.T_brk, Sim.T_cnt, Sim.SeqQ_nxt, Sim.SeqQ_brk, Sim.SeqQ_cnt, Sim.SeqQ_ret, Sim.T_seq, Sim.T_set, Sim.T_drop, Sim.T_ret, Sim.T_retN, Sim.T_retS, Sim.T_ite, Sim.T_asg, Sim.T_nameG, Sim.T_tupG, Sim.T_nilG, Sim.T_consG, Sim.T_aug, Sim.T_app, Sim.T_putD, Sim.T_newD, Sim.T_disp, Sim.T_iter, Sim.T_range1, Sim.T_range2, Sim.LoopQ_nxt, Sim.LoopQ_cnt, Sim.LoopQ_brk, Sim.LoopQ_ret, Sim.T_for, Sim.T_comp, Sim.T_yes, Sim.wipeR, Sim.T_rev, Sim.revD_lst, Sim.T_revR1, Sim.T_rg1, Sim.T_rg2, Sim.T_lstRg, Sim.T_tupRg, Sim.sumD_ints, Sim.ixDD_tup, Sim.ixDD_lst, Sim.ixDD_scr, Sim.ixDD_dct, Sim.atI_nat, Sim.atI_lit, Sim.lenD_tup, Sim.lenD_lst, Sim.lenD_scr, Sim.lenD_dct, Sim.addD_int, Sim.iaddD_int, Sim.subD_int, Sim.mulD_int, Sim.mulD_one, Sim.fdivD_int, Sim.modD_int, Sim.powD_int, Sim.addD_tup, Sim.addD_lst, Sim.negD_int, Sim.ltD_int, Sim.leD_int, Sim.gtD_int, Sim.geD_int, Sim.eqB_int, Sim.eqB_str, Sim.eqB_bl, Sim.eqB_non, Sim.eqD_of, Sim.neD_of, Sim.isD_non, Sim.isNotD_non, Sim.isN_non, Sim.isN_bl, Sim.isN_int, Sim.isN_str, Sim.isN_tup, Sim.isN_lst, Sim.frz_non, Sim.frz_bl, Sim.frz_int, Sim.frz_str, Sim.frz_tup, Sim.frz_lst, Sim.frz_dct, Sim.frz_scr, Sim.maxD_int, Sim.minD_int, Sim.absD_int, Sim.intD_int, Sim.tupleD_tup, Sim.tupleD_lst, Sim.listD_tup, Sim.listD_lst, Sim.listD_scr, Sim.itemsD_sh, Sim.itemsD_tup, Sim.itemsD_scr, Sim.isi_non, Sim.isi_bl, Sim.isi_int, Sim.isi_str, Sim.isi_tup, Sim.isi_lst, Sim.slice_tup, Sim.slice_lst, Sim.inDD_of, Sim.notInDD_of, Sim.inD_tup, Sim.inD_lst, Sim.inD_dct, Sim.cap, Sim.nat10, Sim.nat2, Nat.zero_le, Sim.ex_some, Sim.ex_some2, Sim.ex_if, Sim.ex_map, Sim.ex_eq, Sim.ex_bl, Sim.ex_int, Sim.ex_own, Sim.ex_lst, Sim.inr_at, Sim.inl_at, Sim.tt_c, Sim.ff_c, Sim.pad_nil, Sim.pad_n, Sim.nones_0, Sim.nones_s, List.getElem?_cons_zero, List.getElem?_cons_succ, List.set_cons_zero, List.set_cons_succ, List.map_cons, List.map_nil, List.cons_append, List.nil_append, Option.map_some, List.length_cons, List.length_nil, Int.zero_add, Nat.zero_add, Nat.reduceAdd, Nat.reduceLeDiff, Nat.reduceMul, true_and, and_true, decide_eq_true_eq, decide_eq_false_iff_not, Bool.false_eq_true, Bool.true_eq_false, false_implies, true_implies, implies_true, eq_self, decide_true, decide_false, not_true_eq_false, not_false_eq_true, Bool.not_true, Bool.not_false, Int.reduceLT, Int.reduceLE, Int.reduceNeg, Int.reducePow, Int.reduceToNat, b__law_alike]; exact ⟨rfl, rfl⟩
  | int b => simp only [Sim.T_ok, Sim.T_fail, Sim.T_bind, Sim.T_pureO, Sim.EndQ_nxt, Sim.EndQ_ret, Sim.lasts_nil, Sim.T_call, Sim.T_name, Sim.T_frz, Sim.T_const, Sim.T_sh, Sim.T_op2, Sim.T_op1, Sim.T_test, Sim.T_not, Sim.T_andM, Sim.T_orM, Sim.T_ifM, Sim.T_bl, Sim.T_andV, Sim.T_orV, Sim.T_notV, Sim.T_peek, Sim.T_vP, Sim.T_opP, Sim.T_nilA, Sim.T_consA, Sim.T_nilP, Sim.T_consP, Sim.T_tup, Sim.T_lst, Sim.T_noO, Sim.T_someO, Sim.T_slice, Sim.T_callM, Sim.resL_cons, Sim.resL_nil', Sim.T_isi, Sim.T_nil, Sim.T_brk, Sim.T_cnt, Sim.SeqQ_nxt, Sim.SeqQ_brk, Sim.SeqQ_cnt, Sim.SeqQ_ret, Sim.T_seq, Sim.T_set, Sim.T_drop, Sim.T_ret, Sim.T_retN, Sim.T_retS, Sim.T_ite, Sim.T_asg, Sim.T_nameG, Sim.T_tupG, Sim.T_nilG, Sim.T_consG, Sim.T_aug, Sim.T_app, Sim.T_putD, Sim.T_newD, Sim.T_disp, Sim.T_iter, Sim.T_range1, Sim.T_range2, Sim.LoopQ_nxt, Sim.LoopQ_cnt, Sim.LoopQ_brk, Sim.LoopQ_ret, Sim.T_for, Sim.T_comp, Sim.T_yes, Sim.wipeR, Sim.T_rev, Sim.revD_lst, Sim.T_revR1, Sim.T_rg1, Sim.T_rg2, Sim.T_lstRg, Sim.T_tupRg, Sim.sumD_ints, Sim.ixDD_tup, Sim.ixDD_lst, Sim.ixDD_scr, Sim.ixDD_dct, Sim.atI_nat, Sim.atI_lit, Sim.lenD_tup, Sim.lenD_lst, Sim.lenD_scr, Sim.lenD_dct, Sim.addD_int, Sim.iaddD_int, Sim.subD_int, Sim.mulD_int, Sim.mulD_one, Sim.fdivD_int, Sim.modD_int, Sim.powD_int, Sim.addD_tup, Sim.addD_lst, Sim.negD_int, Sim.ltD_int, Sim.leD_int, Sim.gtD_int, Sim.geD_int, Sim.eqB_int, Sim.eqB_str, Sim.eqB_bl, Sim.eqB_non, Sim.eqD_of, Sim.neD_of, Sim.isD_non, Sim.isNotD_non, Sim.isN_non, Sim.isN_bl, Sim.isN_int, Sim.isN_str, Sim.isN_tup, Sim.isN_lst, Sim.frz_non, Sim.frz_bl, Sim.frz_int, Sim.frz_str, Sim.frz_tup, Sim.frz_lst, Sim.frz_dct, Sim.frz_scr, Sim.maxD_int, Sim.minD_int, Sim.absD_int, Sim.intD_int, Sim.tupleD_tup, Sim.tupleD_lst, Sim.listD_tup, Sim.listD_lst, Sim.listD_scr, Sim.itemsD_sh, Sim.itemsD_tup, Sim.itemsD_scr, Sim.isi_non, Sim.isi_bl, Sim.isi_int, Sim.isi_str, Sim.isi_tup, Sim.isi_lst, Sim.slice_tup, Sim.slice_lst, Sim.inDD_of, Sim.notInDD_of, Sim.inD_tup, Sim.inD_lst, Sim.inD_dct, Sim.cap, Sim.nat10, Sim.nat2, Nat.zero_le, Sim.ex_some, Sim.ex_some2, Sim.ex_if, Sim.ex_map, Sim.ex_eq, Sim.ex_bl, Sim.ex_int, Sim.ex_own, Sim.ex_lst, Sim.inr_at, Sim.inl_at, Sim.tt_c, Sim.ff_c, Sim.pad_nil, Sim.pad_n, Sim.nones_0, Sim.nones_s, List.getElem?_cons_zero, List.getElem?_cons_succ, List.set_cons_zero, List.set_cons_succ, List.map_cons, List.map_nil, List.cons_append, List.nil_append, Option.map_some, List.length_cons, List.length_nil, Int.zero_add, Nat.zero_add, Nat.reduceAdd, Nat.reduceLeDiff, Nat.reduceMul, true_and, and_true, decide_eq_true_eq, decide_eq_false_iff_not, Bool.false_eq_true, Bool.true_eq_false, false_implies, true_implies, implies_true, eq_self, decide_true, decide_false, not_true_eq_false, not_false_eq_true, Bool.not_true, Bool.not_false, Int.reduceLT, Int.reduceLE, Int.reduceNeg, Int.reducePow, Int.reduceToNat, b__law_alike]; exact ⟨rfl, rfl⟩
  | str b => simp only [Sim.T_ok, Sim.T_fail, Sim.T_bind, Sim.T_pureO, Sim.EndQ_nxt, Sim.EndQ_ret, Sim.lasts_nil, Sim.T_call, Sim.T_name, Sim.T_frz, Sim.T_const, Sim.T_sh, Sim.T_op2, Sim.T_op1, Sim.T_test, Sim.T_not, Sim.T_andM, Sim.T_orM, Sim.T_ifM, Sim.T_bl, Sim.T_andV, Sim.T_orV, Sim.T_notV, Sim.T_peek, Sim.T_vP, Sim.T_opP, Sim.T_nilA, Sim.T_consA, Sim.T_nilP, Sim.T_consP, Sim.T_tup, Sim.T_lst, Sim.T_noO, Sim.T_someO, Sim.T_slice, Sim.T_callM, Sim.resL_cons, Sim.resL_nil', Sim.T_isi, Sim.T_nil, Sim.T_brk, Sim.T_cnt, Sim.SeqQ_nxt, Sim.SeqQ_brk, Sim.SeqQ_cnt, Sim.SeqQ_ret, Sim.T_seq, Sim.T_set, Sim.T_drop, Sim.T_ret, Sim.T_retN, Sim.T_retS, Sim.T_ite, Sim.T_asg, Sim.T_nameG, Sim.T_tupG, Sim.T_nilG, Sim.T_consG, Sim.T_aug, Sim.T_app, Sim.T_putD, Sim.T_newD, Sim.T_disp, Sim.T_iter, Sim.T_range1, Sim.T_range2, Sim.LoopQ_nxt, Sim.LoopQ_cnt, Sim.LoopQ_brk, Sim.LoopQ_ret, Sim.T_for, Sim.T_comp, Sim.T_yes, Sim.wipeR, Sim.T_rev, Sim.revD_lst, Sim.T_revR1, Sim.T_rg1, Sim.T_rg2, Sim.T_lstRg, Sim.T_tupRg, Sim.sumD_ints, Sim.ixDD_tup, Sim.ixDD_lst, Sim.ixDD_scr, Sim.ixDD_dct, Sim.atI_nat, Sim.atI_lit, Sim.lenD_tup, Sim.lenD_lst, Sim.lenD_scr, Sim.lenD_dct, Sim.addD_int, Sim.iaddD_int, Sim.subD_int, Sim.mulD_int, Sim.mulD_one, Sim.fdivD_int, Sim.modD_int, Sim.powD_int, Sim.addD_tup, Sim.addD_lst, Sim.negD_int, Sim.ltD_int, Sim.leD_int, Sim.gtD_int, Sim.geD_int, Sim.eqB_int, Sim.eqB_str, Sim.eqB_bl, Sim.eqB_non, Sim.eqD_of, Sim.neD_of, Sim.isD_non, Sim.isNotD_non, Sim.isN_non, Sim.isN_bl, Sim.isN_int, Sim.isN_str, Sim.isN_tup, Sim.isN_lst, Sim.frz_non, Sim.frz_bl, Sim.frz_int, Sim.frz_str, Sim.frz_tup, Sim.frz_lst, Sim.frz_dct, Sim.frz_scr, Sim.maxD_int, Sim.minD_int, Sim.absD_int, Sim.intD_int, Sim.tupleD_tup, Sim.tupleD_lst, Sim.listD_tup, Sim.listD_lst, Sim.listD_scr, Sim.itemsD_sh, Sim.itemsD_tup, Sim.itemsD_scr, Sim.isi_non, Sim.isi_bl, Sim.isi_int, Sim.isi_str, Sim.isi_tup, Sim.isi_lst, Sim.slice_tup, Sim.slice_lst, Sim.inDD_of, Sim.notInDD_of, Sim.inD_tup, Sim.inD_lst, Sim.inD_dct, Sim.cap, Sim.nat10, Sim.nat2, Nat.zero_le, Sim.ex_some, Sim.ex_some2, Sim.ex_if, Sim.ex_map, Sim.ex_eq, Sim.ex_bl, Sim.ex_int, Sim.ex_own, Sim.ex_lst, Sim.inr_at, Sim.inl_at, Sim.tt_c, Sim.ff_c, Sim.pad_nil, Sim.pad_n, Sim.nones_0, Sim.nones_s, List.getElem?_cons_zero, List.getElem?_cons_succ, List.set_cons_zero, List.set_cons_succ, List.map_cons, List.map_nil, List.cons_append, List.nil_append, Option.map_some, List.length_cons, List.length_nil, Int.zero_add, Nat.zero_add, Nat.reduceAdd, Nat.reduceLeDiff, Nat.reduceMul, true_and, and_true, decide_eq_true_eq, decide_eq_false_iff_not, Bool.false_eq_true, Bool.true_eq_false, false_implies, true_implies, implies_true, eq_self, decide_true, decide_false, not_true_eq_false, not_false_eq_true, Bool.not_true, Bool.not_false, Int.reduceLT, Int.reduceLE, Int.reduceNeg, Int.reducePow, Int.reduceToNat, b__law_alike]; exact ⟨rfl, rfl⟩
/-- few items everywhere -/
theorem alike_all : ∀ (n k : Nat) (d : D), rank d < n → Sim.plain d = true → Sim.short d = true → FT (M (k + n)).f__law_alike [d, d] IsTrue
  | 0, _, _, h, _, _ => absurd h (Nat.not_lt_zero _)
  | n + 1, k, d, h, hp, hs => by
    show FT (defF 1 [] (b__law_alike (M (k + n)))) [d, d] IsTrue
    by_cases h0 : rank d = 0
    · exact alike_leaf d h0 hp
    · cases d with
      | tup ds =>
        have hs' := shorts_get hs
        refine alike_seq hs'.1 (fun e he => alike_all n k e ?_ (plains_get hp e he) (hs'.2 e he)) .tup (.inl rfl)
        have h1 := ranks_get e he
        simp only [rank] at h
        omega
      | lst m ds =>
        cases m with
        | sh =>
          have hs' := shorts_get hs
          refine alike_seq hs'.1 (fun e he => alike_all n k e ?_ (plains_get hp e he) (hs'.2 e he)) (.lst .sh) (.inr rfl)
          have h1 := ranks_get e he
          simp only [rank] at h
          omega
        | own => cases hp
        | brw => cases hp
      | non => exact absurd rfl h0
      | bl _ => exact absurd rfl h0
      | int _ => exact absurd rfl h0
      | str _ => exact absurd rfl h0
      | dct _ _ _ => cases hp
      | scr _ => cases hp
end Law

namespace Law
open PySem PySem.Spec PyProof.Rows L2 Sim
/-! ### terms and conditions -/
inductive Op where
  | add | sub | mul | min | max
def Op.name : Op → Str
  | .add => "add" | .sub => "sub" | .mul => "mul" | .min => "min" | .max => "max"
def Op.ev : Op → Int → Int → Int
  | .add, x, y => x + y
  | .sub, x, y => x - y
  | .mul, x, y => x * y
  | .min, x, y => if y < x then y else x
  | .max, x, y => if y > x then y else x
inductive Tm where
  | num (i : Int) | var (k : Nat) | neg (t : Tm) | bin (o : Op) (l r : Tm)
def Tm.enc : Tm → D
  | .num i => .tup [.str "num", .int i]
  | .var k => .tup [.str "var", .int k]
  | .neg t => .tup [.str "neg", t.enc]
  | .bin o l r => .tup [.str o.name, l.enc, r.enc]
def Tm.ev (vals : List Int) : Tm → Int
  | .num i => i
  | .var k => vals.getD k 0
  | .neg t => -t.ev vals
  | .bin o l r => o.ev (l.ev vals) (r.ev vals)
def Tm.dep : Tm → Nat
  | .num _ => 0
  | .var _ => 0
  | .neg t => t.dep + 1
  | .bin _ l r => Nat.max l.dep r.dep + 1
/-- over n variables; what is multiplied from the left is a small number -/
def Tm.okN (n : Nat) : Tm → Prop
  | .num _ => True
  | .var k => k < n
  | .neg t => t.okN n
  | .bin o l r => l.okN n ∧ r.okN n ∧ (o = .mul → ∃ i : Int, l = .num i ∧ -100 < i ∧ i < 100)
theorem Tm.frz (t : Tm) : t.enc.frz = t.enc := by cases t <;> rfl
inductive Cd where
  | tt | ff | not (c : Cd) | and (a b : Cd) | or (a b : Cd) | less (l r : Tm) | same (l r : Tm)
def Cd.enc : Cd → D
  | .tt => .tup [.str "true"]
  | .ff => .tup [.str "false"]
  | .not c => .tup [.str "not", c.enc]
  | .and a b => .tup [.str "and", a.enc, b.enc]
  | .or a b => .tup [.str "or", a.enc, b.enc]
  | .less l r => .tup [.str "less", l.enc, r.enc]
  | .same l r => .tup [.str "same", l.enc, r.enc]
def Cd.ev (vals : List Int) : Cd → Bool
  | .tt => true
  | .ff => false
  | .not c => !c.ev vals
  | .and a b => a.ev vals && b.ev vals
  | .or a b => a.ev vals || b.ev vals
  | .less l r => decide (l.ev vals < r.ev vals)
  | .same l r => decide (l.ev vals = r.ev vals)
def Cd.dep : Cd → Nat
  | .tt => 0
  | .ff => 0
  | .not c => c.dep + 1
  | .and a b => Nat.max a.dep b.dep + 1
  | .or a b => Nat.max a.dep b.dep + 1
  | .less l r => Nat.max l.dep r.dep + 2
  | .same l r => Nat.max l.dep r.dep + 2
def Cd.okN (n : Nat) : Cd → Prop
  | .tt => True
  | .ff => True
  | .not c => c.okN n
  | .and a b => a.okN n ∧ b.okN n
  | .or a b => a.okN n ∧ b.okN n
  | .less l r => l.okN n ∧ r.okN n
  | .same l r => l.okN n ∧ r.okN n
theorem Cd.frz (t : Cd) : t.enc.frz = t.enc := by cases t <;> rfl
theorem mx {a b n : Nat} (h : Nat.max a b < n) : a < n ∧ b < n := by
  have := Nat.le_max_left a b
  have := Nat.le_max_right a b
  have e : Nat.max a b = max a b := rfl
  omega
theorem emod_nat (x : Int) {n : Nat} (h : 0 < n) : ∃ z : Nat, x % (n : Int) = (z : Int) ∧ z < n := by
  obtain ⟨z, hz⟩ := Int.eq_ofNat_of_zero_le (show 0 ≤ x % (n : Int) from Int.emod_nonneg _ (by omega))
  have := Int.emod_lt_of_pos x (show (0 : Int) < n by omega)
  exact ⟨z, hz, by omega⟩
abbrev DrawOk (f : Fn) : Prop := ∀ (ns : List Int) (k : Nat) (ms : List Int), ms.length ≤ 1000 → (∀ m ∈ ms, 0 < m ∧ m < 1073741824) → FT f [.scr ns, .int k, .lst .sh (ms.map .int)] fun d fs => fs = [] ∧ ∃ xs, d = .lst .own (xs.map .int) ∧ Drawn ms xs
/-! ### plants -/
structure Var where
  name : Str
  lo : Int
  hi : Int
  low : Int
  high : Int
def Var.enc (v : Var) : D := .tup [.str v.name, .int v.lo, .int v.hi, .int v.low, .int v.high]
structure Set1 where
  at_ : Nat
  low : Tm
  high : Tm
def Set1.enc (s : Set1) : D := .tup [.int s.at_, s.low.enc, s.high.enc]
structure Move where
  name : Str
  cond : Cd
  sets : List Set1
def Move.enc (m : Move) : D := .tup [.str m.name, m.cond.enc, .tup (m.sets.map Set1.enc)]
structure Part where
  name : Str
  first : Nat
  count : Nat
  moves : List Move
def Part.enc (p : Part) : D := .tup [.str p.name, .int p.first, .int p.count, .tup (p.moves.map Move.enc)]
structure Sensor where
  name : Str
  term : Tm
  spread : Int
  off : Bool
def Sensor.enc (s : Sensor) : D := .tup [.str s.name, s.term.enc, .int s.spread, .bl s.off]
structure Plant where
  vars : List Var
  parts : List Part
  sensors : List Sensor
def Plant.enc (p : Plant) : D := .tup [.tup (p.vars.map Var.enc), .tup (p.parts.map Part.enc), .tup (p.sensors.map Sensor.enc)]
structure Tm.small (n : Nat) (t : Tm) : Prop where
  ok : t.okN n
  dep : t.dep ≤ 3
structure VarOk (v : Var) : Prop where
  range : -1 ≤ v.lo ∧ v.lo ≤ v.low ∧ v.low ≤ v.high ∧ v.high ≤ v.hi ∧ v.hi ≤ v.lo + 2 ∧ v.lo ≤ 1
structure MoveOk (n first count : Nat) (m : Move) : Prop where
  cond : m.cond.okN n ∧ m.cond.dep ≤ 8
  sets : ∀ s ∈ m.sets, first ≤ s.at_ ∧ s.at_ < first + count ∧ s.low.small n ∧ s.high.small n
  few : m.sets.length ≤ 2
  apart : (m.sets.map Set1.at_).Nodup
structure SensorOk (n : Nat) (s : Sensor) : Prop where
  term : s.term.small n
  spread : 0 ≤ s.spread ∧ s.spread ≤ 2
/-- k < 10 written out -/
def numS (k : Nat) : Str := toString (k : Int)
theorem num_str (k : Nat) (h : k < 10) : strD [.int k] = some (.str (numS k)) ∧ (numS k).length ≤ 5 := by
  have hl : ∀ j, j < 10 → (numS j).length ≤ 5 ∧ ((j : Int).natAbs.log2 < 1920) := by
    intro j hj
    match j, hj with
    | 0, _ => decide +kernel
    | 1, _ => decide +kernel
    | 2, _ => decide +kernel
    | 3, _ => decide +kernel
    | 4, _ => decide +kernel
    | 5, _ => decide +kernel
    | 6, _ => decide +kernel
    | 7, _ => decide +kernel
    | 8, _ => decide +kernel
    | 9, _ => decide +kernel
  refine ⟨?_, (hl k h).1⟩
  show (if _ then _ else none) = _
  rw [if_pos (hl k h).2]
  rfl
end Law

namespace Law
open PySem PySem.Spec PyProof.Rows L2 Sim
theorem dg_at {dg : List Int} (h0 : ∀ x ∈ dg, 0 ≤ x) {i : Int} (h1 : 0 ≤ i) (h2 : i < dg.length) : ∃ x : Int, atI (dg.map D.int) i = some (.int x) ∧ 0 ≤ x := by
  obtain ⟨d, e, x, rfl, hx⟩ : ∃ d, atI (dg.map D.int) i = some d ∧ ∃ x, d = .int x ∧ 0 ≤ x := at_map h1 h2 fun x hx _ => ⟨x, rfl, h0 x hx⟩
  exact ⟨x, e, hx⟩
abbrev TermOk (f : Fn) : Prop := ∀ (dg : List Int) (n : Nat) (at_ : Int), (∀ x ∈ dg, 0 ≤ x) → 0 < n → 0 ≤ at_ → at_ + 2 < dg.length →
  FT f [.lst .sh (dg.map .int), .int at_, .int n] fun d fs => fs = [] ∧ ∃ t : Tm, d = t.enc ∧ t.okN n ∧ t.dep ≤ 2
theorem term_ok {R : Fs} : TermOk (defF 3 [] (b__law_term R)) := by
  intro dg n at_ h0 hn ha ha2
  refine FT_def ?_
  obtain ⟨x, ex, hx⟩ := dg_at h0 ha (show at_ < dg.length by omega)
  obtain ⟨y, ey, hy⟩ := dg_at h0 (show 0 ≤ at_ + 1 by omega) (show at_ + 1 < dg.length by omega)
  obtain ⟨z, ez, hz⟩ := dg_at h0 (show 0 ≤ at_ + 2 by omega) (show at_ + 2 < dg.length by omega)
  obtain ⟨k, hk, hkl⟩ := emod_nat y hn
  obtain ⟨q, hq, hql⟩ := emod_nat z hn
  have hvl : (0 : Int) < n := by omega
  simp only [Sim.T_ok, Sim.T_fail, Sim.T_bind, Sim.T_pureO, Sim.EndQ_nxt, Sim.EndQ_ret, Sim.lasts_nil, Sim.T_call, Sim.T_name, Sim.T_frz, Sim.T_const, Sim.T_sh, Sim.T_op2, Sim.T_op1, Sim.T_test, Sim.T_not, Sim.T_andM, Sim.T_orM, Sim.T_ifM, Sim.T_bl, Sim.T_andV, Sim.T_orV, Sim.T_notV, Sim.T_peek, Sim.T_vP, Sim.T_opP, Sim.T_nilA, Sim.T_consA, Sim.T_nilP, Sim.T_consP, Sim.T_tup, Sim.T_lst, Sim.T_noO, Sim.T_someO, Sim.T_slice, Sim.T_callM, Sim.resL_cons, Sim.resL_nil', Sim.T_isi, Sim.T_nil, Sim.T_brk, Sim.T_cnt, Sim.SeqQ_nxt, Sim.SeqQ_brk, Sim.SeqQ_cnt, Sim.SeqQ_ret, Sim.T_seq, Sim.T_set, Sim.T_drop, Sim.T_ret, Sim.T_retN, Sim.T_retS, Sim.T_asg, Sim.T_nameG, Sim.T_tupG, Sim.T_nilG, Sim.T_consG, Sim.T_aug, Sim.T_app, Sim.T_putD, Sim.T_newD, Sim.T_disp, Sim.T_iter, Sim.T_range1, Sim.T_range2, Sim.LoopQ_nxt, Sim.LoopQ_cnt, Sim.LoopQ_brk, Sim.LoopQ_ret, Sim.T_for, Sim.T_comp, Sim.T_yes, Sim.wipeR, Sim.T_rev, Sim.revD_lst, Sim.T_revR1, Sim.T_rg1, Sim.T_rg2, Sim.T_lstRg, Sim.T_tupRg, Sim.sumD_ints, Sim.ixDD_tup, Sim.ixDD_lst, Sim.ixDD_scr, Sim.ixDD_dct, Sim.atI_nat, Sim.atI_lit, Sim.lenD_tup, Sim.lenD_lst, Sim.lenD_scr, Sim.lenD_dct, Sim.addD_int, Sim.iaddD_int, Sim.subD_int, Sim.mulD_int, Sim.mulD_one, Sim.fdivD_int, Sim.modD_int, Sim.powD_int, Sim.addD_tup, Sim.addD_lst, Sim.negD_int, Sim.ltD_int, Sim.leD_int, Sim.gtD_int, Sim.geD_int, Sim.eqB_int, Sim.eqB_str, Sim.eqB_bl, Sim.eqB_non, Sim.eqD_of, Sim.neD_of, Sim.isD_non, Sim.isNotD_non, Sim.isN_non, Sim.isN_bl, Sim.isN_int, Sim.isN_str, Sim.isN_tup, Sim.isN_lst, Sim.frz_non, Sim.frz_bl, Sim.frz_int, Sim.frz_str, Sim.frz_tup, Sim.frz_lst, Sim.frz_dct, Sim.frz_scr, Sim.maxD_int, Sim.minD_int, Sim.absD_int, Sim.intD_int, Sim.tupleD_tup, Sim.tupleD_lst, Sim.listD_tup, Sim.listD_lst, Sim.listD_scr, Sim.itemsD_sh, Sim.itemsD_tup, Sim.itemsD_scr, Sim.isi_non, Sim.isi_bl, Sim.isi_int, Sim.isi_str, Sim.isi_tup, Sim.isi_lst, Sim.slice_tup, Sim.slice_lst, Sim.inDD_of, Sim.notInDD_of, Sim.inD_tup, Sim.inD_lst, Sim.inD_dct, Sim.cap, Sim.nat10, Sim.nat2, Nat.zero_le, Sim.ex_some, Sim.ex_some2, Sim.ex_if, Sim.ex_map, Sim.ex_eq, Sim.ex_bl, Sim.ex_int, Sim.ex_own, Sim.ex_lst, Sim.inr_at, Sim.inl_at, Sim.tt_c, Sim.ff_c, Sim.pad_nil, Sim.pad_n, Sim.nones_0, Sim.nones_s, List.getElem?_cons_zero, List.getElem?_cons_succ, List.set_cons_zero, List.set_cons_succ, List.map_cons, List.map_nil, List.cons_append, List.nil_append, Option.map_some, List.length_cons, List.length_nil, Int.zero_add, Nat.zero_add, Nat.reduceAdd, Nat.reduceLeDiff, Nat.reduceMul, true_and, and_true, decide_eq_true_eq, decide_eq_false_iff_not, Bool.false_eq_true, Bool.true_eq_false, false_implies, true_implies, implies_true, eq_self, decide_true, decide_false, not_true_eq_false, not_false_eq_true, Bool.not_true, Bool.not_false, Int.reduceLT, Int.reduceLE, Int.reduceNeg, Int.reducePow, Int.reduceToNat, b__law_term, ex, ey, ez, hk]
  refine ⟨hvl, ?_⟩
  refine T_iteTo (fun _ => True) ?_ (fun _ => ?_) (fun _ => ?_)
  · simp only [Sim.T_ok, Sim.T_fail, Sim.T_bind, Sim.T_pureO, Sim.EndQ_nxt, Sim.EndQ_ret, Sim.lasts_nil, Sim.T_call, Sim.T_name, Sim.T_frz, Sim.T_const, Sim.T_sh, Sim.T_op2, Sim.T_op1, Sim.T_test, Sim.T_not, Sim.T_andM, Sim.T_orM, Sim.T_ifM, Sim.T_bl, Sim.T_andV, Sim.T_orV, Sim.T_notV, Sim.T_peek, Sim.T_vP, Sim.T_opP, Sim.T_nilA, Sim.T_consA, Sim.T_nilP, Sim.T_consP, Sim.T_tup, Sim.T_lst, Sim.T_noO, Sim.T_someO, Sim.T_slice, Sim.T_callM, Sim.resL_cons, Sim.resL_nil', Sim.T_isi, Sim.T_nil, Sim.T_brk, Sim.T_cnt, Sim.SeqQ_nxt, Sim.SeqQ_brk, Sim.SeqQ_cnt, Sim.SeqQ_ret, Sim.T_seq, Sim.T_set, Sim.T_drop, Sim.T_ret, Sim.T_retN, Sim.T_retS, Sim.T_asg, Sim.T_nameG, Sim.T_tupG, Sim.T_nilG, Sim.T_consG, Sim.T_aug, Sim.T_app, Sim.T_putD, Sim.T_newD, Sim.T_disp, Sim.T_iter, Sim.T_range1, Sim.T_range2, Sim.LoopQ_nxt, Sim.LoopQ_cnt, Sim.LoopQ_brk, Sim.LoopQ_ret, Sim.T_for, Sim.T_comp, Sim.T_yes, Sim.wipeR, Sim.T_rev, Sim.revD_lst, Sim.T_revR1, Sim.T_rg1, Sim.T_rg2, Sim.T_lstRg, Sim.T_tupRg, Sim.sumD_ints, Sim.ixDD_tup, Sim.ixDD_lst, Sim.ixDD_scr, Sim.ixDD_dct, Sim.atI_nat, Sim.atI_lit, Sim.lenD_tup, Sim.lenD_lst, Sim.lenD_scr, Sim.lenD_dct, Sim.addD_int, Sim.iaddD_int, Sim.subD_int, Sim.mulD_int, Sim.mulD_one, Sim.fdivD_int, Sim.modD_int, Sim.powD_int, Sim.addD_tup, Sim.addD_lst, Sim.negD_int, Sim.ltD_int, Sim.leD_int, Sim.gtD_int, Sim.geD_int, Sim.eqB_int, Sim.eqB_str, Sim.eqB_bl, Sim.eqB_non, Sim.eqD_of, Sim.neD_of, Sim.isD_non, Sim.isNotD_non, Sim.isN_non, Sim.isN_bl, Sim.isN_int, Sim.isN_str, Sim.isN_tup, Sim.isN_lst, Sim.frz_non, Sim.frz_bl, Sim.frz_int, Sim.frz_str, Sim.frz_tup, Sim.frz_lst, Sim.frz_dct, Sim.frz_scr, Sim.maxD_int, Sim.minD_int, Sim.absD_int, Sim.intD_int, Sim.tupleD_tup, Sim.tupleD_lst, Sim.listD_tup, Sim.listD_lst, Sim.listD_scr, Sim.itemsD_sh, Sim.itemsD_tup, Sim.itemsD_scr, Sim.isi_non, Sim.isi_bl, Sim.isi_int, Sim.isi_str, Sim.isi_tup, Sim.isi_lst, Sim.slice_tup, Sim.slice_lst, Sim.inDD_of, Sim.notInDD_of, Sim.inD_tup, Sim.inD_lst, Sim.inD_dct, Sim.cap, Sim.nat10, Sim.nat2, Nat.zero_le, Sim.ex_some, Sim.ex_some2, Sim.ex_if, Sim.ex_map, Sim.ex_eq, Sim.ex_bl, Sim.ex_int, Sim.ex_own, Sim.ex_lst, Sim.inr_at, Sim.inl_at, Sim.tt_c, Sim.ff_c, Sim.pad_nil, Sim.pad_n, Sim.nones_0, Sim.nones_s, List.getElem?_cons_zero, List.getElem?_cons_succ, List.set_cons_zero, List.set_cons_succ, List.map_cons, List.map_nil, List.cons_append, List.nil_append, Option.map_some, List.length_cons, List.length_nil, Int.zero_add, Nat.zero_add, Nat.reduceAdd, Nat.reduceLeDiff, Nat.reduceMul, true_and, and_true, decide_eq_true_eq, decide_eq_false_iff_not, Bool.false_eq_true, Bool.true_eq_false, false_implies, true_implies, implies_true, eq_self, decide_true, decide_false, not_true_eq_false, not_false_eq_true, Bool.not_true, Bool.not_false, Int.reduceLT, Int.reduceLE, Int.reduceNeg, Int.reducePow, Int.reduceToNat]; first | exact ⟨_, rfl⟩ | exact fun _ => ⟨_, rfl⟩
  · simp only [Sim.T_ok, Sim.T_fail, Sim.T_bind, Sim.T_pureO, Sim.EndQ_nxt, Sim.EndQ_ret, Sim.lasts_nil, Sim.T_call, Sim.T_name, Sim.T_frz, Sim.T_const, Sim.T_sh, Sim.T_op2, Sim.T_op1, Sim.T_test, Sim.T_not, Sim.T_andM, Sim.T_orM, Sim.T_ifM, Sim.T_bl, Sim.T_andV, Sim.T_orV, Sim.T_notV, Sim.T_peek, Sim.T_vP, Sim.T_opP, Sim.T_nilA, Sim.T_consA, Sim.T_nilP, Sim.T_consP, Sim.T_tup, Sim.T_lst, Sim.T_noO, Sim.T_someO, Sim.T_slice, Sim.T_callM, Sim.resL_cons, Sim.resL_nil', Sim.T_isi, Sim.T_nil, Sim.T_brk, Sim.T_cnt, Sim.SeqQ_nxt, Sim.SeqQ_brk, Sim.SeqQ_cnt, Sim.SeqQ_ret, Sim.T_seq, Sim.T_set, Sim.T_drop, Sim.T_ret, Sim.T_retN, Sim.T_retS, Sim.T_asg, Sim.T_nameG, Sim.T_tupG, Sim.T_nilG, Sim.T_consG, Sim.T_aug, Sim.T_app, Sim.T_putD, Sim.T_newD, Sim.T_disp, Sim.T_iter, Sim.T_range1, Sim.T_range2, Sim.LoopQ_nxt, Sim.LoopQ_cnt, Sim.LoopQ_brk, Sim.LoopQ_ret, Sim.T_for, Sim.T_comp, Sim.T_yes, Sim.wipeR, Sim.T_rev, Sim.revD_lst, Sim.T_revR1, Sim.T_rg1, Sim.T_rg2, Sim.T_lstRg, Sim.T_tupRg, Sim.sumD_ints, Sim.ixDD_tup, Sim.ixDD_lst, Sim.ixDD_scr, Sim.ixDD_dct, Sim.atI_nat, Sim.atI_lit, Sim.lenD_tup, Sim.lenD_lst, Sim.lenD_scr, Sim.lenD_dct, Sim.addD_int, Sim.iaddD_int, Sim.subD_int, Sim.mulD_int, Sim.mulD_one, Sim.fdivD_int, Sim.modD_int, Sim.powD_int, Sim.addD_tup, Sim.addD_lst, Sim.negD_int, Sim.ltD_int, Sim.leD_int, Sim.gtD_int, Sim.geD_int, Sim.eqB_int, Sim.eqB_str, Sim.eqB_bl, Sim.eqB_non, Sim.eqD_of, Sim.neD_of, Sim.isD_non, Sim.isNotD_non, Sim.isN_non, Sim.isN_bl, Sim.isN_int, Sim.isN_str, Sim.isN_tup, Sim.isN_lst, Sim.frz_non, Sim.frz_bl, Sim.frz_int, Sim.frz_str, Sim.frz_tup, Sim.frz_lst, Sim.frz_dct, Sim.frz_scr, Sim.maxD_int, Sim.minD_int, Sim.absD_int, Sim.intD_int, Sim.tupleD_tup, Sim.tupleD_lst, Sim.listD_tup, Sim.listD_lst, Sim.listD_scr, Sim.itemsD_sh, Sim.itemsD_tup, Sim.itemsD_scr, Sim.isi_non, Sim.isi_bl, Sim.isi_int, Sim.isi_str, Sim.isi_tup, Sim.isi_lst, Sim.slice_tup, Sim.slice_lst, Sim.inDD_of, Sim.notInDD_of, Sim.inD_tup, Sim.inD_lst, Sim.inD_dct, Sim.cap, Sim.nat10, Sim.nat2, Nat.zero_le, Sim.ex_some, Sim.ex_some2, Sim.ex_if, Sim.ex_map, Sim.ex_eq, Sim.ex_bl, Sim.ex_int, Sim.ex_own, Sim.ex_lst, Sim.inr_at, Sim.inl_at, Sim.tt_c, Sim.ff_c, Sim.pad_nil, Sim.pad_n, Sim.nones_0, Sim.nones_s, List.getElem?_cons_zero, List.getElem?_cons_succ, List.set_cons_zero, List.set_cons_succ, List.map_cons, List.map_nil, List.cons_append, List.nil_append, Option.map_some, List.length_cons, List.length_nil, Int.zero_add, Nat.zero_add, Nat.reduceAdd, Nat.reduceLeDiff, Nat.reduceMul, true_and, and_true, decide_eq_true_eq, decide_eq_false_iff_not, Bool.false_eq_true, Bool.true_eq_false, false_implies, true_implies, implies_true, eq_self, decide_true, decide_false, not_true_eq_false, not_false_eq_true, Bool.not_true, Bool.not_false, Int.reduceLT, Int.reduceLE, Int.reduceNeg, Int.reducePow, Int.reduceToNat]; exact ⟨.num (z % 4 - 1), rfl, trivial, by simp only [Tm.dep]; decide⟩
  simp only [Sim.T_ok, Sim.T_fail, Sim.T_bind, Sim.T_pureO, Sim.EndQ_nxt, Sim.EndQ_ret, Sim.lasts_nil, Sim.T_call, Sim.T_name, Sim.T_frz, Sim.T_const, Sim.T_sh, Sim.T_op2, Sim.T_op1, Sim.T_test, Sim.T_not, Sim.T_andM, Sim.T_orM, Sim.T_ifM, Sim.T_bl, Sim.T_andV, Sim.T_orV, Sim.T_notV, Sim.T_peek, Sim.T_vP, Sim.T_opP, Sim.T_nilA, Sim.T_consA, Sim.T_nilP, Sim.T_consP, Sim.T_tup, Sim.T_lst, Sim.T_noO, Sim.T_someO, Sim.T_slice, Sim.T_callM, Sim.resL_cons, Sim.resL_nil', Sim.T_isi, Sim.T_nil, Sim.T_brk, Sim.T_cnt, Sim.SeqQ_nxt, Sim.SeqQ_brk, Sim.SeqQ_cnt, Sim.SeqQ_ret, Sim.T_seq, Sim.T_set, Sim.T_drop, Sim.T_ret, Sim.T_retN, Sim.T_retS, Sim.T_asg, Sim.T_nameG, Sim.T_tupG, Sim.T_nilG, Sim.T_consG, Sim.T_aug, Sim.T_app, Sim.T_putD, Sim.T_newD, Sim.T_disp, Sim.T_iter, Sim.T_range1, Sim.T_range2, Sim.LoopQ_nxt, Sim.LoopQ_cnt, Sim.LoopQ_brk, Sim.LoopQ_ret, Sim.T_for, Sim.T_comp, Sim.T_yes, Sim.wipeR, Sim.T_rev, Sim.revD_lst, Sim.T_revR1, Sim.T_rg1, Sim.T_rg2, Sim.T_lstRg, Sim.T_tupRg, Sim.sumD_ints, Sim.ixDD_tup, Sim.ixDD_lst, Sim.ixDD_scr, Sim.ixDD_dct, Sim.atI_nat, Sim.atI_lit, Sim.lenD_tup, Sim.lenD_lst, Sim.lenD_scr, Sim.lenD_dct, Sim.addD_int, Sim.iaddD_int, Sim.subD_int, Sim.mulD_int, Sim.mulD_one, Sim.fdivD_int, Sim.modD_int, Sim.powD_int, Sim.addD_tup, Sim.addD_lst, Sim.negD_int, Sim.ltD_int, Sim.leD_int, Sim.gtD_int, Sim.geD_int, Sim.eqB_int, Sim.eqB_str, Sim.eqB_bl, Sim.eqB_non, Sim.eqD_of, Sim.neD_of, Sim.isD_non, Sim.isNotD_non, Sim.isN_non, Sim.isN_bl, Sim.isN_int, Sim.isN_str, Sim.isN_tup, Sim.isN_lst, Sim.frz_non, Sim.frz_bl, Sim.frz_int, Sim.frz_str, Sim.frz_tup, Sim.frz_lst, Sim.frz_dct, Sim.frz_scr, Sim.maxD_int, Sim.minD_int, Sim.absD_int, Sim.intD_int, Sim.tupleD_tup, Sim.tupleD_lst, Sim.listD_tup, Sim.listD_lst, Sim.listD_scr, Sim.itemsD_sh, Sim.itemsD_tup, Sim.itemsD_scr, Sim.isi_non, Sim.isi_bl, Sim.isi_int, Sim.isi_str, Sim.isi_tup, Sim.isi_lst, Sim.slice_tup, Sim.slice_lst, Sim.inDD_of, Sim.notInDD_of, Sim.inD_tup, Sim.inD_lst, Sim.inD_dct, Sim.cap, Sim.nat10, Sim.nat2, Nat.zero_le, Sim.ex_some, Sim.ex_some2, Sim.ex_if, Sim.ex_map, Sim.ex_eq, Sim.ex_bl, Sim.ex_int, Sim.ex_own, Sim.ex_lst, Sim.inr_at, Sim.inl_at, Sim.tt_c, Sim.ff_c, Sim.pad_nil, Sim.pad_n, Sim.nones_0, Sim.nones_s, List.getElem?_cons_zero, List.getElem?_cons_succ, List.set_cons_zero, List.set_cons_succ, List.map_cons, List.map_nil, List.cons_append, List.nil_append, Option.map_some, List.length_cons, List.length_nil, Int.zero_add, Nat.zero_add, Nat.reduceAdd, Nat.reduceLeDiff, Nat.reduceMul, true_and, and_true, decide_eq_true_eq, decide_eq_false_iff_not, Bool.false_eq_true, Bool.true_eq_false, false_implies, true_implies, implies_true, eq_self, decide_true, decide_false, not_true_eq_false, not_false_eq_true, Bool.not_true, Bool.not_false, Int.reduceLT, Int.reduceLE, Int.reduceNeg, Int.reducePow, Int.reduceToNat]
  refine T_iteTo (fun _ => True) ?_ (fun _ => ?_) (fun _ => ?_)
  · simp only [Sim.T_ok, Sim.T_fail, Sim.T_bind, Sim.T_pureO, Sim.EndQ_nxt, Sim.EndQ_ret, Sim.lasts_nil, Sim.T_call, Sim.T_name, Sim.T_frz, Sim.T_const, Sim.T_sh, Sim.T_op2, Sim.T_op1, Sim.T_test, Sim.T_not, Sim.T_andM, Sim.T_orM, Sim.T_ifM, Sim.T_bl, Sim.T_andV, Sim.T_orV, Sim.T_notV, Sim.T_peek, Sim.T_vP, Sim.T_opP, Sim.T_nilA, Sim.T_consA, Sim.T_nilP, Sim.T_consP, Sim.T_tup, Sim.T_lst, Sim.T_noO, Sim.T_someO, Sim.T_slice, Sim.T_callM, Sim.resL_cons, Sim.resL_nil', Sim.T_isi, Sim.T_nil, Sim.T_brk, Sim.T_cnt, Sim.SeqQ_nxt, Sim.SeqQ_brk, Sim.SeqQ_cnt, Sim.SeqQ_ret, Sim.T_seq, Sim.T_set, Sim.T_drop, Sim.T_ret, Sim.T_retN, Sim.T_retS, Sim.T_asg, Sim.T_nameG, Sim.T_tupG, Sim.T_nilG, Sim.T_consG, Sim.T_aug, Sim.T_app, Sim.T_putD, Sim.T_newD, Sim.T_disp, Sim.T_iter, Sim.T_range1, Sim.T_range2, Sim.LoopQ_nxt, Sim.LoopQ_cnt, Sim.LoopQ_brk, Sim.LoopQ_ret, Sim.T_for, Sim.T_comp, Sim.T_yes, Sim.wipeR, Sim.T_rev, Sim.revD_lst, Sim.T_revR1, Sim.T_rg1, Sim.T_rg2, Sim.T_lstRg, Sim.T_tupRg, Sim.sumD_ints, Sim.ixDD_tup, Sim.ixDD_lst, Sim.ixDD_scr, Sim.ixDD_dct, Sim.atI_nat, Sim.atI_lit, Sim.lenD_tup, Sim.lenD_lst, Sim.lenD_scr, Sim.lenD_dct, Sim.addD_int, Sim.iaddD_int, Sim.subD_int, Sim.mulD_int, Sim.mulD_one, Sim.fdivD_int, Sim.modD_int, Sim.powD_int, Sim.addD_tup, Sim.addD_lst, Sim.negD_int, Sim.ltD_int, Sim.leD_int, Sim.gtD_int, Sim.geD_int, Sim.eqB_int, Sim.eqB_str, Sim.eqB_bl, Sim.eqB_non, Sim.eqD_of, Sim.neD_of, Sim.isD_non, Sim.isNotD_non, Sim.isN_non, Sim.isN_bl, Sim.isN_int, Sim.isN_str, Sim.isN_tup, Sim.isN_lst, Sim.frz_non, Sim.frz_bl, Sim.frz_int, Sim.frz_str, Sim.frz_tup, Sim.frz_lst, Sim.frz_dct, Sim.frz_scr, Sim.maxD_int, Sim.minD_int, Sim.absD_int, Sim.intD_int, Sim.tupleD_tup, Sim.tupleD_lst, Sim.listD_tup, Sim.listD_lst, Sim.listD_scr, Sim.itemsD_sh, Sim.itemsD_tup, Sim.itemsD_scr, Sim.isi_non, Sim.isi_bl, Sim.isi_int, Sim.isi_str, Sim.isi_tup, Sim.isi_lst, Sim.slice_tup, Sim.slice_lst, Sim.inDD_of, Sim.notInDD_of, Sim.inD_tup, Sim.inD_lst, Sim.inD_dct, Sim.cap, Sim.nat10, Sim.nat2, Nat.zero_le, Sim.ex_some, Sim.ex_some2, Sim.ex_if, Sim.ex_map, Sim.ex_eq, Sim.ex_bl, Sim.ex_int, Sim.ex_own, Sim.ex_lst, Sim.inr_at, Sim.inl_at, Sim.tt_c, Sim.ff_c, Sim.pad_nil, Sim.pad_n, Sim.nones_0, Sim.nones_s, List.getElem?_cons_zero, List.getElem?_cons_succ, List.set_cons_zero, List.set_cons_succ, List.map_cons, List.map_nil, List.cons_append, List.nil_append, Option.map_some, List.length_cons, List.length_nil, Int.zero_add, Nat.zero_add, Nat.reduceAdd, Nat.reduceLeDiff, Nat.reduceMul, true_and, and_true, decide_eq_true_eq, decide_eq_false_iff_not, Bool.false_eq_true, Bool.true_eq_false, false_implies, true_implies, implies_true, eq_self, decide_true, decide_false, not_true_eq_false, not_false_eq_true, Bool.not_true, Bool.not_false, Int.reduceLT, Int.reduceLE, Int.reduceNeg, Int.reducePow, Int.reduceToNat]; first | exact ⟨_, rfl⟩ | exact fun _ => ⟨_, rfl⟩
  · simp only [Sim.T_ok, Sim.T_fail, Sim.T_bind, Sim.T_pureO, Sim.EndQ_nxt, Sim.EndQ_ret, Sim.lasts_nil, Sim.T_call, Sim.T_name, Sim.T_frz, Sim.T_const, Sim.T_sh, Sim.T_op2, Sim.T_op1, Sim.T_test, Sim.T_not, Sim.T_andM, Sim.T_orM, Sim.T_ifM, Sim.T_bl, Sim.T_andV, Sim.T_orV, Sim.T_notV, Sim.T_peek, Sim.T_vP, Sim.T_opP, Sim.T_nilA, Sim.T_consA, Sim.T_nilP, Sim.T_consP, Sim.T_tup, Sim.T_lst, Sim.T_noO, Sim.T_someO, Sim.T_slice, Sim.T_callM, Sim.resL_cons, Sim.resL_nil', Sim.T_isi, Sim.T_nil, Sim.T_brk, Sim.T_cnt, Sim.SeqQ_nxt, Sim.SeqQ_brk, Sim.SeqQ_cnt, Sim.SeqQ_ret, Sim.T_seq, Sim.T_set, Sim.T_drop, Sim.T_ret, Sim.T_retN, Sim.T_retS, Sim.T_asg, Sim.T_nameG, Sim.T_tupG, Sim.T_nilG, Sim.T_consG, Sim.T_aug, Sim.T_app, Sim.T_putD, Sim.T_newD, Sim.T_disp, Sim.T_iter, Sim.T_range1, Sim.T_range2, Sim.LoopQ_nxt, Sim.LoopQ_cnt, Sim.LoopQ_brk, Sim.LoopQ_ret, Sim.T_for, Sim.T_comp, Sim.T_yes, Sim.wipeR, Sim.T_rev, Sim.revD_lst, Sim.T_revR1, Sim.T_rg1, Sim.T_rg2, Sim.T_lstRg, Sim.T_tupRg, Sim.sumD_ints, Sim.ixDD_tup, Sim.ixDD_lst, Sim.ixDD_scr, Sim.ixDD_dct, Sim.atI_nat, Sim.atI_lit, Sim.lenD_tup, Sim.lenD_lst, Sim.lenD_scr, Sim.lenD_dct, Sim.addD_int, Sim.iaddD_int, Sim.subD_int, Sim.mulD_int, Sim.mulD_one, Sim.fdivD_int, Sim.modD_int, Sim.powD_int, Sim.addD_tup, Sim.addD_lst, Sim.negD_int, Sim.ltD_int, Sim.leD_int, Sim.gtD_int, Sim.geD_int, Sim.eqB_int, Sim.eqB_str, Sim.eqB_bl, Sim.eqB_non, Sim.eqD_of, Sim.neD_of, Sim.isD_non, Sim.isNotD_non, Sim.isN_non, Sim.isN_bl, Sim.isN_int, Sim.isN_str, Sim.isN_tup, Sim.isN_lst, Sim.frz_non, Sim.frz_bl, Sim.frz_int, Sim.frz_str, Sim.frz_tup, Sim.frz_lst, Sim.frz_dct, Sim.frz_scr, Sim.maxD_int, Sim.minD_int, Sim.absD_int, Sim.intD_int, Sim.tupleD_tup, Sim.tupleD_lst, Sim.listD_tup, Sim.listD_lst, Sim.listD_scr, Sim.itemsD_sh, Sim.itemsD_tup, Sim.itemsD_scr, Sim.isi_non, Sim.isi_bl, Sim.isi_int, Sim.isi_str, Sim.isi_tup, Sim.isi_lst, Sim.slice_tup, Sim.slice_lst, Sim.inDD_of, Sim.notInDD_of, Sim.inD_tup, Sim.inD_lst, Sim.inD_dct, Sim.cap, Sim.nat10, Sim.nat2, Nat.zero_le, Sim.ex_some, Sim.ex_some2, Sim.ex_if, Sim.ex_map, Sim.ex_eq, Sim.ex_bl, Sim.ex_int, Sim.ex_own, Sim.ex_lst, Sim.inr_at, Sim.inl_at, Sim.tt_c, Sim.ff_c, Sim.pad_nil, Sim.pad_n, Sim.nones_0, Sim.nones_s, List.getElem?_cons_zero, List.getElem?_cons_succ, List.set_cons_zero, List.set_cons_succ, List.map_cons, List.map_nil, List.cons_append, List.nil_append, Option.map_some, List.length_cons, List.length_nil, Int.zero_add, Nat.zero_add, Nat.reduceAdd, Nat.reduceLeDiff, Nat.reduceMul, true_and, and_true, decide_eq_true_eq, decide_eq_false_iff_not, Bool.false_eq_true, Bool.true_eq_false, false_implies, true_implies, implies_true, eq_self, decide_true, decide_false, not_true_eq_false, not_false_eq_true, Bool.not_true, Bool.not_false, Int.reduceLT, Int.reduceLE, Int.reduceNeg, Int.reducePow, Int.reduceToNat]; exact ⟨.bin .add (.var k) (.num (z % 4 - 1)), rfl, ⟨hkl, trivial, fun h => by cases h⟩, by simp only [Tm.dep]; decide⟩
  simp only [Sim.T_ok, Sim.T_fail, Sim.T_bind, Sim.T_pureO, Sim.EndQ_nxt, Sim.EndQ_ret, Sim.lasts_nil, Sim.T_call, Sim.T_name, Sim.T_frz, Sim.T_const, Sim.T_sh, Sim.T_op2, Sim.T_op1, Sim.T_test, Sim.T_not, Sim.T_andM, Sim.T_orM, Sim.T_ifM, Sim.T_bl, Sim.T_andV, Sim.T_orV, Sim.T_notV, Sim.T_peek, Sim.T_vP, Sim.T_opP, Sim.T_nilA, Sim.T_consA, Sim.T_nilP, Sim.T_consP, Sim.T_tup, Sim.T_lst, Sim.T_noO, Sim.T_someO, Sim.T_slice, Sim.T_callM, Sim.resL_cons, Sim.resL_nil', Sim.T_isi, Sim.T_nil, Sim.T_brk, Sim.T_cnt, Sim.SeqQ_nxt, Sim.SeqQ_brk, Sim.SeqQ_cnt, Sim.SeqQ_ret, Sim.T_seq, Sim.T_set, Sim.T_drop, Sim.T_ret, Sim.T_retN, Sim.T_retS, Sim.T_asg, Sim.T_nameG, Sim.T_tupG, Sim.T_nilG, Sim.T_consG, Sim.T_aug, Sim.T_app, Sim.T_putD, Sim.T_newD, Sim.T_disp, Sim.T_iter, Sim.T_range1, Sim.T_range2, Sim.LoopQ_nxt, Sim.LoopQ_cnt, Sim.LoopQ_brk, Sim.LoopQ_ret, Sim.T_for, Sim.T_comp, Sim.T_yes, Sim.wipeR, Sim.T_rev, Sim.revD_lst, Sim.T_revR1, Sim.T_rg1, Sim.T_rg2, Sim.T_lstRg, Sim.T_tupRg, Sim.sumD_ints, Sim.ixDD_tup, Sim.ixDD_lst, Sim.ixDD_scr, Sim.ixDD_dct, Sim.atI_nat, Sim.atI_lit, Sim.lenD_tup, Sim.lenD_lst, Sim.lenD_scr, Sim.lenD_dct, Sim.addD_int, Sim.iaddD_int, Sim.subD_int, Sim.mulD_int, Sim.mulD_one, Sim.fdivD_int, Sim.modD_int, Sim.powD_int, Sim.addD_tup, Sim.addD_lst, Sim.negD_int, Sim.ltD_int, Sim.leD_int, Sim.gtD_int, Sim.geD_int, Sim.eqB_int, Sim.eqB_str, Sim.eqB_bl, Sim.eqB_non, Sim.eqD_of, Sim.neD_of, Sim.isD_non, Sim.isNotD_non, Sim.isN_non, Sim.isN_bl, Sim.isN_int, Sim.isN_str, Sim.isN_tup, Sim.isN_lst, Sim.frz_non, Sim.frz_bl, Sim.frz_int, Sim.frz_str, Sim.frz_tup, Sim.frz_lst, Sim.frz_dct, Sim.frz_scr, Sim.maxD_int, Sim.minD_int, Sim.absD_int, Sim.intD_int, Sim.tupleD_tup, Sim.tupleD_lst, Sim.listD_tup, Sim.listD_lst, Sim.listD_scr, Sim.itemsD_sh, Sim.itemsD_tup, Sim.itemsD_scr, Sim.isi_non, Sim.isi_bl, Sim.isi_int, Sim.isi_str, Sim.isi_tup, Sim.isi_lst, Sim.slice_tup, Sim.slice_lst, Sim.inDD_of, Sim.notInDD_of, Sim.inD_tup, Sim.inD_lst, Sim.inD_dct, Sim.cap, Sim.nat10, Sim.nat2, Nat.zero_le, Sim.ex_some, Sim.ex_some2, Sim.ex_if, Sim.ex_map, Sim.ex_eq, Sim.ex_bl, Sim.ex_int, Sim.ex_own, Sim.ex_lst, Sim.inr_at, Sim.inl_at, Sim.tt_c, Sim.ff_c, Sim.pad_nil, Sim.pad_n, Sim.nones_0, Sim.nones_s, List.getElem?_cons_zero, List.getElem?_cons_succ, List.set_cons_zero, List.set_cons_succ, List.map_cons, List.map_nil, List.cons_append, List.nil_append, Option.map_some, List.length_cons, List.length_nil, Int.zero_add, Nat.zero_add, Nat.reduceAdd, Nat.reduceLeDiff, Nat.reduceMul, true_and, and_true, decide_eq_true_eq, decide_eq_false_iff_not, Bool.false_eq_true, Bool.true_eq_false, false_implies, true_implies, implies_true, eq_self, decide_true, decide_false, not_true_eq_false, not_false_eq_true, Bool.not_true, Bool.not_false, Int.reduceLT, Int.reduceLE, Int.reduceNeg, Int.reducePow, Int.reduceToNat]
  refine T_iteTo (fun _ => True) ?_ (fun _ => ?_) (fun _ => ?_)
  · simp only [Sim.T_ok, Sim.T_fail, Sim.T_bind, Sim.T_pureO, Sim.EndQ_nxt, Sim.EndQ_ret, Sim.lasts_nil, Sim.T_call, Sim.T_name, Sim.T_frz, Sim.T_const, Sim.T_sh, Sim.T_op2, Sim.T_op1, Sim.T_test, Sim.T_not, Sim.T_andM, Sim.T_orM, Sim.T_ifM, Sim.T_bl, Sim.T_andV, Sim.T_orV, Sim.T_notV, Sim.T_peek, Sim.T_vP, Sim.T_opP, Sim.T_nilA, Sim.T_consA, Sim.T_nilP, Sim.T_consP, Sim.T_tup, Sim.T_lst, Sim.T_noO, Sim.T_someO, Sim.T_slice, Sim.T_callM, Sim.resL_cons, Sim.resL_nil', Sim.T_isi, Sim.T_nil, Sim.T_brk, Sim.T_cnt, Sim.SeqQ_nxt, Sim.SeqQ_brk, Sim.SeqQ_cnt, Sim.SeqQ_ret, Sim.T_seq, Sim.T_set, Sim.T_drop, Sim.T_ret, Sim.T_retN, Sim.T_retS, Sim.T_asg, Sim.T_nameG, Sim.T_tupG, Sim.T_nilG, Sim.T_consG, Sim.T_aug, Sim.T_app, Sim.T_putD, Sim.T_newD, Sim.T_disp, Sim.T_iter, Sim.T_range1, Sim.T_range2, Sim.LoopQ_nxt, Sim.LoopQ_cnt, Sim.LoopQ_brk, Sim.LoopQ_ret, Sim.T_for, Sim.T_comp, Sim.T_yes, Sim.wipeR, Sim.T_rev, Sim.revD_lst, Sim.T_revR1, Sim.T_rg1, Sim.T_rg2, Sim.T_lstRg, Sim.T_tupRg, Sim.sumD_ints, Sim.ixDD_tup, Sim.ixDD_lst, Sim.ixDD_scr, Sim.ixDD_dct, Sim.atI_nat, Sim.atI_lit, Sim.lenD_tup, Sim.lenD_lst, Sim.lenD_scr, Sim.lenD_dct, Sim.addD_int, Sim.iaddD_int, Sim.subD_int, Sim.mulD_int, Sim.mulD_one, Sim.fdivD_int, Sim.modD_int, Sim.powD_int, Sim.addD_tup, Sim.addD_lst, Sim.negD_int, Sim.ltD_int, Sim.leD_int, Sim.gtD_int, Sim.geD_int, Sim.eqB_int, Sim.eqB_str, Sim.eqB_bl, Sim.eqB_non, Sim.eqD_of, Sim.neD_of, Sim.isD_non, Sim.isNotD_non, Sim.isN_non, Sim.isN_bl, Sim.isN_int, Sim.isN_str, Sim.isN_tup, Sim.isN_lst, Sim.frz_non, Sim.frz_bl, Sim.frz_int, Sim.frz_str, Sim.frz_tup, Sim.frz_lst, Sim.frz_dct, Sim.frz_scr, Sim.maxD_int, Sim.minD_int, Sim.absD_int, Sim.intD_int, Sim.tupleD_tup, Sim.tupleD_lst, Sim.listD_tup, Sim.listD_lst, Sim.listD_scr, Sim.itemsD_sh, Sim.itemsD_tup, Sim.itemsD_scr, Sim.isi_non, Sim.isi_bl, Sim.isi_int, Sim.isi_str, Sim.isi_tup, Sim.isi_lst, Sim.slice_tup, Sim.slice_lst, Sim.inDD_of, Sim.notInDD_of, Sim.inD_tup, Sim.inD_lst, Sim.inD_dct, Sim.cap, Sim.nat10, Sim.nat2, Nat.zero_le, Sim.ex_some, Sim.ex_some2, Sim.ex_if, Sim.ex_map, Sim.ex_eq, Sim.ex_bl, Sim.ex_int, Sim.ex_own, Sim.ex_lst, Sim.inr_at, Sim.inl_at, Sim.tt_c, Sim.ff_c, Sim.pad_nil, Sim.pad_n, Sim.nones_0, Sim.nones_s, List.getElem?_cons_zero, List.getElem?_cons_succ, List.set_cons_zero, List.set_cons_succ, List.map_cons, List.map_nil, List.cons_append, List.nil_append, Option.map_some, List.length_cons, List.length_nil, Int.zero_add, Nat.zero_add, Nat.reduceAdd, Nat.reduceLeDiff, Nat.reduceMul, true_and, and_true, decide_eq_true_eq, decide_eq_false_iff_not, Bool.false_eq_true, Bool.true_eq_false, false_implies, true_implies, implies_true, eq_self, decide_true, decide_false, not_true_eq_false, not_false_eq_true, Bool.not_true, Bool.not_false, Int.reduceLT, Int.reduceLE, Int.reduceNeg, Int.reducePow, Int.reduceToNat]; first | exact ⟨_, rfl⟩ | exact fun _ => ⟨_, rfl⟩
  · simp only [Sim.T_ok, Sim.T_fail, Sim.T_bind, Sim.T_pureO, Sim.EndQ_nxt, Sim.EndQ_ret, Sim.lasts_nil, Sim.T_call, Sim.T_name, Sim.T_frz, Sim.T_const, Sim.T_sh, Sim.T_op2, Sim.T_op1, Sim.T_test, Sim.T_not, Sim.T_andM, Sim.T_orM, Sim.T_ifM, Sim.T_bl, Sim.T_andV, Sim.T_orV, Sim.T_notV, Sim.T_peek, Sim.T_vP, Sim.T_opP, Sim.T_nilA, Sim.T_consA, Sim.T_nilP, Sim.T_consP, Sim.T_tup, Sim.T_lst, Sim.T_noO, Sim.T_someO, Sim.T_slice, Sim.T_callM, Sim.resL_cons, Sim.resL_nil', Sim.T_isi, Sim.T_nil, Sim.T_brk, Sim.T_cnt, Sim.SeqQ_nxt, Sim.SeqQ_brk, Sim.SeqQ_cnt, Sim.SeqQ_ret, Sim.T_seq, Sim.T_set, Sim.T_drop, Sim.T_ret, Sim.T_retN, Sim.T_retS, Sim.T_asg, Sim.T_nameG, Sim.T_tupG, Sim.T_nilG, Sim.T_consG, Sim.T_aug, Sim.T_app, Sim.T_putD, Sim.T_newD, Sim.T_disp, Sim.T_iter, Sim.T_range1, Sim.T_range2, Sim.LoopQ_nxt, Sim.LoopQ_cnt, Sim.LoopQ_brk, Sim.LoopQ_ret, Sim.T_for, Sim.T_comp, Sim.T_yes, Sim.wipeR, Sim.T_rev, Sim.revD_lst, Sim.T_revR1, Sim.T_rg1, Sim.T_rg2, Sim.T_lstRg, Sim.T_tupRg, Sim.sumD_ints, Sim.ixDD_tup, Sim.ixDD_lst, Sim.ixDD_scr, Sim.ixDD_dct, Sim.atI_nat, Sim.atI_lit, Sim.lenD_tup, Sim.lenD_lst, Sim.lenD_scr, Sim.lenD_dct, Sim.addD_int, Sim.iaddD_int, Sim.subD_int, Sim.mulD_int, Sim.mulD_one, Sim.fdivD_int, Sim.modD_int, Sim.powD_int, Sim.addD_tup, Sim.addD_lst, Sim.negD_int, Sim.ltD_int, Sim.leD_int, Sim.gtD_int, Sim.geD_int, Sim.eqB_int, Sim.eqB_str, Sim.eqB_bl, Sim.eqB_non, Sim.eqD_of, Sim.neD_of, Sim.isD_non, Sim.isNotD_non, Sim.isN_non, Sim.isN_bl, Sim.isN_int, Sim.isN_str, Sim.isN_tup, Sim.isN_lst, Sim.frz_non, Sim.frz_bl, Sim.frz_int, Sim.frz_str, Sim.frz_tup, Sim.frz_lst, Sim.frz_dct, Sim.frz_scr, Sim.maxD_int, Sim.minD_int, Sim.absD_int, Sim.intD_int, Sim.tupleD_tup, Sim.tupleD_lst, Sim.listD_tup, Sim.listD_lst, Sim.listD_scr, Sim.itemsD_sh, Sim.itemsD_tup, Sim.itemsD_scr, Sim.isi_non, Sim.isi_bl, Sim.isi_int, Sim.isi_str, Sim.isi_tup, Sim.isi_lst, Sim.slice_tup, Sim.slice_lst, Sim.inDD_of, Sim.notInDD_of, Sim.inD_tup, Sim.inD_lst, Sim.inD_dct, Sim.cap, Sim.nat10, Sim.nat2, Nat.zero_le, Sim.ex_some, Sim.ex_some2, Sim.ex_if, Sim.ex_map, Sim.ex_eq, Sim.ex_bl, Sim.ex_int, Sim.ex_own, Sim.ex_lst, Sim.inr_at, Sim.inl_at, Sim.tt_c, Sim.ff_c, Sim.pad_nil, Sim.pad_n, Sim.nones_0, Sim.nones_s, List.getElem?_cons_zero, List.getElem?_cons_succ, List.set_cons_zero, List.set_cons_succ, List.map_cons, List.map_nil, List.cons_append, List.nil_append, Option.map_some, List.length_cons, List.length_nil, Int.zero_add, Nat.zero_add, Nat.reduceAdd, Nat.reduceLeDiff, Nat.reduceMul, true_and, and_true, decide_eq_true_eq, decide_eq_false_iff_not, Bool.false_eq_true, Bool.true_eq_false, false_implies, true_implies, implies_true, eq_self, decide_true, decide_false, not_true_eq_false, not_false_eq_true, Bool.not_true, Bool.not_false, Int.reduceLT, Int.reduceLE, Int.reduceNeg, Int.reducePow, Int.reduceToNat]; exact ⟨.bin .sub (.num (z % 4 - 1)) (.var k), rfl, ⟨trivial, hkl, fun h => by cases h⟩, by simp only [Tm.dep]; decide⟩
  simp only [Sim.T_ok, Sim.T_fail, Sim.T_bind, Sim.T_pureO, Sim.EndQ_nxt, Sim.EndQ_ret, Sim.lasts_nil, Sim.T_call, Sim.T_name, Sim.T_frz, Sim.T_const, Sim.T_sh, Sim.T_op2, Sim.T_op1, Sim.T_test, Sim.T_not, Sim.T_andM, Sim.T_orM, Sim.T_ifM, Sim.T_bl, Sim.T_andV, Sim.T_orV, Sim.T_notV, Sim.T_peek, Sim.T_vP, Sim.T_opP, Sim.T_nilA, Sim.T_consA, Sim.T_nilP, Sim.T_consP, Sim.T_tup, Sim.T_lst, Sim.T_noO, Sim.T_someO, Sim.T_slice, Sim.T_callM, Sim.resL_cons, Sim.resL_nil', Sim.T_isi, Sim.T_nil, Sim.T_brk, Sim.T_cnt, Sim.SeqQ_nxt, Sim.SeqQ_brk, Sim.SeqQ_cnt, Sim.SeqQ_ret, Sim.T_seq, Sim.T_set, Sim.T_drop, Sim.T_ret, Sim.T_retN, Sim.T_retS, Sim.T_asg, Sim.T_nameG, Sim.T_tupG, Sim.T_nilG, Sim.T_consG, Sim.T_aug, Sim.T_app, Sim.T_putD, Sim.T_newD, Sim.T_disp, Sim.T_iter, Sim.T_range1, Sim.T_range2, Sim.LoopQ_nxt, Sim.LoopQ_cnt, Sim.LoopQ_brk, Sim.LoopQ_ret, Sim.T_for, Sim.T_comp, Sim.T_yes, Sim.wipeR, Sim.T_rev, Sim.revD_lst, Sim.T_revR1, Sim.T_rg1, Sim.T_rg2, Sim.T_lstRg, Sim.T_tupRg, Sim.sumD_ints, Sim.ixDD_tup, Sim.ixDD_lst, Sim.ixDD_scr, Sim.ixDD_dct, Sim.atI_nat, Sim.atI_lit, Sim.lenD_tup, Sim.lenD_lst, Sim.lenD_scr, Sim.lenD_dct, Sim.addD_int, Sim.iaddD_int, Sim.subD_int, Sim.mulD_int, Sim.mulD_one, Sim.fdivD_int, Sim.modD_int, Sim.powD_int, Sim.addD_tup, Sim.addD_lst, Sim.negD_int, Sim.ltD_int, Sim.leD_int, Sim.gtD_int, Sim.geD_int, Sim.eqB_int, Sim.eqB_str, Sim.eqB_bl, Sim.eqB_non, Sim.eqD_of, Sim.neD_of, Sim.isD_non, Sim.isNotD_non, Sim.isN_non, Sim.isN_bl, Sim.isN_int, Sim.isN_str, Sim.isN_tup, Sim.isN_lst, Sim.frz_non, Sim.frz_bl, Sim.frz_int, Sim.frz_str, Sim.frz_tup, Sim.frz_lst, Sim.frz_dct, Sim.frz_scr, Sim.maxD_int, Sim.minD_int, Sim.absD_int, Sim.intD_int, Sim.tupleD_tup, Sim.tupleD_lst, Sim.listD_tup, Sim.listD_lst, Sim.listD_scr, Sim.itemsD_sh, Sim.itemsD_tup, Sim.itemsD_scr, Sim.isi_non, Sim.isi_bl, Sim.isi_int, Sim.isi_str, Sim.isi_tup, Sim.isi_lst, Sim.slice_tup, Sim.slice_lst, Sim.inDD_of, Sim.notInDD_of, Sim.inD_tup, Sim.inD_lst, Sim.inD_dct, Sim.cap, Sim.nat10, Sim.nat2, Nat.zero_le, Sim.ex_some, Sim.ex_some2, Sim.ex_if, Sim.ex_map, Sim.ex_eq, Sim.ex_bl, Sim.ex_int, Sim.ex_own, Sim.ex_lst, Sim.inr_at, Sim.inl_at, Sim.tt_c, Sim.ff_c, Sim.pad_nil, Sim.pad_n, Sim.nones_0, Sim.nones_s, List.getElem?_cons_zero, List.getElem?_cons_succ, List.set_cons_zero, List.set_cons_succ, List.map_cons, List.map_nil, List.cons_append, List.nil_append, Option.map_some, List.length_cons, List.length_nil, Int.zero_add, Nat.zero_add, Nat.reduceAdd, Nat.reduceLeDiff, Nat.reduceMul, true_and, and_true, decide_eq_true_eq, decide_eq_false_iff_not, Bool.false_eq_true, Bool.true_eq_false, false_implies, true_implies, implies_true, eq_self, decide_true, decide_false, not_true_eq_false, not_false_eq_true, Bool.not_true, Bool.not_false, Int.reduceLT, Int.reduceLE, Int.reduceNeg, Int.reducePow, Int.reduceToNat]
  refine T_iteTo (fun _ => True) ?_ (fun _ => ?_) (fun _ => ?_)
  · simp only [Sim.T_ok, Sim.T_fail, Sim.T_bind, Sim.T_pureO, Sim.EndQ_nxt, Sim.EndQ_ret, Sim.lasts_nil, Sim.T_call, Sim.T_name, Sim.T_frz, Sim.T_const, Sim.T_sh, Sim.T_op2, Sim.T_op1, Sim.T_test, Sim.T_not, Sim.T_andM, Sim.T_orM, Sim.T_ifM, Sim.T_bl, Sim.T_andV, Sim.T_orV, Sim.T_notV, Sim.T_peek, Sim.T_vP, Sim.T_opP, Sim.T_nilA, Sim.T_consA, Sim.T_nilP, Sim.T_consP, Sim.T_tup, Sim.T_lst, Sim.T_noO, Sim.T_someO, Sim.T_slice, Sim.T_callM, Sim.resL_cons, Sim.resL_nil', Sim.T_isi, Sim.T_nil, Sim.T_brk, Sim.T_cnt, Sim.SeqQ_nxt, Sim.SeqQ_brk, Sim.SeqQ_cnt, Sim.SeqQ_ret, Sim.T_seq, Sim.T_set, Sim.T_drop, Sim.T_ret, Sim.T_retN, Sim.T_retS, Sim.T_asg, Sim.T_nameG, Sim.T_tupG, Sim.T_nilG, Sim.T_consG, Sim.T_aug, Sim.T_app, Sim.T_putD, Sim.T_newD, Sim.T_disp, Sim.T_iter, Sim.T_range1, Sim.T_range2, Sim.LoopQ_nxt, Sim.LoopQ_cnt, Sim.LoopQ_brk, Sim.LoopQ_ret, Sim.T_for, Sim.T_comp, Sim.T_yes, Sim.wipeR, Sim.T_rev, Sim.revD_lst, Sim.T_revR1, Sim.T_rg1, Sim.T_rg2, Sim.T_lstRg, Sim.T_tupRg, Sim.sumD_ints, Sim.ixDD_tup, Sim.ixDD_lst, Sim.ixDD_scr, Sim.ixDD_dct, Sim.atI_nat, Sim.atI_lit, Sim.lenD_tup, Sim.lenD_lst, Sim.lenD_scr, Sim.lenD_dct, Sim.addD_int, Sim.iaddD_int, Sim.subD_int, Sim.mulD_int, Sim.mulD_one, Sim.fdivD_int, Sim.modD_int, Sim.powD_int, Sim.addD_tup, Sim.addD_lst, Sim.negD_int, Sim.ltD_int, Sim.leD_int, Sim.gtD_int, Sim.geD_int, Sim.eqB_int, Sim.eqB_str, Sim.eqB_bl, Sim.eqB_non, Sim.eqD_of, Sim.neD_of, Sim.isD_non, Sim.isNotD_non, Sim.isN_non, Sim.isN_bl, Sim.isN_int, Sim.isN_str, Sim.isN_tup, Sim.isN_lst, Sim.frz_non, Sim.frz_bl, Sim.frz_int, Sim.frz_str, Sim.frz_tup, Sim.frz_lst, Sim.frz_dct, Sim.frz_scr, Sim.maxD_int, Sim.minD_int, Sim.absD_int, Sim.intD_int, Sim.tupleD_tup, Sim.tupleD_lst, Sim.listD_tup, Sim.listD_lst, Sim.listD_scr, Sim.itemsD_sh, Sim.itemsD_tup, Sim.itemsD_scr, Sim.isi_non, Sim.isi_bl, Sim.isi_int, Sim.isi_str, Sim.isi_tup, Sim.isi_lst, Sim.slice_tup, Sim.slice_lst, Sim.inDD_of, Sim.notInDD_of, Sim.inD_tup, Sim.inD_lst, Sim.inD_dct, Sim.cap, Sim.nat10, Sim.nat2, Nat.zero_le, Sim.ex_some, Sim.ex_some2, Sim.ex_if, Sim.ex_map, Sim.ex_eq, Sim.ex_bl, Sim.ex_int, Sim.ex_own, Sim.ex_lst, Sim.inr_at, Sim.inl_at, Sim.tt_c, Sim.ff_c, Sim.pad_nil, Sim.pad_n, Sim.nones_0, Sim.nones_s, List.getElem?_cons_zero, List.getElem?_cons_succ, List.set_cons_zero, List.set_cons_succ, List.map_cons, List.map_nil, List.cons_append, List.nil_append, Option.map_some, List.length_cons, List.length_nil, Int.zero_add, Nat.zero_add, Nat.reduceAdd, Nat.reduceLeDiff, Nat.reduceMul, true_and, and_true, decide_eq_true_eq, decide_eq_false_iff_not, Bool.false_eq_true, Bool.true_eq_false, false_implies, true_implies, implies_true, eq_self, decide_true, decide_false, not_true_eq_false, not_false_eq_true, Bool.not_true, Bool.not_false, Int.reduceLT, Int.reduceLE, Int.reduceNeg, Int.reducePow, Int.reduceToNat]; first | exact ⟨_, rfl⟩ | exact fun _ => ⟨_, rfl⟩
  · simp only [Sim.T_ok, Sim.T_fail, Sim.T_bind, Sim.T_pureO, Sim.EndQ_nxt, Sim.EndQ_ret, Sim.lasts_nil, Sim.T_call, Sim.T_name, Sim.T_frz, Sim.T_const, Sim.T_sh, Sim.T_op2, Sim.T_op1, Sim.T_test, Sim.T_not, Sim.T_andM, Sim.T_orM, Sim.T_ifM, Sim.T_bl, Sim.T_andV, Sim.T_orV, Sim.T_notV, Sim.T_peek, Sim.T_vP, Sim.T_opP, Sim.T_nilA, Sim.T_consA, Sim.T_nilP, Sim.T_consP, Sim.T_tup, Sim.T_lst, Sim.T_noO, Sim.T_someO, Sim.T_slice, Sim.T_callM, Sim.resL_cons, Sim.resL_nil', Sim.T_isi, Sim.T_nil, Sim.T_brk, Sim.T_cnt, Sim.SeqQ_nxt, Sim.SeqQ_brk, Sim.SeqQ_cnt, Sim.SeqQ_ret, Sim.T_seq, Sim.T_set, Sim.T_drop, Sim.T_ret, Sim.T_retN, Sim.T_retS, Sim.T_asg, Sim.T_nameG, Sim.T_tupG, Sim.T_nilG, Sim.T_consG, Sim.T_aug, Sim.T_app, Sim.T_putD, Sim.T_newD, Sim.T_disp, Sim.T_iter, Sim.T_range1, Sim.T_range2, Sim.LoopQ_nxt, Sim.LoopQ_cnt, Sim.LoopQ_brk, Sim.LoopQ_ret, Sim.T_for, Sim.T_comp, Sim.T_yes, Sim.wipeR, Sim.T_rev, Sim.revD_lst, Sim.T_revR1, Sim.T_rg1, Sim.T_rg2, Sim.T_lstRg, Sim.T_tupRg, Sim.sumD_ints, Sim.ixDD_tup, Sim.ixDD_lst, Sim.ixDD_scr, Sim.ixDD_dct, Sim.atI_nat, Sim.atI_lit, Sim.lenD_tup, Sim.lenD_lst, Sim.lenD_scr, Sim.lenD_dct, Sim.addD_int, Sim.iaddD_int, Sim.subD_int, Sim.mulD_int, Sim.mulD_one, Sim.fdivD_int, Sim.modD_int, Sim.powD_int, Sim.addD_tup, Sim.addD_lst, Sim.negD_int, Sim.ltD_int, Sim.leD_int, Sim.gtD_int, Sim.geD_int, Sim.eqB_int, Sim.eqB_str, Sim.eqB_bl, Sim.eqB_non, Sim.eqD_of, Sim.neD_of, Sim.isD_non, Sim.isNotD_non, Sim.isN_non, Sim.isN_bl, Sim.isN_int, Sim.isN_str, Sim.isN_tup, Sim.isN_lst, Sim.frz_non, Sim.frz_bl, Sim.frz_int, Sim.frz_str, Sim.frz_tup, Sim.frz_lst, Sim.frz_dct, Sim.frz_scr, Sim.maxD_int, Sim.minD_int, Sim.absD_int, Sim.intD_int, Sim.tupleD_tup, Sim.tupleD_lst, Sim.listD_tup, Sim.listD_lst, Sim.listD_scr, Sim.itemsD_sh, Sim.itemsD_tup, Sim.itemsD_scr, Sim.isi_non, Sim.isi_bl, Sim.isi_int, Sim.isi_str, Sim.isi_tup, Sim.isi_lst, Sim.slice_tup, Sim.slice_lst, Sim.inDD_of, Sim.notInDD_of, Sim.inD_tup, Sim.inD_lst, Sim.inD_dct, Sim.cap, Sim.nat10, Sim.nat2, Nat.zero_le, Sim.ex_some, Sim.ex_some2, Sim.ex_if, Sim.ex_map, Sim.ex_eq, Sim.ex_bl, Sim.ex_int, Sim.ex_own, Sim.ex_lst, Sim.inr_at, Sim.inl_at, Sim.tt_c, Sim.ff_c, Sim.pad_nil, Sim.pad_n, Sim.nones_0, Sim.nones_s, List.getElem?_cons_zero, List.getElem?_cons_succ, List.set_cons_zero, List.set_cons_succ, List.map_cons, List.map_nil, List.cons_append, List.nil_append, Option.map_some, List.length_cons, List.length_nil, Int.zero_add, Nat.zero_add, Nat.reduceAdd, Nat.reduceLeDiff, Nat.reduceMul, true_and, and_true, decide_eq_true_eq, decide_eq_false_iff_not, Bool.false_eq_true, Bool.true_eq_false, false_implies, true_implies, implies_true, eq_self, decide_true, decide_false, not_true_eq_false, not_false_eq_true, Bool.not_true, Bool.not_false, Int.reduceLT, Int.reduceLE, Int.reduceNeg, Int.reducePow, Int.reduceToNat]; exact ⟨.bin .min (.bin .add (.var k) (.num 1)) (.num (z % 4 - 1)), rfl, ⟨⟨hkl, trivial, fun h => by cases h⟩, trivial, fun h => by cases h⟩, by simp only [Tm.dep]; decide⟩
  simp only [Sim.T_ok, Sim.T_fail, Sim.T_bind, Sim.T_pureO, Sim.EndQ_nxt, Sim.EndQ_ret, Sim.lasts_nil, Sim.T_call, Sim.T_name, Sim.T_frz, Sim.T_const, Sim.T_sh, Sim.T_op2, Sim.T_op1, Sim.T_test, Sim.T_not, Sim.T_andM, Sim.T_orM, Sim.T_ifM, Sim.T_bl, Sim.T_andV, Sim.T_orV, Sim.T_notV, Sim.T_peek, Sim.T_vP, Sim.T_opP, Sim.T_nilA, Sim.T_consA, Sim.T_nilP, Sim.T_consP, Sim.T_tup, Sim.T_lst, Sim.T_noO, Sim.T_someO, Sim.T_slice, Sim.T_callM, Sim.resL_cons, Sim.resL_nil', Sim.T_isi, Sim.T_nil, Sim.T_brk, Sim.T_cnt, Sim.SeqQ_nxt, Sim.SeqQ_brk, Sim.SeqQ_cnt, Sim.SeqQ_ret, Sim.T_seq, Sim.T_set, Sim.T_drop, Sim.T_ret, Sim.T_retN, Sim.T_retS, Sim.T_asg, Sim.T_nameG, Sim.T_tupG, Sim.T_nilG, Sim.T_consG, Sim.T_aug, Sim.T_app, Sim.T_putD, Sim.T_newD, Sim.T_disp, Sim.T_iter, Sim.T_range1, Sim.T_range2, Sim.LoopQ_nxt, Sim.LoopQ_cnt, Sim.LoopQ_brk, Sim.LoopQ_ret, Sim.T_for, Sim.T_comp, Sim.T_yes, Sim.wipeR, Sim.T_rev, Sim.revD_lst, Sim.T_revR1, Sim.T_rg1, Sim.T_rg2, Sim.T_lstRg, Sim.T_tupRg, Sim.sumD_ints, Sim.ixDD_tup, Sim.ixDD_lst, Sim.ixDD_scr, Sim.ixDD_dct, Sim.atI_nat, Sim.atI_lit, Sim.lenD_tup, Sim.lenD_lst, Sim.lenD_scr, Sim.lenD_dct, Sim.addD_int, Sim.iaddD_int, Sim.subD_int, Sim.mulD_int, Sim.mulD_one, Sim.fdivD_int, Sim.modD_int, Sim.powD_int, Sim.addD_tup, Sim.addD_lst, Sim.negD_int, Sim.ltD_int, Sim.leD_int, Sim.gtD_int, Sim.geD_int, Sim.eqB_int, Sim.eqB_str, Sim.eqB_bl, Sim.eqB_non, Sim.eqD_of, Sim.neD_of, Sim.isD_non, Sim.isNotD_non, Sim.isN_non, Sim.isN_bl, Sim.isN_int, Sim.isN_str, Sim.isN_tup, Sim.isN_lst, Sim.frz_non, Sim.frz_bl, Sim.frz_int, Sim.frz_str, Sim.frz_tup, Sim.frz_lst, Sim.frz_dct, Sim.frz_scr, Sim.maxD_int, Sim.minD_int, Sim.absD_int, Sim.intD_int, Sim.tupleD_tup, Sim.tupleD_lst, Sim.listD_tup, Sim.listD_lst, Sim.listD_scr, Sim.itemsD_sh, Sim.itemsD_tup, Sim.itemsD_scr, Sim.isi_non, Sim.isi_bl, Sim.isi_int, Sim.isi_str, Sim.isi_tup, Sim.isi_lst, Sim.slice_tup, Sim.slice_lst, Sim.inDD_of, Sim.notInDD_of, Sim.inD_tup, Sim.inD_lst, Sim.inD_dct, Sim.cap, Sim.nat10, Sim.nat2, Nat.zero_le, Sim.ex_some, Sim.ex_some2, Sim.ex_if, Sim.ex_map, Sim.ex_eq, Sim.ex_bl, Sim.ex_int, Sim.ex_own, Sim.ex_lst, Sim.inr_at, Sim.inl_at, Sim.tt_c, Sim.ff_c, Sim.pad_nil, Sim.pad_n, Sim.nones_0, Sim.nones_s, List.getElem?_cons_zero, List.getElem?_cons_succ, List.set_cons_zero, List.set_cons_succ, List.map_cons, List.map_nil, List.cons_append, List.nil_append, Option.map_some, List.length_cons, List.length_nil, Int.zero_add, Nat.zero_add, Nat.reduceAdd, Nat.reduceLeDiff, Nat.reduceMul, true_and, and_true, decide_eq_true_eq, decide_eq_false_iff_not, Bool.false_eq_true, Bool.true_eq_false, false_implies, true_implies, implies_true, eq_self, decide_true, decide_false, not_true_eq_false, not_false_eq_true, Bool.not_true, Bool.not_false, Int.reduceLT, Int.reduceLE, Int.reduceNeg, Int.reducePow, Int.reduceToNat]
  refine T_iteTo (fun _ => True) ?_ (fun _ => ?_) (fun _ => ?_)
  · simp only [Sim.T_ok, Sim.T_fail, Sim.T_bind, Sim.T_pureO, Sim.EndQ_nxt, Sim.EndQ_ret, Sim.lasts_nil, Sim.T_call, Sim.T_name, Sim.T_frz, Sim.T_const, Sim.T_sh, Sim.T_op2, Sim.T_op1, Sim.T_test, Sim.T_not, Sim.T_andM, Sim.T_orM, Sim.T_ifM, Sim.T_bl, Sim.T_andV, Sim.T_orV, Sim.T_notV, Sim.T_peek, Sim.T_vP, Sim.T_opP, Sim.T_nilA, Sim.T_consA, Sim.T_nilP, Sim.T_consP, Sim.T_tup, Sim.T_lst, Sim.T_noO, Sim.T_someO, Sim.T_slice, Sim.T_callM, Sim.resL_cons, Sim.resL_nil', Sim.T_isi, Sim.T_nil, Sim.T_brk, Sim.T_cnt, Sim.SeqQ_nxt, Sim.SeqQ_brk, Sim.SeqQ_cnt, Sim.SeqQ_ret, Sim.T_seq, Sim.T_set, Sim.T_drop, Sim.T_ret, Sim.T_retN, Sim.T_retS, Sim.T_asg, Sim.T_nameG, Sim.T_tupG, Sim.T_nilG, Sim.T_consG, Sim.T_aug, Sim.T_app, Sim.T_putD, Sim.T_newD, Sim.T_disp, Sim.T_iter, Sim.T_range1, Sim.T_range2, Sim.LoopQ_nxt, Sim.LoopQ_cnt, Sim.LoopQ_brk, Sim.LoopQ_ret, Sim.T_for, Sim.T_comp, Sim.T_yes, Sim.wipeR, Sim.T_rev, Sim.revD_lst, Sim.T_revR1, Sim.T_rg1, Sim.T_rg2, Sim.T_lstRg, Sim.T_tupRg, Sim.sumD_ints, Sim.ixDD_tup, Sim.ixDD_lst, Sim.ixDD_scr, Sim.ixDD_dct, Sim.atI_nat, Sim.atI_lit, Sim.lenD_tup, Sim.lenD_lst, Sim.lenD_scr, Sim.lenD_dct, Sim.addD_int, Sim.iaddD_int, Sim.subD_int, Sim.mulD_int, Sim.mulD_one, Sim.fdivD_int, Sim.modD_int, Sim.powD_int, Sim.addD_tup, Sim.addD_lst, Sim.negD_int, Sim.ltD_int, Sim.leD_int, Sim.gtD_int, Sim.geD_int, Sim.eqB_int, Sim.eqB_str, Sim.eqB_bl, Sim.eqB_non, Sim.eqD_of, Sim.neD_of, Sim.isD_non, Sim.isNotD_non, Sim.isN_non, Sim.isN_bl, Sim.isN_int, Sim.isN_str, Sim.isN_tup, Sim.isN_lst, Sim.frz_non, Sim.frz_bl, Sim.frz_int, Sim.frz_str, Sim.frz_tup, Sim.frz_lst, Sim.frz_dct, Sim.frz_scr, Sim.maxD_int, Sim.minD_int, Sim.absD_int, Sim.intD_int, Sim.tupleD_tup, Sim.tupleD_lst, Sim.listD_tup, Sim.listD_lst, Sim.listD_scr, Sim.itemsD_sh, Sim.itemsD_tup, Sim.itemsD_scr, Sim.isi_non, Sim.isi_bl, Sim.isi_int, Sim.isi_str, Sim.isi_tup, Sim.isi_lst, Sim.slice_tup, Sim.slice_lst, Sim.inDD_of, Sim.notInDD_of, Sim.inD_tup, Sim.inD_lst, Sim.inD_dct, Sim.cap, Sim.nat10, Sim.nat2, Nat.zero_le, Sim.ex_some, Sim.ex_some2, Sim.ex_if, Sim.ex_map, Sim.ex_eq, Sim.ex_bl, Sim.ex_int, Sim.ex_own, Sim.ex_lst, Sim.inr_at, Sim.inl_at, Sim.tt_c, Sim.ff_c, Sim.pad_nil, Sim.pad_n, Sim.nones_0, Sim.nones_s, List.getElem?_cons_zero, List.getElem?_cons_succ, List.set_cons_zero, List.set_cons_succ, List.map_cons, List.map_nil, List.cons_append, List.nil_append, Option.map_some, List.length_cons, List.length_nil, Int.zero_add, Nat.zero_add, Nat.reduceAdd, Nat.reduceLeDiff, Nat.reduceMul, true_and, and_true, decide_eq_true_eq, decide_eq_false_iff_not, Bool.false_eq_true, Bool.true_eq_false, false_implies, true_implies, implies_true, eq_self, decide_true, decide_false, not_true_eq_false, not_false_eq_true, Bool.not_true, Bool.not_false, Int.reduceLT, Int.reduceLE, Int.reduceNeg, Int.reducePow, Int.reduceToNat]; first | exact ⟨_, rfl⟩ | exact fun _ => ⟨_, rfl⟩
  · simp only [Sim.T_ok, Sim.T_fail, Sim.T_bind, Sim.T_pureO, Sim.EndQ_nxt, Sim.EndQ_ret, Sim.lasts_nil, Sim.T_call, Sim.T_name, Sim.T_frz, Sim.T_const, Sim.T_sh, Sim.T_op2, Sim.T_op1, Sim.T_test, Sim.T_not, Sim.T_andM, Sim.T_orM, Sim.T_ifM, Sim.T_bl, Sim.T_andV, Sim.T_orV, Sim.T_notV, Sim.T_peek, Sim.T_vP, Sim.T_opP, Sim.T_nilA, Sim.T_consA, Sim.T_nilP, Sim.T_consP, Sim.T_tup, Sim.T_lst, Sim.T_noO, Sim.T_someO, Sim.T_slice, Sim.T_callM, Sim.resL_cons, Sim.resL_nil', Sim.T_isi, Sim.T_nil, Sim.T_brk, Sim.T_cnt, Sim.SeqQ_nxt, Sim.SeqQ_brk, Sim.SeqQ_cnt, Sim.SeqQ_ret, Sim.T_seq, Sim.T_set, Sim.T_drop, Sim.T_ret, Sim.T_retN, Sim.T_retS, Sim.T_asg, Sim.T_nameG, Sim.T_tupG, Sim.T_nilG, Sim.T_consG, Sim.T_aug, Sim.T_app, Sim.T_putD, Sim.T_newD, Sim.T_disp, Sim.T_iter, Sim.T_range1, Sim.T_range2, Sim.LoopQ_nxt, Sim.LoopQ_cnt, Sim.LoopQ_brk, Sim.LoopQ_ret, Sim.T_for, Sim.T_comp, Sim.T_yes, Sim.wipeR, Sim.T_rev, Sim.revD_lst, Sim.T_revR1, Sim.T_rg1, Sim.T_rg2, Sim.T_lstRg, Sim.T_tupRg, Sim.sumD_ints, Sim.ixDD_tup, Sim.ixDD_lst, Sim.ixDD_scr, Sim.ixDD_dct, Sim.atI_nat, Sim.atI_lit, Sim.lenD_tup, Sim.lenD_lst, Sim.lenD_scr, Sim.lenD_dct, Sim.addD_int, Sim.iaddD_int, Sim.subD_int, Sim.mulD_int, Sim.mulD_one, Sim.fdivD_int, Sim.modD_int, Sim.powD_int, Sim.addD_tup, Sim.addD_lst, Sim.negD_int, Sim.ltD_int, Sim.leD_int, Sim.gtD_int, Sim.geD_int, Sim.eqB_int, Sim.eqB_str, Sim.eqB_bl, Sim.eqB_non, Sim.eqD_of, Sim.neD_of, Sim.isD_non, Sim.isNotD_non, Sim.isN_non, Sim.isN_bl, Sim.isN_int, Sim.isN_str, Sim.isN_tup, Sim.isN_lst, Sim.frz_non, Sim.frz_bl, Sim.frz_int, Sim.frz_str, Sim.frz_tup, Sim.frz_lst, Sim.frz_dct, Sim.frz_scr, Sim.maxD_int, Sim.minD_int, Sim.absD_int, Sim.intD_int, Sim.tupleD_tup, Sim.tupleD_lst, Sim.listD_tup, Sim.listD_lst, Sim.listD_scr, Sim.itemsD_sh, Sim.itemsD_tup, Sim.itemsD_scr, Sim.isi_non, Sim.isi_bl, Sim.isi_int, Sim.isi_str, Sim.isi_tup, Sim.isi_lst, Sim.slice_tup, Sim.slice_lst, Sim.inDD_of, Sim.notInDD_of, Sim.inD_tup, Sim.inD_lst, Sim.inD_dct, Sim.cap, Sim.nat10, Sim.nat2, Nat.zero_le, Sim.ex_some, Sim.ex_some2, Sim.ex_if, Sim.ex_map, Sim.ex_eq, Sim.ex_bl, Sim.ex_int, Sim.ex_own, Sim.ex_lst, Sim.inr_at, Sim.inl_at, Sim.tt_c, Sim.ff_c, Sim.pad_nil, Sim.pad_n, Sim.nones_0, Sim.nones_s, List.getElem?_cons_zero, List.getElem?_cons_succ, List.set_cons_zero, List.set_cons_succ, List.map_cons, List.map_nil, List.cons_append, List.nil_append, Option.map_some, List.length_cons, List.length_nil, Int.zero_add, Nat.zero_add, Nat.reduceAdd, Nat.reduceLeDiff, Nat.reduceMul, true_and, and_true, decide_eq_true_eq, decide_eq_false_iff_not, Bool.false_eq_true, Bool.true_eq_false, false_implies, true_implies, implies_true, eq_self, decide_true, decide_false, not_true_eq_false, not_false_eq_true, Bool.not_true, Bool.not_false, Int.reduceLT, Int.reduceLE, Int.reduceNeg, Int.reducePow, Int.reduceToNat]; exact ⟨.bin .max (.var k) (.num (z % 4 - 1)), rfl, ⟨hkl, trivial, fun h => by cases h⟩, by simp only [Tm.dep]; decide⟩
  simp only [Sim.T_ok, Sim.T_fail, Sim.T_bind, Sim.T_pureO, Sim.EndQ_nxt, Sim.EndQ_ret, Sim.lasts_nil, Sim.T_call, Sim.T_name, Sim.T_frz, Sim.T_const, Sim.T_sh, Sim.T_op2, Sim.T_op1, Sim.T_test, Sim.T_not, Sim.T_andM, Sim.T_orM, Sim.T_ifM, Sim.T_bl, Sim.T_andV, Sim.T_orV, Sim.T_notV, Sim.T_peek, Sim.T_vP, Sim.T_opP, Sim.T_nilA, Sim.T_consA, Sim.T_nilP, Sim.T_consP, Sim.T_tup, Sim.T_lst, Sim.T_noO, Sim.T_someO, Sim.T_slice, Sim.T_callM, Sim.resL_cons, Sim.resL_nil', Sim.T_isi, Sim.T_nil, Sim.T_brk, Sim.T_cnt, Sim.SeqQ_nxt, Sim.SeqQ_brk, Sim.SeqQ_cnt, Sim.SeqQ_ret, Sim.T_seq, Sim.T_set, Sim.T_drop, Sim.T_ret, Sim.T_retN, Sim.T_retS, Sim.T_asg, Sim.T_nameG, Sim.T_tupG, Sim.T_nilG, Sim.T_consG, Sim.T_aug, Sim.T_app, Sim.T_putD, Sim.T_newD, Sim.T_disp, Sim.T_iter, Sim.T_range1, Sim.T_range2, Sim.LoopQ_nxt, Sim.LoopQ_cnt, Sim.LoopQ_brk, Sim.LoopQ_ret, Sim.T_for, Sim.T_comp, Sim.T_yes, Sim.wipeR, Sim.T_rev, Sim.revD_lst, Sim.T_revR1, Sim.T_rg1, Sim.T_rg2, Sim.T_lstRg, Sim.T_tupRg, Sim.sumD_ints, Sim.ixDD_tup, Sim.ixDD_lst, Sim.ixDD_scr, Sim.ixDD_dct, Sim.atI_nat, Sim.atI_lit, Sim.lenD_tup, Sim.lenD_lst, Sim.lenD_scr, Sim.lenD_dct, Sim.addD_int, Sim.iaddD_int, Sim.subD_int, Sim.mulD_int, Sim.mulD_one, Sim.fdivD_int, Sim.modD_int, Sim.powD_int, Sim.addD_tup, Sim.addD_lst, Sim.negD_int, Sim.ltD_int, Sim.leD_int, Sim.gtD_int, Sim.geD_int, Sim.eqB_int, Sim.eqB_str, Sim.eqB_bl, Sim.eqB_non, Sim.eqD_of, Sim.neD_of, Sim.isD_non, Sim.isNotD_non, Sim.isN_non, Sim.isN_bl, Sim.isN_int, Sim.isN_str, Sim.isN_tup, Sim.isN_lst, Sim.frz_non, Sim.frz_bl, Sim.frz_int, Sim.frz_str, Sim.frz_tup, Sim.frz_lst, Sim.frz_dct, Sim.frz_scr, Sim.maxD_int, Sim.minD_int, Sim.absD_int, Sim.intD_int, Sim.tupleD_tup, Sim.tupleD_lst, Sim.listD_tup, Sim.listD_lst, Sim.listD_scr, Sim.itemsD_sh, Sim.itemsD_tup, Sim.itemsD_scr, Sim.isi_non, Sim.isi_bl, Sim.isi_int, Sim.isi_str, Sim.isi_tup, Sim.isi_lst, Sim.slice_tup, Sim.slice_lst, Sim.inDD_of, Sim.notInDD_of, Sim.inD_tup, Sim.inD_lst, Sim.inD_dct, Sim.cap, Sim.nat10, Sim.nat2, Nat.zero_le, Sim.ex_some, Sim.ex_some2, Sim.ex_if, Sim.ex_map, Sim.ex_eq, Sim.ex_bl, Sim.ex_int, Sim.ex_own, Sim.ex_lst, Sim.inr_at, Sim.inl_at, Sim.tt_c, Sim.ff_c, Sim.pad_nil, Sim.pad_n, Sim.nones_0, Sim.nones_s, List.getElem?_cons_zero, List.getElem?_cons_succ, List.set_cons_zero, List.set_cons_succ, List.map_cons, List.map_nil, List.cons_append, List.nil_append, Option.map_some, List.length_cons, List.length_nil, Int.zero_add, Nat.zero_add, Nat.reduceAdd, Nat.reduceLeDiff, Nat.reduceMul, true_and, and_true, decide_eq_true_eq, decide_eq_false_iff_not, Bool.false_eq_true, Bool.true_eq_false, false_implies, true_implies, implies_true, eq_self, decide_true, decide_false, not_true_eq_false, not_false_eq_true, Bool.not_true, Bool.not_false, Int.reduceLT, Int.reduceLE, Int.reduceNeg, Int.reducePow, Int.reduceToNat]
  refine T_iteTo (fun _ => True) ?_ (fun _ => ?_) (fun _ => ?_)
  · simp only [Sim.T_ok, Sim.T_fail, Sim.T_bind, Sim.T_pureO, Sim.EndQ_nxt, Sim.EndQ_ret, Sim.lasts_nil, Sim.T_call, Sim.T_name, Sim.T_frz, Sim.T_const, Sim.T_sh, Sim.T_op2, Sim.T_op1, Sim.T_test, Sim.T_not, Sim.T_andM, Sim.T_orM, Sim.T_ifM, Sim.T_bl, Sim.T_andV, Sim.T_orV, Sim.T_notV, Sim.T_peek, Sim.T_vP, Sim.T_opP, Sim.T_nilA, Sim.T_consA, Sim.T_nilP, Sim.T_consP, Sim.T_tup, Sim.T_lst, Sim.T_noO, Sim.T_someO, Sim.T_slice, Sim.T_callM, Sim.resL_cons, Sim.resL_nil', Sim.T_isi, Sim.T_nil, Sim.T_brk, Sim.T_cnt, Sim.SeqQ_nxt, Sim.SeqQ_brk, Sim.SeqQ_cnt, Sim.SeqQ_ret, Sim.T_seq, Sim.T_set, Sim.T_drop, Sim.T_ret, Sim.T_retN, Sim.T_retS, Sim.T_asg, Sim.T_nameG, Sim.T_tupG, Sim.T_nilG, Sim.T_consG, Sim.T_aug, Sim.T_app, Sim.T_putD, Sim.T_newD, Sim.T_disp, Sim.T_iter, Sim.T_range1, Sim.T_range2, Sim.LoopQ_nxt, Sim.LoopQ_cnt, Sim.LoopQ_brk, Sim.LoopQ_ret, Sim.T_for, Sim.T_comp, Sim.T_yes, Sim.wipeR, Sim.T_rev, Sim.revD_lst, Sim.T_revR1, Sim.T_rg1, Sim.T_rg2, Sim.T_lstRg, Sim.T_tupRg, Sim.sumD_ints, Sim.ixDD_tup, Sim.ixDD_lst, Sim.ixDD_scr, Sim.ixDD_dct, Sim.atI_nat, Sim.atI_lit, Sim.lenD_tup, Sim.lenD_lst, Sim.lenD_scr, Sim.lenD_dct, Sim.addD_int, Sim.iaddD_int, Sim.subD_int, Sim.mulD_int, Sim.mulD_one, Sim.fdivD_int, Sim.modD_int, Sim.powD_int, Sim.addD_tup, Sim.addD_lst, Sim.negD_int, Sim.ltD_int, Sim.leD_int, Sim.gtD_int, Sim.geD_int, Sim.eqB_int, Sim.eqB_str, Sim.eqB_bl, Sim.eqB_non, Sim.eqD_of, Sim.neD_of, Sim.isD_non, Sim.isNotD_non, Sim.isN_non, Sim.isN_bl, Sim.isN_int, Sim.isN_str, Sim.isN_tup, Sim.isN_lst, Sim.frz_non, Sim.frz_bl, Sim.frz_int, Sim.frz_str, Sim.frz_tup, Sim.frz_lst, Sim.frz_dct, Sim.frz_scr, Sim.maxD_int, Sim.minD_int, Sim.absD_int, Sim.intD_int, Sim.tupleD_tup, Sim.tupleD_lst, Sim.listD_tup, Sim.listD_lst, Sim.listD_scr, Sim.itemsD_sh, Sim.itemsD_tup, Sim.itemsD_scr, Sim.isi_non, Sim.isi_bl, Sim.isi_int, Sim.isi_str, Sim.isi_tup, Sim.isi_lst, Sim.slice_tup, Sim.slice_lst, Sim.inDD_of, Sim.notInDD_of, Sim.inD_tup, Sim.inD_lst, Sim.inD_dct, Sim.cap, Sim.nat10, Sim.nat2, Nat.zero_le, Sim.ex_some, Sim.ex_some2, Sim.ex_if, Sim.ex_map, Sim.ex_eq, Sim.ex_bl, Sim.ex_int, Sim.ex_own, Sim.ex_lst, Sim.inr_at, Sim.inl_at, Sim.tt_c, Sim.ff_c, Sim.pad_nil, Sim.pad_n, Sim.nones_0, Sim.nones_s, List.getElem?_cons_zero, List.getElem?_cons_succ, List.set_cons_zero, List.set_cons_succ, List.map_cons, List.map_nil, List.cons_append, List.nil_append, Option.map_some, List.length_cons, List.length_nil, Int.zero_add, Nat.zero_add, Nat.reduceAdd, Nat.reduceLeDiff, Nat.reduceMul, true_and, and_true, decide_eq_true_eq, decide_eq_false_iff_not, Bool.false_eq_true, Bool.true_eq_false, false_implies, true_implies, implies_true, eq_self, decide_true, decide_false, not_true_eq_false, not_false_eq_true, Bool.not_true, Bool.not_false, Int.reduceLT, Int.reduceLE, Int.reduceNeg, Int.reducePow, Int.reduceToNat]; first | exact ⟨_, rfl⟩ | exact fun _ => ⟨_, rfl⟩
  · simp only [Sim.T_ok, Sim.T_fail, Sim.T_bind, Sim.T_pureO, Sim.EndQ_nxt, Sim.EndQ_ret, Sim.lasts_nil, Sim.T_call, Sim.T_name, Sim.T_frz, Sim.T_const, Sim.T_sh, Sim.T_op2, Sim.T_op1, Sim.T_test, Sim.T_not, Sim.T_andM, Sim.T_orM, Sim.T_ifM, Sim.T_bl, Sim.T_andV, Sim.T_orV, Sim.T_notV, Sim.T_peek, Sim.T_vP, Sim.T_opP, Sim.T_nilA, Sim.T_consA, Sim.T_nilP, Sim.T_consP, Sim.T_tup, Sim.T_lst, Sim.T_noO, Sim.T_someO, Sim.T_slice, Sim.T_callM, Sim.resL_cons, Sim.resL_nil', Sim.T_isi, Sim.T_nil, Sim.T_brk, Sim.T_cnt, Sim.SeqQ_nxt, Sim.SeqQ_brk, Sim.SeqQ_cnt, Sim.SeqQ_ret, Sim.T_seq, Sim.T_set, Sim.T_drop, Sim.T_ret, Sim.T_retN, Sim.T_retS, Sim.T_asg, Sim.T_nameG, Sim.T_tupG, Sim.T_nilG, Sim.T_consG, Sim.T_aug, Sim.T_app, Sim.T_putD, Sim.T_newD, Sim.T_disp, Sim.T_iter, Sim.T_range1, Sim.T_range2, Sim.LoopQ_nxt, Sim.LoopQ_cnt, Sim.LoopQ_brk, Sim.LoopQ_ret, Sim.T_for, Sim.T_comp, Sim.T_yes, Sim.wipeR, Sim.T_rev, Sim.revD_lst, Sim.T_revR1, Sim.T_rg1, Sim.T_rg2, Sim.T_lstRg, Sim.T_tupRg, Sim.sumD_ints, Sim.ixDD_tup, Sim.ixDD_lst, Sim.ixDD_scr, Sim.ixDD_dct, Sim.atI_nat, Sim.atI_lit, Sim.lenD_tup, Sim.lenD_lst, Sim.lenD_scr, Sim.lenD_dct, Sim.addD_int, Sim.iaddD_int, Sim.subD_int, Sim.mulD_int, Sim.mulD_one, Sim.fdivD_int, Sim.modD_int, Sim.powD_int, Sim.addD_tup, Sim.addD_lst, Sim.negD_int, Sim.ltD_int, Sim.leD_int, Sim.gtD_int, Sim.geD_int, Sim.eqB_int, Sim.eqB_str, Sim.eqB_bl, Sim.eqB_non, Sim.eqD_of, Sim.neD_of, Sim.isD_non, Sim.isNotD_non, Sim.isN_non, Sim.isN_bl, Sim.isN_int, Sim.isN_str, Sim.isN_tup, Sim.isN_lst, Sim.frz_non, Sim.frz_bl, Sim.frz_int, Sim.frz_str, Sim.frz_tup, Sim.frz_lst, Sim.frz_dct, Sim.frz_scr, Sim.maxD_int, Sim.minD_int, Sim.absD_int, Sim.intD_int, Sim.tupleD_tup, Sim.tupleD_lst, Sim.listD_tup, Sim.listD_lst, Sim.listD_scr, Sim.itemsD_sh, Sim.itemsD_tup, Sim.itemsD_scr, Sim.isi_non, Sim.isi_bl, Sim.isi_int, Sim.isi_str, Sim.isi_tup, Sim.isi_lst, Sim.slice_tup, Sim.slice_lst, Sim.inDD_of, Sim.notInDD_of, Sim.inD_tup, Sim.inD_lst, Sim.inD_dct, Sim.cap, Sim.nat10, Sim.nat2, Nat.zero_le, Sim.ex_some, Sim.ex_some2, Sim.ex_if, Sim.ex_map, Sim.ex_eq, Sim.ex_bl, Sim.ex_int, Sim.ex_own, Sim.ex_lst, Sim.inr_at, Sim.inl_at, Sim.tt_c, Sim.ff_c, Sim.pad_nil, Sim.pad_n, Sim.nones_0, Sim.nones_s, List.getElem?_cons_zero, List.getElem?_cons_succ, List.set_cons_zero, List.set_cons_succ, List.map_cons, List.map_nil, List.cons_append, List.nil_append, Option.map_some, List.length_cons, List.length_nil, Int.zero_add, Nat.zero_add, Nat.reduceAdd, Nat.reduceLeDiff, Nat.reduceMul, true_and, and_true, decide_eq_true_eq, decide_eq_false_iff_not, Bool.false_eq_true, Bool.true_eq_false, false_implies, true_implies, implies_true, eq_self, decide_true, decide_false, not_true_eq_false, not_false_eq_true, Bool.not_true, Bool.not_false, Int.reduceLT, Int.reduceLE, Int.reduceNeg, Int.reducePow, Int.reduceToNat]; exact ⟨.bin .mul (.num (z % 4 - 1)) (.var k), rfl, ⟨trivial, hkl, fun _ => ⟨_, rfl, by omega, by omega⟩⟩, by simp only [Tm.dep]; decide⟩
  simp only [Sim.T_ok, Sim.T_fail, Sim.T_bind, Sim.T_pureO, Sim.EndQ_nxt, Sim.EndQ_ret, Sim.lasts_nil, Sim.T_call, Sim.T_name, Sim.T_frz, Sim.T_const, Sim.T_sh, Sim.T_op2, Sim.T_op1, Sim.T_test, Sim.T_not, Sim.T_andM, Sim.T_orM, Sim.T_ifM, Sim.T_bl, Sim.T_andV, Sim.T_orV, Sim.T_notV, Sim.T_peek, Sim.T_vP, Sim.T_opP, Sim.T_nilA, Sim.T_consA, Sim.T_nilP, Sim.T_consP, Sim.T_tup, Sim.T_lst, Sim.T_noO, Sim.T_someO, Sim.T_slice, Sim.T_callM, Sim.resL_cons, Sim.resL_nil', Sim.T_isi, Sim.T_nil, Sim.T_brk, Sim.T_cnt, Sim.SeqQ_nxt, Sim.SeqQ_brk, Sim.SeqQ_cnt, Sim.SeqQ_ret, Sim.T_seq, Sim.T_set, Sim.T_drop, Sim.T_ret, Sim.T_retN, Sim.T_retS, Sim.T_asg, Sim.T_nameG, Sim.T_tupG, Sim.T_nilG, Sim.T_consG, Sim.T_aug, Sim.T_app, Sim.T_putD, Sim.T_newD, Sim.T_disp, Sim.T_iter, Sim.T_range1, Sim.T_range2, Sim.LoopQ_nxt, Sim.LoopQ_cnt, Sim.LoopQ_brk, Sim.LoopQ_ret, Sim.T_for, Sim.T_comp, Sim.T_yes, Sim.wipeR, Sim.T_rev, Sim.revD_lst, Sim.T_revR1, Sim.T_rg1, Sim.T_rg2, Sim.T_lstRg, Sim.T_tupRg, Sim.sumD_ints, Sim.ixDD_tup, Sim.ixDD_lst, Sim.ixDD_scr, Sim.ixDD_dct, Sim.atI_nat, Sim.atI_lit, Sim.lenD_tup, Sim.lenD_lst, Sim.lenD_scr, Sim.lenD_dct, Sim.addD_int, Sim.iaddD_int, Sim.subD_int, Sim.mulD_int, Sim.mulD_one, Sim.fdivD_int, Sim.modD_int, Sim.powD_int, Sim.addD_tup, Sim.addD_lst, Sim.negD_int, Sim.ltD_int, Sim.leD_int, Sim.gtD_int, Sim.geD_int, Sim.eqB_int, Sim.eqB_str, Sim.eqB_bl, Sim.eqB_non, Sim.eqD_of, Sim.neD_of, Sim.isD_non, Sim.isNotD_non, Sim.isN_non, Sim.isN_bl, Sim.isN_int, Sim.isN_str, Sim.isN_tup, Sim.isN_lst, Sim.frz_non, Sim.frz_bl, Sim.frz_int, Sim.frz_str, Sim.frz_tup, Sim.frz_lst, Sim.frz_dct, Sim.frz_scr, Sim.maxD_int, Sim.minD_int, Sim.absD_int, Sim.intD_int, Sim.tupleD_tup, Sim.tupleD_lst, Sim.listD_tup, Sim.listD_lst, Sim.listD_scr, Sim.itemsD_sh, Sim.itemsD_tup, Sim.itemsD_scr, Sim.isi_non, Sim.isi_bl, Sim.isi_int, Sim.isi_str, Sim.isi_tup, Sim.isi_lst, Sim.slice_tup, Sim.slice_lst, Sim.inDD_of, Sim.notInDD_of, Sim.inD_tup, Sim.inD_lst, Sim.inD_dct, Sim.cap, Sim.nat10, Sim.nat2, Nat.zero_le, Sim.ex_some, Sim.ex_some2, Sim.ex_if, Sim.ex_map, Sim.ex_eq, Sim.ex_bl, Sim.ex_int, Sim.ex_own, Sim.ex_lst, Sim.inr_at, Sim.inl_at, Sim.tt_c, Sim.ff_c, Sim.pad_nil, Sim.pad_n, Sim.nones_0, Sim.nones_s, List.getElem?_cons_zero, List.getElem?_cons_succ, List.set_cons_zero, List.set_cons_succ, List.map_cons, List.map_nil, List.cons_append, List.nil_append, Option.map_some, List.length_cons, List.length_nil, Int.zero_add, Nat.zero_add, Nat.reduceAdd, Nat.reduceLeDiff, Nat.reduceMul, true_and, and_true, decide_eq_true_eq, decide_eq_false_iff_not, Bool.false_eq_true, Bool.true_eq_false, false_implies, true_implies, implies_true, eq_self, decide_true, decide_false, not_true_eq_false, not_false_eq_true, Bool.not_true, Bool.not_false, Int.reduceLT, Int.reduceLE, Int.reduceNeg, Int.reducePow, Int.reduceToNat]
  refine T_iteTo (fun _ => True) ?_ (fun _ => ?_) (fun _ => ?_)
  · simp only [Sim.T_ok, Sim.T_fail, Sim.T_bind, Sim.T_pureO, Sim.EndQ_nxt, Sim.EndQ_ret, Sim.lasts_nil, Sim.T_call, Sim.T_name, Sim.T_frz, Sim.T_const, Sim.T_sh, Sim.T_op2, Sim.T_op1, Sim.T_test, Sim.T_not, Sim.T_andM, Sim.T_orM, Sim.T_ifM, Sim.T_bl, Sim.T_andV, Sim.T_orV, Sim.T_notV, Sim.T_peek, Sim.T_vP, Sim.T_opP, Sim.T_nilA, Sim.T_consA, Sim.T_nilP, Sim.T_consP, Sim.T_tup, Sim.T_lst, Sim.T_noO, Sim.T_someO, Sim.T_slice, Sim.T_callM, Sim.resL_cons, Sim.resL_nil', Sim.T_isi, Sim.T_nil, Sim.T_brk, Sim.T_cnt, Sim.SeqQ_nxt, Sim.SeqQ_brk, Sim.SeqQ_cnt, Sim.SeqQ_ret, Sim.T_seq, Sim.T_set, Sim.T_drop, Sim.T_ret, Sim.T_retN, Sim.T_retS, Sim.T_asg, Sim.T_nameG, Sim.T_tupG, Sim.T_nilG, Sim.T_consG, Sim.T_aug, Sim.T_app, Sim.T_putD, Sim.T_newD, Sim.T_disp, Sim.T_iter, Sim.T_range1, Sim.T_range2, Sim.LoopQ_nxt, Sim.LoopQ_cnt, Sim.LoopQ_brk, Sim.LoopQ_ret, Sim.T_for, Sim.T_comp, Sim.T_yes, Sim.wipeR, Sim.T_rev, Sim.revD_lst, Sim.T_revR1, Sim.T_rg1, Sim.T_rg2, Sim.T_lstRg, Sim.T_tupRg, Sim.sumD_ints, Sim.ixDD_tup, Sim.ixDD_lst, Sim.ixDD_scr, Sim.ixDD_dct, Sim.atI_nat, Sim.atI_lit, Sim.lenD_tup, Sim.lenD_lst, Sim.lenD_scr, Sim.lenD_dct, Sim.addD_int, Sim.iaddD_int, Sim.subD_int, Sim.mulD_int, Sim.mulD_one, Sim.fdivD_int, Sim.modD_int, Sim.powD_int, Sim.addD_tup, Sim.addD_lst, Sim.negD_int, Sim.ltD_int, Sim.leD_int, Sim.gtD_int, Sim.geD_int, Sim.eqB_int, Sim.eqB_str, Sim.eqB_bl, Sim.eqB_non, Sim.eqD_of, Sim.neD_of, Sim.isD_non, Sim.isNotD_non, Sim.isN_non, Sim.isN_bl, Sim.isN_int, Sim.isN_str, Sim.isN_tup, Sim.isN_lst, Sim.frz_non, Sim.frz_bl, Sim.frz_int, Sim.frz_str, Sim.frz_tup, Sim.frz_lst, Sim.frz_dct, Sim.frz_scr, Sim.maxD_int, Sim.minD_int, Sim.absD_int, Sim.intD_int, Sim.tupleD_tup, Sim.tupleD_lst, Sim.listD_tup, Sim.listD_lst, Sim.listD_scr, Sim.itemsD_sh, Sim.itemsD_tup, Sim.itemsD_scr, Sim.isi_non, Sim.isi_bl, Sim.isi_int, Sim.isi_str, Sim.isi_tup, Sim.isi_lst, Sim.slice_tup, Sim.slice_lst, Sim.inDD_of, Sim.notInDD_of, Sim.inD_tup, Sim.inD_lst, Sim.inD_dct, Sim.cap, Sim.nat10, Sim.nat2, Nat.zero_le, Sim.ex_some, Sim.ex_some2, Sim.ex_if, Sim.ex_map, Sim.ex_eq, Sim.ex_bl, Sim.ex_int, Sim.ex_own, Sim.ex_lst, Sim.inr_at, Sim.inl_at, Sim.tt_c, Sim.ff_c, Sim.pad_nil, Sim.pad_n, Sim.nones_0, Sim.nones_s, List.getElem?_cons_zero, List.getElem?_cons_succ, List.set_cons_zero, List.set_cons_succ, List.map_cons, List.map_nil, List.cons_append, List.nil_append, Option.map_some, List.length_cons, List.length_nil, Int.zero_add, Nat.zero_add, Nat.reduceAdd, Nat.reduceLeDiff, Nat.reduceMul, true_and, and_true, decide_eq_true_eq, decide_eq_false_iff_not, Bool.false_eq_true, Bool.true_eq_false, false_implies, true_implies, implies_true, eq_self, decide_true, decide_false, not_true_eq_false, not_false_eq_true, Bool.not_true, Bool.not_false, Int.reduceLT, Int.reduceLE, Int.reduceNeg, Int.reducePow, Int.reduceToNat]; first | exact ⟨_, rfl⟩ | exact fun _ => ⟨_, rfl⟩
  · simp only [Sim.T_ok, Sim.T_fail, Sim.T_bind, Sim.T_pureO, Sim.EndQ_nxt, Sim.EndQ_ret, Sim.lasts_nil, Sim.T_call, Sim.T_name, Sim.T_frz, Sim.T_const, Sim.T_sh, Sim.T_op2, Sim.T_op1, Sim.T_test, Sim.T_not, Sim.T_andM, Sim.T_orM, Sim.T_ifM, Sim.T_bl, Sim.T_andV, Sim.T_orV, Sim.T_notV, Sim.T_peek, Sim.T_vP, Sim.T_opP, Sim.T_nilA, Sim.T_consA, Sim.T_nilP, Sim.T_consP, Sim.T_tup, Sim.T_lst, Sim.T_noO, Sim.T_someO, Sim.T_slice, Sim.T_callM, Sim.resL_cons, Sim.resL_nil', Sim.T_isi, Sim.T_nil, Sim.T_brk, Sim.T_cnt, Sim.SeqQ_nxt, Sim.SeqQ_brk, Sim.SeqQ_cnt, Sim.SeqQ_ret, Sim.T_seq, Sim.T_set, Sim.T_drop, Sim.T_ret, Sim.T_retN, Sim.T_retS, Sim.T_asg, Sim.T_nameG, Sim.T_tupG, Sim.T_nilG, Sim.T_consG, Sim.T_aug, Sim.T_app, Sim.T_putD, Sim.T_newD, Sim.T_disp, Sim.T_iter, Sim.T_range1, Sim.T_range2, Sim.LoopQ_nxt, Sim.LoopQ_cnt, Sim.LoopQ_brk, Sim.LoopQ_ret, Sim.T_for, Sim.T_comp, Sim.T_yes, Sim.wipeR, Sim.T_rev, Sim.revD_lst, Sim.T_revR1, Sim.T_rg1, Sim.T_rg2, Sim.T_lstRg, Sim.T_tupRg, Sim.sumD_ints, Sim.ixDD_tup, Sim.ixDD_lst, Sim.ixDD_scr, Sim.ixDD_dct, Sim.atI_nat, Sim.atI_lit, Sim.lenD_tup, Sim.lenD_lst, Sim.lenD_scr, Sim.lenD_dct, Sim.addD_int, Sim.iaddD_int, Sim.subD_int, Sim.mulD_int, Sim.mulD_one, Sim.fdivD_int, Sim.modD_int, Sim.powD_int, Sim.addD_tup, Sim.addD_lst, Sim.negD_int, Sim.ltD_int, Sim.leD_int, Sim.gtD_int, Sim.geD_int, Sim.eqB_int, Sim.eqB_str, Sim.eqB_bl, Sim.eqB_non, Sim.eqD_of, Sim.neD_of, Sim.isD_non, Sim.isNotD_non, Sim.isN_non, Sim.isN_bl, Sim.isN_int, Sim.isN_str, Sim.isN_tup, Sim.isN_lst, Sim.frz_non, Sim.frz_bl, Sim.frz_int, Sim.frz_str, Sim.frz_tup, Sim.frz_lst, Sim.frz_dct, Sim.frz_scr, Sim.maxD_int, Sim.minD_int, Sim.absD_int, Sim.intD_int, Sim.tupleD_tup, Sim.tupleD_lst, Sim.listD_tup, Sim.listD_lst, Sim.listD_scr, Sim.itemsD_sh, Sim.itemsD_tup, Sim.itemsD_scr, Sim.isi_non, Sim.isi_bl, Sim.isi_int, Sim.isi_str, Sim.isi_tup, Sim.isi_lst, Sim.slice_tup, Sim.slice_lst, Sim.inDD_of, Sim.notInDD_of, Sim.inD_tup, Sim.inD_lst, Sim.inD_dct, Sim.cap, Sim.nat10, Sim.nat2, Nat.zero_le, Sim.ex_some, Sim.ex_some2, Sim.ex_if, Sim.ex_map, Sim.ex_eq, Sim.ex_bl, Sim.ex_int, Sim.ex_own, Sim.ex_lst, Sim.inr_at, Sim.inl_at, Sim.tt_c, Sim.ff_c, Sim.pad_nil, Sim.pad_n, Sim.nones_0, Sim.nones_s, List.getElem?_cons_zero, List.getElem?_cons_succ, List.set_cons_zero, List.set_cons_succ, List.map_cons, List.map_nil, List.cons_append, List.nil_append, Option.map_some, List.length_cons, List.length_nil, Int.zero_add, Nat.zero_add, Nat.reduceAdd, Nat.reduceLeDiff, Nat.reduceMul, true_and, and_true, decide_eq_true_eq, decide_eq_false_iff_not, Bool.false_eq_true, Bool.true_eq_false, false_implies, true_implies, implies_true, eq_self, decide_true, decide_false, not_true_eq_false, not_false_eq_true, Bool.not_true, Bool.not_false, Int.reduceLT, Int.reduceLE, Int.reduceNeg, Int.reducePow, Int.reduceToNat, ez, hq]; exact ⟨hvl, .neg (.var q), rfl, hql, by simp only [Tm.dep]; decide⟩
  simp only [Sim.T_ok, Sim.T_fail, Sim.T_bind, Sim.T_pureO, Sim.EndQ_nxt, Sim.EndQ_ret, Sim.lasts_nil, Sim.T_call, Sim.T_name, Sim.T_frz, Sim.T_const, Sim.T_sh, Sim.T_op2, Sim.T_op1, Sim.T_test, Sim.T_not, Sim.T_andM, Sim.T_orM, Sim.T_ifM, Sim.T_bl, Sim.T_andV, Sim.T_orV, Sim.T_notV, Sim.T_peek, Sim.T_vP, Sim.T_opP, Sim.T_nilA, Sim.T_consA, Sim.T_nilP, Sim.T_consP, Sim.T_tup, Sim.T_lst, Sim.T_noO, Sim.T_someO, Sim.T_slice, Sim.T_callM, Sim.resL_cons, Sim.resL_nil', Sim.T_isi, Sim.T_nil, Sim.T_brk, Sim.T_cnt, Sim.SeqQ_nxt, Sim.SeqQ_brk, Sim.SeqQ_cnt, Sim.SeqQ_ret, Sim.T_seq, Sim.T_set, Sim.T_drop, Sim.T_ret, Sim.T_retN, Sim.T_retS, Sim.T_asg, Sim.T_nameG, Sim.T_tupG, Sim.T_nilG, Sim.T_consG, Sim.T_aug, Sim.T_app, Sim.T_putD, Sim.T_newD, Sim.T_disp, Sim.T_iter, Sim.T_range1, Sim.T_range2, Sim.LoopQ_nxt, Sim.LoopQ_cnt, Sim.LoopQ_brk, Sim.LoopQ_ret, Sim.T_for, Sim.T_comp, Sim.T_yes, Sim.wipeR, Sim.T_rev, Sim.revD_lst, Sim.T_revR1, Sim.T_rg1, Sim.T_rg2, Sim.T_lstRg, Sim.T_tupRg, Sim.sumD_ints, Sim.ixDD_tup, Sim.ixDD_lst, Sim.ixDD_scr, Sim.ixDD_dct, Sim.atI_nat, Sim.atI_lit, Sim.lenD_tup, Sim.lenD_lst, Sim.lenD_scr, Sim.lenD_dct, Sim.addD_int, Sim.iaddD_int, Sim.subD_int, Sim.mulD_int, Sim.mulD_one, Sim.fdivD_int, Sim.modD_int, Sim.powD_int, Sim.addD_tup, Sim.addD_lst, Sim.negD_int, Sim.ltD_int, Sim.leD_int, Sim.gtD_int, Sim.geD_int, Sim.eqB_int, Sim.eqB_str, Sim.eqB_bl, Sim.eqB_non, Sim.eqD_of, Sim.neD_of, Sim.isD_non, Sim.isNotD_non, Sim.isN_non, Sim.isN_bl, Sim.isN_int, Sim.isN_str, Sim.isN_tup, Sim.isN_lst, Sim.frz_non, Sim.frz_bl, Sim.frz_int, Sim.frz_str, Sim.frz_tup, Sim.frz_lst, Sim.frz_dct, Sim.frz_scr, Sim.maxD_int, Sim.minD_int, Sim.absD_int, Sim.intD_int, Sim.tupleD_tup, Sim.tupleD_lst, Sim.listD_tup, Sim.listD_lst, Sim.listD_scr, Sim.itemsD_sh, Sim.itemsD_tup, Sim.itemsD_scr, Sim.isi_non, Sim.isi_bl, Sim.isi_int, Sim.isi_str, Sim.isi_tup, Sim.isi_lst, Sim.slice_tup, Sim.slice_lst, Sim.inDD_of, Sim.notInDD_of, Sim.inD_tup, Sim.inD_lst, Sim.inD_dct, Sim.cap, Sim.nat10, Sim.nat2, Nat.zero_le, Sim.ex_some, Sim.ex_some2, Sim.ex_if, Sim.ex_map, Sim.ex_eq, Sim.ex_bl, Sim.ex_int, Sim.ex_own, Sim.ex_lst, Sim.inr_at, Sim.inl_at, Sim.tt_c, Sim.ff_c, Sim.pad_nil, Sim.pad_n, Sim.nones_0, Sim.nones_s, List.getElem?_cons_zero, List.getElem?_cons_succ, List.set_cons_zero, List.set_cons_succ, List.map_cons, List.map_nil, List.cons_append, List.nil_append, Option.map_some, List.length_cons, List.length_nil, Int.zero_add, Nat.zero_add, Nat.reduceAdd, Nat.reduceLeDiff, Nat.reduceMul, true_and, and_true, decide_eq_true_eq, decide_eq_false_iff_not, Bool.false_eq_true, Bool.true_eq_false, false_implies, true_implies, implies_true, eq_self, decide_true, decide_false, not_true_eq_false, not_false_eq_true, Bool.not_true, Bool.not_false, Int.reduceLT, Int.reduceLE, Int.reduceNeg, Int.reducePow, Int.reduceToNat]
  refine T_iteTo (fun _ => True) ?_ (fun _ => ?_) (fun _ => ?_)
  · simp only [Sim.T_ok, Sim.T_fail, Sim.T_bind, Sim.T_pureO, Sim.EndQ_nxt, Sim.EndQ_ret, Sim.lasts_nil, Sim.T_call, Sim.T_name, Sim.T_frz, Sim.T_const, Sim.T_sh, Sim.T_op2, Sim.T_op1, Sim.T_test, Sim.T_not, Sim.T_andM, Sim.T_orM, Sim.T_ifM, Sim.T_bl, Sim.T_andV, Sim.T_orV, Sim.T_notV, Sim.T_peek, Sim.T_vP, Sim.T_opP, Sim.T_nilA, Sim.T_consA, Sim.T_nilP, Sim.T_consP, Sim.T_tup, Sim.T_lst, Sim.T_noO, Sim.T_someO, Sim.T_slice, Sim.T_callM, Sim.resL_cons, Sim.resL_nil', Sim.T_isi, Sim.T_nil, Sim.T_brk, Sim.T_cnt, Sim.SeqQ_nxt, Sim.SeqQ_brk, Sim.SeqQ_cnt, Sim.SeqQ_ret, Sim.T_seq, Sim.T_set, Sim.T_drop, Sim.T_ret, Sim.T_retN, Sim.T_retS, Sim.T_asg, Sim.T_nameG, Sim.T_tupG, Sim.T_nilG, Sim.T_consG, Sim.T_aug, Sim.T_app, Sim.T_putD, Sim.T_newD, Sim.T_disp, Sim.T_iter, Sim.T_range1, Sim.T_range2, Sim.LoopQ_nxt, Sim.LoopQ_cnt, Sim.LoopQ_brk, Sim.LoopQ_ret, Sim.T_for, Sim.T_comp, Sim.T_yes, Sim.wipeR, Sim.T_rev, Sim.revD_lst, Sim.T_revR1, Sim.T_rg1, Sim.T_rg2, Sim.T_lstRg, Sim.T_tupRg, Sim.sumD_ints, Sim.ixDD_tup, Sim.ixDD_lst, Sim.ixDD_scr, Sim.ixDD_dct, Sim.atI_nat, Sim.atI_lit, Sim.lenD_tup, Sim.lenD_lst, Sim.lenD_scr, Sim.lenD_dct, Sim.addD_int, Sim.iaddD_int, Sim.subD_int, Sim.mulD_int, Sim.mulD_one, Sim.fdivD_int, Sim.modD_int, Sim.powD_int, Sim.addD_tup, Sim.addD_lst, Sim.negD_int, Sim.ltD_int, Sim.leD_int, Sim.gtD_int, Sim.geD_int, Sim.eqB_int, Sim.eqB_str, Sim.eqB_bl, Sim.eqB_non, Sim.eqD_of, Sim.neD_of, Sim.isD_non, Sim.isNotD_non, Sim.isN_non, Sim.isN_bl, Sim.isN_int, Sim.isN_str, Sim.isN_tup, Sim.isN_lst, Sim.frz_non, Sim.frz_bl, Sim.frz_int, Sim.frz_str, Sim.frz_tup, Sim.frz_lst, Sim.frz_dct, Sim.frz_scr, Sim.maxD_int, Sim.minD_int, Sim.absD_int, Sim.intD_int, Sim.tupleD_tup, Sim.tupleD_lst, Sim.listD_tup, Sim.listD_lst, Sim.listD_scr, Sim.itemsD_sh, Sim.itemsD_tup, Sim.itemsD_scr, Sim.isi_non, Sim.isi_bl, Sim.isi_int, Sim.isi_str, Sim.isi_tup, Sim.isi_lst, Sim.slice_tup, Sim.slice_lst, Sim.inDD_of, Sim.notInDD_of, Sim.inD_tup, Sim.inD_lst, Sim.inD_dct, Sim.cap, Sim.nat10, Sim.nat2, Nat.zero_le, Sim.ex_some, Sim.ex_some2, Sim.ex_if, Sim.ex_map, Sim.ex_eq, Sim.ex_bl, Sim.ex_int, Sim.ex_own, Sim.ex_lst, Sim.inr_at, Sim.inl_at, Sim.tt_c, Sim.ff_c, Sim.pad_nil, Sim.pad_n, Sim.nones_0, Sim.nones_s, List.getElem?_cons_zero, List.getElem?_cons_succ, List.set_cons_zero, List.set_cons_succ, List.map_cons, List.map_nil, List.cons_append, List.nil_append, Option.map_some, List.length_cons, List.length_nil, Int.zero_add, Nat.zero_add, Nat.reduceAdd, Nat.reduceLeDiff, Nat.reduceMul, true_and, and_true, decide_eq_true_eq, decide_eq_false_iff_not, Bool.false_eq_true, Bool.true_eq_false, false_implies, true_implies, implies_true, eq_self, decide_true, decide_false, not_true_eq_false, not_false_eq_true, Bool.not_true, Bool.not_false, Int.reduceLT, Int.reduceLE, Int.reduceNeg, Int.reducePow, Int.reduceToNat]; first | exact ⟨_, rfl⟩ | exact fun _ => ⟨_, rfl⟩
  · simp only [Sim.T_ok, Sim.T_fail, Sim.T_bind, Sim.T_pureO, Sim.EndQ_nxt, Sim.EndQ_ret, Sim.lasts_nil, Sim.T_call, Sim.T_name, Sim.T_frz, Sim.T_const, Sim.T_sh, Sim.T_op2, Sim.T_op1, Sim.T_test, Sim.T_not, Sim.T_andM, Sim.T_orM, Sim.T_ifM, Sim.T_bl, Sim.T_andV, Sim.T_orV, Sim.T_notV, Sim.T_peek, Sim.T_vP, Sim.T_opP, Sim.T_nilA, Sim.T_consA, Sim.T_nilP, Sim.T_consP, Sim.T_tup, Sim.T_lst, Sim.T_noO, Sim.T_someO, Sim.T_slice, Sim.T_callM, Sim.resL_cons, Sim.resL_nil', Sim.T_isi, Sim.T_nil, Sim.T_brk, Sim.T_cnt, Sim.SeqQ_nxt, Sim.SeqQ_brk, Sim.SeqQ_cnt, Sim.SeqQ_ret, Sim.T_seq, Sim.T_set, Sim.T_drop, Sim.T_ret, Sim.T_retN, Sim.T_retS, Sim.T_asg, Sim.T_nameG, Sim.T_tupG, Sim.T_nilG, Sim.T_consG, Sim.T_aug, Sim.T_app, Sim.T_putD, Sim.T_newD, Sim.T_disp, Sim.T_iter, Sim.T_range1, Sim.T_range2, Sim.LoopQ_nxt, Sim.LoopQ_cnt, Sim.LoopQ_brk, Sim.LoopQ_ret, Sim.T_for, Sim.T_comp, Sim.T_yes, Sim.wipeR, Sim.T_rev, Sim.revD_lst, Sim.T_revR1, Sim.T_rg1, Sim.T_rg2, Sim.T_lstRg, Sim.T_tupRg, Sim.sumD_ints, Sim.ixDD_tup, Sim.ixDD_lst, Sim.ixDD_scr, Sim.ixDD_dct, Sim.atI_nat, Sim.atI_lit, Sim.lenD_tup, Sim.lenD_lst, Sim.lenD_scr, Sim.lenD_dct, Sim.addD_int, Sim.iaddD_int, Sim.subD_int, Sim.mulD_int, Sim.mulD_one, Sim.fdivD_int, Sim.modD_int, Sim.powD_int, Sim.addD_tup, Sim.addD_lst, Sim.negD_int, Sim.ltD_int, Sim.leD_int, Sim.gtD_int, Sim.geD_int, Sim.eqB_int, Sim.eqB_str, Sim.eqB_bl, Sim.eqB_non, Sim.eqD_of, Sim.neD_of, Sim.isD_non, Sim.isNotD_non, Sim.isN_non, Sim.isN_bl, Sim.isN_int, Sim.isN_str, Sim.isN_tup, Sim.isN_lst, Sim.frz_non, Sim.frz_bl, Sim.frz_int, Sim.frz_str, Sim.frz_tup, Sim.frz_lst, Sim.frz_dct, Sim.frz_scr, Sim.maxD_int, Sim.minD_int, Sim.absD_int, Sim.intD_int, Sim.tupleD_tup, Sim.tupleD_lst, Sim.listD_tup, Sim.listD_lst, Sim.listD_scr, Sim.itemsD_sh, Sim.itemsD_tup, Sim.itemsD_scr, Sim.isi_non, Sim.isi_bl, Sim.isi_int, Sim.isi_str, Sim.isi_tup, Sim.isi_lst, Sim.slice_tup, Sim.slice_lst, Sim.inDD_of, Sim.notInDD_of, Sim.inD_tup, Sim.inD_lst, Sim.inD_dct, Sim.cap, Sim.nat10, Sim.nat2, Nat.zero_le, Sim.ex_some, Sim.ex_some2, Sim.ex_if, Sim.ex_map, Sim.ex_eq, Sim.ex_bl, Sim.ex_int, Sim.ex_own, Sim.ex_lst, Sim.inr_at, Sim.inl_at, Sim.tt_c, Sim.ff_c, Sim.pad_nil, Sim.pad_n, Sim.nones_0, Sim.nones_s, List.getElem?_cons_zero, List.getElem?_cons_succ, List.set_cons_zero, List.set_cons_succ, List.map_cons, List.map_nil, List.cons_append, List.nil_append, Option.map_some, List.length_cons, List.length_nil, Int.zero_add, Nat.zero_add, Nat.reduceAdd, Nat.reduceLeDiff, Nat.reduceMul, true_and, and_true, decide_eq_true_eq, decide_eq_false_iff_not, Bool.false_eq_true, Bool.true_eq_false, false_implies, true_implies, implies_true, eq_self, decide_true, decide_false, not_true_eq_false, not_false_eq_true, Bool.not_true, Bool.not_false, Int.reduceLT, Int.reduceLE, Int.reduceNeg, Int.reducePow, Int.reduceToNat, ez, hq]; exact ⟨hvl, .bin .sub (.var k) (.var q), rfl, ⟨hkl, hql, fun h => by cases h⟩, by simp only [Tm.dep]; decide⟩
  simp only [Sim.T_ok, Sim.T_fail, Sim.T_bind, Sim.T_pureO, Sim.EndQ_nxt, Sim.EndQ_ret, Sim.lasts_nil, Sim.T_call, Sim.T_name, Sim.T_frz, Sim.T_const, Sim.T_sh, Sim.T_op2, Sim.T_op1, Sim.T_test, Sim.T_not, Sim.T_andM, Sim.T_orM, Sim.T_ifM, Sim.T_bl, Sim.T_andV, Sim.T_orV, Sim.T_notV, Sim.T_peek, Sim.T_vP, Sim.T_opP, Sim.T_nilA, Sim.T_consA, Sim.T_nilP, Sim.T_consP, Sim.T_tup, Sim.T_lst, Sim.T_noO, Sim.T_someO, Sim.T_slice, Sim.T_callM, Sim.resL_cons, Sim.resL_nil', Sim.T_isi, Sim.T_nil, Sim.T_brk, Sim.T_cnt, Sim.SeqQ_nxt, Sim.SeqQ_brk, Sim.SeqQ_cnt, Sim.SeqQ_ret, Sim.T_seq, Sim.T_set, Sim.T_drop, Sim.T_ret, Sim.T_retN, Sim.T_retS, Sim.T_asg, Sim.T_nameG, Sim.T_tupG, Sim.T_nilG, Sim.T_consG, Sim.T_aug, Sim.T_app, Sim.T_putD, Sim.T_newD, Sim.T_disp, Sim.T_iter, Sim.T_range1, Sim.T_range2, Sim.LoopQ_nxt, Sim.LoopQ_cnt, Sim.LoopQ_brk, Sim.LoopQ_ret, Sim.T_for, Sim.T_comp, Sim.T_yes, Sim.wipeR, Sim.T_rev, Sim.revD_lst, Sim.T_revR1, Sim.T_rg1, Sim.T_rg2, Sim.T_lstRg, Sim.T_tupRg, Sim.sumD_ints, Sim.ixDD_tup, Sim.ixDD_lst, Sim.ixDD_scr, Sim.ixDD_dct, Sim.atI_nat, Sim.atI_lit, Sim.lenD_tup, Sim.lenD_lst, Sim.lenD_scr, Sim.lenD_dct, Sim.addD_int, Sim.iaddD_int, Sim.subD_int, Sim.mulD_int, Sim.mulD_one, Sim.fdivD_int, Sim.modD_int, Sim.powD_int, Sim.addD_tup, Sim.addD_lst, Sim.negD_int, Sim.ltD_int, Sim.leD_int, Sim.gtD_int, Sim.geD_int, Sim.eqB_int, Sim.eqB_str, Sim.eqB_bl, Sim.eqB_non, Sim.eqD_of, Sim.neD_of, Sim.isD_non, Sim.isNotD_non, Sim.isN_non, Sim.isN_bl, Sim.isN_int, Sim.isN_str, Sim.isN_tup, Sim.isN_lst, Sim.frz_non, Sim.frz_bl, Sim.frz_int, Sim.frz_str, Sim.frz_tup, Sim.frz_lst, Sim.frz_dct, Sim.frz_scr, Sim.maxD_int, Sim.minD_int, Sim.absD_int, Sim.intD_int, Sim.tupleD_tup, Sim.tupleD_lst, Sim.listD_tup, Sim.listD_lst, Sim.listD_scr, Sim.itemsD_sh, Sim.itemsD_tup, Sim.itemsD_scr, Sim.isi_non, Sim.isi_bl, Sim.isi_int, Sim.isi_str, Sim.isi_tup, Sim.isi_lst, Sim.slice_tup, Sim.slice_lst, Sim.inDD_of, Sim.notInDD_of, Sim.inD_tup, Sim.inD_lst, Sim.inD_dct, Sim.cap, Sim.nat10, Sim.nat2, Nat.zero_le, Sim.ex_some, Sim.ex_some2, Sim.ex_if, Sim.ex_map, Sim.ex_eq, Sim.ex_bl, Sim.ex_int, Sim.ex_own, Sim.ex_lst, Sim.inr_at, Sim.inl_at, Sim.tt_c, Sim.ff_c, Sim.pad_nil, Sim.pad_n, Sim.nones_0, Sim.nones_s, List.getElem?_cons_zero, List.getElem?_cons_succ, List.set_cons_zero, List.set_cons_succ, List.map_cons, List.map_nil, List.cons_append, List.nil_append, Option.map_some, List.length_cons, List.length_nil, Int.zero_add, Nat.zero_add, Nat.reduceAdd, Nat.reduceLeDiff, Nat.reduceMul, true_and, and_true, decide_eq_true_eq, decide_eq_false_iff_not, Bool.false_eq_true, Bool.true_eq_false, false_implies, true_implies, implies_true, eq_self, decide_true, decide_false, not_true_eq_false, not_false_eq_true, Bool.not_true, Bool.not_false, Int.reduceLT, Int.reduceLE, Int.reduceNeg, Int.reducePow, Int.reduceToNat]
  exact ⟨.var k, rfl, hkl, by simp only [Tm.dep]; decide⟩
abbrev CondOk (f : Fn) : Prop := ∀ (dg : List Int) (n : Nat), (∀ x ∈ dg, 0 ≤ x) → 0 < n → 7 ≤ dg.length →
  FT f [.lst .sh (dg.map .int), .int 0, .int n] fun d fs => fs = [] ∧ ∃ c : Cd, d = c.enc ∧ c.okN n ∧ c.dep ≤ 8
theorem cond_ok {R : Fs} (ht : TermOk R.f__law_term) : CondOk (defF 3 [] (b__law_condition R)) := by
  intro dg n h0 hn hl
  refine FT_def ?_
  obtain ⟨x, ex, hx⟩ := dg_at h0 (i := 0) (by omega) (by omega)
  obtain ⟨y, ey, hy⟩ := dg_at h0 (i := 5) (by omega) (by omega)
  obtain ⟨z, ez, hz⟩ := dg_at h0 (i := 6) (by omega) (by omega)
  obtain ⟨k, hk, hkl⟩ := emod_nat y hn
  have hvl : (0 : Int) < n := by omega
  have ex' : (dg.map D.int)[0]? = some (.int x) := by rw [← ex]; exact (atI_lit _ 0).symm
  have ey' : (dg.map D.int)[5]? = some (.int y) := by rw [← ey]; exact (atI_lit _ 5).symm
  have ez' : (dg.map D.int)[6]? = some (.int z) := by rw [← ez]; exact (atI_lit _ 6).symm
  simp only [Sim.T_ok, Sim.T_fail, Sim.T_bind, Sim.T_pureO, Sim.EndQ_nxt, Sim.EndQ_ret, Sim.lasts_nil, Sim.T_call, Sim.T_name, Sim.T_frz, Sim.T_const, Sim.T_sh, Sim.T_op2, Sim.T_op1, Sim.T_test, Sim.T_not, Sim.T_andM, Sim.T_orM, Sim.T_ifM, Sim.T_bl, Sim.T_andV, Sim.T_orV, Sim.T_notV, Sim.T_peek, Sim.T_vP, Sim.T_opP, Sim.T_nilA, Sim.T_consA, Sim.T_nilP, Sim.T_consP, Sim.T_tup, Sim.T_lst, Sim.T_noO, Sim.T_someO, Sim.T_slice, Sim.T_callM, Sim.resL_cons, Sim.resL_nil', Sim.T_isi, Sim.T_nil, Sim.T_brk, Sim.T_cnt, Sim.SeqQ_nxt, Sim.SeqQ_brk, Sim.SeqQ_cnt, Sim.SeqQ_ret, Sim.T_seq, Sim.T_set, Sim.T_drop, Sim.T_ret, Sim.T_retN, Sim.T_retS, Sim.T_asg, Sim.T_nameG, Sim.T_tupG, Sim.T_nilG, Sim.T_consG, Sim.T_aug, Sim.T_app, Sim.T_putD, Sim.T_newD, Sim.T_disp, Sim.T_iter, Sim.T_range1, Sim.T_range2, Sim.LoopQ_nxt, Sim.LoopQ_cnt, Sim.LoopQ_brk, Sim.LoopQ_ret, Sim.T_for, Sim.T_comp, Sim.T_yes, Sim.wipeR, Sim.T_rev, Sim.revD_lst, Sim.T_revR1, Sim.T_rg1, Sim.T_rg2, Sim.T_lstRg, Sim.T_tupRg, Sim.sumD_ints, Sim.ixDD_tup, Sim.ixDD_lst, Sim.ixDD_scr, Sim.ixDD_dct, Sim.atI_nat, Sim.atI_lit, Sim.lenD_tup, Sim.lenD_lst, Sim.lenD_scr, Sim.lenD_dct, Sim.addD_int, Sim.iaddD_int, Sim.subD_int, Sim.mulD_int, Sim.mulD_one, Sim.fdivD_int, Sim.modD_int, Sim.powD_int, Sim.addD_tup, Sim.addD_lst, Sim.negD_int, Sim.ltD_int, Sim.leD_int, Sim.gtD_int, Sim.geD_int, Sim.eqB_int, Sim.eqB_str, Sim.eqB_bl, Sim.eqB_non, Sim.eqD_of, Sim.neD_of, Sim.isD_non, Sim.isNotD_non, Sim.isN_non, Sim.isN_bl, Sim.isN_int, Sim.isN_str, Sim.isN_tup, Sim.isN_lst, Sim.frz_non, Sim.frz_bl, Sim.frz_int, Sim.frz_str, Sim.frz_tup, Sim.frz_lst, Sim.frz_dct, Sim.frz_scr, Sim.maxD_int, Sim.minD_int, Sim.absD_int, Sim.intD_int, Sim.tupleD_tup, Sim.tupleD_lst, Sim.listD_tup, Sim.listD_lst, Sim.listD_scr, Sim.itemsD_sh, Sim.itemsD_tup, Sim.itemsD_scr, Sim.isi_non, Sim.isi_bl, Sim.isi_int, Sim.isi_str, Sim.isi_tup, Sim.isi_lst, Sim.slice_tup, Sim.slice_lst, Sim.inDD_of, Sim.notInDD_of, Sim.inD_tup, Sim.inD_lst, Sim.inD_dct, Sim.cap, Sim.nat10, Sim.nat2, Nat.zero_le, Sim.ex_some, Sim.ex_some2, Sim.ex_if, Sim.ex_map, Sim.ex_eq, Sim.ex_bl, Sim.ex_int, Sim.ex_own, Sim.ex_lst, Sim.inr_at, Sim.inl_at, Sim.tt_c, Sim.ff_c, Sim.pad_nil, Sim.pad_n, Sim.nones_0, Sim.nones_s, List.getElem?_cons_zero, List.getElem?_cons_succ, List.set_cons_zero, List.set_cons_succ, List.map_cons, List.map_nil, List.cons_append, List.nil_append, Option.map_some, List.length_cons, List.length_nil, Int.zero_add, Nat.zero_add, Nat.reduceAdd, Nat.reduceLeDiff, Nat.reduceMul, true_and, and_true, decide_eq_true_eq, decide_eq_false_iff_not, Bool.false_eq_true, Bool.true_eq_false, false_implies, true_implies, implies_true, eq_self, decide_true, decide_false, not_true_eq_false, not_false_eq_true, Bool.not_true, Bool.not_false, Int.reduceLT, Int.reduceLE, Int.reduceNeg, Int.reducePow, Int.reduceToNat, b__law_condition, ex']
  refine FT_mono (ht dg n _ h0 hn (by omega) (by omega)) ?_
  rintro _ _ ⟨rfl, l, rfl, hl1, hl2⟩
  refine FT_mono (ht dg n _ h0 hn (by omega) (by omega)) ?_
  rintro _ _ ⟨rfl, r, rfl, hr1, hr2⟩
  simp only [Sim.T_ok, Sim.T_fail, Sim.T_bind, Sim.T_pureO, Sim.EndQ_nxt, Sim.EndQ_ret, Sim.lasts_nil, Sim.T_call, Sim.T_name, Sim.T_frz, Sim.T_const, Sim.T_sh, Sim.T_op2, Sim.T_op1, Sim.T_test, Sim.T_not, Sim.T_andM, Sim.T_orM, Sim.T_ifM, Sim.T_bl, Sim.T_andV, Sim.T_orV, Sim.T_notV, Sim.T_peek, Sim.T_vP, Sim.T_opP, Sim.T_nilA, Sim.T_consA, Sim.T_nilP, Sim.T_consP, Sim.T_tup, Sim.T_lst, Sim.T_noO, Sim.T_someO, Sim.T_slice, Sim.T_callM, Sim.resL_cons, Sim.resL_nil', Sim.T_isi, Sim.T_nil, Sim.T_brk, Sim.T_cnt, Sim.SeqQ_nxt, Sim.SeqQ_brk, Sim.SeqQ_cnt, Sim.SeqQ_ret, Sim.T_seq, Sim.T_set, Sim.T_drop, Sim.T_ret, Sim.T_retN, Sim.T_retS, Sim.T_asg, Sim.T_nameG, Sim.T_tupG, Sim.T_nilG, Sim.T_consG, Sim.T_aug, Sim.T_app, Sim.T_putD, Sim.T_newD, Sim.T_disp, Sim.T_iter, Sim.T_range1, Sim.T_range2, Sim.LoopQ_nxt, Sim.LoopQ_cnt, Sim.LoopQ_brk, Sim.LoopQ_ret, Sim.T_for, Sim.T_comp, Sim.T_yes, Sim.wipeR, Sim.T_rev, Sim.revD_lst, Sim.T_revR1, Sim.T_rg1, Sim.T_rg2, Sim.T_lstRg, Sim.T_tupRg, Sim.sumD_ints, Sim.ixDD_tup, Sim.ixDD_lst, Sim.ixDD_scr, Sim.ixDD_dct, Sim.atI_nat, Sim.atI_lit, Sim.lenD_tup, Sim.lenD_lst, Sim.lenD_scr, Sim.lenD_dct, Sim.addD_int, Sim.iaddD_int, Sim.subD_int, Sim.mulD_int, Sim.mulD_one, Sim.fdivD_int, Sim.modD_int, Sim.powD_int, Sim.addD_tup, Sim.addD_lst, Sim.negD_int, Sim.ltD_int, Sim.leD_int, Sim.gtD_int, Sim.geD_int, Sim.eqB_int, Sim.eqB_str, Sim.eqB_bl, Sim.eqB_non, Sim.eqD_of, Sim.neD_of, Sim.isD_non, Sim.isNotD_non, Sim.isN_non, Sim.isN_bl, Sim.isN_int, Sim.isN_str, Sim.isN_tup, Sim.isN_lst, Sim.frz_non, Sim.frz_bl, Sim.frz_int, Sim.frz_str, Sim.frz_tup, Sim.frz_lst, Sim.frz_dct, Sim.frz_scr, Sim.maxD_int, Sim.minD_int, Sim.absD_int, Sim.intD_int, Sim.tupleD_tup, Sim.tupleD_lst, Sim.listD_tup, Sim.listD_lst, Sim.listD_scr, Sim.itemsD_sh, Sim.itemsD_tup, Sim.itemsD_scr, Sim.isi_non, Sim.isi_bl, Sim.isi_int, Sim.isi_str, Sim.isi_tup, Sim.isi_lst, Sim.slice_tup, Sim.slice_lst, Sim.inDD_of, Sim.notInDD_of, Sim.inD_tup, Sim.inD_lst, Sim.inD_dct, Sim.cap, Sim.nat10, Sim.nat2, Nat.zero_le, Sim.ex_some, Sim.ex_some2, Sim.ex_if, Sim.ex_map, Sim.ex_eq, Sim.ex_bl, Sim.ex_int, Sim.ex_own, Sim.ex_lst, Sim.inr_at, Sim.inl_at, Sim.tt_c, Sim.ff_c, Sim.pad_nil, Sim.pad_n, Sim.nones_0, Sim.nones_s, List.getElem?_cons_zero, List.getElem?_cons_succ, List.set_cons_zero, List.set_cons_succ, List.map_cons, List.map_nil, List.cons_append, List.nil_append, Option.map_some, List.length_cons, List.length_nil, Int.zero_add, Nat.zero_add, Nat.reduceAdd, Nat.reduceLeDiff, Nat.reduceMul, true_and, and_true, decide_eq_true_eq, decide_eq_false_iff_not, Bool.false_eq_true, Bool.true_eq_false, false_implies, true_implies, implies_true, eq_self, decide_true, decide_false, not_true_eq_false, not_false_eq_true, Bool.not_true, Bool.not_false, Int.reduceLT, Int.reduceLE, Int.reduceNeg, Int.reducePow, Int.reduceToNat, Tm.frz, ey', ez', hk, Int.reduceAdd]
  have dl : (Cd.less l r).dep ≤ 4 := by
    have : Nat.max l.dep r.dep ≤ 2 := Nat.max_le.mpr ⟨hl2, hr2⟩
    show Nat.max l.dep r.dep + 2 ≤ 4
    omega
  have ds : (Cd.same (.var k) (.num (z % 3 - 1))).dep ≤ 2 := by show Nat.max 0 0 + 2 ≤ 2; decide
  refine ⟨hvl, ?_⟩
  refine T_iteTo (fun _ => True) ?_ (fun _ => ?_) (fun _ => ?_)
  · simp only [Sim.T_ok, Sim.T_fail, Sim.T_bind, Sim.T_pureO, Sim.EndQ_nxt, Sim.EndQ_ret, Sim.lasts_nil, Sim.T_call, Sim.T_name, Sim.T_frz, Sim.T_const, Sim.T_sh, Sim.T_op2, Sim.T_op1, Sim.T_test, Sim.T_not, Sim.T_andM, Sim.T_orM, Sim.T_ifM, Sim.T_bl, Sim.T_andV, Sim.T_orV, Sim.T_notV, Sim.T_peek, Sim.T_vP, Sim.T_opP, Sim.T_nilA, Sim.T_consA, Sim.T_nilP, Sim.T_consP, Sim.T_tup, Sim.T_lst, Sim.T_noO, Sim.T_someO, Sim.T_slice, Sim.T_callM, Sim.resL_cons, Sim.resL_nil', Sim.T_isi, Sim.T_nil, Sim.T_brk, Sim.T_cnt, Sim.SeqQ_nxt, Sim.SeqQ_brk, Sim.SeqQ_cnt, Sim.SeqQ_ret, Sim.T_seq, Sim.T_set, Sim.T_drop, Sim.T_ret, Sim.T_retN, Sim.T_retS, Sim.T_asg, Sim.T_nameG, Sim.T_tupG, Sim.T_nilG, Sim.T_consG, Sim.T_aug, Sim.T_app, Sim.T_putD, Sim.T_newD, Sim.T_disp, Sim.T_iter, Sim.T_range1, Sim.T_range2, Sim.LoopQ_nxt, Sim.LoopQ_cnt, Sim.LoopQ_brk, Sim.LoopQ_ret, Sim.T_for, Sim.T_comp, Sim.T_yes, Sim.wipeR, Sim.T_rev, Sim.revD_lst, Sim.T_revR1, Sim.T_rg1, Sim.T_rg2, Sim.T_lstRg, Sim.T_tupRg, Sim.sumD_ints, Sim.ixDD_tup, Sim.ixDD_lst, Sim.ixDD_scr, Sim.ixDD_dct, Sim.atI_nat, Sim.atI_lit, Sim.lenD_tup, Sim.lenD_lst, Sim.lenD_scr, Sim.lenD_dct, Sim.addD_int, Sim.iaddD_int, Sim.subD_int, Sim.mulD_int, Sim.mulD_one, Sim.fdivD_int, Sim.modD_int, Sim.powD_int, Sim.addD_tup, Sim.addD_lst, Sim.negD_int, Sim.ltD_int, Sim.leD_int, Sim.gtD_int, Sim.geD_int, Sim.eqB_int, Sim.eqB_str, Sim.eqB_bl, Sim.eqB_non, Sim.eqD_of, Sim.neD_of, Sim.isD_non, Sim.isNotD_non, Sim.isN_non, Sim.isN_bl, Sim.isN_int, Sim.isN_str, Sim.isN_tup, Sim.isN_lst, Sim.frz_non, Sim.frz_bl, Sim.frz_int, Sim.frz_str, Sim.frz_tup, Sim.frz_lst, Sim.frz_dct, Sim.frz_scr, Sim.maxD_int, Sim.minD_int, Sim.absD_int, Sim.intD_int, Sim.tupleD_tup, Sim.tupleD_lst, Sim.listD_tup, Sim.listD_lst, Sim.listD_scr, Sim.itemsD_sh, Sim.itemsD_tup, Sim.itemsD_scr, Sim.isi_non, Sim.isi_bl, Sim.isi_int, Sim.isi_str, Sim.isi_tup, Sim.isi_lst, Sim.slice_tup, Sim.slice_lst, Sim.inDD_of, Sim.notInDD_of, Sim.inD_tup, Sim.inD_lst, Sim.inD_dct, Sim.cap, Sim.nat10, Sim.nat2, Nat.zero_le, Sim.ex_some, Sim.ex_some2, Sim.ex_if, Sim.ex_map, Sim.ex_eq, Sim.ex_bl, Sim.ex_int, Sim.ex_own, Sim.ex_lst, Sim.inr_at, Sim.inl_at, Sim.tt_c, Sim.ff_c, Sim.pad_nil, Sim.pad_n, Sim.nones_0, Sim.nones_s, List.getElem?_cons_zero, List.getElem?_cons_succ, List.set_cons_zero, List.set_cons_succ, List.map_cons, List.map_nil, List.cons_append, List.nil_append, Option.map_some, List.length_cons, List.length_nil, Int.zero_add, Nat.zero_add, Nat.reduceAdd, Nat.reduceLeDiff, Nat.reduceMul, true_and, and_true, decide_eq_true_eq, decide_eq_false_iff_not, Bool.false_eq_true, Bool.true_eq_false, false_implies, true_implies, implies_true, eq_self, decide_true, decide_false, not_true_eq_false, not_false_eq_true, Bool.not_true, Bool.not_false, Int.reduceLT, Int.reduceLE, Int.reduceNeg, Int.reducePow, Int.reduceToNat]; first | exact ⟨_, rfl⟩ | exact fun _ => ⟨_, rfl⟩
  · simp only [Sim.T_ok, Sim.T_fail, Sim.T_bind, Sim.T_pureO, Sim.EndQ_nxt, Sim.EndQ_ret, Sim.lasts_nil, Sim.T_call, Sim.T_name, Sim.T_frz, Sim.T_const, Sim.T_sh, Sim.T_op2, Sim.T_op1, Sim.T_test, Sim.T_not, Sim.T_andM, Sim.T_orM, Sim.T_ifM, Sim.T_bl, Sim.T_andV, Sim.T_orV, Sim.T_notV, Sim.T_peek, Sim.T_vP, Sim.T_opP, Sim.T_nilA, Sim.T_consA, Sim.T_nilP, Sim.T_consP, Sim.T_tup, Sim.T_lst, Sim.T_noO, Sim.T_someO, Sim.T_slice, Sim.T_callM, Sim.resL_cons, Sim.resL_nil', Sim.T_isi, Sim.T_nil, Sim.T_brk, Sim.T_cnt, Sim.SeqQ_nxt, Sim.SeqQ_brk, Sim.SeqQ_cnt, Sim.SeqQ_ret, Sim.T_seq, Sim.T_set, Sim.T_drop, Sim.T_ret, Sim.T_retN, Sim.T_retS, Sim.T_asg, Sim.T_nameG, Sim.T_tupG, Sim.T_nilG, Sim.T_consG, Sim.T_aug, Sim.T_app, Sim.T_putD, Sim.T_newD, Sim.T_disp, Sim.T_iter, Sim.T_range1, Sim.T_range2, Sim.LoopQ_nxt, Sim.LoopQ_cnt, Sim.LoopQ_brk, Sim.LoopQ_ret, Sim.T_for, Sim.T_comp, Sim.T_yes, Sim.wipeR, Sim.T_rev, Sim.revD_lst, Sim.T_revR1, Sim.T_rg1, Sim.T_rg2, Sim.T_lstRg, Sim.T_tupRg, Sim.sumD_ints, Sim.ixDD_tup, Sim.ixDD_lst, Sim.ixDD_scr, Sim.ixDD_dct, Sim.atI_nat, Sim.atI_lit, Sim.lenD_tup, Sim.lenD_lst, Sim.lenD_scr, Sim.lenD_dct, Sim.addD_int, Sim.iaddD_int, Sim.subD_int, Sim.mulD_int, Sim.mulD_one, Sim.fdivD_int, Sim.modD_int, Sim.powD_int, Sim.addD_tup, Sim.addD_lst, Sim.negD_int, Sim.ltD_int, Sim.leD_int, Sim.gtD_int, Sim.geD_int, Sim.eqB_int, Sim.eqB_str, Sim.eqB_bl, Sim.eqB_non, Sim.eqD_of, Sim.neD_of, Sim.isD_non, Sim.isNotD_non, Sim.isN_non, Sim.isN_bl, Sim.isN_int, Sim.isN_str, Sim.isN_tup, Sim.isN_lst, Sim.frz_non, Sim.frz_bl, Sim.frz_int, Sim.frz_str, Sim.frz_tup, Sim.frz_lst, Sim.frz_dct, Sim.frz_scr, Sim.maxD_int, Sim.minD_int, Sim.absD_int, Sim.intD_int, Sim.tupleD_tup, Sim.tupleD_lst, Sim.listD_tup, Sim.listD_lst, Sim.listD_scr, Sim.itemsD_sh, Sim.itemsD_tup, Sim.itemsD_scr, Sim.isi_non, Sim.isi_bl, Sim.isi_int, Sim.isi_str, Sim.isi_tup, Sim.isi_lst, Sim.slice_tup, Sim.slice_lst, Sim.inDD_of, Sim.notInDD_of, Sim.inD_tup, Sim.inD_lst, Sim.inD_dct, Sim.cap, Sim.nat10, Sim.nat2, Nat.zero_le, Sim.ex_some, Sim.ex_some2, Sim.ex_if, Sim.ex_map, Sim.ex_eq, Sim.ex_bl, Sim.ex_int, Sim.ex_own, Sim.ex_lst, Sim.inr_at, Sim.inl_at, Sim.tt_c, Sim.ff_c, Sim.pad_nil, Sim.pad_n, Sim.nones_0, Sim.nones_s, List.getElem?_cons_zero, List.getElem?_cons_succ, List.set_cons_zero, List.set_cons_succ, List.map_cons, List.map_nil, List.cons_append, List.nil_append, Option.map_some, List.length_cons, List.length_nil, Int.zero_add, Nat.zero_add, Nat.reduceAdd, Nat.reduceLeDiff, Nat.reduceMul, true_and, and_true, decide_eq_true_eq, decide_eq_false_iff_not, Bool.false_eq_true, Bool.true_eq_false, false_implies, true_implies, implies_true, eq_self, decide_true, decide_false, not_true_eq_false, not_false_eq_true, Bool.not_true, Bool.not_false, Int.reduceLT, Int.reduceLE, Int.reduceNeg, Int.reducePow, Int.reduceToNat]; exact ⟨.tt, rfl, trivial, Nat.zero_le _⟩
  simp only [Sim.T_ok, Sim.T_fail, Sim.T_bind, Sim.T_pureO, Sim.EndQ_nxt, Sim.EndQ_ret, Sim.lasts_nil, Sim.T_call, Sim.T_name, Sim.T_frz, Sim.T_const, Sim.T_sh, Sim.T_op2, Sim.T_op1, Sim.T_test, Sim.T_not, Sim.T_andM, Sim.T_orM, Sim.T_ifM, Sim.T_bl, Sim.T_andV, Sim.T_orV, Sim.T_notV, Sim.T_peek, Sim.T_vP, Sim.T_opP, Sim.T_nilA, Sim.T_consA, Sim.T_nilP, Sim.T_consP, Sim.T_tup, Sim.T_lst, Sim.T_noO, Sim.T_someO, Sim.T_slice, Sim.T_callM, Sim.resL_cons, Sim.resL_nil', Sim.T_isi, Sim.T_nil, Sim.T_brk, Sim.T_cnt, Sim.SeqQ_nxt, Sim.SeqQ_brk, Sim.SeqQ_cnt, Sim.SeqQ_ret, Sim.T_seq, Sim.T_set, Sim.T_drop, Sim.T_ret, Sim.T_retN, Sim.T_retS, Sim.T_asg, Sim.T_nameG, Sim.T_tupG, Sim.T_nilG, Sim.T_consG, Sim.T_aug, Sim.T_app, Sim.T_putD, Sim.T_newD, Sim.T_disp, Sim.T_iter, Sim.T_range1, Sim.T_range2, Sim.LoopQ_nxt, Sim.LoopQ_cnt, Sim.LoopQ_brk, Sim.LoopQ_ret, Sim.T_for, Sim.T_comp, Sim.T_yes, Sim.wipeR, Sim.T_rev, Sim.revD_lst, Sim.T_revR1, Sim.T_rg1, Sim.T_rg2, Sim.T_lstRg, Sim.T_tupRg, Sim.sumD_ints, Sim.ixDD_tup, Sim.ixDD_lst, Sim.ixDD_scr, Sim.ixDD_dct, Sim.atI_nat, Sim.atI_lit, Sim.lenD_tup, Sim.lenD_lst, Sim.lenD_scr, Sim.lenD_dct, Sim.addD_int, Sim.iaddD_int, Sim.subD_int, Sim.mulD_int, Sim.mulD_one, Sim.fdivD_int, Sim.modD_int, Sim.powD_int, Sim.addD_tup, Sim.addD_lst, Sim.negD_int, Sim.ltD_int, Sim.leD_int, Sim.gtD_int, Sim.geD_int, Sim.eqB_int, Sim.eqB_str, Sim.eqB_bl, Sim.eqB_non, Sim.eqD_of, Sim.neD_of, Sim.isD_non, Sim.isNotD_non, Sim.isN_non, Sim.isN_bl, Sim.isN_int, Sim.isN_str, Sim.isN_tup, Sim.isN_lst, Sim.frz_non, Sim.frz_bl, Sim.frz_int, Sim.frz_str, Sim.frz_tup, Sim.frz_lst, Sim.frz_dct, Sim.frz_scr, Sim.maxD_int, Sim.minD_int, Sim.absD_int, Sim.intD_int, Sim.tupleD_tup, Sim.tupleD_lst, Sim.listD_tup, Sim.listD_lst, Sim.listD_scr, Sim.itemsD_sh, Sim.itemsD_tup, Sim.itemsD_scr, Sim.isi_non, Sim.isi_bl, Sim.isi_int, Sim.isi_str, Sim.isi_tup, Sim.isi_lst, Sim.slice_tup, Sim.slice_lst, Sim.inDD_of, Sim.notInDD_of, Sim.inD_tup, Sim.inD_lst, Sim.inD_dct, Sim.cap, Sim.nat10, Sim.nat2, Nat.zero_le, Sim.ex_some, Sim.ex_some2, Sim.ex_if, Sim.ex_map, Sim.ex_eq, Sim.ex_bl, Sim.ex_int, Sim.ex_own, Sim.ex_lst, Sim.inr_at, Sim.inl_at, Sim.tt_c, Sim.ff_c, Sim.pad_nil, Sim.pad_n, Sim.nones_0, Sim.nones_s, List.getElem?_cons_zero, List.getElem?_cons_succ, List.set_cons_zero, List.set_cons_succ, List.map_cons, List.map_nil, List.cons_append, List.nil_append, Option.map_some, List.length_cons, List.length_nil, Int.zero_add, Nat.zero_add, Nat.reduceAdd, Nat.reduceLeDiff, Nat.reduceMul, true_and, and_true, decide_eq_true_eq, decide_eq_false_iff_not, Bool.false_eq_true, Bool.true_eq_false, false_implies, true_implies, implies_true, eq_self, decide_true, decide_false, not_true_eq_false, not_false_eq_true, Bool.not_true, Bool.not_false, Int.reduceLT, Int.reduceLE, Int.reduceNeg, Int.reducePow, Int.reduceToNat]
  refine T_iteTo (fun _ => True) ?_ (fun _ => ?_) (fun _ => ?_)
  · simp only [Sim.T_ok, Sim.T_fail, Sim.T_bind, Sim.T_pureO, Sim.EndQ_nxt, Sim.EndQ_ret, Sim.lasts_nil, Sim.T_call, Sim.T_name, Sim.T_frz, Sim.T_const, Sim.T_sh, Sim.T_op2, Sim.T_op1, Sim.T_test, Sim.T_not, Sim.T_andM, Sim.T_orM, Sim.T_ifM, Sim.T_bl, Sim.T_andV, Sim.T_orV, Sim.T_notV, Sim.T_peek, Sim.T_vP, Sim.T_opP, Sim.T_nilA, Sim.T_consA, Sim.T_nilP, Sim.T_consP, Sim.T_tup, Sim.T_lst, Sim.T_noO, Sim.T_someO, Sim.T_slice, Sim.T_callM, Sim.resL_cons, Sim.resL_nil', Sim.T_isi, Sim.T_nil, Sim.T_brk, Sim.T_cnt, Sim.SeqQ_nxt, Sim.SeqQ_brk, Sim.SeqQ_cnt, Sim.SeqQ_ret, Sim.T_seq, Sim.T_set, Sim.T_drop, Sim.T_ret, Sim.T_retN, Sim.T_retS, Sim.T_asg, Sim.T_nameG, Sim.T_tupG, Sim.T_nilG, Sim.T_consG, Sim.T_aug, Sim.T_app, Sim.T_putD, Sim.T_newD, Sim.T_disp, Sim.T_iter, Sim.T_range1, Sim.T_range2, Sim.LoopQ_nxt, Sim.LoopQ_cnt, Sim.LoopQ_brk, Sim.LoopQ_ret, Sim.T_for, Sim.T_comp, Sim.T_yes, Sim.wipeR, Sim.T_rev, Sim.revD_lst, Sim.T_revR1, Sim.T_rg1, Sim.T_rg2, Sim.T_lstRg, Sim.T_tupRg, Sim.sumD_ints, Sim.ixDD_tup, Sim.ixDD_lst, Sim.ixDD_scr, Sim.ixDD_dct, Sim.atI_nat, Sim.atI_lit, Sim.lenD_tup, Sim.lenD_lst, Sim.lenD_scr, Sim.lenD_dct, Sim.addD_int, Sim.iaddD_int, Sim.subD_int, Sim.mulD_int, Sim.mulD_one, Sim.fdivD_int, Sim.modD_int, Sim.powD_int, Sim.addD_tup, Sim.addD_lst, Sim.negD_int, Sim.ltD_int, Sim.leD_int, Sim.gtD_int, Sim.geD_int, Sim.eqB_int, Sim.eqB_str, Sim.eqB_bl, Sim.eqB_non, Sim.eqD_of, Sim.neD_of, Sim.isD_non, Sim.isNotD_non, Sim.isN_non, Sim.isN_bl, Sim.isN_int, Sim.isN_str, Sim.isN_tup, Sim.isN_lst, Sim.frz_non, Sim.frz_bl, Sim.frz_int, Sim.frz_str, Sim.frz_tup, Sim.frz_lst, Sim.frz_dct, Sim.frz_scr, Sim.maxD_int, Sim.minD_int, Sim.absD_int, Sim.intD_int, Sim.tupleD_tup, Sim.tupleD_lst, Sim.listD_tup, Sim.listD_lst, Sim.listD_scr, Sim.itemsD_sh, Sim.itemsD_tup, Sim.itemsD_scr, Sim.isi_non, Sim.isi_bl, Sim.isi_int, Sim.isi_str, Sim.isi_tup, Sim.isi_lst, Sim.slice_tup, Sim.slice_lst, Sim.inDD_of, Sim.notInDD_of, Sim.inD_tup, Sim.inD_lst, Sim.inD_dct, Sim.cap, Sim.nat10, Sim.nat2, Nat.zero_le, Sim.ex_some, Sim.ex_some2, Sim.ex_if, Sim.ex_map, Sim.ex_eq, Sim.ex_bl, Sim.ex_int, Sim.ex_own, Sim.ex_lst, Sim.inr_at, Sim.inl_at, Sim.tt_c, Sim.ff_c, Sim.pad_nil, Sim.pad_n, Sim.nones_0, Sim.nones_s, List.getElem?_cons_zero, List.getElem?_cons_succ, List.set_cons_zero, List.set_cons_succ, List.map_cons, List.map_nil, List.cons_append, List.nil_append, Option.map_some, List.length_cons, List.length_nil, Int.zero_add, Nat.zero_add, Nat.reduceAdd, Nat.reduceLeDiff, Nat.reduceMul, true_and, and_true, decide_eq_true_eq, decide_eq_false_iff_not, Bool.false_eq_true, Bool.true_eq_false, false_implies, true_implies, implies_true, eq_self, decide_true, decide_false, not_true_eq_false, not_false_eq_true, Bool.not_true, Bool.not_false, Int.reduceLT, Int.reduceLE, Int.reduceNeg, Int.reducePow, Int.reduceToNat]; first | exact ⟨_, rfl⟩ | exact fun _ => ⟨_, rfl⟩
  · simp only [Sim.T_ok, Sim.T_fail, Sim.T_bind, Sim.T_pureO, Sim.EndQ_nxt, Sim.EndQ_ret, Sim.lasts_nil, Sim.T_call, Sim.T_name, Sim.T_frz, Sim.T_const, Sim.T_sh, Sim.T_op2, Sim.T_op1, Sim.T_test, Sim.T_not, Sim.T_andM, Sim.T_orM, Sim.T_ifM, Sim.T_bl, Sim.T_andV, Sim.T_orV, Sim.T_notV, Sim.T_peek, Sim.T_vP, Sim.T_opP, Sim.T_nilA, Sim.T_consA, Sim.T_nilP, Sim.T_consP, Sim.T_tup, Sim.T_lst, Sim.T_noO, Sim.T_someO, Sim.T_slice, Sim.T_callM, Sim.resL_cons, Sim.resL_nil', Sim.T_isi, Sim.T_nil, Sim.T_brk, Sim.T_cnt, Sim.SeqQ_nxt, Sim.SeqQ_brk, Sim.SeqQ_cnt, Sim.SeqQ_ret, Sim.T_seq, Sim.T_set, Sim.T_drop, Sim.T_ret, Sim.T_retN, Sim.T_retS, Sim.T_asg, Sim.T_nameG, Sim.T_tupG, Sim.T_nilG, Sim.T_consG, Sim.T_aug, Sim.T_app, Sim.T_putD, Sim.T_newD, Sim.T_disp, Sim.T_iter, Sim.T_range1, Sim.T_range2, Sim.LoopQ_nxt, Sim.LoopQ_cnt, Sim.LoopQ_brk, Sim.LoopQ_ret, Sim.T_for, Sim.T_comp, Sim.T_yes, Sim.wipeR, Sim.T_rev, Sim.revD_lst, Sim.T_revR1, Sim.T_rg1, Sim.T_rg2, Sim.T_lstRg, Sim.T_tupRg, Sim.sumD_ints, Sim.ixDD_tup, Sim.ixDD_lst, Sim.ixDD_scr, Sim.ixDD_dct, Sim.atI_nat, Sim.atI_lit, Sim.lenD_tup, Sim.lenD_lst, Sim.lenD_scr, Sim.lenD_dct, Sim.addD_int, Sim.iaddD_int, Sim.subD_int, Sim.mulD_int, Sim.mulD_one, Sim.fdivD_int, Sim.modD_int, Sim.powD_int, Sim.addD_tup, Sim.addD_lst, Sim.negD_int, Sim.ltD_int, Sim.leD_int, Sim.gtD_int, Sim.geD_int, Sim.eqB_int, Sim.eqB_str, Sim.eqB_bl, Sim.eqB_non, Sim.eqD_of, Sim.neD_of, Sim.isD_non, Sim.isNotD_non, Sim.isN_non, Sim.isN_bl, Sim.isN_int, Sim.isN_str, Sim.isN_tup, Sim.isN_lst, Sim.frz_non, Sim.frz_bl, Sim.frz_int, Sim.frz_str, Sim.frz_tup, Sim.frz_lst, Sim.frz_dct, Sim.frz_scr, Sim.maxD_int, Sim.minD_int, Sim.absD_int, Sim.intD_int, Sim.tupleD_tup, Sim.tupleD_lst, Sim.listD_tup, Sim.listD_lst, Sim.listD_scr, Sim.itemsD_sh, Sim.itemsD_tup, Sim.itemsD_scr, Sim.isi_non, Sim.isi_bl, Sim.isi_int, Sim.isi_str, Sim.isi_tup, Sim.isi_lst, Sim.slice_tup, Sim.slice_lst, Sim.inDD_of, Sim.notInDD_of, Sim.inD_tup, Sim.inD_lst, Sim.inD_dct, Sim.cap, Sim.nat10, Sim.nat2, Nat.zero_le, Sim.ex_some, Sim.ex_some2, Sim.ex_if, Sim.ex_map, Sim.ex_eq, Sim.ex_bl, Sim.ex_int, Sim.ex_own, Sim.ex_lst, Sim.inr_at, Sim.inl_at, Sim.tt_c, Sim.ff_c, Sim.pad_nil, Sim.pad_n, Sim.nones_0, Sim.nones_s, List.getElem?_cons_zero, List.getElem?_cons_succ, List.set_cons_zero, List.set_cons_succ, List.map_cons, List.map_nil, List.cons_append, List.nil_append, Option.map_some, List.length_cons, List.length_nil, Int.zero_add, Nat.zero_add, Nat.reduceAdd, Nat.reduceLeDiff, Nat.reduceMul, true_and, and_true, decide_eq_true_eq, decide_eq_false_iff_not, Bool.false_eq_true, Bool.true_eq_false, false_implies, true_implies, implies_true, eq_self, decide_true, decide_false, not_true_eq_false, not_false_eq_true, Bool.not_true, Bool.not_false, Int.reduceLT, Int.reduceLE, Int.reduceNeg, Int.reducePow, Int.reduceToNat]; exact ⟨.less l r, rfl, ⟨hl1, hr1⟩, by omega⟩
  simp only [Sim.T_ok, Sim.T_fail, Sim.T_bind, Sim.T_pureO, Sim.EndQ_nxt, Sim.EndQ_ret, Sim.lasts_nil, Sim.T_call, Sim.T_name, Sim.T_frz, Sim.T_const, Sim.T_sh, Sim.T_op2, Sim.T_op1, Sim.T_test, Sim.T_not, Sim.T_andM, Sim.T_orM, Sim.T_ifM, Sim.T_bl, Sim.T_andV, Sim.T_orV, Sim.T_notV, Sim.T_peek, Sim.T_vP, Sim.T_opP, Sim.T_nilA, Sim.T_consA, Sim.T_nilP, Sim.T_consP, Sim.T_tup, Sim.T_lst, Sim.T_noO, Sim.T_someO, Sim.T_slice, Sim.T_callM, Sim.resL_cons, Sim.resL_nil', Sim.T_isi, Sim.T_nil, Sim.T_brk, Sim.T_cnt, Sim.SeqQ_nxt, Sim.SeqQ_brk, Sim.SeqQ_cnt, Sim.SeqQ_ret, Sim.T_seq, Sim.T_set, Sim.T_drop, Sim.T_ret, Sim.T_retN, Sim.T_retS, Sim.T_asg, Sim.T_nameG, Sim.T_tupG, Sim.T_nilG, Sim.T_consG, Sim.T_aug, Sim.T_app, Sim.T_putD, Sim.T_newD, Sim.T_disp, Sim.T_iter, Sim.T_range1, Sim.T_range2, Sim.LoopQ_nxt, Sim.LoopQ_cnt, Sim.LoopQ_brk, Sim.LoopQ_ret, Sim.T_for, Sim.T_comp, Sim.T_yes, Sim.wipeR, Sim.T_rev, Sim.revD_lst, Sim.T_revR1, Sim.T_rg1, Sim.T_rg2, Sim.T_lstRg, Sim.T_tupRg, Sim.sumD_ints, Sim.ixDD_tup, Sim.ixDD_lst, Sim.ixDD_scr, Sim.ixDD_dct, Sim.atI_nat, Sim.atI_lit, Sim.lenD_tup, Sim.lenD_lst, Sim.lenD_scr, Sim.lenD_dct, Sim.addD_int, Sim.iaddD_int, Sim.subD_int, Sim.mulD_int, Sim.mulD_one, Sim.fdivD_int, Sim.modD_int, Sim.powD_int, Sim.addD_tup, Sim.addD_lst, Sim.negD_int, Sim.ltD_int, Sim.leD_int, Sim.gtD_int, Sim.geD_int, Sim.eqB_int, Sim.eqB_str, Sim.eqB_bl, Sim.eqB_non, Sim.eqD_of, Sim.neD_of, Sim.isD_non, Sim.isNotD_non, Sim.isN_non, Sim.isN_bl, Sim.isN_int, Sim.isN_str, Sim.isN_tup, Sim.isN_lst, Sim.frz_non, Sim.frz_bl, Sim.frz_int, Sim.frz_str, Sim.frz_tup, Sim.frz_lst, Sim.frz_dct, Sim.frz_scr, Sim.maxD_int, Sim.minD_int, Sim.absD_int, Sim.intD_int, Sim.tupleD_tup, Sim.tupleD_lst, Sim.listD_tup, Sim.listD_lst, Sim.listD_scr, Sim.itemsD_sh, Sim.itemsD_tup, Sim.itemsD_scr, Sim.isi_non, Sim.isi_bl, Sim.isi_int, Sim.isi_str, Sim.isi_tup, Sim.isi_lst, Sim.slice_tup, Sim.slice_lst, Sim.inDD_of, Sim.notInDD_of, Sim.inD_tup, Sim.inD_lst, Sim.inD_dct, Sim.cap, Sim.nat10, Sim.nat2, Nat.zero_le, Sim.ex_some, Sim.ex_some2, Sim.ex_if, Sim.ex_map, Sim.ex_eq, Sim.ex_bl, Sim.ex_int, Sim.ex_own, Sim.ex_lst, Sim.inr_at, Sim.inl_at, Sim.tt_c, Sim.ff_c, Sim.pad_nil, Sim.pad_n, Sim.nones_0, Sim.nones_s, List.getElem?_cons_zero, List.getElem?_cons_succ, List.set_cons_zero, List.set_cons_succ, List.map_cons, List.map_nil, List.cons_append, List.nil_append, Option.map_some, List.length_cons, List.length_nil, Int.zero_add, Nat.zero_add, Nat.reduceAdd, Nat.reduceLeDiff, Nat.reduceMul, true_and, and_true, decide_eq_true_eq, decide_eq_false_iff_not, Bool.false_eq_true, Bool.true_eq_false, false_implies, true_implies, implies_true, eq_self, decide_true, decide_false, not_true_eq_false, not_false_eq_true, Bool.not_true, Bool.not_false, Int.reduceLT, Int.reduceLE, Int.reduceNeg, Int.reducePow, Int.reduceToNat]
  refine T_iteTo (fun _ => True) ?_ (fun _ => ?_) (fun _ => ?_)
  · simp only [Sim.T_ok, Sim.T_fail, Sim.T_bind, Sim.T_pureO, Sim.EndQ_nxt, Sim.EndQ_ret, Sim.lasts_nil, Sim.T_call, Sim.T_name, Sim.T_frz, Sim.T_const, Sim.T_sh, Sim.T_op2, Sim.T_op1, Sim.T_test, Sim.T_not, Sim.T_andM, Sim.T_orM, Sim.T_ifM, Sim.T_bl, Sim.T_andV, Sim.T_orV, Sim.T_notV, Sim.T_peek, Sim.T_vP, Sim.T_opP, Sim.T_nilA, Sim.T_consA, Sim.T_nilP, Sim.T_consP, Sim.T_tup, Sim.T_lst, Sim.T_noO, Sim.T_someO, Sim.T_slice, Sim.T_callM, Sim.resL_cons, Sim.resL_nil', Sim.T_isi, Sim.T_nil, Sim.T_brk, Sim.T_cnt, Sim.SeqQ_nxt, Sim.SeqQ_brk, Sim.SeqQ_cnt, Sim.SeqQ_ret, Sim.T_seq, Sim.T_set, Sim.T_drop, Sim.T_ret, Sim.T_retN, Sim.T_retS, Sim.T_asg, Sim.T_nameG, Sim.T_tupG, Sim.T_nilG, Sim.T_consG, Sim.T_aug, Sim.T_app, Sim.T_putD, Sim.T_newD, Sim.T_disp, Sim.T_iter, Sim.T_range1, Sim.T_range2, Sim.LoopQ_nxt, Sim.LoopQ_cnt, Sim.LoopQ_brk, Sim.LoopQ_ret, Sim.T_for, Sim.T_comp, Sim.T_yes, Sim.wipeR, Sim.T_rev, Sim.revD_lst, Sim.T_revR1, Sim.T_rg1, Sim.T_rg2, Sim.T_lstRg, Sim.T_tupRg, Sim.sumD_ints, Sim.ixDD_tup, Sim.ixDD_lst, Sim.ixDD_scr, Sim.ixDD_dct, Sim.atI_nat, Sim.atI_lit, Sim.lenD_tup, Sim.lenD_lst, Sim.lenD_scr, Sim.lenD_dct, Sim.addD_int, Sim.iaddD_int, Sim.subD_int, Sim.mulD_int, Sim.mulD_one, Sim.fdivD_int, Sim.modD_int, Sim.powD_int, Sim.addD_tup, Sim.addD_lst, Sim.negD_int, Sim.ltD_int, Sim.leD_int, Sim.gtD_int, Sim.geD_int, Sim.eqB_int, Sim.eqB_str, Sim.eqB_bl, Sim.eqB_non, Sim.eqD_of, Sim.neD_of, Sim.isD_non, Sim.isNotD_non, Sim.isN_non, Sim.isN_bl, Sim.isN_int, Sim.isN_str, Sim.isN_tup, Sim.isN_lst, Sim.frz_non, Sim.frz_bl, Sim.frz_int, Sim.frz_str, Sim.frz_tup, Sim.frz_lst, Sim.frz_dct, Sim.frz_scr, Sim.maxD_int, Sim.minD_int, Sim.absD_int, Sim.intD_int, Sim.tupleD_tup, Sim.tupleD_lst, Sim.listD_tup, Sim.listD_lst, Sim.listD_scr, Sim.itemsD_sh, Sim.itemsD_tup, Sim.itemsD_scr, Sim.isi_non, Sim.isi_bl, Sim.isi_int, Sim.isi_str, Sim.isi_tup, Sim.isi_lst, Sim.slice_tup, Sim.slice_lst, Sim.inDD_of, Sim.notInDD_of, Sim.inD_tup, Sim.inD_lst, Sim.inD_dct, Sim.cap, Sim.nat10, Sim.nat2, Nat.zero_le, Sim.ex_some, Sim.ex_some2, Sim.ex_if, Sim.ex_map, Sim.ex_eq, Sim.ex_bl, Sim.ex_int, Sim.ex_own, Sim.ex_lst, Sim.inr_at, Sim.inl_at, Sim.tt_c, Sim.ff_c, Sim.pad_nil, Sim.pad_n, Sim.nones_0, Sim.nones_s, List.getElem?_cons_zero, List.getElem?_cons_succ, List.set_cons_zero, List.set_cons_succ, List.map_cons, List.map_nil, List.cons_append, List.nil_append, Option.map_some, List.length_cons, List.length_nil, Int.zero_add, Nat.zero_add, Nat.reduceAdd, Nat.reduceLeDiff, Nat.reduceMul, true_and, and_true, decide_eq_true_eq, decide_eq_false_iff_not, Bool.false_eq_true, Bool.true_eq_false, false_implies, true_implies, implies_true, eq_self, decide_true, decide_false, not_true_eq_false, not_false_eq_true, Bool.not_true, Bool.not_false, Int.reduceLT, Int.reduceLE, Int.reduceNeg, Int.reducePow, Int.reduceToNat]; first | exact ⟨_, rfl⟩ | exact fun _ => ⟨_, rfl⟩
  · simp only [Sim.T_ok, Sim.T_fail, Sim.T_bind, Sim.T_pureO, Sim.EndQ_nxt, Sim.EndQ_ret, Sim.lasts_nil, Sim.T_call, Sim.T_name, Sim.T_frz, Sim.T_const, Sim.T_sh, Sim.T_op2, Sim.T_op1, Sim.T_test, Sim.T_not, Sim.T_andM, Sim.T_orM, Sim.T_ifM, Sim.T_bl, Sim.T_andV, Sim.T_orV, Sim.T_notV, Sim.T_peek, Sim.T_vP, Sim.T_opP, Sim.T_nilA, Sim.T_consA, Sim.T_nilP, Sim.T_consP, Sim.T_tup, Sim.T_lst, Sim.T_noO, Sim.T_someO, Sim.T_slice, Sim.T_callM, Sim.resL_cons, Sim.resL_nil', Sim.T_isi, Sim.T_nil, Sim.T_brk, Sim.T_cnt, Sim.SeqQ_nxt, Sim.SeqQ_brk, Sim.SeqQ_cnt, Sim.SeqQ_ret, Sim.T_seq, Sim.T_set, Sim.T_drop, Sim.T_ret, Sim.T_retN, Sim.T_retS, Sim.T_asg, Sim.T_nameG, Sim.T_tupG, Sim.T_nilG, Sim.T_consG, Sim.T_aug, Sim.T_app, Sim.T_putD, Sim.T_newD, Sim.T_disp, Sim.T_iter, Sim.T_range1, Sim.T_range2, Sim.LoopQ_nxt, Sim.LoopQ_cnt, Sim.LoopQ_brk, Sim.LoopQ_ret, Sim.T_for, Sim.T_comp, Sim.T_yes, Sim.wipeR, Sim.T_rev, Sim.revD_lst, Sim.T_revR1, Sim.T_rg1, Sim.T_rg2, Sim.T_lstRg, Sim.T_tupRg, Sim.sumD_ints, Sim.ixDD_tup, Sim.ixDD_lst, Sim.ixDD_scr, Sim.ixDD_dct, Sim.atI_nat, Sim.atI_lit, Sim.lenD_tup, Sim.lenD_lst, Sim.lenD_scr, Sim.lenD_dct, Sim.addD_int, Sim.iaddD_int, Sim.subD_int, Sim.mulD_int, Sim.mulD_one, Sim.fdivD_int, Sim.modD_int, Sim.powD_int, Sim.addD_tup, Sim.addD_lst, Sim.negD_int, Sim.ltD_int, Sim.leD_int, Sim.gtD_int, Sim.geD_int, Sim.eqB_int, Sim.eqB_str, Sim.eqB_bl, Sim.eqB_non, Sim.eqD_of, Sim.neD_of, Sim.isD_non, Sim.isNotD_non, Sim.isN_non, Sim.isN_bl, Sim.isN_int, Sim.isN_str, Sim.isN_tup, Sim.isN_lst, Sim.frz_non, Sim.frz_bl, Sim.frz_int, Sim.frz_str, Sim.frz_tup, Sim.frz_lst, Sim.frz_dct, Sim.frz_scr, Sim.maxD_int, Sim.minD_int, Sim.absD_int, Sim.intD_int, Sim.tupleD_tup, Sim.tupleD_lst, Sim.listD_tup, Sim.listD_lst, Sim.listD_scr, Sim.itemsD_sh, Sim.itemsD_tup, Sim.itemsD_scr, Sim.isi_non, Sim.isi_bl, Sim.isi_int, Sim.isi_str, Sim.isi_tup, Sim.isi_lst, Sim.slice_tup, Sim.slice_lst, Sim.inDD_of, Sim.notInDD_of, Sim.inD_tup, Sim.inD_lst, Sim.inD_dct, Sim.cap, Sim.nat10, Sim.nat2, Nat.zero_le, Sim.ex_some, Sim.ex_some2, Sim.ex_if, Sim.ex_map, Sim.ex_eq, Sim.ex_bl, Sim.ex_int, Sim.ex_own, Sim.ex_lst, Sim.inr_at, Sim.inl_at, Sim.tt_c, Sim.ff_c, Sim.pad_nil, Sim.pad_n, Sim.nones_0, Sim.nones_s, List.getElem?_cons_zero, List.getElem?_cons_succ, List.set_cons_zero, List.set_cons_succ, List.map_cons, List.map_nil, List.cons_append, List.nil_append, Option.map_some, List.length_cons, List.length_nil, Int.zero_add, Nat.zero_add, Nat.reduceAdd, Nat.reduceLeDiff, Nat.reduceMul, true_and, and_true, decide_eq_true_eq, decide_eq_false_iff_not, Bool.false_eq_true, Bool.true_eq_false, false_implies, true_implies, implies_true, eq_self, decide_true, decide_false, not_true_eq_false, not_false_eq_true, Bool.not_true, Bool.not_false, Int.reduceLT, Int.reduceLE, Int.reduceNeg, Int.reducePow, Int.reduceToNat]; exact ⟨.same (.var k) (.num (z % 3 - 1)), rfl, ⟨hkl, trivial⟩, by omega⟩
  simp only [Sim.T_ok, Sim.T_fail, Sim.T_bind, Sim.T_pureO, Sim.EndQ_nxt, Sim.EndQ_ret, Sim.lasts_nil, Sim.T_call, Sim.T_name, Sim.T_frz, Sim.T_const, Sim.T_sh, Sim.T_op2, Sim.T_op1, Sim.T_test, Sim.T_not, Sim.T_andM, Sim.T_orM, Sim.T_ifM, Sim.T_bl, Sim.T_andV, Sim.T_orV, Sim.T_notV, Sim.T_peek, Sim.T_vP, Sim.T_opP, Sim.T_nilA, Sim.T_consA, Sim.T_nilP, Sim.T_consP, Sim.T_tup, Sim.T_lst, Sim.T_noO, Sim.T_someO, Sim.T_slice, Sim.T_callM, Sim.resL_cons, Sim.resL_nil', Sim.T_isi, Sim.T_nil, Sim.T_brk, Sim.T_cnt, Sim.SeqQ_nxt, Sim.SeqQ_brk, Sim.SeqQ_cnt, Sim.SeqQ_ret, Sim.T_seq, Sim.T_set, Sim.T_drop, Sim.T_ret, Sim.T_retN, Sim.T_retS, Sim.T_asg, Sim.T_nameG, Sim.T_tupG, Sim.T_nilG, Sim.T_consG, Sim.T_aug, Sim.T_app, Sim.T_putD, Sim.T_newD, Sim.T_disp, Sim.T_iter, Sim.T_range1, Sim.T_range2, Sim.LoopQ_nxt, Sim.LoopQ_cnt, Sim.LoopQ_brk, Sim.LoopQ_ret, Sim.T_for, Sim.T_comp, Sim.T_yes, Sim.wipeR, Sim.T_rev, Sim.revD_lst, Sim.T_revR1, Sim.T_rg1, Sim.T_rg2, Sim.T_lstRg, Sim.T_tupRg, Sim.sumD_ints, Sim.ixDD_tup, Sim.ixDD_lst, Sim.ixDD_scr, Sim.ixDD_dct, Sim.atI_nat, Sim.atI_lit, Sim.lenD_tup, Sim.lenD_lst, Sim.lenD_scr, Sim.lenD_dct, Sim.addD_int, Sim.iaddD_int, Sim.subD_int, Sim.mulD_int, Sim.mulD_one, Sim.fdivD_int, Sim.modD_int, Sim.powD_int, Sim.addD_tup, Sim.addD_lst, Sim.negD_int, Sim.ltD_int, Sim.leD_int, Sim.gtD_int, Sim.geD_int, Sim.eqB_int, Sim.eqB_str, Sim.eqB_bl, Sim.eqB_non, Sim.eqD_of, Sim.neD_of, Sim.isD_non, Sim.isNotD_non, Sim.isN_non, Sim.isN_bl, Sim.isN_int, Sim.isN_str, Sim.isN_tup, Sim.isN_lst, Sim.frz_non, Sim.frz_bl, Sim.frz_int, Sim.frz_str, Sim.frz_tup, Sim.frz_lst, Sim.frz_dct, Sim.frz_scr, Sim.maxD_int, Sim.minD_int, Sim.absD_int, Sim.intD_int, Sim.tupleD_tup, Sim.tupleD_lst, Sim.listD_tup, Sim.listD_lst, Sim.listD_scr, Sim.itemsD_sh, Sim.itemsD_tup, Sim.itemsD_scr, Sim.isi_non, Sim.isi_bl, Sim.isi_int, Sim.isi_str, Sim.isi_tup, Sim.isi_lst, Sim.slice_tup, Sim.slice_lst, Sim.inDD_of, Sim.notInDD_of, Sim.inD_tup, Sim.inD_lst, Sim.inD_dct, Sim.cap, Sim.nat10, Sim.nat2, Nat.zero_le, Sim.ex_some, Sim.ex_some2, Sim.ex_if, Sim.ex_map, Sim.ex_eq, Sim.ex_bl, Sim.ex_int, Sim.ex_own, Sim.ex_lst, Sim.inr_at, Sim.inl_at, Sim.tt_c, Sim.ff_c, Sim.pad_nil, Sim.pad_n, Sim.nones_0, Sim.nones_s, List.getElem?_cons_zero, List.getElem?_cons_succ, List.set_cons_zero, List.set_cons_succ, List.map_cons, List.map_nil, List.cons_append, List.nil_append, Option.map_some, List.length_cons, List.length_nil, Int.zero_add, Nat.zero_add, Nat.reduceAdd, Nat.reduceLeDiff, Nat.reduceMul, true_and, and_true, decide_eq_true_eq, decide_eq_false_iff_not, Bool.false_eq_true, Bool.true_eq_false, false_implies, true_implies, implies_true, eq_self, decide_true, decide_false, not_true_eq_false, not_false_eq_true, Bool.not_true, Bool.not_false, Int.reduceLT, Int.reduceLE, Int.reduceNeg, Int.reducePow, Int.reduceToNat]
  refine T_iteTo (fun _ => True) ?_ (fun _ => ?_) (fun _ => ?_)
  · simp only [Sim.T_ok, Sim.T_fail, Sim.T_bind, Sim.T_pureO, Sim.EndQ_nxt, Sim.EndQ_ret, Sim.lasts_nil, Sim.T_call, Sim.T_name, Sim.T_frz, Sim.T_const, Sim.T_sh, Sim.T_op2, Sim.T_op1, Sim.T_test, Sim.T_not, Sim.T_andM, Sim.T_orM, Sim.T_ifM, Sim.T_bl, Sim.T_andV, Sim.T_orV, Sim.T_notV, Sim.T_peek, Sim.T_vP, Sim.T_opP, Sim.T_nilA, Sim.T_consA, Sim.T_nilP, Sim.T_consP, Sim.T_tup, Sim.T_lst, Sim.T_noO, Sim.T_someO, Sim.T_slice, Sim.T_callM, Sim.resL_cons, Sim.resL_nil', Sim.T_isi, Sim.T_nil, Sim.T_brk, Sim.T_cnt, Sim.SeqQ_nxt, Sim.SeqQ_brk, Sim.SeqQ_cnt, Sim.SeqQ_ret, Sim.T_seq, Sim.T_set, Sim.T_drop, Sim.T_ret, Sim.T_retN, Sim.T_retS, Sim.T_asg, Sim.T_nameG, Sim.T_tupG, Sim.T_nilG, Sim.T_consG, Sim.T_aug, Sim.T_app, Sim.T_putD, Sim.T_newD, Sim.T_disp, Sim.T_iter, Sim.T_range1, Sim.T_range2, Sim.LoopQ_nxt, Sim.LoopQ_cnt, Sim.LoopQ_brk, Sim.LoopQ_ret, Sim.T_for, Sim.T_comp, Sim.T_yes, Sim.wipeR, Sim.T_rev, Sim.revD_lst, Sim.T_revR1, Sim.T_rg1, Sim.T_rg2, Sim.T_lstRg, Sim.T_tupRg, Sim.sumD_ints, Sim.ixDD_tup, Sim.ixDD_lst, Sim.ixDD_scr, Sim.ixDD_dct, Sim.atI_nat, Sim.atI_lit, Sim.lenD_tup, Sim.lenD_lst, Sim.lenD_scr, Sim.lenD_dct, Sim.addD_int, Sim.iaddD_int, Sim.subD_int, Sim.mulD_int, Sim.mulD_one, Sim.fdivD_int, Sim.modD_int, Sim.powD_int, Sim.addD_tup, Sim.addD_lst, Sim.negD_int, Sim.ltD_int, Sim.leD_int, Sim.gtD_int, Sim.geD_int, Sim.eqB_int, Sim.eqB_str, Sim.eqB_bl, Sim.eqB_non, Sim.eqD_of, Sim.neD_of, Sim.isD_non, Sim.isNotD_non, Sim.isN_non, Sim.isN_bl, Sim.isN_int, Sim.isN_str, Sim.isN_tup, Sim.isN_lst, Sim.frz_non, Sim.frz_bl, Sim.frz_int, Sim.frz_str, Sim.frz_tup, Sim.frz_lst, Sim.frz_dct, Sim.frz_scr, Sim.maxD_int, Sim.minD_int, Sim.absD_int, Sim.intD_int, Sim.tupleD_tup, Sim.tupleD_lst, Sim.listD_tup, Sim.listD_lst, Sim.listD_scr, Sim.itemsD_sh, Sim.itemsD_tup, Sim.itemsD_scr, Sim.isi_non, Sim.isi_bl, Sim.isi_int, Sim.isi_str, Sim.isi_tup, Sim.isi_lst, Sim.slice_tup, Sim.slice_lst, Sim.inDD_of, Sim.notInDD_of, Sim.inD_tup, Sim.inD_lst, Sim.inD_dct, Sim.cap, Sim.nat10, Sim.nat2, Nat.zero_le, Sim.ex_some, Sim.ex_some2, Sim.ex_if, Sim.ex_map, Sim.ex_eq, Sim.ex_bl, Sim.ex_int, Sim.ex_own, Sim.ex_lst, Sim.inr_at, Sim.inl_at, Sim.tt_c, Sim.ff_c, Sim.pad_nil, Sim.pad_n, Sim.nones_0, Sim.nones_s, List.getElem?_cons_zero, List.getElem?_cons_succ, List.set_cons_zero, List.set_cons_succ, List.map_cons, List.map_nil, List.cons_append, List.nil_append, Option.map_some, List.length_cons, List.length_nil, Int.zero_add, Nat.zero_add, Nat.reduceAdd, Nat.reduceLeDiff, Nat.reduceMul, true_and, and_true, decide_eq_true_eq, decide_eq_false_iff_not, Bool.false_eq_true, Bool.true_eq_false, false_implies, true_implies, implies_true, eq_self, decide_true, decide_false, not_true_eq_false, not_false_eq_true, Bool.not_true, Bool.not_false, Int.reduceLT, Int.reduceLE, Int.reduceNeg, Int.reducePow, Int.reduceToNat]; first | exact ⟨_, rfl⟩ | exact fun _ => ⟨_, rfl⟩
  · simp only [Sim.T_ok, Sim.T_fail, Sim.T_bind, Sim.T_pureO, Sim.EndQ_nxt, Sim.EndQ_ret, Sim.lasts_nil, Sim.T_call, Sim.T_name, Sim.T_frz, Sim.T_const, Sim.T_sh, Sim.T_op2, Sim.T_op1, Sim.T_test, Sim.T_not, Sim.T_andM, Sim.T_orM, Sim.T_ifM, Sim.T_bl, Sim.T_andV, Sim.T_orV, Sim.T_notV, Sim.T_peek, Sim.T_vP, Sim.T_opP, Sim.T_nilA, Sim.T_consA, Sim.T_nilP, Sim.T_consP, Sim.T_tup, Sim.T_lst, Sim.T_noO, Sim.T_someO, Sim.T_slice, Sim.T_callM, Sim.resL_cons, Sim.resL_nil', Sim.T_isi, Sim.T_nil, Sim.T_brk, Sim.T_cnt, Sim.SeqQ_nxt, Sim.SeqQ_brk, Sim.SeqQ_cnt, Sim.SeqQ_ret, Sim.T_seq, Sim.T_set, Sim.T_drop, Sim.T_ret, Sim.T_retN, Sim.T_retS, Sim.T_asg, Sim.T_nameG, Sim.T_tupG, Sim.T_nilG, Sim.T_consG, Sim.T_aug, Sim.T_app, Sim.T_putD, Sim.T_newD, Sim.T_disp, Sim.T_iter, Sim.T_range1, Sim.T_range2, Sim.LoopQ_nxt, Sim.LoopQ_cnt, Sim.LoopQ_brk, Sim.LoopQ_ret, Sim.T_for, Sim.T_comp, Sim.T_yes, Sim.wipeR, Sim.T_rev, Sim.revD_lst, Sim.T_revR1, Sim.T_rg1, Sim.T_rg2, Sim.T_lstRg, Sim.T_tupRg, Sim.sumD_ints, Sim.ixDD_tup, Sim.ixDD_lst, Sim.ixDD_scr, Sim.ixDD_dct, Sim.atI_nat, Sim.atI_lit, Sim.lenD_tup, Sim.lenD_lst, Sim.lenD_scr, Sim.lenD_dct, Sim.addD_int, Sim.iaddD_int, Sim.subD_int, Sim.mulD_int, Sim.mulD_one, Sim.fdivD_int, Sim.modD_int, Sim.powD_int, Sim.addD_tup, Sim.addD_lst, Sim.negD_int, Sim.ltD_int, Sim.leD_int, Sim.gtD_int, Sim.geD_int, Sim.eqB_int, Sim.eqB_str, Sim.eqB_bl, Sim.eqB_non, Sim.eqD_of, Sim.neD_of, Sim.isD_non, Sim.isNotD_non, Sim.isN_non, Sim.isN_bl, Sim.isN_int, Sim.isN_str, Sim.isN_tup, Sim.isN_lst, Sim.frz_non, Sim.frz_bl, Sim.frz_int, Sim.frz_str, Sim.frz_tup, Sim.frz_lst, Sim.frz_dct, Sim.frz_scr, Sim.maxD_int, Sim.minD_int, Sim.absD_int, Sim.intD_int, Sim.tupleD_tup, Sim.tupleD_lst, Sim.listD_tup, Sim.listD_lst, Sim.listD_scr, Sim.itemsD_sh, Sim.itemsD_tup, Sim.itemsD_scr, Sim.isi_non, Sim.isi_bl, Sim.isi_int, Sim.isi_str, Sim.isi_tup, Sim.isi_lst, Sim.slice_tup, Sim.slice_lst, Sim.inDD_of, Sim.notInDD_of, Sim.inD_tup, Sim.inD_lst, Sim.inD_dct, Sim.cap, Sim.nat10, Sim.nat2, Nat.zero_le, Sim.ex_some, Sim.ex_some2, Sim.ex_if, Sim.ex_map, Sim.ex_eq, Sim.ex_bl, Sim.ex_int, Sim.ex_own, Sim.ex_lst, Sim.inr_at, Sim.inl_at, Sim.tt_c, Sim.ff_c, Sim.pad_nil, Sim.pad_n, Sim.nones_0, Sim.nones_s, List.getElem?_cons_zero, List.getElem?_cons_succ, List.set_cons_zero, List.set_cons_succ, List.map_cons, List.map_nil, List.cons_append, List.nil_append, Option.map_some, List.length_cons, List.length_nil, Int.zero_add, Nat.zero_add, Nat.reduceAdd, Nat.reduceLeDiff, Nat.reduceMul, true_and, and_true, decide_eq_true_eq, decide_eq_false_iff_not, Bool.false_eq_true, Bool.true_eq_false, false_implies, true_implies, implies_true, eq_self, decide_true, decide_false, not_true_eq_false, not_false_eq_true, Bool.not_true, Bool.not_false, Int.reduceLT, Int.reduceLE, Int.reduceNeg, Int.reducePow, Int.reduceToNat]; exact ⟨.not (.less l r), rfl, ⟨hl1, hr1⟩, by show (Cd.less l r).dep + 1 ≤ _; omega⟩
  simp only [Sim.T_ok, Sim.T_fail, Sim.T_bind, Sim.T_pureO, Sim.EndQ_nxt, Sim.EndQ_ret, Sim.lasts_nil, Sim.T_call, Sim.T_name, Sim.T_frz, Sim.T_const, Sim.T_sh, Sim.T_op2, Sim.T_op1, Sim.T_test, Sim.T_not, Sim.T_andM, Sim.T_orM, Sim.T_ifM, Sim.T_bl, Sim.T_andV, Sim.T_orV, Sim.T_notV, Sim.T_peek, Sim.T_vP, Sim.T_opP, Sim.T_nilA, Sim.T_consA, Sim.T_nilP, Sim.T_consP, Sim.T_tup, Sim.T_lst, Sim.T_noO, Sim.T_someO, Sim.T_slice, Sim.T_callM, Sim.resL_cons, Sim.resL_nil', Sim.T_isi, Sim.T_nil, Sim.T_brk, Sim.T_cnt, Sim.SeqQ_nxt, Sim.SeqQ_brk, Sim.SeqQ_cnt, Sim.SeqQ_ret, Sim.T_seq, Sim.T_set, Sim.T_drop, Sim.T_ret, Sim.T_retN, Sim.T_retS, Sim.T_asg, Sim.T_nameG, Sim.T_tupG, Sim.T_nilG, Sim.T_consG, Sim.T_aug, Sim.T_app, Sim.T_putD, Sim.T_newD, Sim.T_disp, Sim.T_iter, Sim.T_range1, Sim.T_range2, Sim.LoopQ_nxt, Sim.LoopQ_cnt, Sim.LoopQ_brk, Sim.LoopQ_ret, Sim.T_for, Sim.T_comp, Sim.T_yes, Sim.wipeR, Sim.T_rev, Sim.revD_lst, Sim.T_revR1, Sim.T_rg1, Sim.T_rg2, Sim.T_lstRg, Sim.T_tupRg, Sim.sumD_ints, Sim.ixDD_tup, Sim.ixDD_lst, Sim.ixDD_scr, Sim.ixDD_dct, Sim.atI_nat, Sim.atI_lit, Sim.lenD_tup, Sim.lenD_lst, Sim.lenD_scr, Sim.lenD_dct, Sim.addD_int, Sim.iaddD_int, Sim.subD_int, Sim.mulD_int, Sim.mulD_one, Sim.fdivD_int, Sim.modD_int, Sim.powD_int, Sim.addD_tup, Sim.addD_lst, Sim.negD_int, Sim.ltD_int, Sim.leD_int, Sim.gtD_int, Sim.geD_int, Sim.eqB_int, Sim.eqB_str, Sim.eqB_bl, Sim.eqB_non, Sim.eqD_of, Sim.neD_of, Sim.isD_non, Sim.isNotD_non, Sim.isN_non, Sim.isN_bl, Sim.isN_int, Sim.isN_str, Sim.isN_tup, Sim.isN_lst, Sim.frz_non, Sim.frz_bl, Sim.frz_int, Sim.frz_str, Sim.frz_tup, Sim.frz_lst, Sim.frz_dct, Sim.frz_scr, Sim.maxD_int, Sim.minD_int, Sim.absD_int, Sim.intD_int, Sim.tupleD_tup, Sim.tupleD_lst, Sim.listD_tup, Sim.listD_lst, Sim.listD_scr, Sim.itemsD_sh, Sim.itemsD_tup, Sim.itemsD_scr, Sim.isi_non, Sim.isi_bl, Sim.isi_int, Sim.isi_str, Sim.isi_tup, Sim.isi_lst, Sim.slice_tup, Sim.slice_lst, Sim.inDD_of, Sim.notInDD_of, Sim.inD_tup, Sim.inD_lst, Sim.inD_dct, Sim.cap, Sim.nat10, Sim.nat2, Nat.zero_le, Sim.ex_some, Sim.ex_some2, Sim.ex_if, Sim.ex_map, Sim.ex_eq, Sim.ex_bl, Sim.ex_int, Sim.ex_own, Sim.ex_lst, Sim.inr_at, Sim.inl_at, Sim.tt_c, Sim.ff_c, Sim.pad_nil, Sim.pad_n, Sim.nones_0, Sim.nones_s, List.getElem?_cons_zero, List.getElem?_cons_succ, List.set_cons_zero, List.set_cons_succ, List.map_cons, List.map_nil, List.cons_append, List.nil_append, Option.map_some, List.length_cons, List.length_nil, Int.zero_add, Nat.zero_add, Nat.reduceAdd, Nat.reduceLeDiff, Nat.reduceMul, true_and, and_true, decide_eq_true_eq, decide_eq_false_iff_not, Bool.false_eq_true, Bool.true_eq_false, false_implies, true_implies, implies_true, eq_self, decide_true, decide_false, not_true_eq_false, not_false_eq_true, Bool.not_true, Bool.not_false, Int.reduceLT, Int.reduceLE, Int.reduceNeg, Int.reducePow, Int.reduceToNat]
  refine T_iteTo (fun _ => True) ?_ (fun _ => ?_) (fun _ => ?_)
  · simp only [Sim.T_ok, Sim.T_fail, Sim.T_bind, Sim.T_pureO, Sim.EndQ_nxt, Sim.EndQ_ret, Sim.lasts_nil, Sim.T_call, Sim.T_name, Sim.T_frz, Sim.T_const, Sim.T_sh, Sim.T_op2, Sim.T_op1, Sim.T_test, Sim.T_not, Sim.T_andM, Sim.T_orM, Sim.T_ifM, Sim.T_bl, Sim.T_andV, Sim.T_orV, Sim.T_notV, Sim.T_peek, Sim.T_vP, Sim.T_opP, Sim.T_nilA, Sim.T_consA, Sim.T_nilP, Sim.T_consP, Sim.T_tup, Sim.T_lst, Sim.T_noO, Sim.T_someO, Sim.T_slice, Sim.T_callM, Sim.resL_cons, Sim.resL_nil', Sim.T_isi, Sim.T_nil, Sim.T_brk, Sim.T_cnt, Sim.SeqQ_nxt, Sim.SeqQ_brk, Sim.SeqQ_cnt, Sim.SeqQ_ret, Sim.T_seq, Sim.T_set, Sim.T_drop, Sim.T_ret, Sim.T_retN, Sim.T_retS, Sim.T_asg, Sim.T_nameG, Sim.T_tupG, Sim.T_nilG, Sim.T_consG, Sim.T_aug, Sim.T_app, Sim.T_putD, Sim.T_newD, Sim.T_disp, Sim.T_iter, Sim.T_range1, Sim.T_range2, Sim.LoopQ_nxt, Sim.LoopQ_cnt, Sim.LoopQ_brk, Sim.LoopQ_ret, Sim.T_for, Sim.T_comp, Sim.T_yes, Sim.wipeR, Sim.T_rev, Sim.revD_lst, Sim.T_revR1, Sim.T_rg1, Sim.T_rg2, Sim.T_lstRg, Sim.T_tupRg, Sim.sumD_ints, Sim.ixDD_tup, Sim.ixDD_lst, Sim.ixDD_scr, Sim.ixDD_dct, Sim.atI_nat, Sim.atI_lit, Sim.lenD_tup, Sim.lenD_lst, Sim.lenD_scr, Sim.lenD_dct, Sim.addD_int, Sim.iaddD_int, Sim.subD_int, Sim.mulD_int, Sim.mulD_one, Sim.fdivD_int, Sim.modD_int, Sim.powD_int, Sim.addD_tup, Sim.addD_lst, Sim.negD_int, Sim.ltD_int, Sim.leD_int, Sim.gtD_int, Sim.geD_int, Sim.eqB_int, Sim.eqB_str, Sim.eqB_bl, Sim.eqB_non, Sim.eqD_of, Sim.neD_of, Sim.isD_non, Sim.isNotD_non, Sim.isN_non, Sim.isN_bl, Sim.isN_int, Sim.isN_str, Sim.isN_tup, Sim.isN_lst, Sim.frz_non, Sim.frz_bl, Sim.frz_int, Sim.frz_str, Sim.frz_tup, Sim.frz_lst, Sim.frz_dct, Sim.frz_scr, Sim.maxD_int, Sim.minD_int, Sim.absD_int, Sim.intD_int, Sim.tupleD_tup, Sim.tupleD_lst, Sim.listD_tup, Sim.listD_lst, Sim.listD_scr, Sim.itemsD_sh, Sim.itemsD_tup, Sim.itemsD_scr, Sim.isi_non, Sim.isi_bl, Sim.isi_int, Sim.isi_str, Sim.isi_tup, Sim.isi_lst, Sim.slice_tup, Sim.slice_lst, Sim.inDD_of, Sim.notInDD_of, Sim.inD_tup, Sim.inD_lst, Sim.inD_dct, Sim.cap, Sim.nat10, Sim.nat2, Nat.zero_le, Sim.ex_some, Sim.ex_some2, Sim.ex_if, Sim.ex_map, Sim.ex_eq, Sim.ex_bl, Sim.ex_int, Sim.ex_own, Sim.ex_lst, Sim.inr_at, Sim.inl_at, Sim.tt_c, Sim.ff_c, Sim.pad_nil, Sim.pad_n, Sim.nones_0, Sim.nones_s, List.getElem?_cons_zero, List.getElem?_cons_succ, List.set_cons_zero, List.set_cons_succ, List.map_cons, List.map_nil, List.cons_append, List.nil_append, Option.map_some, List.length_cons, List.length_nil, Int.zero_add, Nat.zero_add, Nat.reduceAdd, Nat.reduceLeDiff, Nat.reduceMul, true_and, and_true, decide_eq_true_eq, decide_eq_false_iff_not, Bool.false_eq_true, Bool.true_eq_false, false_implies, true_implies, implies_true, eq_self, decide_true, decide_false, not_true_eq_false, not_false_eq_true, Bool.not_true, Bool.not_false, Int.reduceLT, Int.reduceLE, Int.reduceNeg, Int.reducePow, Int.reduceToNat]; first | exact ⟨_, rfl⟩ | exact fun _ => ⟨_, rfl⟩
  · simp only [Sim.T_ok, Sim.T_fail, Sim.T_bind, Sim.T_pureO, Sim.EndQ_nxt, Sim.EndQ_ret, Sim.lasts_nil, Sim.T_call, Sim.T_name, Sim.T_frz, Sim.T_const, Sim.T_sh, Sim.T_op2, Sim.T_op1, Sim.T_test, Sim.T_not, Sim.T_andM, Sim.T_orM, Sim.T_ifM, Sim.T_bl, Sim.T_andV, Sim.T_orV, Sim.T_notV, Sim.T_peek, Sim.T_vP, Sim.T_opP, Sim.T_nilA, Sim.T_consA, Sim.T_nilP, Sim.T_consP, Sim.T_tup, Sim.T_lst, Sim.T_noO, Sim.T_someO, Sim.T_slice, Sim.T_callM, Sim.resL_cons, Sim.resL_nil', Sim.T_isi, Sim.T_nil, Sim.T_brk, Sim.T_cnt, Sim.SeqQ_nxt, Sim.SeqQ_brk, Sim.SeqQ_cnt, Sim.SeqQ_ret, Sim.T_seq, Sim.T_set, Sim.T_drop, Sim.T_ret, Sim.T_retN, Sim.T_retS, Sim.T_asg, Sim.T_nameG, Sim.T_tupG, Sim.T_nilG, Sim.T_consG, Sim.T_aug, Sim.T_app, Sim.T_putD, Sim.T_newD, Sim.T_disp, Sim.T_iter, Sim.T_range1, Sim.T_range2, Sim.LoopQ_nxt, Sim.LoopQ_cnt, Sim.LoopQ_brk, Sim.LoopQ_ret, Sim.T_for, Sim.T_comp, Sim.T_yes, Sim.wipeR, Sim.T_rev, Sim.revD_lst, Sim.T_revR1, Sim.T_rg1, Sim.T_rg2, Sim.T_lstRg, Sim.T_tupRg, Sim.sumD_ints, Sim.ixDD_tup, Sim.ixDD_lst, Sim.ixDD_scr, Sim.ixDD_dct, Sim.atI_nat, Sim.atI_lit, Sim.lenD_tup, Sim.lenD_lst, Sim.lenD_scr, Sim.lenD_dct, Sim.addD_int, Sim.iaddD_int, Sim.subD_int, Sim.mulD_int, Sim.mulD_one, Sim.fdivD_int, Sim.modD_int, Sim.powD_int, Sim.addD_tup, Sim.addD_lst, Sim.negD_int, Sim.ltD_int, Sim.leD_int, Sim.gtD_int, Sim.geD_int, Sim.eqB_int, Sim.eqB_str, Sim.eqB_bl, Sim.eqB_non, Sim.eqD_of, Sim.neD_of, Sim.isD_non, Sim.isNotD_non, Sim.isN_non, Sim.isN_bl, Sim.isN_int, Sim.isN_str, Sim.isN_tup, Sim.isN_lst, Sim.frz_non, Sim.frz_bl, Sim.frz_int, Sim.frz_str, Sim.frz_tup, Sim.frz_lst, Sim.frz_dct, Sim.frz_scr, Sim.maxD_int, Sim.minD_int, Sim.absD_int, Sim.intD_int, Sim.tupleD_tup, Sim.tupleD_lst, Sim.listD_tup, Sim.listD_lst, Sim.listD_scr, Sim.itemsD_sh, Sim.itemsD_tup, Sim.itemsD_scr, Sim.isi_non, Sim.isi_bl, Sim.isi_int, Sim.isi_str, Sim.isi_tup, Sim.isi_lst, Sim.slice_tup, Sim.slice_lst, Sim.inDD_of, Sim.notInDD_of, Sim.inD_tup, Sim.inD_lst, Sim.inD_dct, Sim.cap, Sim.nat10, Sim.nat2, Nat.zero_le, Sim.ex_some, Sim.ex_some2, Sim.ex_if, Sim.ex_map, Sim.ex_eq, Sim.ex_bl, Sim.ex_int, Sim.ex_own, Sim.ex_lst, Sim.inr_at, Sim.inl_at, Sim.tt_c, Sim.ff_c, Sim.pad_nil, Sim.pad_n, Sim.nones_0, Sim.nones_s, List.getElem?_cons_zero, List.getElem?_cons_succ, List.set_cons_zero, List.set_cons_succ, List.map_cons, List.map_nil, List.cons_append, List.nil_append, Option.map_some, List.length_cons, List.length_nil, Int.zero_add, Nat.zero_add, Nat.reduceAdd, Nat.reduceLeDiff, Nat.reduceMul, true_and, and_true, decide_eq_true_eq, decide_eq_false_iff_not, Bool.false_eq_true, Bool.true_eq_false, false_implies, true_implies, implies_true, eq_self, decide_true, decide_false, not_true_eq_false, not_false_eq_true, Bool.not_true, Bool.not_false, Int.reduceLT, Int.reduceLE, Int.reduceNeg, Int.reducePow, Int.reduceToNat]
    refine ⟨.or (.less l r) (.same (.var k) (.num (z % 3 - 1))), rfl, ⟨⟨hl1, hr1⟩, hkl, trivial⟩, ?_⟩
    have : Nat.max (Cd.less l r).dep (Cd.same (.var k) (.num (z % 3 - 1))).dep ≤ 4 := Nat.max_le.mpr ⟨dl, by omega⟩
    show Nat.max (Cd.less l r).dep (Cd.same (.var k) (.num (z % 3 - 1))).dep + 1 ≤ _
    omega
  simp only [Sim.T_ok, Sim.T_fail, Sim.T_bind, Sim.T_pureO, Sim.EndQ_nxt, Sim.EndQ_ret, Sim.lasts_nil, Sim.T_call, Sim.T_name, Sim.T_frz, Sim.T_const, Sim.T_sh, Sim.T_op2, Sim.T_op1, Sim.T_test, Sim.T_not, Sim.T_andM, Sim.T_orM, Sim.T_ifM, Sim.T_bl, Sim.T_andV, Sim.T_orV, Sim.T_notV, Sim.T_peek, Sim.T_vP, Sim.T_opP, Sim.T_nilA, Sim.T_consA, Sim.T_nilP, Sim.T_consP, Sim.T_tup, Sim.T_lst, Sim.T_noO, Sim.T_someO, Sim.T_slice, Sim.T_callM, Sim.resL_cons, Sim.resL_nil', Sim.T_isi, Sim.T_nil, Sim.T_brk, Sim.T_cnt, Sim.SeqQ_nxt, Sim.SeqQ_brk, Sim.SeqQ_cnt, Sim.SeqQ_ret, Sim.T_seq, Sim.T_set, Sim.T_drop, Sim.T_ret, Sim.T_retN, Sim.T_retS, Sim.T_asg, Sim.T_nameG, Sim.T_tupG, Sim.T_nilG, Sim.T_consG, Sim.T_aug, Sim.T_app, Sim.T_putD, Sim.T_newD, Sim.T_disp, Sim.T_iter, Sim.T_range1, Sim.T_range2, Sim.LoopQ_nxt, Sim.LoopQ_cnt, Sim.LoopQ_brk, Sim.LoopQ_ret, Sim.T_for, Sim.T_comp, Sim.T_yes, Sim.wipeR, Sim.T_rev, Sim.revD_lst, Sim.T_revR1, Sim.T_rg1, Sim.T_rg2, Sim.T_lstRg, Sim.T_tupRg, Sim.sumD_ints, Sim.ixDD_tup, Sim.ixDD_lst, Sim.ixDD_scr, Sim.ixDD_dct, Sim.atI_nat, Sim.atI_lit, Sim.lenD_tup, Sim.lenD_lst, Sim.lenD_scr, Sim.lenD_dct, Sim.addD_int, Sim.iaddD_int, Sim.subD_int, Sim.mulD_int, Sim.mulD_one, Sim.fdivD_int, Sim.modD_int, Sim.powD_int, Sim.addD_tup, Sim.addD_lst, Sim.negD_int, Sim.ltD_int, Sim.leD_int, Sim.gtD_int, Sim.geD_int, Sim.eqB_int, Sim.eqB_str, Sim.eqB_bl, Sim.eqB_non, Sim.eqD_of, Sim.neD_of, Sim.isD_non, Sim.isNotD_non, Sim.isN_non, Sim.isN_bl, Sim.isN_int, Sim.isN_str, Sim.isN_tup, Sim.isN_lst, Sim.frz_non, Sim.frz_bl, Sim.frz_int, Sim.frz_str, Sim.frz_tup, Sim.frz_lst, Sim.frz_dct, Sim.frz_scr, Sim.maxD_int, Sim.minD_int, Sim.absD_int, Sim.intD_int, Sim.tupleD_tup, Sim.tupleD_lst, Sim.listD_tup, Sim.listD_lst, Sim.listD_scr, Sim.itemsD_sh, Sim.itemsD_tup, Sim.itemsD_scr, Sim.isi_non, Sim.isi_bl, Sim.isi_int, Sim.isi_str, Sim.isi_tup, Sim.isi_lst, Sim.slice_tup, Sim.slice_lst, Sim.inDD_of, Sim.notInDD_of, Sim.inD_tup, Sim.inD_lst, Sim.inD_dct, Sim.cap, Sim.nat10, Sim.nat2, Nat.zero_le, Sim.ex_some, Sim.ex_some2, Sim.ex_if, Sim.ex_map, Sim.ex_eq, Sim.ex_bl, Sim.ex_int, Sim.ex_own, Sim.ex_lst, Sim.inr_at, Sim.inl_at, Sim.tt_c, Sim.ff_c, Sim.pad_nil, Sim.pad_n, Sim.nones_0, Sim.nones_s, List.getElem?_cons_zero, List.getElem?_cons_succ, List.set_cons_zero, List.set_cons_succ, List.map_cons, List.map_nil, List.cons_append, List.nil_append, Option.map_some, List.length_cons, List.length_nil, Int.zero_add, Nat.zero_add, Nat.reduceAdd, Nat.reduceLeDiff, Nat.reduceMul, true_and, and_true, decide_eq_true_eq, decide_eq_false_iff_not, Bool.false_eq_true, Bool.true_eq_false, false_implies, true_implies, implies_true, eq_self, decide_true, decide_false, not_true_eq_false, not_false_eq_true, Bool.not_true, Bool.not_false, Int.reduceLT, Int.reduceLE, Int.reduceNeg, Int.reducePow, Int.reduceToNat]
  refine ⟨.and (.not (.same (.var k) (.num (z % 3 - 1)))) (.or (.less l r) .ff), rfl, ⟨⟨hkl, trivial⟩, ⟨hl1, hr1⟩, trivial⟩, ?_⟩
  have h1 : Nat.max (Cd.less l r).dep Cd.ff.dep ≤ 4 := Nat.max_le.mpr ⟨dl, Nat.zero_le _⟩
  have h2 : Nat.max ((Cd.same (.var k) (.num (z % 3 - 1))).dep + 1) (Nat.max (Cd.less l r).dep Cd.ff.dep + 1) ≤ 5 := Nat.max_le.mpr ⟨by omega, by omega⟩
  show Nat.max ((Cd.same (.var k) (.num (z % 3 - 1))).dep + 1) (Nat.max (Cd.less l r).dep Cd.ff.dep + 1) + 1 ≤ _
  omega
end Law

namespace Law
open PySem PySem.Spec PyProof.Rows L2 Sim
theorem drawn_rep {n : Nat} {m : Int} {xs : List Int} (h : Drawn (List.replicate n m) xs) : xs.length = n ∧ ∀ x ∈ xs, 0 ≤ x ∧ x < m := by
  have hl : xs.length = n := by rw [h.1, List.length_replicate]
  refine ⟨hl, fun x hx => ?_⟩
  obtain ⟨j, hj, rfl⟩ := List.getElem_of_mem hx
  exact h.2 j _ m (List.getElem?_eq_getElem hj) (by rw [List.getElem?_replicate, if_pos (by omega)])
structure SetsOk (n first hi : Nat) (ss : List Set1) : Prop where
  each : ∀ s ∈ ss, first ≤ s.at_ ∧ s.at_ < hi ∧ s.low.small n ∧ s.high.small n
  apart : (ss.map Set1.at_).Nodup
theorem SetsOk.snoc {n first hi : Nat} {ss : List Set1} (h : SetsOk n first hi ss) (hf : first ≤ hi) {l u : Tm} (hl : l.small n) (hu : u.small n) : SetsOk n first (hi + 1) (ss ++ [⟨hi, l, u⟩]) := by
  refine ⟨fun s hs => ?_, ?_⟩
  · rw [List.mem_append, List.mem_singleton] at hs
    rcases hs with hs | rfl
    · obtain ⟨a, b, c⟩ := h.each s hs
      exact ⟨a, by omega, c⟩
    · exact ⟨hf, Nat.lt_succ_self _, hl, hu⟩
  · rw [List.map_append, List.nodup_append]
    refine ⟨h.apart, by simp, ?_⟩
    intro a ha b hb
    rw [List.map_cons, List.map_nil, List.mem_singleton] at hb
    subst hb
    obtain ⟨s, hs, rfl⟩ := List.mem_map.mp ha
    have := (h.each s hs).2.1
    exact fun e => by omega
theorem SetsOk.up {n first hi : Nat} {ss : List Set1} (h : SetsOk n first hi ss) : SetsOk n first (hi + 1) ss := ⟨fun s hs => by
  obtain ⟨a, b, c⟩ := h.each s hs
  exact ⟨a, by omega, c⟩, h.apart⟩
abbrev MoveFn (f : Fn) : Prop := ∀ (ns : List Int) (k at_ first count n : Nat), at_ < 10 → count ≤ 2 → 0 < n →
  FT f [.scr ns, .int k, .int at_, .int first, .int count, .int n] fun d fs => fs = [] ∧ ∃ m : Move, d = m.enc ∧ MoveOk n first count m
theorem move_ok {R : Fs} (hd : DrawOk R.f__law_draw) (ht : TermOk R.f__law_term) (hc : CondOk R.f__law_condition) : MoveFn (defF 5 [] (b__law_move R)) := by
  intro ns k at_ first count n ha hcnt hn
  refine FT_def ?_
  have h1 := hd ns k (List.replicate 24 9) (by decide) (by intro m h; rw [List.mem_replicate] at h; omega)
  rw [List.map_replicate] at h1
  simp only [Sim.T_ok, Sim.T_fail, Sim.T_bind, Sim.T_pureO, Sim.EndQ_nxt, Sim.EndQ_ret, Sim.lasts_nil, Sim.T_call, Sim.T_name, Sim.T_frz, Sim.T_const, Sim.T_sh, Sim.T_op2, Sim.T_op1, Sim.T_test, Sim.T_not, Sim.T_andM, Sim.T_orM, Sim.T_ifM, Sim.T_bl, Sim.T_andV, Sim.T_orV, Sim.T_notV, Sim.T_peek, Sim.T_vP, Sim.T_opP, Sim.T_nilA, Sim.T_consA, Sim.T_nilP, Sim.T_consP, Sim.T_tup, Sim.T_lst, Sim.T_noO, Sim.T_someO, Sim.T_slice, Sim.T_callM, Sim.resL_cons, Sim.resL_nil', Sim.T_isi, Sim.T_nil, Sim.T_brk, Sim.T_cnt, Sim.SeqQ_nxt, Sim.SeqQ_brk, Sim.SeqQ_cnt, Sim.SeqQ_ret, Sim.T_seq, Sim.T_set, Sim.T_drop, Sim.T_ret, Sim.T_retN, Sim.T_retS, Sim.T_asg, Sim.T_nameG, Sim.T_tupG, Sim.T_nilG, Sim.T_consG, Sim.T_aug, Sim.T_app, Sim.T_putD, Sim.T_newD, Sim.T_disp, Sim.T_iter, Sim.T_range1, Sim.T_range2, Sim.LoopQ_nxt, Sim.LoopQ_cnt, Sim.LoopQ_brk, Sim.LoopQ_ret, Sim.T_for, Sim.T_comp, Sim.T_yes, Sim.wipeR, Sim.T_rev, Sim.revD_lst, Sim.T_revR1, Sim.T_rg1, Sim.T_rg2, Sim.T_lstRg, Sim.T_tupRg, Sim.sumD_ints, Sim.ixDD_tup, Sim.ixDD_lst, Sim.ixDD_scr, Sim.ixDD_dct, Sim.atI_nat, Sim.atI_lit, Sim.lenD_tup, Sim.lenD_lst, Sim.lenD_scr, Sim.lenD_dct, Sim.addD_int, Sim.iaddD_int, Sim.subD_int, Sim.mulD_int, Sim.mulD_one, Sim.fdivD_int, Sim.modD_int, Sim.powD_int, Sim.addD_tup, Sim.addD_lst, Sim.negD_int, Sim.ltD_int, Sim.leD_int, Sim.gtD_int, Sim.geD_int, Sim.eqB_int, Sim.eqB_str, Sim.eqB_bl, Sim.eqB_non, Sim.eqD_of, Sim.neD_of, Sim.isD_non, Sim.isNotD_non, Sim.isN_non, Sim.isN_bl, Sim.isN_int, Sim.isN_str, Sim.isN_tup, Sim.isN_lst, Sim.frz_non, Sim.frz_bl, Sim.frz_int, Sim.frz_str, Sim.frz_tup, Sim.frz_lst, Sim.frz_dct, Sim.frz_scr, Sim.maxD_int, Sim.minD_int, Sim.absD_int, Sim.intD_int, Sim.tupleD_tup, Sim.tupleD_lst, Sim.listD_tup, Sim.listD_lst, Sim.listD_scr, Sim.itemsD_sh, Sim.itemsD_tup, Sim.itemsD_scr, Sim.isi_non, Sim.isi_bl, Sim.isi_int, Sim.isi_str, Sim.isi_tup, Sim.isi_lst, Sim.slice_tup, Sim.slice_lst, Sim.inDD_of, Sim.notInDD_of, Sim.inD_tup, Sim.inD_lst, Sim.inD_dct, Sim.cap, Sim.nat10, Sim.nat2, Nat.zero_le, Sim.ex_some, Sim.ex_some2, Sim.ex_if, Sim.ex_map, Sim.ex_eq, Sim.ex_bl, Sim.ex_int, Sim.ex_own, Sim.ex_lst, Sim.inr_at, Sim.inl_at, Sim.tt_c, Sim.ff_c, Sim.pad_nil, Sim.pad_n, Sim.nones_0, Sim.nones_s, List.getElem?_cons_zero, List.getElem?_cons_succ, List.set_cons_zero, List.set_cons_succ, List.map_cons, List.map_nil, List.cons_append, List.nil_append, Option.map_some, List.length_cons, List.length_nil, Int.zero_add, Nat.zero_add, Nat.reduceAdd, Nat.reduceLeDiff, Nat.reduceMul, true_and, and_true, decide_eq_true_eq, decide_eq_false_iff_not, Bool.false_eq_true, Bool.true_eq_false, false_implies, true_implies, implies_true, eq_self, decide_true, decide_false, not_true_eq_false, not_false_eq_true, Bool.not_true, Bool.not_false, Int.reduceLT, Int.reduceLE, Int.reduceNeg, Int.reducePow, Int.reduceToNat, b__law_move]
  refine FT_mono h1 ?_
  rintro _ _ ⟨rfl, dg, rfl, hx⟩
  obtain ⟨hl, hx⟩ := drawn_rep hx
  have h0 : ∀ x ∈ dg, 0 ≤ x := fun x h => (hx x h).1
  simp only [Sim.T_ok, Sim.T_fail, Sim.T_bind, Sim.T_pureO, Sim.EndQ_nxt, Sim.EndQ_ret, Sim.lasts_nil, Sim.T_call, Sim.T_name, Sim.T_frz, Sim.T_const, Sim.T_sh, Sim.T_op2, Sim.T_op1, Sim.T_test, Sim.T_not, Sim.T_andM, Sim.T_orM, Sim.T_ifM, Sim.T_bl, Sim.T_andV, Sim.T_orV, Sim.T_notV, Sim.T_peek, Sim.T_vP, Sim.T_opP, Sim.T_nilA, Sim.T_consA, Sim.T_nilP, Sim.T_consP, Sim.T_tup, Sim.T_lst, Sim.T_noO, Sim.T_someO, Sim.T_slice, Sim.T_callM, Sim.resL_cons, Sim.resL_nil', Sim.T_isi, Sim.T_nil, Sim.T_brk, Sim.T_cnt, Sim.SeqQ_nxt, Sim.SeqQ_brk, Sim.SeqQ_cnt, Sim.SeqQ_ret, Sim.T_seq, Sim.T_set, Sim.T_drop, Sim.T_ret, Sim.T_retN, Sim.T_retS, Sim.T_asg, Sim.T_nameG, Sim.T_tupG, Sim.T_nilG, Sim.T_consG, Sim.T_aug, Sim.T_app, Sim.T_putD, Sim.T_newD, Sim.T_disp, Sim.T_iter, Sim.T_range1, Sim.T_range2, Sim.LoopQ_nxt, Sim.LoopQ_cnt, Sim.LoopQ_brk, Sim.LoopQ_ret, Sim.T_for, Sim.T_comp, Sim.T_yes, Sim.wipeR, Sim.T_rev, Sim.revD_lst, Sim.T_revR1, Sim.T_rg1, Sim.T_rg2, Sim.T_lstRg, Sim.T_tupRg, Sim.sumD_ints, Sim.ixDD_tup, Sim.ixDD_lst, Sim.ixDD_scr, Sim.ixDD_dct, Sim.atI_nat, Sim.atI_lit, Sim.lenD_tup, Sim.lenD_lst, Sim.lenD_scr, Sim.lenD_dct, Sim.addD_int, Sim.iaddD_int, Sim.subD_int, Sim.mulD_int, Sim.mulD_one, Sim.fdivD_int, Sim.modD_int, Sim.powD_int, Sim.addD_tup, Sim.addD_lst, Sim.negD_int, Sim.ltD_int, Sim.leD_int, Sim.gtD_int, Sim.geD_int, Sim.eqB_int, Sim.eqB_str, Sim.eqB_bl, Sim.eqB_non, Sim.eqD_of, Sim.neD_of, Sim.isD_non, Sim.isNotD_non, Sim.isN_non, Sim.isN_bl, Sim.isN_int, Sim.isN_str, Sim.isN_tup, Sim.isN_lst, Sim.frz_non, Sim.frz_bl, Sim.frz_int, Sim.frz_str, Sim.frz_tup, Sim.frz_lst, Sim.frz_dct, Sim.frz_scr, Sim.maxD_int, Sim.minD_int, Sim.absD_int, Sim.intD_int, Sim.tupleD_tup, Sim.tupleD_lst, Sim.listD_tup, Sim.listD_lst, Sim.listD_scr, Sim.itemsD_sh, Sim.itemsD_tup, Sim.itemsD_scr, Sim.isi_non, Sim.isi_bl, Sim.isi_int, Sim.isi_str, Sim.isi_tup, Sim.isi_lst, Sim.slice_tup, Sim.slice_lst, Sim.inDD_of, Sim.notInDD_of, Sim.inD_tup, Sim.inD_lst, Sim.inD_dct, Sim.cap, Sim.nat10, Sim.nat2, Nat.zero_le, Sim.ex_some, Sim.ex_some2, Sim.ex_if, Sim.ex_map, Sim.ex_eq, Sim.ex_bl, Sim.ex_int, Sim.ex_own, Sim.ex_lst, Sim.inr_at, Sim.inl_at, Sim.tt_c, Sim.ff_c, Sim.pad_nil, Sim.pad_n, Sim.nones_0, Sim.nones_s, List.getElem?_cons_zero, List.getElem?_cons_succ, List.set_cons_zero, List.set_cons_succ, List.map_cons, List.map_nil, List.cons_append, List.nil_append, Option.map_some, List.length_cons, List.length_nil, Int.zero_add, Nat.zero_add, Nat.reduceAdd, Nat.reduceLeDiff, Nat.reduceMul, true_and, and_true, decide_eq_true_eq, decide_eq_false_iff_not, Bool.false_eq_true, Bool.true_eq_false, false_implies, true_implies, implies_true, eq_self, decide_true, decide_false, not_true_eq_false, not_false_eq_true, Bool.not_true, Bool.not_false, Int.reduceLT, Int.reduceLE, Int.reduceNeg, Int.reducePow, Int.reduceToNat]
  refine ⟨by omega, ?_⟩
  rw [Int.toNat_natCast]
  refine T_cut (fun ρ => ∃ (ss : List Set1) (o8 o9 o10 : Option D), ρ = [some (.scr ns), some (.int k), some (.int at_), some (.int first), some (.int count), some (.int n), some (.lst .sh (dg.map .int)), some (.lst .own (ss.map Set1.enc)), o8, o9, o10] ∧ SetsOk n first (first + count) ss ∧ ss.length ≤ count) ?_ ?_
  · refine T_goR (fun j ρ => ∃ (ss : List Set1) (o8 o9 o10 : Option D), ρ = [some (.scr ns), some (.int k), some (.int at_), some (.int first), some (.int count), some (.int n), some (.lst .sh (dg.map .int)), some (.lst .own (ss.map Set1.enc)), o8, o9, o10] ∧ SetsOk n first (first + j) ss ∧ ss.length ≤ j) ⟨[], none, none, none, rfl, ⟨by simp, by simp⟩, Nat.le_refl _⟩ ?_ ?_
    · intro j ρ hj hI
      obtain ⟨ss, o8, o9, o10, hρ, hs, hsl⟩ := hI
      subst hρ
      obtain ⟨x, ex, hx⟩ := dg_at h0 (i := 7 + (j : Int)) (by omega) (by omega)
      obtain ⟨y, ey, hy⟩ := dg_at h0 (i := 12 + 6 * (j : Int)) (by omega) (by omega)
      simp only [Sim.T_ok, Sim.T_fail, Sim.T_bind, Sim.T_pureO, Sim.EndQ_nxt, Sim.EndQ_ret, Sim.lasts_nil, Sim.T_call, Sim.T_name, Sim.T_frz, Sim.T_const, Sim.T_sh, Sim.T_op2, Sim.T_op1, Sim.T_test, Sim.T_not, Sim.T_andM, Sim.T_orM, Sim.T_ifM, Sim.T_bl, Sim.T_andV, Sim.T_orV, Sim.T_notV, Sim.T_peek, Sim.T_vP, Sim.T_opP, Sim.T_nilA, Sim.T_consA, Sim.T_nilP, Sim.T_consP, Sim.T_tup, Sim.T_lst, Sim.T_noO, Sim.T_someO, Sim.T_slice, Sim.T_callM, Sim.resL_cons, Sim.resL_nil', Sim.T_isi, Sim.T_nil, Sim.T_brk, Sim.T_cnt, Sim.SeqQ_nxt, Sim.SeqQ_brk, Sim.SeqQ_cnt, Sim.SeqQ_ret, Sim.T_seq, Sim.T_set, Sim.T_drop, Sim.T_ret, Sim.T_retN, Sim.T_retS, Sim.T_asg, Sim.T_nameG, Sim.T_tupG, Sim.T_nilG, Sim.T_consG, Sim.T_aug, Sim.T_app, Sim.T_putD, Sim.T_newD, Sim.T_disp, Sim.T_iter, Sim.T_range1, Sim.T_range2, Sim.LoopQ_nxt, Sim.LoopQ_cnt, Sim.LoopQ_brk, Sim.LoopQ_ret, Sim.T_for, Sim.T_comp, Sim.T_yes, Sim.wipeR, Sim.T_rev, Sim.revD_lst, Sim.T_revR1, Sim.T_rg1, Sim.T_rg2, Sim.T_lstRg, Sim.T_tupRg, Sim.sumD_ints, Sim.ixDD_tup, Sim.ixDD_lst, Sim.ixDD_scr, Sim.ixDD_dct, Sim.atI_nat, Sim.atI_lit, Sim.lenD_tup, Sim.lenD_lst, Sim.lenD_scr, Sim.lenD_dct, Sim.addD_int, Sim.iaddD_int, Sim.subD_int, Sim.mulD_int, Sim.mulD_one, Sim.fdivD_int, Sim.modD_int, Sim.powD_int, Sim.addD_tup, Sim.addD_lst, Sim.negD_int, Sim.ltD_int, Sim.leD_int, Sim.gtD_int, Sim.geD_int, Sim.eqB_int, Sim.eqB_str, Sim.eqB_bl, Sim.eqB_non, Sim.eqD_of, Sim.neD_of, Sim.isD_non, Sim.isNotD_non, Sim.isN_non, Sim.isN_bl, Sim.isN_int, Sim.isN_str, Sim.isN_tup, Sim.isN_lst, Sim.frz_non, Sim.frz_bl, Sim.frz_int, Sim.frz_str, Sim.frz_tup, Sim.frz_lst, Sim.frz_dct, Sim.frz_scr, Sim.maxD_int, Sim.minD_int, Sim.absD_int, Sim.intD_int, Sim.tupleD_tup, Sim.tupleD_lst, Sim.listD_tup, Sim.listD_lst, Sim.listD_scr, Sim.itemsD_sh, Sim.itemsD_tup, Sim.itemsD_scr, Sim.isi_non, Sim.isi_bl, Sim.isi_int, Sim.isi_str, Sim.isi_tup, Sim.isi_lst, Sim.slice_tup, Sim.slice_lst, Sim.inDD_of, Sim.notInDD_of, Sim.inD_tup, Sim.inD_lst, Sim.inD_dct, Sim.cap, Sim.nat10, Sim.nat2, Nat.zero_le, Sim.ex_some, Sim.ex_some2, Sim.ex_if, Sim.ex_map, Sim.ex_eq, Sim.ex_bl, Sim.ex_int, Sim.ex_own, Sim.ex_lst, Sim.inr_at, Sim.inl_at, Sim.tt_c, Sim.ff_c, Sim.pad_nil, Sim.pad_n, Sim.nones_0, Sim.nones_s, List.getElem?_cons_zero, List.getElem?_cons_succ, List.set_cons_zero, List.set_cons_succ, List.map_cons, List.map_nil, List.cons_append, List.nil_append, Option.map_some, List.length_cons, List.length_nil, Int.zero_add, Nat.zero_add, Nat.reduceAdd, Nat.reduceLeDiff, Nat.reduceMul, true_and, and_true, decide_eq_true_eq, decide_eq_false_iff_not, Bool.false_eq_true, Bool.true_eq_false, false_implies, true_implies, implies_true, eq_self, decide_true, decide_false, not_true_eq_false, not_false_eq_true, Bool.not_true, Bool.not_false, Int.reduceLT, Int.reduceLE, Int.reduceNeg, Int.reducePow, Int.reduceToNat, ex]
      refine T_iteTo (fun _ => True) ?_ (fun _ => ?_) (fun _ => ?_)
      · simp only [Sim.T_ok, Sim.T_fail, Sim.T_bind, Sim.T_pureO, Sim.EndQ_nxt, Sim.EndQ_ret, Sim.lasts_nil, Sim.T_call, Sim.T_name, Sim.T_frz, Sim.T_const, Sim.T_sh, Sim.T_op2, Sim.T_op1, Sim.T_test, Sim.T_not, Sim.T_andM, Sim.T_orM, Sim.T_ifM, Sim.T_bl, Sim.T_andV, Sim.T_orV, Sim.T_notV, Sim.T_peek, Sim.T_vP, Sim.T_opP, Sim.T_nilA, Sim.T_consA, Sim.T_nilP, Sim.T_consP, Sim.T_tup, Sim.T_lst, Sim.T_noO, Sim.T_someO, Sim.T_slice, Sim.T_callM, Sim.resL_cons, Sim.resL_nil', Sim.T_isi, Sim.T_nil, Sim.T_brk, Sim.T_cnt, Sim.SeqQ_nxt, Sim.SeqQ_brk, Sim.SeqQ_cnt, Sim.SeqQ_ret, Sim.T_seq, Sim.T_set, Sim.T_drop, Sim.T_ret, Sim.T_retN, Sim.T_retS, Sim.T_asg, Sim.T_nameG, Sim.T_tupG, Sim.T_nilG, Sim.T_consG, Sim.T_aug, Sim.T_app, Sim.T_putD, Sim.T_newD, Sim.T_disp, Sim.T_iter, Sim.T_range1, Sim.T_range2, Sim.LoopQ_nxt, Sim.LoopQ_cnt, Sim.LoopQ_brk, Sim.LoopQ_ret, Sim.T_for, Sim.T_comp, Sim.T_yes, Sim.wipeR, Sim.T_rev, Sim.revD_lst, Sim.T_revR1, Sim.T_rg1, Sim.T_rg2, Sim.T_lstRg, Sim.T_tupRg, Sim.sumD_ints, Sim.ixDD_tup, Sim.ixDD_lst, Sim.ixDD_scr, Sim.ixDD_dct, Sim.atI_nat, Sim.atI_lit, Sim.lenD_tup, Sim.lenD_lst, Sim.lenD_scr, Sim.lenD_dct, Sim.addD_int, Sim.iaddD_int, Sim.subD_int, Sim.mulD_int, Sim.mulD_one, Sim.fdivD_int, Sim.modD_int, Sim.powD_int, Sim.addD_tup, Sim.addD_lst, Sim.negD_int, Sim.ltD_int, Sim.leD_int, Sim.gtD_int, Sim.geD_int, Sim.eqB_int, Sim.eqB_str, Sim.eqB_bl, Sim.eqB_non, Sim.eqD_of, Sim.neD_of, Sim.isD_non, Sim.isNotD_non, Sim.isN_non, Sim.isN_bl, Sim.isN_int, Sim.isN_str, Sim.isN_tup, Sim.isN_lst, Sim.frz_non, Sim.frz_bl, Sim.frz_int, Sim.frz_str, Sim.frz_tup, Sim.frz_lst, Sim.frz_dct, Sim.frz_scr, Sim.maxD_int, Sim.minD_int, Sim.absD_int, Sim.intD_int, Sim.tupleD_tup, Sim.tupleD_lst, Sim.listD_tup, Sim.listD_lst, Sim.listD_scr, Sim.itemsD_sh, Sim.itemsD_tup, Sim.itemsD_scr, Sim.isi_non, Sim.isi_bl, Sim.isi_int, Sim.isi_str, Sim.isi_tup, Sim.isi_lst, Sim.slice_tup, Sim.slice_lst, Sim.inDD_of, Sim.notInDD_of, Sim.inD_tup, Sim.inD_lst, Sim.inD_dct, Sim.cap, Sim.nat10, Sim.nat2, Nat.zero_le, Sim.ex_some, Sim.ex_some2, Sim.ex_if, Sim.ex_map, Sim.ex_eq, Sim.ex_bl, Sim.ex_int, Sim.ex_own, Sim.ex_lst, Sim.inr_at, Sim.inl_at, Sim.tt_c, Sim.ff_c, Sim.pad_nil, Sim.pad_n, Sim.nones_0, Sim.nones_s, List.getElem?_cons_zero, List.getElem?_cons_succ, List.set_cons_zero, List.set_cons_succ, List.map_cons, List.map_nil, List.cons_append, List.nil_append, Option.map_some, List.length_cons, List.length_nil, Int.zero_add, Nat.zero_add, Nat.reduceAdd, Nat.reduceLeDiff, Nat.reduceMul, true_and, and_true, decide_eq_true_eq, decide_eq_false_iff_not, Bool.false_eq_true, Bool.true_eq_false, false_implies, true_implies, implies_true, eq_self, decide_true, decide_false, not_true_eq_false, not_false_eq_true, Bool.not_true, Bool.not_false, Int.reduceLT, Int.reduceLE, Int.reduceNeg, Int.reducePow, Int.reduceToNat, ex]; exact ⟨_, rfl⟩
      · simp only [Sim.T_ok, Sim.T_fail, Sim.T_bind, Sim.T_pureO, Sim.EndQ_nxt, Sim.EndQ_ret, Sim.lasts_nil, Sim.T_call, Sim.T_name, Sim.T_frz, Sim.T_const, Sim.T_sh, Sim.T_op2, Sim.T_op1, Sim.T_test, Sim.T_not, Sim.T_andM, Sim.T_orM, Sim.T_ifM, Sim.T_bl, Sim.T_andV, Sim.T_orV, Sim.T_notV, Sim.T_peek, Sim.T_vP, Sim.T_opP, Sim.T_nilA, Sim.T_consA, Sim.T_nilP, Sim.T_consP, Sim.T_tup, Sim.T_lst, Sim.T_noO, Sim.T_someO, Sim.T_slice, Sim.T_callM, Sim.resL_cons, Sim.resL_nil', Sim.T_isi, Sim.T_nil, Sim.T_brk, Sim.T_cnt, Sim.SeqQ_nxt, Sim.SeqQ_brk, Sim.SeqQ_cnt, Sim.SeqQ_ret, Sim.T_seq, Sim.T_set, Sim.T_drop, Sim.T_ret, Sim.T_retN, Sim.T_retS, Sim.T_asg, Sim.T_nameG, Sim.T_tupG, Sim.T_nilG, Sim.T_consG, Sim.T_aug, Sim.T_app, Sim.T_putD, Sim.T_newD, Sim.T_disp, Sim.T_iter, Sim.T_range1, Sim.T_range2, Sim.LoopQ_nxt, Sim.LoopQ_cnt, Sim.LoopQ_brk, Sim.LoopQ_ret, Sim.T_for, Sim.T_comp, Sim.T_yes, Sim.wipeR, Sim.T_rev, Sim.revD_lst, Sim.T_revR1, Sim.T_rg1, Sim.T_rg2, Sim.T_lstRg, Sim.T_tupRg, Sim.sumD_ints, Sim.ixDD_tup, Sim.ixDD_lst, Sim.ixDD_scr, Sim.ixDD_dct, Sim.atI_nat, Sim.atI_lit, Sim.lenD_tup, Sim.lenD_lst, Sim.lenD_scr, Sim.lenD_dct, Sim.addD_int, Sim.iaddD_int, Sim.subD_int, Sim.mulD_int, Sim.mulD_one, Sim.fdivD_int, Sim.modD_int, Sim.powD_int, Sim.addD_tup, Sim.addD_lst, Sim.negD_int, Sim.ltD_int, Sim.leD_int, Sim.gtD_int, Sim.geD_int, Sim.eqB_int, Sim.eqB_str, Sim.eqB_bl, Sim.eqB_non, Sim.eqD_of, Sim.neD_of, Sim.isD_non, Sim.isNotD_non, Sim.isN_non, Sim.isN_bl, Sim.isN_int, Sim.isN_str, Sim.isN_tup, Sim.isN_lst, Sim.frz_non, Sim.frz_bl, Sim.frz_int, Sim.frz_str, Sim.frz_tup, Sim.frz_lst, Sim.frz_dct, Sim.frz_scr, Sim.maxD_int, Sim.minD_int, Sim.absD_int, Sim.intD_int, Sim.tupleD_tup, Sim.tupleD_lst, Sim.listD_tup, Sim.listD_lst, Sim.listD_scr, Sim.itemsD_sh, Sim.itemsD_tup, Sim.itemsD_scr, Sim.isi_non, Sim.isi_bl, Sim.isi_int, Sim.isi_str, Sim.isi_tup, Sim.isi_lst, Sim.slice_tup, Sim.slice_lst, Sim.inDD_of, Sim.notInDD_of, Sim.inD_tup, Sim.inD_lst, Sim.inD_dct, Sim.cap, Sim.nat10, Sim.nat2, Nat.zero_le, Sim.ex_some, Sim.ex_some2, Sim.ex_if, Sim.ex_map, Sim.ex_eq, Sim.ex_bl, Sim.ex_int, Sim.ex_own, Sim.ex_lst, Sim.inr_at, Sim.inl_at, Sim.tt_c, Sim.ff_c, Sim.pad_nil, Sim.pad_n, Sim.nones_0, Sim.nones_s, List.getElem?_cons_zero, List.getElem?_cons_succ, List.set_cons_zero, List.set_cons_succ, List.map_cons, List.map_nil, List.cons_append, List.nil_append, Option.map_some, List.length_cons, List.length_nil, Int.zero_add, Nat.zero_add, Nat.reduceAdd, Nat.reduceLeDiff, Nat.reduceMul, true_and, and_true, decide_eq_true_eq, decide_eq_false_iff_not, Bool.false_eq_true, Bool.true_eq_false, false_implies, true_implies, implies_true, eq_self, decide_true, decide_false, not_true_eq_false, not_false_eq_true, Bool.not_true, Bool.not_false, Int.reduceLT, Int.reduceLE, Int.reduceNeg, Int.reducePow, Int.reduceToNat]
        refine ⟨.inl trivial, ?_⟩
        refine FT_mono (ht dg n _ h0 hn (by omega) (by omega)) ?_
        rintro _ _ ⟨rfl, t, rfl, ht1, ht2⟩
        simp only [Sim.T_ok, Sim.T_fail, Sim.T_bind, Sim.T_pureO, Sim.EndQ_nxt, Sim.EndQ_ret, Sim.lasts_nil, Sim.T_call, Sim.T_name, Sim.T_frz, Sim.T_const, Sim.T_sh, Sim.T_op2, Sim.T_op1, Sim.T_test, Sim.T_not, Sim.T_andM, Sim.T_orM, Sim.T_ifM, Sim.T_bl, Sim.T_andV, Sim.T_orV, Sim.T_notV, Sim.T_peek, Sim.T_vP, Sim.T_opP, Sim.T_nilA, Sim.T_consA, Sim.T_nilP, Sim.T_consP, Sim.T_tup, Sim.T_lst, Sim.T_noO, Sim.T_someO, Sim.T_slice, Sim.T_callM, Sim.resL_cons, Sim.resL_nil', Sim.T_isi, Sim.T_nil, Sim.T_brk, Sim.T_cnt, Sim.SeqQ_nxt, Sim.SeqQ_brk, Sim.SeqQ_cnt, Sim.SeqQ_ret, Sim.T_seq, Sim.T_set, Sim.T_drop, Sim.T_ret, Sim.T_retN, Sim.T_retS, Sim.T_asg, Sim.T_nameG, Sim.T_tupG, Sim.T_nilG, Sim.T_consG, Sim.T_aug, Sim.T_app, Sim.T_putD, Sim.T_newD, Sim.T_disp, Sim.T_iter, Sim.T_range1, Sim.T_range2, Sim.LoopQ_nxt, Sim.LoopQ_cnt, Sim.LoopQ_brk, Sim.LoopQ_ret, Sim.T_for, Sim.T_comp, Sim.T_yes, Sim.wipeR, Sim.T_rev, Sim.revD_lst, Sim.T_revR1, Sim.T_rg1, Sim.T_rg2, Sim.T_lstRg, Sim.T_tupRg, Sim.sumD_ints, Sim.ixDD_tup, Sim.ixDD_lst, Sim.ixDD_scr, Sim.ixDD_dct, Sim.atI_nat, Sim.atI_lit, Sim.lenD_tup, Sim.lenD_lst, Sim.lenD_scr, Sim.lenD_dct, Sim.addD_int, Sim.iaddD_int, Sim.subD_int, Sim.mulD_int, Sim.mulD_one, Sim.fdivD_int, Sim.modD_int, Sim.powD_int, Sim.addD_tup, Sim.addD_lst, Sim.negD_int, Sim.ltD_int, Sim.leD_int, Sim.gtD_int, Sim.geD_int, Sim.eqB_int, Sim.eqB_str, Sim.eqB_bl, Sim.eqB_non, Sim.eqD_of, Sim.neD_of, Sim.isD_non, Sim.isNotD_non, Sim.isN_non, Sim.isN_bl, Sim.isN_int, Sim.isN_str, Sim.isN_tup, Sim.isN_lst, Sim.frz_non, Sim.frz_bl, Sim.frz_int, Sim.frz_str, Sim.frz_tup, Sim.frz_lst, Sim.frz_dct, Sim.frz_scr, Sim.maxD_int, Sim.minD_int, Sim.absD_int, Sim.intD_int, Sim.tupleD_tup, Sim.tupleD_lst, Sim.listD_tup, Sim.listD_lst, Sim.listD_scr, Sim.itemsD_sh, Sim.itemsD_tup, Sim.itemsD_scr, Sim.isi_non, Sim.isi_bl, Sim.isi_int, Sim.isi_str, Sim.isi_tup, Sim.isi_lst, Sim.slice_tup, Sim.slice_lst, Sim.inDD_of, Sim.notInDD_of, Sim.inD_tup, Sim.inD_lst, Sim.inD_dct, Sim.cap, Sim.nat10, Sim.nat2, Nat.zero_le, Sim.ex_some, Sim.ex_some2, Sim.ex_if, Sim.ex_map, Sim.ex_eq, Sim.ex_bl, Sim.ex_int, Sim.ex_own, Sim.ex_lst, Sim.inr_at, Sim.inl_at, Sim.tt_c, Sim.ff_c, Sim.pad_nil, Sim.pad_n, Sim.nones_0, Sim.nones_s, List.getElem?_cons_zero, List.getElem?_cons_succ, List.set_cons_zero, List.set_cons_succ, List.map_cons, List.map_nil, List.cons_append, List.nil_append, Option.map_some, List.length_cons, List.length_nil, Int.zero_add, Nat.zero_add, Nat.reduceAdd, Nat.reduceLeDiff, Nat.reduceMul, true_and, and_true, decide_eq_true_eq, decide_eq_false_iff_not, Bool.false_eq_true, Bool.true_eq_false, false_implies, true_implies, implies_true, eq_self, decide_true, decide_false, not_true_eq_false, not_false_eq_true, Bool.not_true, Bool.not_false, Int.reduceLT, Int.reduceLE, Int.reduceNeg, Int.reducePow, Int.reduceToNat, Tm.frz]
        refine T_cut (fun ρ => ∃ u : Tm, ρ = [some (.scr ns), some (.int k), some (.int at_), some (.int first), some (.int count), some (.int n), some (.lst .sh (dg.map .int)), some (.lst .own (ss.map Set1.enc)), some (.int j), some t.enc, some u.enc] ∧ u.small n) ?_ ?_
        · simp only [Sim.T_ok, Sim.T_fail, Sim.T_bind, Sim.T_pureO, Sim.EndQ_nxt, Sim.EndQ_ret, Sim.lasts_nil, Sim.T_call, Sim.T_name, Sim.T_frz, Sim.T_const, Sim.T_sh, Sim.T_op2, Sim.T_op1, Sim.T_test, Sim.T_not, Sim.T_andM, Sim.T_orM, Sim.T_ifM, Sim.T_bl, Sim.T_andV, Sim.T_orV, Sim.T_notV, Sim.T_peek, Sim.T_vP, Sim.T_opP, Sim.T_nilA, Sim.T_consA, Sim.T_nilP, Sim.T_consP, Sim.T_tup, Sim.T_lst, Sim.T_noO, Sim.T_someO, Sim.T_slice, Sim.T_callM, Sim.resL_cons, Sim.resL_nil', Sim.T_isi, Sim.T_nil, Sim.T_brk, Sim.T_cnt, Sim.SeqQ_nxt, Sim.SeqQ_brk, Sim.SeqQ_cnt, Sim.SeqQ_ret, Sim.T_seq, Sim.T_set, Sim.T_drop, Sim.T_ret, Sim.T_retN, Sim.T_retS, Sim.T_ite, Sim.T_asg, Sim.T_nameG, Sim.T_tupG, Sim.T_nilG, Sim.T_consG, Sim.T_aug, Sim.T_app, Sim.T_putD, Sim.T_newD, Sim.T_disp, Sim.T_iter, Sim.T_range1, Sim.T_range2, Sim.LoopQ_nxt, Sim.LoopQ_cnt, Sim.LoopQ_brk, Sim.LoopQ_ret, Sim.T_for, Sim.T_comp, Sim.T_yes, Sim.wipeR, Sim.T_rev, Sim.revD_lst, Sim.T_revR1, Sim.T_rg1, Sim.T_rg2, Sim.T_lstRg, Sim.T_tupRg, Sim.sumD_ints, Sim.ixDD_tup, Sim.ixDD_lst, Sim.ixDD_scr, Sim.ixDD_dct, Sim.atI_nat, Sim.atI_lit, Sim.lenD_tup, Sim.lenD_lst, Sim.lenD_scr, Sim.lenD_dct, Sim.addD_int, Sim.iaddD_int, Sim.subD_int, Sim.mulD_int, Sim.mulD_one, Sim.fdivD_int, Sim.modD_int, Sim.powD_int, Sim.addD_tup, Sim.addD_lst, Sim.negD_int, Sim.ltD_int, Sim.leD_int, Sim.gtD_int, Sim.geD_int, Sim.eqB_int, Sim.eqB_str, Sim.eqB_bl, Sim.eqB_non, Sim.eqD_of, Sim.neD_of, Sim.isD_non, Sim.isNotD_non, Sim.isN_non, Sim.isN_bl, Sim.isN_int, Sim.isN_str, Sim.isN_tup, Sim.isN_lst, Sim.frz_non, Sim.frz_bl, Sim.frz_int, Sim.frz_str, Sim.frz_tup, Sim.frz_lst, Sim.frz_dct, Sim.frz_scr, Sim.maxD_int, Sim.minD_int, Sim.absD_int, Sim.intD_int, Sim.tupleD_tup, Sim.tupleD_lst, Sim.listD_tup, Sim.listD_lst, Sim.listD_scr, Sim.itemsD_sh, Sim.itemsD_tup, Sim.itemsD_scr, Sim.isi_non, Sim.isi_bl, Sim.isi_int, Sim.isi_str, Sim.isi_tup, Sim.isi_lst, Sim.slice_tup, Sim.slice_lst, Sim.inDD_of, Sim.notInDD_of, Sim.inD_tup, Sim.inD_lst, Sim.inD_dct, Sim.cap, Sim.nat10, Sim.nat2, Nat.zero_le, Sim.ex_some, Sim.ex_some2, Sim.ex_if, Sim.ex_map, Sim.ex_eq, Sim.ex_bl, Sim.ex_int, Sim.ex_own, Sim.ex_lst, Sim.inr_at, Sim.inl_at, Sim.tt_c, Sim.ff_c, Sim.pad_nil, Sim.pad_n, Sim.nones_0, Sim.nones_s, List.getElem?_cons_zero, List.getElem?_cons_succ, List.set_cons_zero, List.set_cons_succ, List.map_cons, List.map_nil, List.cons_append, List.nil_append, Option.map_some, List.length_cons, List.length_nil, Int.zero_add, Nat.zero_add, Nat.reduceAdd, Nat.reduceLeDiff, Nat.reduceMul, true_and, and_true, decide_eq_true_eq, decide_eq_false_iff_not, Bool.false_eq_true, Bool.true_eq_false, false_implies, true_implies, implies_true, eq_self, decide_true, decide_false, not_true_eq_false, not_false_eq_true, Bool.not_true, Bool.not_false, Int.reduceLT, Int.reduceLE, Int.reduceNeg, Int.reducePow, Int.reduceToNat, ex]
          refine ⟨fun _ => ?_, fun _ => ⟨t, rfl, ht1, by omega⟩⟩
          refine ⟨.inl trivial, ?_⟩
          simp only [Sim.T_ok, Sim.T_fail, Sim.T_bind, Sim.T_pureO, Sim.EndQ_nxt, Sim.EndQ_ret, Sim.lasts_nil, Sim.T_call, Sim.T_name, Sim.T_frz, Sim.T_const, Sim.T_sh, Sim.T_op2, Sim.T_op1, Sim.T_test, Sim.T_not, Sim.T_andM, Sim.T_orM, Sim.T_ifM, Sim.T_bl, Sim.T_andV, Sim.T_orV, Sim.T_notV, Sim.T_peek, Sim.T_vP, Sim.T_opP, Sim.T_nilA, Sim.T_consA, Sim.T_nilP, Sim.T_consP, Sim.T_tup, Sim.T_lst, Sim.T_noO, Sim.T_someO, Sim.T_slice, Sim.T_callM, Sim.resL_cons, Sim.resL_nil', Sim.T_isi, Sim.T_nil, Sim.T_brk, Sim.T_cnt, Sim.SeqQ_nxt, Sim.SeqQ_brk, Sim.SeqQ_cnt, Sim.SeqQ_ret, Sim.T_seq, Sim.T_set, Sim.T_drop, Sim.T_ret, Sim.T_retN, Sim.T_retS, Sim.T_ite, Sim.T_asg, Sim.T_nameG, Sim.T_tupG, Sim.T_nilG, Sim.T_consG, Sim.T_aug, Sim.T_app, Sim.T_putD, Sim.T_newD, Sim.T_disp, Sim.T_iter, Sim.T_range1, Sim.T_range2, Sim.LoopQ_nxt, Sim.LoopQ_cnt, Sim.LoopQ_brk, Sim.LoopQ_ret, Sim.T_for, Sim.T_comp, Sim.T_yes, Sim.wipeR, Sim.T_rev, Sim.revD_lst, Sim.T_revR1, Sim.T_rg1, Sim.T_rg2, Sim.T_lstRg, Sim.T_tupRg, Sim.sumD_ints, Sim.ixDD_tup, Sim.ixDD_lst, Sim.ixDD_scr, Sim.ixDD_dct, Sim.atI_nat, Sim.atI_lit, Sim.lenD_tup, Sim.lenD_lst, Sim.lenD_scr, Sim.lenD_dct, Sim.addD_int, Sim.iaddD_int, Sim.subD_int, Sim.mulD_int, Sim.mulD_one, Sim.fdivD_int, Sim.modD_int, Sim.powD_int, Sim.addD_tup, Sim.addD_lst, Sim.negD_int, Sim.ltD_int, Sim.leD_int, Sim.gtD_int, Sim.geD_int, Sim.eqB_int, Sim.eqB_str, Sim.eqB_bl, Sim.eqB_non, Sim.eqD_of, Sim.neD_of, Sim.isD_non, Sim.isNotD_non, Sim.isN_non, Sim.isN_bl, Sim.isN_int, Sim.isN_str, Sim.isN_tup, Sim.isN_lst, Sim.frz_non, Sim.frz_bl, Sim.frz_int, Sim.frz_str, Sim.frz_tup, Sim.frz_lst, Sim.frz_dct, Sim.frz_scr, Sim.maxD_int, Sim.minD_int, Sim.absD_int, Sim.intD_int, Sim.tupleD_tup, Sim.tupleD_lst, Sim.listD_tup, Sim.listD_lst, Sim.listD_scr, Sim.itemsD_sh, Sim.itemsD_tup, Sim.itemsD_scr, Sim.isi_non, Sim.isi_bl, Sim.isi_int, Sim.isi_str, Sim.isi_tup, Sim.isi_lst, Sim.slice_tup, Sim.slice_lst, Sim.inDD_of, Sim.notInDD_of, Sim.inD_tup, Sim.inD_lst, Sim.inD_dct, Sim.cap, Sim.nat10, Sim.nat2, Nat.zero_le, Sim.ex_some, Sim.ex_some2, Sim.ex_if, Sim.ex_map, Sim.ex_eq, Sim.ex_bl, Sim.ex_int, Sim.ex_own, Sim.ex_lst, Sim.inr_at, Sim.inl_at, Sim.tt_c, Sim.ff_c, Sim.pad_nil, Sim.pad_n, Sim.nones_0, Sim.nones_s, List.getElem?_cons_zero, List.getElem?_cons_succ, List.set_cons_zero, List.set_cons_succ, List.map_cons, List.map_nil, List.cons_append, List.nil_append, Option.map_some, List.length_cons, List.length_nil, Int.zero_add, Nat.zero_add, Nat.reduceAdd, Nat.reduceLeDiff, Nat.reduceMul, true_and, and_true, decide_eq_true_eq, decide_eq_false_iff_not, Bool.false_eq_true, Bool.true_eq_false, false_implies, true_implies, implies_true, eq_self, decide_true, decide_false, not_true_eq_false, not_false_eq_true, Bool.not_true, Bool.not_false, Int.reduceLT, Int.reduceLE, Int.reduceNeg, Int.reducePow, Int.reduceToNat, ey]
          refine ⟨.bin .add t (.num (y % 3)), rfl, ⟨ht1, trivial, fun h => by cases h⟩, ?_⟩
          have : Nat.max t.dep 0 ≤ 2 := Nat.max_le.mpr ⟨ht2, Nat.zero_le _⟩
          show Nat.max t.dep 0 + 1 ≤ 3
          omega
        · rintro ρ ⟨u, rfl, hu⟩
          simp only [Sim.T_ok, Sim.T_fail, Sim.T_bind, Sim.T_pureO, Sim.EndQ_nxt, Sim.EndQ_ret, Sim.lasts_nil, Sim.T_call, Sim.T_name, Sim.T_frz, Sim.T_const, Sim.T_sh, Sim.T_op2, Sim.T_op1, Sim.T_test, Sim.T_not, Sim.T_andM, Sim.T_orM, Sim.T_ifM, Sim.T_bl, Sim.T_andV, Sim.T_orV, Sim.T_notV, Sim.T_peek, Sim.T_vP, Sim.T_opP, Sim.T_nilA, Sim.T_consA, Sim.T_nilP, Sim.T_consP, Sim.T_tup, Sim.T_lst, Sim.T_noO, Sim.T_someO, Sim.T_slice, Sim.T_callM, Sim.resL_cons, Sim.resL_nil', Sim.T_isi, Sim.T_nil, Sim.T_brk, Sim.T_cnt, Sim.SeqQ_nxt, Sim.SeqQ_brk, Sim.SeqQ_cnt, Sim.SeqQ_ret, Sim.T_seq, Sim.T_set, Sim.T_drop, Sim.T_ret, Sim.T_retN, Sim.T_retS, Sim.T_asg, Sim.T_nameG, Sim.T_tupG, Sim.T_nilG, Sim.T_consG, Sim.T_aug, Sim.T_app, Sim.T_putD, Sim.T_newD, Sim.T_disp, Sim.T_iter, Sim.T_range1, Sim.T_range2, Sim.LoopQ_nxt, Sim.LoopQ_cnt, Sim.LoopQ_brk, Sim.LoopQ_ret, Sim.T_for, Sim.T_comp, Sim.T_yes, Sim.wipeR, Sim.T_rev, Sim.revD_lst, Sim.T_revR1, Sim.T_rg1, Sim.T_rg2, Sim.T_lstRg, Sim.T_tupRg, Sim.sumD_ints, Sim.ixDD_tup, Sim.ixDD_lst, Sim.ixDD_scr, Sim.ixDD_dct, Sim.atI_nat, Sim.atI_lit, Sim.lenD_tup, Sim.lenD_lst, Sim.lenD_scr, Sim.lenD_dct, Sim.addD_int, Sim.iaddD_int, Sim.subD_int, Sim.mulD_int, Sim.mulD_one, Sim.fdivD_int, Sim.modD_int, Sim.powD_int, Sim.addD_tup, Sim.addD_lst, Sim.negD_int, Sim.ltD_int, Sim.leD_int, Sim.gtD_int, Sim.geD_int, Sim.eqB_int, Sim.eqB_str, Sim.eqB_bl, Sim.eqB_non, Sim.eqD_of, Sim.neD_of, Sim.isD_non, Sim.isNotD_non, Sim.isN_non, Sim.isN_bl, Sim.isN_int, Sim.isN_str, Sim.isN_tup, Sim.isN_lst, Sim.frz_non, Sim.frz_bl, Sim.frz_int, Sim.frz_str, Sim.frz_tup, Sim.frz_lst, Sim.frz_dct, Sim.frz_scr, Sim.maxD_int, Sim.minD_int, Sim.absD_int, Sim.intD_int, Sim.tupleD_tup, Sim.tupleD_lst, Sim.listD_tup, Sim.listD_lst, Sim.listD_scr, Sim.itemsD_sh, Sim.itemsD_tup, Sim.itemsD_scr, Sim.isi_non, Sim.isi_bl, Sim.isi_int, Sim.isi_str, Sim.isi_tup, Sim.isi_lst, Sim.slice_tup, Sim.slice_lst, Sim.inDD_of, Sim.notInDD_of, Sim.inD_tup, Sim.inD_lst, Sim.inD_dct, Sim.cap, Sim.nat10, Sim.nat2, Nat.zero_le, Sim.ex_some, Sim.ex_some2, Sim.ex_if, Sim.ex_map, Sim.ex_eq, Sim.ex_bl, Sim.ex_int, Sim.ex_own, Sim.ex_lst, Sim.inr_at, Sim.inl_at, Sim.tt_c, Sim.ff_c, Sim.pad_nil, Sim.pad_n, Sim.nones_0, Sim.nones_s, List.getElem?_cons_zero, List.getElem?_cons_succ, List.set_cons_zero, List.set_cons_succ, List.map_cons, List.map_nil, List.cons_append, List.nil_append, Option.map_some, List.length_cons, List.length_nil, Int.zero_add, Nat.zero_add, Nat.reduceAdd, Nat.reduceLeDiff, Nat.reduceMul, true_and, and_true, decide_eq_true_eq, decide_eq_false_iff_not, Bool.false_eq_true, Bool.true_eq_false, false_implies, true_implies, implies_true, eq_self, decide_true, decide_false, not_true_eq_false, not_false_eq_true, Bool.not_true, Bool.not_false, Int.reduceLT, Int.reduceLE, Int.reduceNeg, Int.reducePow, Int.reduceToNat]
          refine ⟨by simp; omega, ss ++ [⟨first + j, t, u⟩], _, _, _, by rw [List.map_append]; rfl, hs.snoc (by omega) ⟨ht1, by omega⟩ hu, by simp; omega⟩
      · simp only [Sim.T_ok, Sim.T_fail, Sim.T_bind, Sim.T_pureO, Sim.EndQ_nxt, Sim.EndQ_ret, Sim.lasts_nil, Sim.T_call, Sim.T_name, Sim.T_frz, Sim.T_const, Sim.T_sh, Sim.T_op2, Sim.T_op1, Sim.T_test, Sim.T_not, Sim.T_andM, Sim.T_orM, Sim.T_ifM, Sim.T_bl, Sim.T_andV, Sim.T_orV, Sim.T_notV, Sim.T_peek, Sim.T_vP, Sim.T_opP, Sim.T_nilA, Sim.T_consA, Sim.T_nilP, Sim.T_consP, Sim.T_tup, Sim.T_lst, Sim.T_noO, Sim.T_someO, Sim.T_slice, Sim.T_callM, Sim.resL_cons, Sim.resL_nil', Sim.T_isi, Sim.T_nil, Sim.T_brk, Sim.T_cnt, Sim.SeqQ_nxt, Sim.SeqQ_brk, Sim.SeqQ_cnt, Sim.SeqQ_ret, Sim.T_seq, Sim.T_set, Sim.T_drop, Sim.T_ret, Sim.T_retN, Sim.T_retS, Sim.T_asg, Sim.T_nameG, Sim.T_tupG, Sim.T_nilG, Sim.T_consG, Sim.T_aug, Sim.T_app, Sim.T_putD, Sim.T_newD, Sim.T_disp, Sim.T_iter, Sim.T_range1, Sim.T_range2, Sim.LoopQ_nxt, Sim.LoopQ_cnt, Sim.LoopQ_brk, Sim.LoopQ_ret, Sim.T_for, Sim.T_comp, Sim.T_yes, Sim.wipeR, Sim.T_rev, Sim.revD_lst, Sim.T_revR1, Sim.T_rg1, Sim.T_rg2, Sim.T_lstRg, Sim.T_tupRg, Sim.sumD_ints, Sim.ixDD_tup, Sim.ixDD_lst, Sim.ixDD_scr, Sim.ixDD_dct, Sim.atI_nat, Sim.atI_lit, Sim.lenD_tup, Sim.lenD_lst, Sim.lenD_scr, Sim.lenD_dct, Sim.addD_int, Sim.iaddD_int, Sim.subD_int, Sim.mulD_int, Sim.mulD_one, Sim.fdivD_int, Sim.modD_int, Sim.powD_int, Sim.addD_tup, Sim.addD_lst, Sim.negD_int, Sim.ltD_int, Sim.leD_int, Sim.gtD_int, Sim.geD_int, Sim.eqB_int, Sim.eqB_str, Sim.eqB_bl, Sim.eqB_non, Sim.eqD_of, Sim.neD_of, Sim.isD_non, Sim.isNotD_non, Sim.isN_non, Sim.isN_bl, Sim.isN_int, Sim.isN_str, Sim.isN_tup, Sim.isN_lst, Sim.frz_non, Sim.frz_bl, Sim.frz_int, Sim.frz_str, Sim.frz_tup, Sim.frz_lst, Sim.frz_dct, Sim.frz_scr, Sim.maxD_int, Sim.minD_int, Sim.absD_int, Sim.intD_int, Sim.tupleD_tup, Sim.tupleD_lst, Sim.listD_tup, Sim.listD_lst, Sim.listD_scr, Sim.itemsD_sh, Sim.itemsD_tup, Sim.itemsD_scr, Sim.isi_non, Sim.isi_bl, Sim.isi_int, Sim.isi_str, Sim.isi_tup, Sim.isi_lst, Sim.slice_tup, Sim.slice_lst, Sim.inDD_of, Sim.notInDD_of, Sim.inD_tup, Sim.inD_lst, Sim.inD_dct, Sim.cap, Sim.nat10, Sim.nat2, Nat.zero_le, Sim.ex_some, Sim.ex_some2, Sim.ex_if, Sim.ex_map, Sim.ex_eq, Sim.ex_bl, Sim.ex_int, Sim.ex_own, Sim.ex_lst, Sim.inr_at, Sim.inl_at, Sim.tt_c, Sim.ff_c, Sim.pad_nil, Sim.pad_n, Sim.nones_0, Sim.nones_s, List.getElem?_cons_zero, List.getElem?_cons_succ, List.set_cons_zero, List.set_cons_succ, List.map_cons, List.map_nil, List.cons_append, List.nil_append, Option.map_some, List.length_cons, List.length_nil, Int.zero_add, Nat.zero_add, Nat.reduceAdd, Nat.reduceLeDiff, Nat.reduceMul, true_and, and_true, decide_eq_true_eq, decide_eq_false_iff_not, Bool.false_eq_true, Bool.true_eq_false, false_implies, true_implies, implies_true, eq_self, decide_true, decide_false, not_true_eq_false, not_false_eq_true, Bool.not_true, Bool.not_false, Int.reduceLT, Int.reduceLE, Int.reduceNeg, Int.reducePow, Int.reduceToNat]
        exact ⟨ss, _, _, _, rfl, hs.up, by omega⟩
    · intro ρ hI
      obtain ⟨ss, o8, o9, o10, hρ, hs, hsl⟩ := hI
      exact ⟨rfl, ss, o8, o9, o10, hρ, hs, hsl⟩
  · rintro ρ ⟨ss, o8, o9, o10, rfl, hs, hsl⟩
    obtain ⟨z, ez, hz⟩ := dg_at h0 (i := 22) (by omega) (by omega)
    have ez' : (dg.map D.int)[22]? = some (.int z) := by rw [← ez]; exact (atI_lit _ 22).symm
    simp only [Sim.T_ok, Sim.T_fail, Sim.T_bind, Sim.T_pureO, Sim.EndQ_nxt, Sim.EndQ_ret, Sim.lasts_nil, Sim.T_call, Sim.T_name, Sim.T_frz, Sim.T_const, Sim.T_sh, Sim.T_op2, Sim.T_op1, Sim.T_test, Sim.T_not, Sim.T_andM, Sim.T_orM, Sim.T_ifM, Sim.T_bl, Sim.T_andV, Sim.T_orV, Sim.T_notV, Sim.T_peek, Sim.T_vP, Sim.T_opP, Sim.T_nilA, Sim.T_consA, Sim.T_nilP, Sim.T_consP, Sim.T_tup, Sim.T_lst, Sim.T_noO, Sim.T_someO, Sim.T_slice, Sim.T_callM, Sim.resL_cons, Sim.resL_nil', Sim.T_isi, Sim.T_nil, Sim.T_brk, Sim.T_cnt, Sim.SeqQ_nxt, Sim.SeqQ_brk, Sim.SeqQ_cnt, Sim.SeqQ_ret, Sim.T_seq, Sim.T_set, Sim.T_drop, Sim.T_ret, Sim.T_retN, Sim.T_retS, Sim.T_asg, Sim.T_nameG, Sim.T_tupG, Sim.T_nilG, Sim.T_consG, Sim.T_aug, Sim.T_app, Sim.T_putD, Sim.T_newD, Sim.T_disp, Sim.T_iter, Sim.T_range1, Sim.T_range2, Sim.LoopQ_nxt, Sim.LoopQ_cnt, Sim.LoopQ_brk, Sim.LoopQ_ret, Sim.T_for, Sim.T_comp, Sim.T_yes, Sim.wipeR, Sim.T_rev, Sim.revD_lst, Sim.T_revR1, Sim.T_rg1, Sim.T_rg2, Sim.T_lstRg, Sim.T_tupRg, Sim.sumD_ints, Sim.ixDD_tup, Sim.ixDD_lst, Sim.ixDD_scr, Sim.ixDD_dct, Sim.atI_nat, Sim.atI_lit, Sim.lenD_tup, Sim.lenD_lst, Sim.lenD_scr, Sim.lenD_dct, Sim.addD_int, Sim.iaddD_int, Sim.subD_int, Sim.mulD_int, Sim.mulD_one, Sim.fdivD_int, Sim.modD_int, Sim.powD_int, Sim.addD_tup, Sim.addD_lst, Sim.negD_int, Sim.ltD_int, Sim.leD_int, Sim.gtD_int, Sim.geD_int, Sim.eqB_int, Sim.eqB_str, Sim.eqB_bl, Sim.eqB_non, Sim.eqD_of, Sim.neD_of, Sim.isD_non, Sim.isNotD_non, Sim.isN_non, Sim.isN_bl, Sim.isN_int, Sim.isN_str, Sim.isN_tup, Sim.isN_lst, Sim.frz_non, Sim.frz_bl, Sim.frz_int, Sim.frz_str, Sim.frz_tup, Sim.frz_lst, Sim.frz_dct, Sim.frz_scr, Sim.maxD_int, Sim.minD_int, Sim.absD_int, Sim.intD_int, Sim.tupleD_tup, Sim.tupleD_lst, Sim.listD_tup, Sim.listD_lst, Sim.listD_scr, Sim.itemsD_sh, Sim.itemsD_tup, Sim.itemsD_scr, Sim.isi_non, Sim.isi_bl, Sim.isi_int, Sim.isi_str, Sim.isi_tup, Sim.isi_lst, Sim.slice_tup, Sim.slice_lst, Sim.inDD_of, Sim.notInDD_of, Sim.inD_tup, Sim.inD_lst, Sim.inD_dct, Sim.cap, Sim.nat10, Sim.nat2, Nat.zero_le, Sim.ex_some, Sim.ex_some2, Sim.ex_if, Sim.ex_map, Sim.ex_eq, Sim.ex_bl, Sim.ex_int, Sim.ex_own, Sim.ex_lst, Sim.inr_at, Sim.inl_at, Sim.tt_c, Sim.ff_c, Sim.pad_nil, Sim.pad_n, Sim.nones_0, Sim.nones_s, List.getElem?_cons_zero, List.getElem?_cons_succ, List.set_cons_zero, List.set_cons_succ, List.map_cons, List.map_nil, List.cons_append, List.nil_append, Option.map_some, List.length_cons, List.length_nil, Int.zero_add, Nat.zero_add, Nat.reduceAdd, Nat.reduceLeDiff, Nat.reduceMul, true_and, and_true, decide_eq_true_eq, decide_eq_false_iff_not, Bool.false_eq_true, Bool.true_eq_false, false_implies, true_implies, implies_true, eq_self, decide_true, decide_false, not_true_eq_false, not_false_eq_true, Bool.not_true, Bool.not_false, Int.reduceLT, Int.reduceLE, Int.reduceNeg, Int.reducePow, Int.reduceToNat]
    refine T_cut (fun ρ => ∃ (ss : List Set1) (md : Md), ρ = [some (.scr ns), some (.int k), some (.int at_), some (.int first), some (.int count), some (.int n), some (.lst .sh (dg.map .int)), some (.lst md (ss.map Set1.enc)), o8, o9, o10] ∧ SetsOk n first (first + count) ss ∧ ss.length ≤ count) ?_ ?_
    · simp only [Sim.T_ok, Sim.T_fail, Sim.T_bind, Sim.T_pureO, Sim.EndQ_nxt, Sim.EndQ_ret, Sim.lasts_nil, Sim.T_call, Sim.T_name, Sim.T_frz, Sim.T_const, Sim.T_sh, Sim.T_op2, Sim.T_op1, Sim.T_test, Sim.T_not, Sim.T_andM, Sim.T_orM, Sim.T_ifM, Sim.T_bl, Sim.T_andV, Sim.T_orV, Sim.T_notV, Sim.T_peek, Sim.T_vP, Sim.T_opP, Sim.T_nilA, Sim.T_consA, Sim.T_nilP, Sim.T_consP, Sim.T_tup, Sim.T_lst, Sim.T_noO, Sim.T_someO, Sim.T_slice, Sim.T_callM, Sim.resL_cons, Sim.resL_nil', Sim.T_isi, Sim.T_nil, Sim.T_brk, Sim.T_cnt, Sim.SeqQ_nxt, Sim.SeqQ_brk, Sim.SeqQ_cnt, Sim.SeqQ_ret, Sim.T_seq, Sim.T_set, Sim.T_drop, Sim.T_ret, Sim.T_retN, Sim.T_retS, Sim.T_ite, Sim.T_asg, Sim.T_nameG, Sim.T_tupG, Sim.T_nilG, Sim.T_consG, Sim.T_aug, Sim.T_app, Sim.T_putD, Sim.T_newD, Sim.T_disp, Sim.T_iter, Sim.T_range1, Sim.T_range2, Sim.LoopQ_nxt, Sim.LoopQ_cnt, Sim.LoopQ_brk, Sim.LoopQ_ret, Sim.T_for, Sim.T_comp, Sim.T_yes, Sim.wipeR, Sim.T_rev, Sim.revD_lst, Sim.T_revR1, Sim.T_rg1, Sim.T_rg2, Sim.T_lstRg, Sim.T_tupRg, Sim.sumD_ints, Sim.ixDD_tup, Sim.ixDD_lst, Sim.ixDD_scr, Sim.ixDD_dct, Sim.atI_nat, Sim.atI_lit, Sim.lenD_tup, Sim.lenD_lst, Sim.lenD_scr, Sim.lenD_dct, Sim.addD_int, Sim.iaddD_int, Sim.subD_int, Sim.mulD_int, Sim.mulD_one, Sim.fdivD_int, Sim.modD_int, Sim.powD_int, Sim.addD_tup, Sim.addD_lst, Sim.negD_int, Sim.ltD_int, Sim.leD_int, Sim.gtD_int, Sim.geD_int, Sim.eqB_int, Sim.eqB_str, Sim.eqB_bl, Sim.eqB_non, Sim.eqD_of, Sim.neD_of, Sim.isD_non, Sim.isNotD_non, Sim.isN_non, Sim.isN_bl, Sim.isN_int, Sim.isN_str, Sim.isN_tup, Sim.isN_lst, Sim.frz_non, Sim.frz_bl, Sim.frz_int, Sim.frz_str, Sim.frz_tup, Sim.frz_lst, Sim.frz_dct, Sim.frz_scr, Sim.maxD_int, Sim.minD_int, Sim.absD_int, Sim.intD_int, Sim.tupleD_tup, Sim.tupleD_lst, Sim.listD_tup, Sim.listD_lst, Sim.listD_scr, Sim.itemsD_sh, Sim.itemsD_tup, Sim.itemsD_scr, Sim.isi_non, Sim.isi_bl, Sim.isi_int, Sim.isi_str, Sim.isi_tup, Sim.isi_lst, Sim.slice_tup, Sim.slice_lst, Sim.inDD_of, Sim.notInDD_of, Sim.inD_tup, Sim.inD_lst, Sim.inD_dct, Sim.cap, Sim.nat10, Sim.nat2, Nat.zero_le, Sim.ex_some, Sim.ex_some2, Sim.ex_if, Sim.ex_map, Sim.ex_eq, Sim.ex_bl, Sim.ex_int, Sim.ex_own, Sim.ex_lst, Sim.inr_at, Sim.inl_at, Sim.tt_c, Sim.ff_c, Sim.pad_nil, Sim.pad_n, Sim.nones_0, Sim.nones_s, List.getElem?_cons_zero, List.getElem?_cons_succ, List.set_cons_zero, List.set_cons_succ, List.map_cons, List.map_nil, List.cons_append, List.nil_append, Option.map_some, List.length_cons, List.length_nil, Int.zero_add, Nat.zero_add, Nat.reduceAdd, Nat.reduceLeDiff, Nat.reduceMul, true_and, and_true, decide_eq_true_eq, decide_eq_false_iff_not, Bool.false_eq_true, Bool.true_eq_false, false_implies, true_implies, implies_true, eq_self, decide_true, decide_false, not_true_eq_false, not_false_eq_true, Bool.not_true, Bool.not_false, Int.reduceLT, Int.reduceLE, Int.reduceNeg, Int.reducePow, Int.reduceToNat, ez', T_rev, revD_lst]
      refine ⟨fun _ => ⟨ss.reverse, .sh, by rw [List.map_reverse], ⟨fun s h => hs.each s (List.mem_reverse.mp h), by rw [List.map_reverse]; exact (List.Perm.nodup_iff (List.reverse_perm _)).mpr hs.apart⟩, by rw [List.length_reverse]; exact hsl⟩, fun _ => ⟨ss, .own, rfl, hs, hsl⟩⟩
    · rintro ρ ⟨ss, md, rfl, hs, hsl⟩
      obtain ⟨e1, e2⟩ := num_str at_ ha
      simp only [Sim.T_ok, Sim.T_fail, Sim.T_bind, Sim.T_pureO, Sim.EndQ_nxt, Sim.EndQ_ret, Sim.lasts_nil, Sim.T_call, Sim.T_name, Sim.T_frz, Sim.T_const, Sim.T_sh, Sim.T_op2, Sim.T_op1, Sim.T_test, Sim.T_not, Sim.T_andM, Sim.T_orM, Sim.T_ifM, Sim.T_bl, Sim.T_andV, Sim.T_orV, Sim.T_notV, Sim.T_peek, Sim.T_vP, Sim.T_opP, Sim.T_nilA, Sim.T_consA, Sim.T_nilP, Sim.T_consP, Sim.T_tup, Sim.T_lst, Sim.T_noO, Sim.T_someO, Sim.T_slice, Sim.T_callM, Sim.resL_cons, Sim.resL_nil', Sim.T_isi, Sim.T_nil, Sim.T_brk, Sim.T_cnt, Sim.SeqQ_nxt, Sim.SeqQ_brk, Sim.SeqQ_cnt, Sim.SeqQ_ret, Sim.T_seq, Sim.T_set, Sim.T_drop, Sim.T_ret, Sim.T_retN, Sim.T_retS, Sim.T_asg, Sim.T_nameG, Sim.T_tupG, Sim.T_nilG, Sim.T_consG, Sim.T_aug, Sim.T_app, Sim.T_putD, Sim.T_newD, Sim.T_disp, Sim.T_iter, Sim.T_range1, Sim.T_range2, Sim.LoopQ_nxt, Sim.LoopQ_cnt, Sim.LoopQ_brk, Sim.LoopQ_ret, Sim.T_for, Sim.T_comp, Sim.T_yes, Sim.wipeR, Sim.T_rev, Sim.revD_lst, Sim.T_revR1, Sim.T_rg1, Sim.T_rg2, Sim.T_lstRg, Sim.T_tupRg, Sim.sumD_ints, Sim.ixDD_tup, Sim.ixDD_lst, Sim.ixDD_scr, Sim.ixDD_dct, Sim.atI_nat, Sim.atI_lit, Sim.lenD_tup, Sim.lenD_lst, Sim.lenD_scr, Sim.lenD_dct, Sim.addD_int, Sim.iaddD_int, Sim.subD_int, Sim.mulD_int, Sim.mulD_one, Sim.fdivD_int, Sim.modD_int, Sim.powD_int, Sim.addD_tup, Sim.addD_lst, Sim.negD_int, Sim.ltD_int, Sim.leD_int, Sim.gtD_int, Sim.geD_int, Sim.eqB_int, Sim.eqB_str, Sim.eqB_bl, Sim.eqB_non, Sim.eqD_of, Sim.neD_of, Sim.isD_non, Sim.isNotD_non, Sim.isN_non, Sim.isN_bl, Sim.isN_int, Sim.isN_str, Sim.isN_tup, Sim.isN_lst, Sim.frz_non, Sim.frz_bl, Sim.frz_int, Sim.frz_str, Sim.frz_tup, Sim.frz_lst, Sim.frz_dct, Sim.frz_scr, Sim.maxD_int, Sim.minD_int, Sim.absD_int, Sim.intD_int, Sim.tupleD_tup, Sim.tupleD_lst, Sim.listD_tup, Sim.listD_lst, Sim.listD_scr, Sim.itemsD_sh, Sim.itemsD_tup, Sim.itemsD_scr, Sim.isi_non, Sim.isi_bl, Sim.isi_int, Sim.isi_str, Sim.isi_tup, Sim.isi_lst, Sim.slice_tup, Sim.slice_lst, Sim.inDD_of, Sim.notInDD_of, Sim.inD_tup, Sim.inD_lst, Sim.inD_dct, Sim.cap, Sim.nat10, Sim.nat2, Nat.zero_le, Sim.ex_some, Sim.ex_some2, Sim.ex_if, Sim.ex_map, Sim.ex_eq, Sim.ex_bl, Sim.ex_int, Sim.ex_own, Sim.ex_lst, Sim.inr_at, Sim.inl_at, Sim.tt_c, Sim.ff_c, Sim.pad_nil, Sim.pad_n, Sim.nones_0, Sim.nones_s, List.getElem?_cons_zero, List.getElem?_cons_succ, List.set_cons_zero, List.set_cons_succ, List.map_cons, List.map_nil, List.cons_append, List.nil_append, Option.map_some, List.length_cons, List.length_nil, Int.zero_add, Nat.zero_add, Nat.reduceAdd, Nat.reduceLeDiff, Nat.reduceMul, true_and, and_true, decide_eq_true_eq, decide_eq_false_iff_not, Bool.false_eq_true, Bool.true_eq_false, false_implies, true_implies, implies_true, eq_self, decide_true, decide_false, not_true_eq_false, not_false_eq_true, Bool.not_true, Bool.not_false, Int.reduceLT, Int.reduceLE, Int.reduceNeg, Int.reducePow, Int.reduceToNat, e1]
      refine ⟨_, addD_str _ _ (by show 1 + _ ≤ 16777216; omega), ?_⟩
      refine FT_mono (hc dg n h0 hn (by omega)) ?_
      rintro _ _ ⟨rfl, c, rfl, hc1, hc2⟩
      simp only [Sim.T_ok, Sim.T_fail, Sim.T_bind, Sim.T_pureO, Sim.EndQ_nxt, Sim.EndQ_ret, Sim.lasts_nil, Sim.T_call, Sim.T_name, Sim.T_frz, Sim.T_const, Sim.T_sh, Sim.T_op2, Sim.T_op1, Sim.T_test, Sim.T_not, Sim.T_andM, Sim.T_orM, Sim.T_ifM, Sim.T_bl, Sim.T_andV, Sim.T_orV, Sim.T_notV, Sim.T_peek, Sim.T_vP, Sim.T_opP, Sim.T_nilA, Sim.T_consA, Sim.T_nilP, Sim.T_consP, Sim.T_tup, Sim.T_lst, Sim.T_noO, Sim.T_someO, Sim.T_slice, Sim.T_callM, Sim.resL_cons, Sim.resL_nil', Sim.T_isi, Sim.T_nil, Sim.T_brk, Sim.T_cnt, Sim.SeqQ_nxt, Sim.SeqQ_brk, Sim.SeqQ_cnt, Sim.SeqQ_ret, Sim.T_seq, Sim.T_set, Sim.T_drop, Sim.T_ret, Sim.T_retN, Sim.T_retS, Sim.T_asg, Sim.T_nameG, Sim.T_tupG, Sim.T_nilG, Sim.T_consG, Sim.T_aug, Sim.T_app, Sim.T_putD, Sim.T_newD, Sim.T_disp, Sim.T_iter, Sim.T_range1, Sim.T_range2, Sim.LoopQ_nxt, Sim.LoopQ_cnt, Sim.LoopQ_brk, Sim.LoopQ_ret, Sim.T_for, Sim.T_comp, Sim.T_yes, Sim.wipeR, Sim.T_rev, Sim.revD_lst, Sim.T_revR1, Sim.T_rg1, Sim.T_rg2, Sim.T_lstRg, Sim.T_tupRg, Sim.sumD_ints, Sim.ixDD_tup, Sim.ixDD_lst, Sim.ixDD_scr, Sim.ixDD_dct, Sim.atI_nat, Sim.atI_lit, Sim.lenD_tup, Sim.lenD_lst, Sim.lenD_scr, Sim.lenD_dct, Sim.addD_int, Sim.iaddD_int, Sim.subD_int, Sim.mulD_int, Sim.mulD_one, Sim.fdivD_int, Sim.modD_int, Sim.powD_int, Sim.addD_tup, Sim.addD_lst, Sim.negD_int, Sim.ltD_int, Sim.leD_int, Sim.gtD_int, Sim.geD_int, Sim.eqB_int, Sim.eqB_str, Sim.eqB_bl, Sim.eqB_non, Sim.eqD_of, Sim.neD_of, Sim.isD_non, Sim.isNotD_non, Sim.isN_non, Sim.isN_bl, Sim.isN_int, Sim.isN_str, Sim.isN_tup, Sim.isN_lst, Sim.frz_non, Sim.frz_bl, Sim.frz_int, Sim.frz_str, Sim.frz_tup, Sim.frz_lst, Sim.frz_dct, Sim.frz_scr, Sim.maxD_int, Sim.minD_int, Sim.absD_int, Sim.intD_int, Sim.tupleD_tup, Sim.tupleD_lst, Sim.listD_tup, Sim.listD_lst, Sim.listD_scr, Sim.itemsD_sh, Sim.itemsD_tup, Sim.itemsD_scr, Sim.isi_non, Sim.isi_bl, Sim.isi_int, Sim.isi_str, Sim.isi_tup, Sim.isi_lst, Sim.slice_tup, Sim.slice_lst, Sim.inDD_of, Sim.notInDD_of, Sim.inD_tup, Sim.inD_lst, Sim.inD_dct, Sim.cap, Sim.nat10, Sim.nat2, Nat.zero_le, Sim.ex_some, Sim.ex_some2, Sim.ex_if, Sim.ex_map, Sim.ex_eq, Sim.ex_bl, Sim.ex_int, Sim.ex_own, Sim.ex_lst, Sim.inr_at, Sim.inl_at, Sim.tt_c, Sim.ff_c, Sim.pad_nil, Sim.pad_n, Sim.nones_0, Sim.nones_s, List.getElem?_cons_zero, List.getElem?_cons_succ, List.set_cons_zero, List.set_cons_succ, List.map_cons, List.map_nil, List.cons_append, List.nil_append, Option.map_some, List.length_cons, List.length_nil, Int.zero_add, Nat.zero_add, Nat.reduceAdd, Nat.reduceLeDiff, Nat.reduceMul, true_and, and_true, decide_eq_true_eq, decide_eq_false_iff_not, Bool.false_eq_true, Bool.true_eq_false, false_implies, true_implies, implies_true, eq_self, decide_true, decide_false, not_true_eq_false, not_false_eq_true, Bool.not_true, Bool.not_false, Int.reduceLT, Int.reduceLE, Int.reduceNeg, Int.reducePow, Int.reduceToNat, Cd.frz]
      exact ⟨⟨_, c, ss⟩, rfl, ⟨hc1, hc2⟩, fun s h => hs.each s h, by show ss.length ≤ 2; omega, hs.apart⟩
end Law

namespace Law
open PySem PySem.Spec PyProof.Rows L2 Sim
theorem drawn_get {ms xs : List Int} (h : Drawn ms xs) {j : Nat} {m : Int} (hj : ms[j]? = some m) : ∃ x : Int, xs[j]? = some x ∧ (xs.map D.int)[j]? = some (.int x) ∧ 0 ≤ x ∧ x < m := by
  have hl : j < xs.length := by rw [h.1]; exact (List.getElem?_eq_some_iff.mp hj).1
  have e : xs[j]? = some xs[j] := List.getElem?_eq_getElem hl
  exact ⟨xs[j], e, by rw [List.getElem?_map, e]; rfl, h.2 j _ m e hj⟩
def chainOk : Nat → List Part → Nat → Prop
  | s, [], n => s = n
  | s, p :: ps, n => p.first = s ∧ 1 ≤ p.count ∧ p.count ≤ 2 ∧ chainOk (s + p.count) ps n
theorem chain_snoc : ∀ {ps : List Part} {s n : Nat} {p : Part}, chainOk s ps n → p.first = n → 1 ≤ p.count → p.count ≤ 2 → chainOk s (ps ++ [p]) (n + p.count)
  | [], s, n, p, h, h1, h2, h3 => by
    cases h
    exact ⟨h1, h2, h3, rfl⟩
  | q :: ps, s, n, p, h, h1, h2, h3 => ⟨h.1, h.2.1, h.2.2.1, chain_snoc h.2.2.2 h1 h2 h3⟩
structure PartOk (n : Nat) (p : Part) : Prop where
  moves : ∀ m ∈ p.moves, MoveOk n p.first p.count m
  few : 1 ≤ p.moves.length ∧ p.moves.length ≤ 4
structure PlantOk (p : Plant) : Prop where
  many : 1 ≤ p.vars.length ∧ p.vars.length ≤ 5
  vars : ∀ v ∈ p.vars, VarOk v
  chain : chainOk 0 p.parts p.vars.length
  few : 1 ≤ p.parts.length ∧ p.parts.length ≤ 3
  parts : ∀ q ∈ p.parts, PartOk p.vars.length q
  sensors : ∀ s ∈ p.sensors, SensorOk p.vars.length s
  fewS : p.sensors.length ≤ 2
theorem sensors_ok {R : Fs} (hd : DrawOk R.f__law_draw) (ht : TermOk R.f__law_term) (ns : List Int) (n : Nat) (hn : 0 < n) :
    FT (defF 4 [] (b__law_sensors R)) [.scr ns, .int n] fun d fs => fs = [] ∧ ∃ ss : List Sensor, d = .lst .own (ss.map Sensor.enc) ∧ (∀ s ∈ ss, SensorOk n s) ∧ ss.length ≤ 2 := by
  refine FT_def ?_
  simp only [Sim.T_ok, Sim.T_fail, Sim.T_bind, Sim.T_pureO, Sim.EndQ_nxt, Sim.EndQ_ret, Sim.lasts_nil, Sim.T_call, Sim.T_name, Sim.T_frz, Sim.T_const, Sim.T_sh, Sim.T_op2, Sim.T_op1, Sim.T_test, Sim.T_not, Sim.T_andM, Sim.T_orM, Sim.T_ifM, Sim.T_bl, Sim.T_andV, Sim.T_orV, Sim.T_notV, Sim.T_peek, Sim.T_vP, Sim.T_opP, Sim.T_nilA, Sim.T_consA, Sim.T_nilP, Sim.T_consP, Sim.T_tup, Sim.T_lst, Sim.T_noO, Sim.T_someO, Sim.T_slice, Sim.T_callM, Sim.resL_cons, Sim.resL_nil', Sim.T_isi, Sim.T_nil, Sim.T_brk, Sim.T_cnt, Sim.SeqQ_nxt, Sim.SeqQ_brk, Sim.SeqQ_cnt, Sim.SeqQ_ret, Sim.T_seq, Sim.T_set, Sim.T_drop, Sim.T_ret, Sim.T_retN, Sim.T_retS, Sim.T_asg, Sim.T_nameG, Sim.T_tupG, Sim.T_nilG, Sim.T_consG, Sim.T_aug, Sim.T_app, Sim.T_putD, Sim.T_newD, Sim.T_disp, Sim.T_iter, Sim.T_range1, Sim.T_range2, Sim.LoopQ_nxt, Sim.LoopQ_cnt, Sim.LoopQ_brk, Sim.LoopQ_ret, Sim.T_for, Sim.T_comp, Sim.T_yes, Sim.wipeR, Sim.T_rev, Sim.revD_lst, Sim.T_revR1, Sim.T_rg1, Sim.T_rg2, Sim.T_lstRg, Sim.T_tupRg, Sim.sumD_ints, Sim.ixDD_tup, Sim.ixDD_lst, Sim.ixDD_scr, Sim.ixDD_dct, Sim.atI_nat, Sim.atI_lit, Sim.lenD_tup, Sim.lenD_lst, Sim.lenD_scr, Sim.lenD_dct, Sim.addD_int, Sim.iaddD_int, Sim.subD_int, Sim.mulD_int, Sim.mulD_one, Sim.fdivD_int, Sim.modD_int, Sim.powD_int, Sim.addD_tup, Sim.addD_lst, Sim.negD_int, Sim.ltD_int, Sim.leD_int, Sim.gtD_int, Sim.geD_int, Sim.eqB_int, Sim.eqB_str, Sim.eqB_bl, Sim.eqB_non, Sim.eqD_of, Sim.neD_of, Sim.isD_non, Sim.isNotD_non, Sim.isN_non, Sim.isN_bl, Sim.isN_int, Sim.isN_str, Sim.isN_tup, Sim.isN_lst, Sim.frz_non, Sim.frz_bl, Sim.frz_int, Sim.frz_str, Sim.frz_tup, Sim.frz_lst, Sim.frz_dct, Sim.frz_scr, Sim.maxD_int, Sim.minD_int, Sim.absD_int, Sim.intD_int, Sim.tupleD_tup, Sim.tupleD_lst, Sim.listD_tup, Sim.listD_lst, Sim.listD_scr, Sim.itemsD_sh, Sim.itemsD_tup, Sim.itemsD_scr, Sim.isi_non, Sim.isi_bl, Sim.isi_int, Sim.isi_str, Sim.isi_tup, Sim.isi_lst, Sim.slice_tup, Sim.slice_lst, Sim.inDD_of, Sim.notInDD_of, Sim.inD_tup, Sim.inD_lst, Sim.inD_dct, Sim.cap, Sim.nat10, Sim.nat2, Nat.zero_le, Sim.ex_some, Sim.ex_some2, Sim.ex_if, Sim.ex_map, Sim.ex_eq, Sim.ex_bl, Sim.ex_int, Sim.ex_own, Sim.ex_lst, Sim.inr_at, Sim.inl_at, Sim.tt_c, Sim.ff_c, Sim.pad_nil, Sim.pad_n, Sim.nones_0, Sim.nones_s, List.getElem?_cons_zero, List.getElem?_cons_succ, List.set_cons_zero, List.set_cons_succ, List.map_cons, List.map_nil, List.cons_append, List.nil_append, Option.map_some, List.length_cons, List.length_nil, Int.zero_add, Nat.zero_add, Nat.reduceAdd, Nat.reduceLeDiff, Nat.reduceMul, true_and, and_true, decide_eq_true_eq, decide_eq_false_iff_not, Bool.false_eq_true, Bool.true_eq_false, false_implies, true_implies, implies_true, eq_self, decide_true, decide_false, not_true_eq_false, not_false_eq_true, Bool.not_true, Bool.not_false, Int.reduceLT, Int.reduceLE, Int.reduceNeg, Int.reducePow, Int.reduceToNat, b__law_sensors]
  refine FT_mono (hd ns 20 [4] (by decide) (by decide)) ?_
  rintro _ _ ⟨rfl, hs, rfl, hx⟩
  obtain ⟨x, e0, ex, hx0, hx1⟩ := drawn_get hx (j := 0) rfl
  simp only [Sim.T_ok, Sim.T_fail, Sim.T_bind, Sim.T_pureO, Sim.EndQ_nxt, Sim.EndQ_ret, Sim.lasts_nil, Sim.T_call, Sim.T_name, Sim.T_frz, Sim.T_const, Sim.T_sh, Sim.T_op2, Sim.T_op1, Sim.T_test, Sim.T_not, Sim.T_andM, Sim.T_orM, Sim.T_ifM, Sim.T_bl, Sim.T_andV, Sim.T_orV, Sim.T_notV, Sim.T_peek, Sim.T_vP, Sim.T_opP, Sim.T_nilA, Sim.T_consA, Sim.T_nilP, Sim.T_consP, Sim.T_tup, Sim.T_lst, Sim.T_noO, Sim.T_someO, Sim.T_slice, Sim.T_callM, Sim.resL_cons, Sim.resL_nil', Sim.T_isi, Sim.T_nil, Sim.T_brk, Sim.T_cnt, Sim.SeqQ_nxt, Sim.SeqQ_brk, Sim.SeqQ_cnt, Sim.SeqQ_ret, Sim.T_seq, Sim.T_set, Sim.T_drop, Sim.T_ret, Sim.T_retN, Sim.T_retS, Sim.T_asg, Sim.T_nameG, Sim.T_tupG, Sim.T_nilG, Sim.T_consG, Sim.T_aug, Sim.T_app, Sim.T_putD, Sim.T_newD, Sim.T_disp, Sim.T_iter, Sim.T_range1, Sim.T_range2, Sim.LoopQ_nxt, Sim.LoopQ_cnt, Sim.LoopQ_brk, Sim.LoopQ_ret, Sim.T_for, Sim.T_comp, Sim.T_yes, Sim.wipeR, Sim.T_rev, Sim.revD_lst, Sim.T_revR1, Sim.T_rg1, Sim.T_rg2, Sim.T_lstRg, Sim.T_tupRg, Sim.sumD_ints, Sim.ixDD_tup, Sim.ixDD_lst, Sim.ixDD_scr, Sim.ixDD_dct, Sim.atI_nat, Sim.atI_lit, Sim.lenD_tup, Sim.lenD_lst, Sim.lenD_scr, Sim.lenD_dct, Sim.addD_int, Sim.iaddD_int, Sim.subD_int, Sim.mulD_int, Sim.mulD_one, Sim.fdivD_int, Sim.modD_int, Sim.powD_int, Sim.addD_tup, Sim.addD_lst, Sim.negD_int, Sim.ltD_int, Sim.leD_int, Sim.gtD_int, Sim.geD_int, Sim.eqB_int, Sim.eqB_str, Sim.eqB_bl, Sim.eqB_non, Sim.eqD_of, Sim.neD_of, Sim.isD_non, Sim.isNotD_non, Sim.isN_non, Sim.isN_bl, Sim.isN_int, Sim.isN_str, Sim.isN_tup, Sim.isN_lst, Sim.frz_non, Sim.frz_bl, Sim.frz_int, Sim.frz_str, Sim.frz_tup, Sim.frz_lst, Sim.frz_dct, Sim.frz_scr, Sim.maxD_int, Sim.minD_int, Sim.absD_int, Sim.intD_int, Sim.tupleD_tup, Sim.tupleD_lst, Sim.listD_tup, Sim.listD_lst, Sim.listD_scr, Sim.itemsD_sh, Sim.itemsD_tup, Sim.itemsD_scr, Sim.isi_non, Sim.isi_bl, Sim.isi_int, Sim.isi_str, Sim.isi_tup, Sim.isi_lst, Sim.slice_tup, Sim.slice_lst, Sim.inDD_of, Sim.notInDD_of, Sim.inD_tup, Sim.inD_lst, Sim.inD_dct, Sim.cap, Sim.nat10, Sim.nat2, Nat.zero_le, Sim.ex_some, Sim.ex_some2, Sim.ex_if, Sim.ex_map, Sim.ex_eq, Sim.ex_bl, Sim.ex_int, Sim.ex_own, Sim.ex_lst, Sim.inr_at, Sim.inl_at, Sim.tt_c, Sim.ff_c, Sim.pad_nil, Sim.pad_n, Sim.nones_0, Sim.nones_s, List.getElem?_cons_zero, List.getElem?_cons_succ, List.set_cons_zero, List.set_cons_succ, List.map_cons, List.map_nil, List.cons_append, List.nil_append, Option.map_some, List.length_cons, List.length_nil, Int.zero_add, Nat.zero_add, Nat.reduceAdd, Nat.reduceLeDiff, Nat.reduceMul, true_and, and_true, decide_eq_true_eq, decide_eq_false_iff_not, Bool.false_eq_true, Bool.true_eq_false, false_implies, true_implies, implies_true, eq_self, decide_true, decide_false, not_true_eq_false, not_false_eq_true, Bool.not_true, Bool.not_false, Int.reduceLT, Int.reduceLE, Int.reduceNeg, Int.reducePow, Int.reduceToNat, ex]
  refine at_ex hx0 (by simp only [List.length_cons, List.length_nil]; omega) fun d hd' _ => ?_
  obtain ⟨c, rfl, hc⟩ : ∃ c : Nat, d = .int c ∧ c ≤ 2 := by
    simp only [List.mem_cons, List.not_mem_nil, or_false] at hd'
    rcases hd' with rfl | rfl | rfl | rfl
    · exact ⟨1, rfl, by decide⟩
    · exact ⟨0, rfl, by decide⟩
    · exact ⟨2, rfl, by decide⟩
    · exact ⟨1, rfl, by decide⟩
  simp only [Sim.T_ok, Sim.T_fail, Sim.T_bind, Sim.T_pureO, Sim.EndQ_nxt, Sim.EndQ_ret, Sim.lasts_nil, Sim.T_call, Sim.T_name, Sim.T_frz, Sim.T_const, Sim.T_sh, Sim.T_op2, Sim.T_op1, Sim.T_test, Sim.T_not, Sim.T_andM, Sim.T_orM, Sim.T_ifM, Sim.T_bl, Sim.T_andV, Sim.T_orV, Sim.T_notV, Sim.T_peek, Sim.T_vP, Sim.T_opP, Sim.T_nilA, Sim.T_consA, Sim.T_nilP, Sim.T_consP, Sim.T_tup, Sim.T_lst, Sim.T_noO, Sim.T_someO, Sim.T_slice, Sim.T_callM, Sim.resL_cons, Sim.resL_nil', Sim.T_isi, Sim.T_nil, Sim.T_brk, Sim.T_cnt, Sim.SeqQ_nxt, Sim.SeqQ_brk, Sim.SeqQ_cnt, Sim.SeqQ_ret, Sim.T_seq, Sim.T_set, Sim.T_drop, Sim.T_ret, Sim.T_retN, Sim.T_retS, Sim.T_asg, Sim.T_nameG, Sim.T_tupG, Sim.T_nilG, Sim.T_consG, Sim.T_aug, Sim.T_app, Sim.T_putD, Sim.T_newD, Sim.T_disp, Sim.T_iter, Sim.T_range1, Sim.T_range2, Sim.LoopQ_nxt, Sim.LoopQ_cnt, Sim.LoopQ_brk, Sim.LoopQ_ret, Sim.T_for, Sim.T_comp, Sim.T_yes, Sim.wipeR, Sim.T_rev, Sim.revD_lst, Sim.T_revR1, Sim.T_rg1, Sim.T_rg2, Sim.T_lstRg, Sim.T_tupRg, Sim.sumD_ints, Sim.ixDD_tup, Sim.ixDD_lst, Sim.ixDD_scr, Sim.ixDD_dct, Sim.atI_nat, Sim.atI_lit, Sim.lenD_tup, Sim.lenD_lst, Sim.lenD_scr, Sim.lenD_dct, Sim.addD_int, Sim.iaddD_int, Sim.subD_int, Sim.mulD_int, Sim.mulD_one, Sim.fdivD_int, Sim.modD_int, Sim.powD_int, Sim.addD_tup, Sim.addD_lst, Sim.negD_int, Sim.ltD_int, Sim.leD_int, Sim.gtD_int, Sim.geD_int, Sim.eqB_int, Sim.eqB_str, Sim.eqB_bl, Sim.eqB_non, Sim.eqD_of, Sim.neD_of, Sim.isD_non, Sim.isNotD_non, Sim.isN_non, Sim.isN_bl, Sim.isN_int, Sim.isN_str, Sim.isN_tup, Sim.isN_lst, Sim.frz_non, Sim.frz_bl, Sim.frz_int, Sim.frz_str, Sim.frz_tup, Sim.frz_lst, Sim.frz_dct, Sim.frz_scr, Sim.maxD_int, Sim.minD_int, Sim.absD_int, Sim.intD_int, Sim.tupleD_tup, Sim.tupleD_lst, Sim.listD_tup, Sim.listD_lst, Sim.listD_scr, Sim.itemsD_sh, Sim.itemsD_tup, Sim.itemsD_scr, Sim.isi_non, Sim.isi_bl, Sim.isi_int, Sim.isi_str, Sim.isi_tup, Sim.isi_lst, Sim.slice_tup, Sim.slice_lst, Sim.inDD_of, Sim.notInDD_of, Sim.inD_tup, Sim.inD_lst, Sim.inD_dct, Sim.cap, Sim.nat10, Sim.nat2, Nat.zero_le, Sim.ex_some, Sim.ex_some2, Sim.ex_if, Sim.ex_map, Sim.ex_eq, Sim.ex_bl, Sim.ex_int, Sim.ex_own, Sim.ex_lst, Sim.inr_at, Sim.inl_at, Sim.tt_c, Sim.ff_c, Sim.pad_nil, Sim.pad_n, Sim.nones_0, Sim.nones_s, List.getElem?_cons_zero, List.getElem?_cons_succ, List.set_cons_zero, List.set_cons_succ, List.map_cons, List.map_nil, List.cons_append, List.nil_append, Option.map_some, List.length_cons, List.length_nil, Int.zero_add, Nat.zero_add, Nat.reduceAdd, Nat.reduceLeDiff, Nat.reduceMul, true_and, and_true, decide_eq_true_eq, decide_eq_false_iff_not, Bool.false_eq_true, Bool.true_eq_false, false_implies, true_implies, implies_true, eq_self, decide_true, decide_false, not_true_eq_false, not_false_eq_true, Bool.not_true, Bool.not_false, Int.reduceLT, Int.reduceLE, Int.reduceNeg, Int.reducePow, Int.reduceToNat]
  refine ⟨by omega, ?_⟩
  rw [Int.toNat_natCast]
  refine T_goR (fun j ρ => ∃ (ss : List Sensor) (o4 o5 : Option D), ρ = [some (.scr ns), some (.int n), some (.lst .own (ss.map Sensor.enc)), some (.lst .sh (hs.map .int)), o4, o5] ∧ (∀ s ∈ ss, SensorOk n s) ∧ ss.length ≤ j) ⟨[], none, none, rfl, by simp, Nat.le_refl _⟩ ?_ ?_
  · intro j ρ hj hI
    obtain ⟨ss, o4, o5, hρ, hs1, hs2⟩ := hI
    subst hρ
    simp only [Sim.T_ok, Sim.T_fail, Sim.T_bind, Sim.T_pureO, Sim.EndQ_nxt, Sim.EndQ_ret, Sim.lasts_nil, Sim.T_call, Sim.T_name, Sim.T_frz, Sim.T_const, Sim.T_sh, Sim.T_op2, Sim.T_op1, Sim.T_test, Sim.T_not, Sim.T_andM, Sim.T_orM, Sim.T_ifM, Sim.T_bl, Sim.T_andV, Sim.T_orV, Sim.T_notV, Sim.T_peek, Sim.T_vP, Sim.T_opP, Sim.T_nilA, Sim.T_consA, Sim.T_nilP, Sim.T_consP, Sim.T_tup, Sim.T_lst, Sim.T_noO, Sim.T_someO, Sim.T_slice, Sim.T_callM, Sim.resL_cons, Sim.resL_nil', Sim.T_isi, Sim.T_nil, Sim.T_brk, Sim.T_cnt, Sim.SeqQ_nxt, Sim.SeqQ_brk, Sim.SeqQ_cnt, Sim.SeqQ_ret, Sim.T_seq, Sim.T_set, Sim.T_drop, Sim.T_ret, Sim.T_retN, Sim.T_retS, Sim.T_asg, Sim.T_nameG, Sim.T_tupG, Sim.T_nilG, Sim.T_consG, Sim.T_aug, Sim.T_app, Sim.T_putD, Sim.T_newD, Sim.T_disp, Sim.T_iter, Sim.T_range1, Sim.T_range2, Sim.LoopQ_nxt, Sim.LoopQ_cnt, Sim.LoopQ_brk, Sim.LoopQ_ret, Sim.T_for, Sim.T_comp, Sim.T_yes, Sim.wipeR, Sim.T_rev, Sim.revD_lst, Sim.T_revR1, Sim.T_rg1, Sim.T_rg2, Sim.T_lstRg, Sim.T_tupRg, Sim.sumD_ints, Sim.ixDD_tup, Sim.ixDD_lst, Sim.ixDD_scr, Sim.ixDD_dct, Sim.atI_nat, Sim.atI_lit, Sim.lenD_tup, Sim.lenD_lst, Sim.lenD_scr, Sim.lenD_dct, Sim.addD_int, Sim.iaddD_int, Sim.subD_int, Sim.mulD_int, Sim.mulD_one, Sim.fdivD_int, Sim.modD_int, Sim.powD_int, Sim.addD_tup, Sim.addD_lst, Sim.negD_int, Sim.ltD_int, Sim.leD_int, Sim.gtD_int, Sim.geD_int, Sim.eqB_int, Sim.eqB_str, Sim.eqB_bl, Sim.eqB_non, Sim.eqD_of, Sim.neD_of, Sim.isD_non, Sim.isNotD_non, Sim.isN_non, Sim.isN_bl, Sim.isN_int, Sim.isN_str, Sim.isN_tup, Sim.isN_lst, Sim.frz_non, Sim.frz_bl, Sim.frz_int, Sim.frz_str, Sim.frz_tup, Sim.frz_lst, Sim.frz_dct, Sim.frz_scr, Sim.maxD_int, Sim.minD_int, Sim.absD_int, Sim.intD_int, Sim.tupleD_tup, Sim.tupleD_lst, Sim.listD_tup, Sim.listD_lst, Sim.listD_scr, Sim.itemsD_sh, Sim.itemsD_tup, Sim.itemsD_scr, Sim.isi_non, Sim.isi_bl, Sim.isi_int, Sim.isi_str, Sim.isi_tup, Sim.isi_lst, Sim.slice_tup, Sim.slice_lst, Sim.inDD_of, Sim.notInDD_of, Sim.inD_tup, Sim.inD_lst, Sim.inD_dct, Sim.cap, Sim.nat10, Sim.nat2, Nat.zero_le, Sim.ex_some, Sim.ex_some2, Sim.ex_if, Sim.ex_map, Sim.ex_eq, Sim.ex_bl, Sim.ex_int, Sim.ex_own, Sim.ex_lst, Sim.inr_at, Sim.inl_at, Sim.tt_c, Sim.ff_c, Sim.pad_nil, Sim.pad_n, Sim.nones_0, Sim.nones_s, List.getElem?_cons_zero, List.getElem?_cons_succ, List.set_cons_zero, List.set_cons_succ, List.map_cons, List.map_nil, List.cons_append, List.nil_append, Option.map_some, List.length_cons, List.length_nil, Int.zero_add, Nat.zero_add, Nat.reduceAdd, Nat.reduceLeDiff, Nat.reduceMul, true_and, and_true, decide_eq_true_eq, decide_eq_false_iff_not, Bool.false_eq_true, Bool.true_eq_false, false_implies, true_implies, implies_true, eq_self, decide_true, decide_false, not_true_eq_false, not_false_eq_true, Bool.not_true, Bool.not_false, Int.reduceLT, Int.reduceLE, Int.reduceNeg, Int.reducePow, Int.reduceToNat]
    refine FT_mono (hd ns (21 + j) [9, 9, 9, 3, 3] (by decide) (by decide)) ?_
    rintro _ _ ⟨rfl, dg, rfl, hx⟩
    obtain ⟨y3, _, ey3, h30, h31⟩ := drawn_get hx (j := 3) rfl
    obtain ⟨y4, _, ey4, h40, h41⟩ := drawn_get hx (j := 4) rfl
    have hl : dg.length = 5 := hx.1
    have h0 : ∀ x ∈ dg, 0 ≤ x := by
      intro x h
      obtain ⟨j, hj, rfl⟩ := List.getElem_of_mem h
      have hj5 : j < [(9 : Int), 9, 9, 3, 3].length := (by show j < 5; omega)
      exact (hx.2 j _ _ (List.getElem?_eq_getElem hj) (List.getElem?_eq_getElem hj5)).1
    obtain ⟨e1, e2⟩ := num_str j (by omega)
    simp only [Sim.T_ok, Sim.T_fail, Sim.T_bind, Sim.T_pureO, Sim.EndQ_nxt, Sim.EndQ_ret, Sim.lasts_nil, Sim.T_call, Sim.T_name, Sim.T_frz, Sim.T_const, Sim.T_sh, Sim.T_op2, Sim.T_op1, Sim.T_test, Sim.T_not, Sim.T_andM, Sim.T_orM, Sim.T_ifM, Sim.T_bl, Sim.T_andV, Sim.T_orV, Sim.T_notV, Sim.T_peek, Sim.T_vP, Sim.T_opP, Sim.T_nilA, Sim.T_consA, Sim.T_nilP, Sim.T_consP, Sim.T_tup, Sim.T_lst, Sim.T_noO, Sim.T_someO, Sim.T_slice, Sim.T_callM, Sim.resL_cons, Sim.resL_nil', Sim.T_isi, Sim.T_nil, Sim.T_brk, Sim.T_cnt, Sim.SeqQ_nxt, Sim.SeqQ_brk, Sim.SeqQ_cnt, Sim.SeqQ_ret, Sim.T_seq, Sim.T_set, Sim.T_drop, Sim.T_ret, Sim.T_retN, Sim.T_retS, Sim.T_asg, Sim.T_nameG, Sim.T_tupG, Sim.T_nilG, Sim.T_consG, Sim.T_aug, Sim.T_app, Sim.T_putD, Sim.T_newD, Sim.T_disp, Sim.T_iter, Sim.T_range1, Sim.T_range2, Sim.LoopQ_nxt, Sim.LoopQ_cnt, Sim.LoopQ_brk, Sim.LoopQ_ret, Sim.T_for, Sim.T_comp, Sim.T_yes, Sim.wipeR, Sim.T_rev, Sim.revD_lst, Sim.T_revR1, Sim.T_rg1, Sim.T_rg2, Sim.T_lstRg, Sim.T_tupRg, Sim.sumD_ints, Sim.ixDD_tup, Sim.ixDD_lst, Sim.ixDD_scr, Sim.ixDD_dct, Sim.atI_nat, Sim.atI_lit, Sim.lenD_tup, Sim.lenD_lst, Sim.lenD_scr, Sim.lenD_dct, Sim.addD_int, Sim.iaddD_int, Sim.subD_int, Sim.mulD_int, Sim.mulD_one, Sim.fdivD_int, Sim.modD_int, Sim.powD_int, Sim.addD_tup, Sim.addD_lst, Sim.negD_int, Sim.ltD_int, Sim.leD_int, Sim.gtD_int, Sim.geD_int, Sim.eqB_int, Sim.eqB_str, Sim.eqB_bl, Sim.eqB_non, Sim.eqD_of, Sim.neD_of, Sim.isD_non, Sim.isNotD_non, Sim.isN_non, Sim.isN_bl, Sim.isN_int, Sim.isN_str, Sim.isN_tup, Sim.isN_lst, Sim.frz_non, Sim.frz_bl, Sim.frz_int, Sim.frz_str, Sim.frz_tup, Sim.frz_lst, Sim.frz_dct, Sim.frz_scr, Sim.maxD_int, Sim.minD_int, Sim.absD_int, Sim.intD_int, Sim.tupleD_tup, Sim.tupleD_lst, Sim.listD_tup, Sim.listD_lst, Sim.listD_scr, Sim.itemsD_sh, Sim.itemsD_tup, Sim.itemsD_scr, Sim.isi_non, Sim.isi_bl, Sim.isi_int, Sim.isi_str, Sim.isi_tup, Sim.isi_lst, Sim.slice_tup, Sim.slice_lst, Sim.inDD_of, Sim.notInDD_of, Sim.inD_tup, Sim.inD_lst, Sim.inD_dct, Sim.cap, Sim.nat10, Sim.nat2, Nat.zero_le, Sim.ex_some, Sim.ex_some2, Sim.ex_if, Sim.ex_map, Sim.ex_eq, Sim.ex_bl, Sim.ex_int, Sim.ex_own, Sim.ex_lst, Sim.inr_at, Sim.inl_at, Sim.tt_c, Sim.ff_c, Sim.pad_nil, Sim.pad_n, Sim.nones_0, Sim.nones_s, List.getElem?_cons_zero, List.getElem?_cons_succ, List.set_cons_zero, List.set_cons_succ, List.map_cons, List.map_nil, List.cons_append, List.nil_append, Option.map_some, List.length_cons, List.length_nil, Int.zero_add, Nat.zero_add, Nat.reduceAdd, Nat.reduceLeDiff, Nat.reduceMul, true_and, and_true, decide_eq_true_eq, decide_eq_false_iff_not, Bool.false_eq_true, Bool.true_eq_false, false_implies, true_implies, implies_true, eq_self, decide_true, decide_false, not_true_eq_false, not_false_eq_true, Bool.not_true, Bool.not_false, Int.reduceLT, Int.reduceLE, Int.reduceNeg, Int.reducePow, Int.reduceToNat, e1, ey3, ey4]
    refine ⟨_, addD_str _ _ (by show 1 + _ ≤ 16777216; omega), ?_⟩
    refine FT_mono (ht dg n 0 h0 hn (by omega) (by omega)) ?_
    rintro _ _ ⟨rfl, t, rfl, ht1, ht2⟩
    simp only [Sim.T_ok, Sim.T_fail, Sim.T_bind, Sim.T_pureO, Sim.EndQ_nxt, Sim.EndQ_ret, Sim.lasts_nil, Sim.T_call, Sim.T_name, Sim.T_frz, Sim.T_const, Sim.T_sh, Sim.T_op2, Sim.T_op1, Sim.T_test, Sim.T_not, Sim.T_andM, Sim.T_orM, Sim.T_ifM, Sim.T_bl, Sim.T_andV, Sim.T_orV, Sim.T_notV, Sim.T_peek, Sim.T_vP, Sim.T_opP, Sim.T_nilA, Sim.T_consA, Sim.T_nilP, Sim.T_consP, Sim.T_tup, Sim.T_lst, Sim.T_noO, Sim.T_someO, Sim.T_slice, Sim.T_callM, Sim.resL_cons, Sim.resL_nil', Sim.T_isi, Sim.T_nil, Sim.T_brk, Sim.T_cnt, Sim.SeqQ_nxt, Sim.SeqQ_brk, Sim.SeqQ_cnt, Sim.SeqQ_ret, Sim.T_seq, Sim.T_set, Sim.T_drop, Sim.T_ret, Sim.T_retN, Sim.T_retS, Sim.T_asg, Sim.T_nameG, Sim.T_tupG, Sim.T_nilG, Sim.T_consG, Sim.T_aug, Sim.T_app, Sim.T_putD, Sim.T_newD, Sim.T_disp, Sim.T_iter, Sim.T_range1, Sim.T_range2, Sim.LoopQ_nxt, Sim.LoopQ_cnt, Sim.LoopQ_brk, Sim.LoopQ_ret, Sim.T_for, Sim.T_comp, Sim.T_yes, Sim.wipeR, Sim.T_rev, Sim.revD_lst, Sim.T_revR1, Sim.T_rg1, Sim.T_rg2, Sim.T_lstRg, Sim.T_tupRg, Sim.sumD_ints, Sim.ixDD_tup, Sim.ixDD_lst, Sim.ixDD_scr, Sim.ixDD_dct, Sim.atI_nat, Sim.atI_lit, Sim.lenD_tup, Sim.lenD_lst, Sim.lenD_scr, Sim.lenD_dct, Sim.addD_int, Sim.iaddD_int, Sim.subD_int, Sim.mulD_int, Sim.mulD_one, Sim.fdivD_int, Sim.modD_int, Sim.powD_int, Sim.addD_tup, Sim.addD_lst, Sim.negD_int, Sim.ltD_int, Sim.leD_int, Sim.gtD_int, Sim.geD_int, Sim.eqB_int, Sim.eqB_str, Sim.eqB_bl, Sim.eqB_non, Sim.eqD_of, Sim.neD_of, Sim.isD_non, Sim.isNotD_non, Sim.isN_non, Sim.isN_bl, Sim.isN_int, Sim.isN_str, Sim.isN_tup, Sim.isN_lst, Sim.frz_non, Sim.frz_bl, Sim.frz_int, Sim.frz_str, Sim.frz_tup, Sim.frz_lst, Sim.frz_dct, Sim.frz_scr, Sim.maxD_int, Sim.minD_int, Sim.absD_int, Sim.intD_int, Sim.tupleD_tup, Sim.tupleD_lst, Sim.listD_tup, Sim.listD_lst, Sim.listD_scr, Sim.itemsD_sh, Sim.itemsD_tup, Sim.itemsD_scr, Sim.isi_non, Sim.isi_bl, Sim.isi_int, Sim.isi_str, Sim.isi_tup, Sim.isi_lst, Sim.slice_tup, Sim.slice_lst, Sim.inDD_of, Sim.notInDD_of, Sim.inD_tup, Sim.inD_lst, Sim.inD_dct, Sim.cap, Sim.nat10, Sim.nat2, Nat.zero_le, Sim.ex_some, Sim.ex_some2, Sim.ex_if, Sim.ex_map, Sim.ex_eq, Sim.ex_bl, Sim.ex_int, Sim.ex_own, Sim.ex_lst, Sim.inr_at, Sim.inl_at, Sim.tt_c, Sim.ff_c, Sim.pad_nil, Sim.pad_n, Sim.nones_0, Sim.nones_s, List.getElem?_cons_zero, List.getElem?_cons_succ, List.set_cons_zero, List.set_cons_succ, List.map_cons, List.map_nil, List.cons_append, List.nil_append, Option.map_some, List.length_cons, List.length_nil, Int.zero_add, Nat.zero_add, Nat.reduceAdd, Nat.reduceLeDiff, Nat.reduceMul, true_and, and_true, decide_eq_true_eq, decide_eq_false_iff_not, Bool.false_eq_true, Bool.true_eq_false, false_implies, true_implies, implies_true, eq_self, decide_true, decide_false, not_true_eq_false, not_false_eq_true, Bool.not_true, Bool.not_false, Int.reduceLT, Int.reduceLE, Int.reduceNeg, Int.reducePow, Int.reduceToNat, Tm.frz]
    refine ⟨by simp; omega, ss ++ [⟨_, t, y3, decide (y4 = 1)⟩], _, _, by rw [List.map_append]; rfl, ?_, by simp; omega⟩
    intro s hs
    rw [List.mem_append, List.mem_singleton] at hs
    rcases hs with hs | rfl
    · exact hs1 s hs
    · exact ⟨⟨ht1, by show t.dep ≤ 3; omega⟩, by show 0 ≤ y3 ∧ y3 ≤ 2; omega⟩
  · rintro ρ ⟨ss, o4, o5, rfl, hs1, hs2⟩
    simp only [Sim.T_ok, Sim.T_fail, Sim.T_bind, Sim.T_pureO, Sim.EndQ_nxt, Sim.EndQ_ret, Sim.lasts_nil, Sim.T_call, Sim.T_name, Sim.T_frz, Sim.T_const, Sim.T_sh, Sim.T_op2, Sim.T_op1, Sim.T_test, Sim.T_not, Sim.T_andM, Sim.T_orM, Sim.T_ifM, Sim.T_bl, Sim.T_andV, Sim.T_orV, Sim.T_notV, Sim.T_peek, Sim.T_vP, Sim.T_opP, Sim.T_nilA, Sim.T_consA, Sim.T_nilP, Sim.T_consP, Sim.T_tup, Sim.T_lst, Sim.T_noO, Sim.T_someO, Sim.T_slice, Sim.T_callM, Sim.resL_cons, Sim.resL_nil', Sim.T_isi, Sim.T_nil, Sim.T_brk, Sim.T_cnt, Sim.SeqQ_nxt, Sim.SeqQ_brk, Sim.SeqQ_cnt, Sim.SeqQ_ret, Sim.T_seq, Sim.T_set, Sim.T_drop, Sim.T_ret, Sim.T_retN, Sim.T_retS, Sim.T_asg, Sim.T_nameG, Sim.T_tupG, Sim.T_nilG, Sim.T_consG, Sim.T_aug, Sim.T_app, Sim.T_putD, Sim.T_newD, Sim.T_disp, Sim.T_iter, Sim.T_range1, Sim.T_range2, Sim.LoopQ_nxt, Sim.LoopQ_cnt, Sim.LoopQ_brk, Sim.LoopQ_ret, Sim.T_for, Sim.T_comp, Sim.T_yes, Sim.wipeR, Sim.T_rev, Sim.revD_lst, Sim.T_revR1, Sim.T_rg1, Sim.T_rg2, Sim.T_lstRg, Sim.T_tupRg, Sim.sumD_ints, Sim.ixDD_tup, Sim.ixDD_lst, Sim.ixDD_scr, Sim.ixDD_dct, Sim.atI_nat, Sim.atI_lit, Sim.lenD_tup, Sim.lenD_lst, Sim.lenD_scr, Sim.lenD_dct, Sim.addD_int, Sim.iaddD_int, Sim.subD_int, Sim.mulD_int, Sim.mulD_one, Sim.fdivD_int, Sim.modD_int, Sim.powD_int, Sim.addD_tup, Sim.addD_lst, Sim.negD_int, Sim.ltD_int, Sim.leD_int, Sim.gtD_int, Sim.geD_int, Sim.eqB_int, Sim.eqB_str, Sim.eqB_bl, Sim.eqB_non, Sim.eqD_of, Sim.neD_of, Sim.isD_non, Sim.isNotD_non, Sim.isN_non, Sim.isN_bl, Sim.isN_int, Sim.isN_str, Sim.isN_tup, Sim.isN_lst, Sim.frz_non, Sim.frz_bl, Sim.frz_int, Sim.frz_str, Sim.frz_tup, Sim.frz_lst, Sim.frz_dct, Sim.frz_scr, Sim.maxD_int, Sim.minD_int, Sim.absD_int, Sim.intD_int, Sim.tupleD_tup, Sim.tupleD_lst, Sim.listD_tup, Sim.listD_lst, Sim.listD_scr, Sim.itemsD_sh, Sim.itemsD_tup, Sim.itemsD_scr, Sim.isi_non, Sim.isi_bl, Sim.isi_int, Sim.isi_str, Sim.isi_tup, Sim.isi_lst, Sim.slice_tup, Sim.slice_lst, Sim.inDD_of, Sim.notInDD_of, Sim.inD_tup, Sim.inD_lst, Sim.inD_dct, Sim.cap, Sim.nat10, Sim.nat2, Nat.zero_le, Sim.ex_some, Sim.ex_some2, Sim.ex_if, Sim.ex_map, Sim.ex_eq, Sim.ex_bl, Sim.ex_int, Sim.ex_own, Sim.ex_lst, Sim.inr_at, Sim.inl_at, Sim.tt_c, Sim.ff_c, Sim.pad_nil, Sim.pad_n, Sim.nones_0, Sim.nones_s, List.getElem?_cons_zero, List.getElem?_cons_succ, List.set_cons_zero, List.set_cons_succ, List.map_cons, List.map_nil, List.cons_append, List.nil_append, Option.map_some, List.length_cons, List.length_nil, Int.zero_add, Nat.zero_add, Nat.reduceAdd, Nat.reduceLeDiff, Nat.reduceMul, true_and, and_true, decide_eq_true_eq, decide_eq_false_iff_not, Bool.false_eq_true, Bool.true_eq_false, false_implies, true_implies, implies_true, eq_self, decide_true, decide_false, not_true_eq_false, not_false_eq_true, Bool.not_true, Bool.not_false, Int.reduceLT, Int.reduceLE, Int.reduceNeg, Int.reducePow, Int.reduceToNat]
    exact ⟨ss, rfl, hs1, by omega⟩
theorem small_counts (a b k : Nat) (ha : a < 2) (hb : b < 2) (hk : 1 ≤ k) (hk3 : k ≤ 3) : ∃ cs : List Nat, ([D.int (1 + (a : Int)), .int (1 + (b : Int)), .int 1].take k) = (cs.map fun (x : Nat) => (x : Int)).map D.int ∧ cs.length = k ∧ (∀ c ∈ cs, 1 ≤ c ∧ c ≤ 2) ∧ cs.sum ≤ 5 ∧ 1 ≤ cs.sum := by
  have e1 : (1 + (a : Int)) = ((1 + a : Nat) : Int) := by omega
  have e2 : (1 + (b : Int)) = ((1 + b : Nat) : Int) := by omega
  rw [e1, e2]
  match k, hk, hk3 with
  | 1, _, _ => exact ⟨[1 + a], rfl, rfl, by simp; omega, by simp; omega, by simp⟩
  | 2, _, _ => exact ⟨[1 + a, 1 + b], rfl, rfl, by simp; omega, by simp; omega, by simp; omega⟩
  | 3, _, _ => exact ⟨[1 + a, 1 + b, 1], rfl, rfl, by simp; omega, by simp; omega, by simp; omega⟩
theorem sum_cast (cs : List Nat) : (cs.map fun (x : Nat) => (x : Int)).sum = ((cs.sum : Nat) : Int) := by
  induction cs with
  | nil => rfl
  | cons a l ih => rw [List.map_cons, List.sum_cons, List.sum_cons, ih]; omega
theorem take_sum {cs : List Nat} {p c : Nat} (h : cs[p]? = some c) : (cs.take (p + 1)).sum = (cs.take p).sum + c := by
  rw [List.take_succ, h, List.sum_append]
  simp
theorem str_len (a b : Str) : (a ++ b).length = a.length + b.length := by
  show (a.cps ++ b.cps).size = a.cps.size + b.cps.size
  exact Array.size_append
theorem plant_ok {R : Fs} (hd : DrawOk R.f__law_draw) (hm : MoveFn R.f__law_move) (hs : ∀ (ns : List Int) (n : Nat), 0 < n → FT R.f__law_sensors [.scr ns, .int n] fun d fs => fs = [] ∧ ∃ ss : List Sensor, d = .lst .own (ss.map Sensor.enc) ∧ (∀ s ∈ ss, SensorOk n s) ∧ ss.length ≤ 2) (ns : List Int) :
    FT (defF 14 [] (b__law_plant R)) [.scr ns] fun d fs => fs = [] ∧ ∃ p : Plant, d = p.enc ∧ PlantOk p := by
  refine FT_def ?_
  simp only [Sim.T_ok, Sim.T_fail, Sim.T_bind, Sim.T_pureO, Sim.EndQ_nxt, Sim.EndQ_ret, Sim.lasts_nil, Sim.T_call, Sim.T_name, Sim.T_frz, Sim.T_const, Sim.T_sh, Sim.T_op2, Sim.T_op1, Sim.T_test, Sim.T_not, Sim.T_andM, Sim.T_orM, Sim.T_ifM, Sim.T_bl, Sim.T_andV, Sim.T_orV, Sim.T_notV, Sim.T_peek, Sim.T_vP, Sim.T_opP, Sim.T_nilA, Sim.T_consA, Sim.T_nilP, Sim.T_consP, Sim.T_tup, Sim.T_lst, Sim.T_noO, Sim.T_someO, Sim.T_slice, Sim.T_callM, Sim.resL_cons, Sim.resL_nil', Sim.T_isi, Sim.T_nil, Sim.T_brk, Sim.T_cnt, Sim.SeqQ_nxt, Sim.SeqQ_brk, Sim.SeqQ_cnt, Sim.SeqQ_ret, Sim.T_seq, Sim.T_set, Sim.T_drop, Sim.T_ret, Sim.T_retN, Sim.T_retS, Sim.T_asg, Sim.T_nameG, Sim.T_tupG, Sim.T_nilG, Sim.T_consG, Sim.T_aug, Sim.T_app, Sim.T_putD, Sim.T_newD, Sim.T_disp, Sim.T_iter, Sim.T_range1, Sim.T_range2, Sim.LoopQ_nxt, Sim.LoopQ_cnt, Sim.LoopQ_brk, Sim.LoopQ_ret, Sim.T_for, Sim.T_comp, Sim.T_yes, Sim.wipeR, Sim.T_rev, Sim.revD_lst, Sim.T_revR1, Sim.T_rg1, Sim.T_rg2, Sim.T_lstRg, Sim.T_tupRg, Sim.sumD_ints, Sim.ixDD_tup, Sim.ixDD_lst, Sim.ixDD_scr, Sim.ixDD_dct, Sim.atI_nat, Sim.atI_lit, Sim.lenD_tup, Sim.lenD_lst, Sim.lenD_scr, Sim.lenD_dct, Sim.addD_int, Sim.iaddD_int, Sim.subD_int, Sim.mulD_int, Sim.mulD_one, Sim.fdivD_int, Sim.modD_int, Sim.powD_int, Sim.addD_tup, Sim.addD_lst, Sim.negD_int, Sim.ltD_int, Sim.leD_int, Sim.gtD_int, Sim.geD_int, Sim.eqB_int, Sim.eqB_str, Sim.eqB_bl, Sim.eqB_non, Sim.eqD_of, Sim.neD_of, Sim.isD_non, Sim.isNotD_non, Sim.isN_non, Sim.isN_bl, Sim.isN_int, Sim.isN_str, Sim.isN_tup, Sim.isN_lst, Sim.frz_non, Sim.frz_bl, Sim.frz_int, Sim.frz_str, Sim.frz_tup, Sim.frz_lst, Sim.frz_dct, Sim.frz_scr, Sim.maxD_int, Sim.minD_int, Sim.absD_int, Sim.intD_int, Sim.tupleD_tup, Sim.tupleD_lst, Sim.listD_tup, Sim.listD_lst, Sim.listD_scr, Sim.itemsD_sh, Sim.itemsD_tup, Sim.itemsD_scr, Sim.isi_non, Sim.isi_bl, Sim.isi_int, Sim.isi_str, Sim.isi_tup, Sim.isi_lst, Sim.slice_tup, Sim.slice_lst, Sim.inDD_of, Sim.notInDD_of, Sim.inD_tup, Sim.inD_lst, Sim.inD_dct, Sim.cap, Sim.nat10, Sim.nat2, Nat.zero_le, Sim.ex_some, Sim.ex_some2, Sim.ex_if, Sim.ex_map, Sim.ex_eq, Sim.ex_bl, Sim.ex_int, Sim.ex_own, Sim.ex_lst, Sim.inr_at, Sim.inl_at, Sim.tt_c, Sim.ff_c, Sim.pad_nil, Sim.pad_n, Sim.nones_0, Sim.nones_s, List.getElem?_cons_zero, List.getElem?_cons_succ, List.set_cons_zero, List.set_cons_succ, List.map_cons, List.map_nil, List.cons_append, List.nil_append, Option.map_some, List.length_cons, List.length_nil, Int.zero_add, Nat.zero_add, Nat.reduceAdd, Nat.reduceLeDiff, Nat.reduceMul, true_and, and_true, decide_eq_true_eq, decide_eq_false_iff_not, Bool.false_eq_true, Bool.true_eq_false, false_implies, true_implies, implies_true, eq_self, decide_true, decide_false, not_true_eq_false, not_false_eq_true, Bool.not_true, Bool.not_false, Int.reduceLT, Int.reduceLE, Int.reduceNeg, Int.reducePow, Int.reduceToNat, b__law_plant]
  refine FT_mono (hd ns 0 [3, 2, 2, 2, 4, 4, 4, 3] (by decide) (by decide)) ?_
  rintro _ _ ⟨rfl, hh, rfl, hx⟩
  obtain ⟨h0, _, e0, h00, h01⟩ := drawn_get hx (j := 0) rfl
  obtain ⟨h1, _, e1, h10, h11⟩ := drawn_get hx (j := 1) rfl
  obtain ⟨h2, _, e2, h20, h21⟩ := drawn_get hx (j := 2) rfl
  obtain ⟨h3, _, e3, h30, h31⟩ := drawn_get hx (j := 3) rfl
  obtain ⟨h4, _, e4, h40, h41⟩ := drawn_get hx (j := 4) rfl
  obtain ⟨h5, _, e5, h50, h51⟩ := drawn_get hx (j := 5) rfl
  obtain ⟨h6, _, e6, h60, h61⟩ := drawn_get hx (j := 6) rfl
  obtain ⟨a, rfl⟩ := Int.eq_ofNat_of_zero_le h10
  obtain ⟨b, rfl⟩ := Int.eq_ofNat_of_zero_le h20
  simp only [Sim.T_ok, Sim.T_fail, Sim.T_bind, Sim.T_pureO, Sim.EndQ_nxt, Sim.EndQ_ret, Sim.lasts_nil, Sim.T_call, Sim.T_name, Sim.T_frz, Sim.T_const, Sim.T_sh, Sim.T_op2, Sim.T_op1, Sim.T_test, Sim.T_not, Sim.T_andM, Sim.T_orM, Sim.T_ifM, Sim.T_bl, Sim.T_andV, Sim.T_orV, Sim.T_notV, Sim.T_peek, Sim.T_vP, Sim.T_opP, Sim.T_nilA, Sim.T_consA, Sim.T_nilP, Sim.T_consP, Sim.T_tup, Sim.T_lst, Sim.T_noO, Sim.T_someO, Sim.T_slice, Sim.T_callM, Sim.resL_cons, Sim.resL_nil', Sim.T_isi, Sim.T_nil, Sim.T_brk, Sim.T_cnt, Sim.SeqQ_nxt, Sim.SeqQ_brk, Sim.SeqQ_cnt, Sim.SeqQ_ret, Sim.T_seq, Sim.T_set, Sim.T_drop, Sim.T_ret, Sim.T_retN, Sim.T_retS, Sim.T_asg, Sim.T_nameG, Sim.T_tupG, Sim.T_nilG, Sim.T_consG, Sim.T_aug, Sim.T_app, Sim.T_putD, Sim.T_newD, Sim.T_disp, Sim.T_iter, Sim.T_range1, Sim.T_range2, Sim.LoopQ_nxt, Sim.LoopQ_cnt, Sim.LoopQ_brk, Sim.LoopQ_ret, Sim.T_for, Sim.T_comp, Sim.T_yes, Sim.wipeR, Sim.T_rev, Sim.revD_lst, Sim.T_revR1, Sim.T_rg1, Sim.T_rg2, Sim.T_lstRg, Sim.T_tupRg, Sim.sumD_ints, Sim.ixDD_tup, Sim.ixDD_lst, Sim.ixDD_scr, Sim.ixDD_dct, Sim.atI_nat, Sim.atI_lit, Sim.lenD_tup, Sim.lenD_lst, Sim.lenD_scr, Sim.lenD_dct, Sim.addD_int, Sim.iaddD_int, Sim.subD_int, Sim.mulD_int, Sim.mulD_one, Sim.fdivD_int, Sim.modD_int, Sim.powD_int, Sim.addD_tup, Sim.addD_lst, Sim.negD_int, Sim.ltD_int, Sim.leD_int, Sim.gtD_int, Sim.geD_int, Sim.eqB_int, Sim.eqB_str, Sim.eqB_bl, Sim.eqB_non, Sim.eqD_of, Sim.neD_of, Sim.isD_non, Sim.isNotD_non, Sim.isN_non, Sim.isN_bl, Sim.isN_int, Sim.isN_str, Sim.isN_tup, Sim.isN_lst, Sim.frz_non, Sim.frz_bl, Sim.frz_int, Sim.frz_str, Sim.frz_tup, Sim.frz_lst, Sim.frz_dct, Sim.frz_scr, Sim.maxD_int, Sim.minD_int, Sim.absD_int, Sim.intD_int, Sim.tupleD_tup, Sim.tupleD_lst, Sim.listD_tup, Sim.listD_lst, Sim.listD_scr, Sim.itemsD_sh, Sim.itemsD_tup, Sim.itemsD_scr, Sim.isi_non, Sim.isi_bl, Sim.isi_int, Sim.isi_str, Sim.isi_tup, Sim.isi_lst, Sim.slice_tup, Sim.slice_lst, Sim.inDD_of, Sim.notInDD_of, Sim.inD_tup, Sim.inD_lst, Sim.inD_dct, Sim.cap, Sim.nat10, Sim.nat2, Nat.zero_le, Sim.ex_some, Sim.ex_some2, Sim.ex_if, Sim.ex_map, Sim.ex_eq, Sim.ex_bl, Sim.ex_int, Sim.ex_own, Sim.ex_lst, Sim.inr_at, Sim.inl_at, Sim.tt_c, Sim.ff_c, Sim.pad_nil, Sim.pad_n, Sim.nones_0, Sim.nones_s, List.getElem?_cons_zero, List.getElem?_cons_succ, List.set_cons_zero, List.set_cons_succ, List.map_cons, List.map_nil, List.cons_append, List.nil_append, Option.map_some, List.length_cons, List.length_nil, Int.zero_add, Nat.zero_add, Nat.reduceAdd, Nat.reduceLeDiff, Nat.reduceMul, true_and, and_true, decide_eq_true_eq, decide_eq_false_iff_not, Bool.false_eq_true, Bool.true_eq_false, false_implies, true_implies, implies_true, eq_self, decide_true, decide_false, not_true_eq_false, not_false_eq_true, Bool.not_true, Bool.not_false, Int.reduceLT, Int.reduceLE, Int.reduceNeg, Int.reducePow, Int.reduceToNat, e0, e1, e2, e3]
  obtain ⟨k, hk⟩ := Int.eq_ofNat_of_zero_le (show 0 ≤ 1 + (if h0 - h3 > 0 then h0 - h3 else 0) by split <;> omega)
  have hk1 : 1 ≤ k ∧ k ≤ 3 := by split at hk <;> omega
  obtain ⟨cs, ec, hcl, hc, hs5, hs1⟩ := small_counts a b k (by omega) (by omega) hk1.1 hk1.2
  rw [hk, cutG_take, ec]
  simp only [Sim.T_ok, Sim.T_fail, Sim.T_bind, Sim.T_pureO, Sim.EndQ_nxt, Sim.EndQ_ret, Sim.lasts_nil, Sim.T_call, Sim.T_name, Sim.T_frz, Sim.T_const, Sim.T_sh, Sim.T_op2, Sim.T_op1, Sim.T_test, Sim.T_not, Sim.T_andM, Sim.T_orM, Sim.T_ifM, Sim.T_bl, Sim.T_andV, Sim.T_orV, Sim.T_notV, Sim.T_peek, Sim.T_vP, Sim.T_opP, Sim.T_nilA, Sim.T_consA, Sim.T_nilP, Sim.T_consP, Sim.T_tup, Sim.T_lst, Sim.T_noO, Sim.T_someO, Sim.T_slice, Sim.T_callM, Sim.resL_cons, Sim.resL_nil', Sim.T_isi, Sim.T_nil, Sim.T_brk, Sim.T_cnt, Sim.SeqQ_nxt, Sim.SeqQ_brk, Sim.SeqQ_cnt, Sim.SeqQ_ret, Sim.T_seq, Sim.T_set, Sim.T_drop, Sim.T_ret, Sim.T_retN, Sim.T_retS, Sim.T_asg, Sim.T_nameG, Sim.T_tupG, Sim.T_nilG, Sim.T_consG, Sim.T_aug, Sim.T_app, Sim.T_putD, Sim.T_newD, Sim.T_disp, Sim.T_iter, Sim.T_range1, Sim.T_range2, Sim.LoopQ_nxt, Sim.LoopQ_cnt, Sim.LoopQ_brk, Sim.LoopQ_ret, Sim.T_for, Sim.T_comp, Sim.T_yes, Sim.wipeR, Sim.T_rev, Sim.revD_lst, Sim.T_revR1, Sim.T_rg1, Sim.T_rg2, Sim.T_lstRg, Sim.T_tupRg, Sim.sumD_ints, Sim.ixDD_tup, Sim.ixDD_lst, Sim.ixDD_scr, Sim.ixDD_dct, Sim.atI_nat, Sim.atI_lit, Sim.lenD_tup, Sim.lenD_lst, Sim.lenD_scr, Sim.lenD_dct, Sim.addD_int, Sim.iaddD_int, Sim.subD_int, Sim.mulD_int, Sim.mulD_one, Sim.fdivD_int, Sim.modD_int, Sim.powD_int, Sim.addD_tup, Sim.addD_lst, Sim.negD_int, Sim.ltD_int, Sim.leD_int, Sim.gtD_int, Sim.geD_int, Sim.eqB_int, Sim.eqB_str, Sim.eqB_bl, Sim.eqB_non, Sim.eqD_of, Sim.neD_of, Sim.isD_non, Sim.isNotD_non, Sim.isN_non, Sim.isN_bl, Sim.isN_int, Sim.isN_str, Sim.isN_tup, Sim.isN_lst, Sim.frz_non, Sim.frz_bl, Sim.frz_int, Sim.frz_str, Sim.frz_tup, Sim.frz_lst, Sim.frz_dct, Sim.frz_scr, Sim.maxD_int, Sim.minD_int, Sim.absD_int, Sim.intD_int, Sim.tupleD_tup, Sim.tupleD_lst, Sim.listD_tup, Sim.listD_lst, Sim.listD_scr, Sim.itemsD_sh, Sim.itemsD_tup, Sim.itemsD_scr, Sim.isi_non, Sim.isi_bl, Sim.isi_int, Sim.isi_str, Sim.isi_tup, Sim.isi_lst, Sim.slice_tup, Sim.slice_lst, Sim.inDD_of, Sim.notInDD_of, Sim.inD_tup, Sim.inD_lst, Sim.inD_dct, Sim.cap, Sim.nat10, Sim.nat2, Nat.zero_le, Sim.ex_some, Sim.ex_some2, Sim.ex_if, Sim.ex_map, Sim.ex_eq, Sim.ex_bl, Sim.ex_int, Sim.ex_own, Sim.ex_lst, Sim.inr_at, Sim.inl_at, Sim.tt_c, Sim.ff_c, Sim.pad_nil, Sim.pad_n, Sim.nones_0, Sim.nones_s, List.getElem?_cons_zero, List.getElem?_cons_succ, List.set_cons_zero, List.set_cons_succ, List.map_cons, List.map_nil, List.cons_append, List.nil_append, Option.map_some, List.length_cons, List.length_nil, Int.zero_add, Nat.zero_add, Nat.reduceAdd, Nat.reduceLeDiff, Nat.reduceMul, true_and, and_true, decide_eq_true_eq, decide_eq_false_iff_not, Bool.false_eq_true, Bool.true_eq_false, false_implies, true_implies, implies_true, eq_self, decide_true, decide_false, not_true_eq_false, not_false_eq_true, Bool.not_true, Bool.not_false, Int.reduceLT, Int.reduceLE, Int.reduceNeg, Int.reducePow, Int.reduceToNat, sumD_ints, sum_cast, List.length_map]
  have hms : ∀ p : Nat, ∃ x : Int, atI (hh.map D.int) (4 + ((p : Int) % 3)) = some (.int x) ∧ 0 ≤ x := fun p => by
    have : (p : Int) % 3 = 0 ∨ (p : Int) % 3 = 1 ∨ (p : Int) % 3 = 2 := by omega
    rcases this with e | e | e <;> rw [e]
    · exact ⟨h4, by rw [← e4]; exact atI_lit _ 4, h40⟩
    · exact ⟨h5, by rw [← e5]; exact atI_lit _ 5, h50⟩
    · exact ⟨h6, by rw [← e6]; exact atI_lit _ 6, h60⟩
  refine ⟨by omega, ?_⟩
  rw [Int.toNat_natCast]
  refine T_cut (fun ρ => ∃ (vs : List Var) (ps : List Part) (o6 o7 o8 o9 o10 o11 o12 o13 o14 : Option D), ρ = [some (.scr ns), some (.lst .sh (hh.map .int)), some (.lst .sh ((cs.map fun (x : Nat) => (x : Int)).map .int)), some (.int cs.sum), some (.lst .own (vs.map Var.enc)), some (.lst .own (ps.map Part.enc)), o6, o7, o8, o9, o10, o11, o12, o13, o14] ∧
    vs.length = cs.sum ∧ (∀ v ∈ vs, VarOk v) ∧ ps.length = cs.length ∧ chainOk 0 ps vs.length ∧ (∀ q ∈ ps, PartOk cs.sum q)) ?_ ?_
  · refine T_goR (fun p ρ => ∃ (vs : List Var) (ps : List Part) (at_ : Nat) (o7 o8 o9 o10 o11 o12 o13 o14 : Option D), ρ = [some (.scr ns), some (.lst .sh (hh.map .int)), some (.lst .sh ((cs.map fun (x : Nat) => (x : Int)).map .int)), some (.int cs.sum), some (.lst .own (vs.map Var.enc)), some (.lst .own (ps.map Part.enc)), some (.int at_), o7, o8, o9, o10, o11, o12, o13, o14] ∧
      vs.length = (cs.take p).sum ∧ (∀ v ∈ vs, VarOk v) ∧ ps.length = p ∧ chainOk 0 ps vs.length ∧ (∀ q ∈ ps, PartOk cs.sum q)) ⟨[], [], 1, none, none, none, none, none, none, none, none, rfl, rfl, by simp, rfl, rfl, by simp⟩ ?_ ?_
    · intro p ρ hp hI
      obtain ⟨vs, ps, at_, o7, o8, o9, o10, o11, o12, o13, o14, hρ, hvl, hv, hpl, hch, hpo⟩ := hI
      subst hρ
      obtain ⟨c, hcp⟩ : ∃ c, cs[p]? = some c := ⟨_, List.getElem?_eq_getElem hp⟩
      have hc2 := hc c (List.mem_of_getElem? hcp)
      have hcg : ((cs.map fun (x : Nat) => (x : Int)).map D.int)[p]? = some (.int c) := by rw [List.map_map, List.getElem?_map, hcp]; rfl
      have hle : (cs.take p).sum + c ≤ cs.sum := by
        rw [← take_sum hcp]
        have := List.take_append_drop (p + 1) cs
        have h2 : cs.sum = (cs.take (p + 1)).sum + (cs.drop (p + 1)).sum := by rw [← List.sum_append, this]
        omega
      simp only [Sim.T_ok, Sim.T_fail, Sim.T_bind, Sim.T_pureO, Sim.EndQ_nxt, Sim.EndQ_ret, Sim.lasts_nil, Sim.T_call, Sim.T_name, Sim.T_frz, Sim.T_const, Sim.T_sh, Sim.T_op2, Sim.T_op1, Sim.T_test, Sim.T_not, Sim.T_andM, Sim.T_orM, Sim.T_ifM, Sim.T_bl, Sim.T_andV, Sim.T_orV, Sim.T_notV, Sim.T_peek, Sim.T_vP, Sim.T_opP, Sim.T_nilA, Sim.T_consA, Sim.T_nilP, Sim.T_consP, Sim.T_tup, Sim.T_lst, Sim.T_noO, Sim.T_someO, Sim.T_slice, Sim.T_callM, Sim.resL_cons, Sim.resL_nil', Sim.T_isi, Sim.T_nil, Sim.T_brk, Sim.T_cnt, Sim.SeqQ_nxt, Sim.SeqQ_brk, Sim.SeqQ_cnt, Sim.SeqQ_ret, Sim.T_seq, Sim.T_set, Sim.T_drop, Sim.T_ret, Sim.T_retN, Sim.T_retS, Sim.T_asg, Sim.T_nameG, Sim.T_tupG, Sim.T_nilG, Sim.T_consG, Sim.T_aug, Sim.T_app, Sim.T_putD, Sim.T_newD, Sim.T_disp, Sim.T_iter, Sim.T_range1, Sim.T_range2, Sim.LoopQ_nxt, Sim.LoopQ_cnt, Sim.LoopQ_brk, Sim.LoopQ_ret, Sim.T_for, Sim.T_comp, Sim.T_yes, Sim.wipeR, Sim.T_rev, Sim.revD_lst, Sim.T_revR1, Sim.T_rg1, Sim.T_rg2, Sim.T_lstRg, Sim.T_tupRg, Sim.sumD_ints, Sim.ixDD_tup, Sim.ixDD_lst, Sim.ixDD_scr, Sim.ixDD_dct, Sim.atI_nat, Sim.atI_lit, Sim.lenD_tup, Sim.lenD_lst, Sim.lenD_scr, Sim.lenD_dct, Sim.addD_int, Sim.iaddD_int, Sim.subD_int, Sim.mulD_int, Sim.mulD_one, Sim.fdivD_int, Sim.modD_int, Sim.powD_int, Sim.addD_tup, Sim.addD_lst, Sim.negD_int, Sim.ltD_int, Sim.leD_int, Sim.gtD_int, Sim.geD_int, Sim.eqB_int, Sim.eqB_str, Sim.eqB_bl, Sim.eqB_non, Sim.eqD_of, Sim.neD_of, Sim.isD_non, Sim.isNotD_non, Sim.isN_non, Sim.isN_bl, Sim.isN_int, Sim.isN_str, Sim.isN_tup, Sim.isN_lst, Sim.frz_non, Sim.frz_bl, Sim.frz_int, Sim.frz_str, Sim.frz_tup, Sim.frz_lst, Sim.frz_dct, Sim.frz_scr, Sim.maxD_int, Sim.minD_int, Sim.absD_int, Sim.intD_int, Sim.tupleD_tup, Sim.tupleD_lst, Sim.listD_tup, Sim.listD_lst, Sim.listD_scr, Sim.itemsD_sh, Sim.itemsD_tup, Sim.itemsD_scr, Sim.isi_non, Sim.isi_bl, Sim.isi_int, Sim.isi_str, Sim.isi_tup, Sim.isi_lst, Sim.slice_tup, Sim.slice_lst, Sim.inDD_of, Sim.notInDD_of, Sim.inD_tup, Sim.inD_lst, Sim.inD_dct, Sim.cap, Sim.nat10, Sim.nat2, Nat.zero_le, Sim.ex_some, Sim.ex_some2, Sim.ex_if, Sim.ex_map, Sim.ex_eq, Sim.ex_bl, Sim.ex_int, Sim.ex_own, Sim.ex_lst, Sim.inr_at, Sim.inl_at, Sim.tt_c, Sim.ff_c, Sim.pad_nil, Sim.pad_n, Sim.nones_0, Sim.nones_s, List.getElem?_cons_zero, List.getElem?_cons_succ, List.set_cons_zero, List.set_cons_succ, List.map_cons, List.map_nil, List.cons_append, List.nil_append, Option.map_some, List.length_cons, List.length_nil, Int.zero_add, Nat.zero_add, Nat.reduceAdd, Nat.reduceLeDiff, Nat.reduceMul, true_and, and_true, decide_eq_true_eq, decide_eq_false_iff_not, Bool.false_eq_true, Bool.true_eq_false, false_implies, true_implies, implies_true, eq_self, decide_true, decide_false, not_true_eq_false, not_false_eq_true, Bool.not_true, Bool.not_false, Int.reduceLT, Int.reduceLE, Int.reduceNeg, Int.reducePow, Int.reduceToNat, hcg, List.length_map]
      refine ⟨by omega, ?_⟩
      rw [Int.toNat_natCast]
      refine T_cut (fun ρ => ∃ (vs' : List Var) (at_ : Nat) (o9 o10 o11 o12 o13 o14 : Option D), ρ = [some (.scr ns), some (.lst .sh (hh.map .int)), some (.lst .sh ((cs.map fun (x : Nat) => (x : Int)).map .int)), some (.int cs.sum), some (.lst .own (vs'.map Var.enc)), some (.lst .own (ps.map Part.enc)), some (.int at_), some (.int p), some (.int vs.length), o9, o10, o11, o12, o13, o14] ∧
        vs'.length = vs.length + c ∧ (∀ v ∈ vs', VarOk v)) ?_ ?_
      · refine T_goR (fun j ρ => ∃ (vs' : List Var) (at_ : Nat) (o9 o10 o11 o12 o13 o14 : Option D), ρ = [some (.scr ns), some (.lst .sh (hh.map .int)), some (.lst .sh ((cs.map fun (x : Nat) => (x : Int)).map .int)), some (.int cs.sum), some (.lst .own (vs'.map Var.enc)), some (.lst .own (ps.map Part.enc)), some (.int at_), some (.int p), some (.int vs.length), o9, o10, o11, o12, o13, o14] ∧
          vs'.length = vs.length + j ∧ (∀ v ∈ vs', VarOk v)) ⟨vs, at_, _, _, _, _, _, _, rfl, rfl, hv⟩ ?_ ?_
        · intro j ρ hj hI
          obtain ⟨vs', at_, o9, o10, o11, o12, o13, o14, hρ, hvl', hv'⟩ := hI
          subst hρ
          simp only [Sim.T_ok, Sim.T_fail, Sim.T_bind, Sim.T_pureO, Sim.EndQ_nxt, Sim.EndQ_ret, Sim.lasts_nil, Sim.T_call, Sim.T_name, Sim.T_frz, Sim.T_const, Sim.T_sh, Sim.T_op2, Sim.T_op1, Sim.T_test, Sim.T_not, Sim.T_andM, Sim.T_orM, Sim.T_ifM, Sim.T_bl, Sim.T_andV, Sim.T_orV, Sim.T_notV, Sim.T_peek, Sim.T_vP, Sim.T_opP, Sim.T_nilA, Sim.T_consA, Sim.T_nilP, Sim.T_consP, Sim.T_tup, Sim.T_lst, Sim.T_noO, Sim.T_someO, Sim.T_slice, Sim.T_callM, Sim.resL_cons, Sim.resL_nil', Sim.T_isi, Sim.T_nil, Sim.T_brk, Sim.T_cnt, Sim.SeqQ_nxt, Sim.SeqQ_brk, Sim.SeqQ_cnt, Sim.SeqQ_ret, Sim.T_seq, Sim.T_set, Sim.T_drop, Sim.T_ret, Sim.T_retN, Sim.T_retS, Sim.T_asg, Sim.T_nameG, Sim.T_tupG, Sim.T_nilG, Sim.T_consG, Sim.T_aug, Sim.T_app, Sim.T_putD, Sim.T_newD, Sim.T_disp, Sim.T_iter, Sim.T_range1, Sim.T_range2, Sim.LoopQ_nxt, Sim.LoopQ_cnt, Sim.LoopQ_brk, Sim.LoopQ_ret, Sim.T_for, Sim.T_comp, Sim.T_yes, Sim.wipeR, Sim.T_rev, Sim.revD_lst, Sim.T_revR1, Sim.T_rg1, Sim.T_rg2, Sim.T_lstRg, Sim.T_tupRg, Sim.sumD_ints, Sim.ixDD_tup, Sim.ixDD_lst, Sim.ixDD_scr, Sim.ixDD_dct, Sim.atI_nat, Sim.atI_lit, Sim.lenD_tup, Sim.lenD_lst, Sim.lenD_scr, Sim.lenD_dct, Sim.addD_int, Sim.iaddD_int, Sim.subD_int, Sim.mulD_int, Sim.mulD_one, Sim.fdivD_int, Sim.modD_int, Sim.powD_int, Sim.addD_tup, Sim.addD_lst, Sim.negD_int, Sim.ltD_int, Sim.leD_int, Sim.gtD_int, Sim.geD_int, Sim.eqB_int, Sim.eqB_str, Sim.eqB_bl, Sim.eqB_non, Sim.eqD_of, Sim.neD_of, Sim.isD_non, Sim.isNotD_non, Sim.isN_non, Sim.isN_bl, Sim.isN_int, Sim.isN_str, Sim.isN_tup, Sim.isN_lst, Sim.frz_non, Sim.frz_bl, Sim.frz_int, Sim.frz_str, Sim.frz_tup, Sim.frz_lst, Sim.frz_dct, Sim.frz_scr, Sim.maxD_int, Sim.minD_int, Sim.absD_int, Sim.intD_int, Sim.tupleD_tup, Sim.tupleD_lst, Sim.listD_tup, Sim.listD_lst, Sim.listD_scr, Sim.itemsD_sh, Sim.itemsD_tup, Sim.itemsD_scr, Sim.isi_non, Sim.isi_bl, Sim.isi_int, Sim.isi_str, Sim.isi_tup, Sim.isi_lst, Sim.slice_tup, Sim.slice_lst, Sim.inDD_of, Sim.notInDD_of, Sim.inD_tup, Sim.inD_lst, Sim.inD_dct, Sim.cap, Sim.nat10, Sim.nat2, Nat.zero_le, Sim.ex_some, Sim.ex_some2, Sim.ex_if, Sim.ex_map, Sim.ex_eq, Sim.ex_bl, Sim.ex_int, Sim.ex_own, Sim.ex_lst, Sim.inr_at, Sim.inl_at, Sim.tt_c, Sim.ff_c, Sim.pad_nil, Sim.pad_n, Sim.nones_0, Sim.nones_s, List.getElem?_cons_zero, List.getElem?_cons_succ, List.set_cons_zero, List.set_cons_succ, List.map_cons, List.map_nil, List.cons_append, List.nil_append, Option.map_some, List.length_cons, List.length_nil, Int.zero_add, Nat.zero_add, Nat.reduceAdd, Nat.reduceLeDiff, Nat.reduceMul, true_and, and_true, decide_eq_true_eq, decide_eq_false_iff_not, Bool.false_eq_true, Bool.true_eq_false, false_implies, true_implies, implies_true, eq_self, decide_true, decide_false, not_true_eq_false, not_false_eq_true, Bool.not_true, Bool.not_false, Int.reduceLT, Int.reduceLE, Int.reduceNeg, Int.reducePow, Int.reduceToNat]
          refine FT_mono (hd ns at_ [3, 3, 3, 3] (by decide) (by decide)) ?_
          rintro _ _ ⟨rfl, sz, rfl, hx⟩
          obtain ⟨s0, _, es0, s00, s01⟩ := drawn_get hx (j := 0) rfl
          obtain ⟨s1, _, es1, s10, s11⟩ := drawn_get hx (j := 1) rfl
          obtain ⟨s2, _, es2, s20, s21⟩ := drawn_get hx (j := 2) rfl
          obtain ⟨s3, _, es3, s30, s31⟩ := drawn_get hx (j := 3) rfl
          obtain ⟨q1, q2⟩ := num_str p (by omega)
          obtain ⟨q3, q4⟩ := num_str j (by omega)
          have m1 := Int.emod_nonneg s2 (show s1 + 1 ≠ 0 by omega)
          have m2 := Int.emod_lt_of_pos s2 (show 0 < s1 + 1 by omega)
          have pos : 0 < s0 - 1 + s1 - (s0 - 1 + s2 % (s1 + 1)) + 1 := by omega
          have m3 := Int.emod_nonneg s3 (show s0 - 1 + s1 - (s0 - 1 + s2 % (s1 + 1)) + 1 ≠ 0 by omega)
          have m4 := Int.emod_lt_of_pos s3 pos
          simp only [Sim.T_ok, Sim.T_fail, Sim.T_bind, Sim.T_pureO, Sim.EndQ_nxt, Sim.EndQ_ret, Sim.lasts_nil, Sim.T_call, Sim.T_name, Sim.T_frz, Sim.T_const, Sim.T_sh, Sim.T_op2, Sim.T_op1, Sim.T_test, Sim.T_not, Sim.T_andM, Sim.T_orM, Sim.T_ifM, Sim.T_bl, Sim.T_andV, Sim.T_orV, Sim.T_notV, Sim.T_peek, Sim.T_vP, Sim.T_opP, Sim.T_nilA, Sim.T_consA, Sim.T_nilP, Sim.T_consP, Sim.T_tup, Sim.T_lst, Sim.T_noO, Sim.T_someO, Sim.T_slice, Sim.T_callM, Sim.resL_cons, Sim.resL_nil', Sim.T_isi, Sim.T_nil, Sim.T_brk, Sim.T_cnt, Sim.SeqQ_nxt, Sim.SeqQ_brk, Sim.SeqQ_cnt, Sim.SeqQ_ret, Sim.T_seq, Sim.T_set, Sim.T_drop, Sim.T_ret, Sim.T_retN, Sim.T_retS, Sim.T_asg, Sim.T_nameG, Sim.T_tupG, Sim.T_nilG, Sim.T_consG, Sim.T_aug, Sim.T_app, Sim.T_putD, Sim.T_newD, Sim.T_disp, Sim.T_iter, Sim.T_range1, Sim.T_range2, Sim.LoopQ_nxt, Sim.LoopQ_cnt, Sim.LoopQ_brk, Sim.LoopQ_ret, Sim.T_for, Sim.T_comp, Sim.T_yes, Sim.wipeR, Sim.T_rev, Sim.revD_lst, Sim.T_revR1, Sim.T_rg1, Sim.T_rg2, Sim.T_lstRg, Sim.T_tupRg, Sim.sumD_ints, Sim.ixDD_tup, Sim.ixDD_lst, Sim.ixDD_scr, Sim.ixDD_dct, Sim.atI_nat, Sim.atI_lit, Sim.lenD_tup, Sim.lenD_lst, Sim.lenD_scr, Sim.lenD_dct, Sim.addD_int, Sim.iaddD_int, Sim.subD_int, Sim.mulD_int, Sim.mulD_one, Sim.fdivD_int, Sim.modD_int, Sim.powD_int, Sim.addD_tup, Sim.addD_lst, Sim.negD_int, Sim.ltD_int, Sim.leD_int, Sim.gtD_int, Sim.geD_int, Sim.eqB_int, Sim.eqB_str, Sim.eqB_bl, Sim.eqB_non, Sim.eqD_of, Sim.neD_of, Sim.isD_non, Sim.isNotD_non, Sim.isN_non, Sim.isN_bl, Sim.isN_int, Sim.isN_str, Sim.isN_tup, Sim.isN_lst, Sim.frz_non, Sim.frz_bl, Sim.frz_int, Sim.frz_str, Sim.frz_tup, Sim.frz_lst, Sim.frz_dct, Sim.frz_scr, Sim.maxD_int, Sim.minD_int, Sim.absD_int, Sim.intD_int, Sim.tupleD_tup, Sim.tupleD_lst, Sim.listD_tup, Sim.listD_lst, Sim.listD_scr, Sim.itemsD_sh, Sim.itemsD_tup, Sim.itemsD_scr, Sim.isi_non, Sim.isi_bl, Sim.isi_int, Sim.isi_str, Sim.isi_tup, Sim.isi_lst, Sim.slice_tup, Sim.slice_lst, Sim.inDD_of, Sim.notInDD_of, Sim.inD_tup, Sim.inD_lst, Sim.inD_dct, Sim.cap, Sim.nat10, Sim.nat2, Nat.zero_le, Sim.ex_some, Sim.ex_some2, Sim.ex_if, Sim.ex_map, Sim.ex_eq, Sim.ex_bl, Sim.ex_int, Sim.ex_own, Sim.ex_lst, Sim.inr_at, Sim.inl_at, Sim.tt_c, Sim.ff_c, Sim.pad_nil, Sim.pad_n, Sim.nones_0, Sim.nones_s, List.getElem?_cons_zero, List.getElem?_cons_succ, List.set_cons_zero, List.set_cons_succ, List.map_cons, List.map_nil, List.cons_append, List.nil_append, Option.map_some, List.length_cons, List.length_nil, Int.zero_add, Nat.zero_add, Nat.reduceAdd, Nat.reduceLeDiff, Nat.reduceMul, true_and, and_true, decide_eq_true_eq, decide_eq_false_iff_not, Bool.false_eq_true, Bool.true_eq_false, false_implies, true_implies, implies_true, eq_self, decide_true, decide_false, not_true_eq_false, not_false_eq_true, Bool.not_true, Bool.not_false, Int.reduceLT, Int.reduceLE, Int.reduceNeg, Int.reducePow, Int.reduceToNat, es0, es1, es2, es3, q1, q3]
          have l1 : ("p" : Str).length = 1 := rfl
          have l2 : (".v" : Str).length = 2 := rfl
          have l3 : (("p" : Str) ++ numS p).length = ("p" : Str).length + (numS p).length := str_len _ _
          have l4 : (("p" : Str) ++ numS p ++ (".v" : Str)).length = (("p" : Str) ++ numS p).length + (".v" : Str).length := str_len _ _
          refine ⟨by omega, pos, _, addD_str _ _ (by show _ ≤ 16777216; omega), _, addD_str _ _ (by show _ ≤ 16777216; omega), _, addD_str _ _ (by show _ ≤ 16777216; omega), by simp; omega, vs' ++ [⟨_, s0 - 1, s0 - 1 + s1, s0 - 1 + s2 % (s1 + 1), _⟩], at_ + 1, _, _, _, _, _, _, by rw [List.map_append]; rfl, by simp; omega, ?_⟩
          intro v hv
          rw [List.mem_append, List.mem_singleton] at hv
          rcases hv with hv | rfl
          · exact hv' v hv
          · exact ⟨by show -1 ≤ s0 - 1 ∧ s0 - 1 ≤ s0 - 1 + s2 % (s1 + 1) ∧ s0 - 1 + s2 % (s1 + 1) ≤ s0 - 1 + s2 % (s1 + 1) + s3 % (s0 - 1 + s1 - (s0 - 1 + s2 % (s1 + 1)) + 1) ∧ s0 - 1 + s2 % (s1 + 1) + s3 % (s0 - 1 + s1 - (s0 - 1 + s2 % (s1 + 1)) + 1) ≤ s0 - 1 + s1 ∧ s0 - 1 + s1 ≤ s0 - 1 + 2 ∧ s0 - 1 ≤ 1; omega⟩
        · rintro ρ ⟨vs', at_, o9, o10, o11, o12, o13, o14, rfl, hvl', hv'⟩
          exact ⟨rfl, vs', at_, o9, o10, o11, o12, o13, o14, rfl, hvl', hv'⟩
      · rintro ρ ⟨vs', at_, o9, o10, o11, o12, o13, o14, rfl, hvl', hv'⟩
        obtain ⟨x, ex, hx⟩ := hms p
        simp only [Sim.T_ok, Sim.T_fail, Sim.T_bind, Sim.T_pureO, Sim.EndQ_nxt, Sim.EndQ_ret, Sim.lasts_nil, Sim.T_call, Sim.T_name, Sim.T_frz, Sim.T_const, Sim.T_sh, Sim.T_op2, Sim.T_op1, Sim.T_test, Sim.T_not, Sim.T_andM, Sim.T_orM, Sim.T_ifM, Sim.T_bl, Sim.T_andV, Sim.T_orV, Sim.T_notV, Sim.T_peek, Sim.T_vP, Sim.T_opP, Sim.T_nilA, Sim.T_consA, Sim.T_nilP, Sim.T_consP, Sim.T_tup, Sim.T_lst, Sim.T_noO, Sim.T_someO, Sim.T_slice, Sim.T_callM, Sim.resL_cons, Sim.resL_nil', Sim.T_isi, Sim.T_nil, Sim.T_brk, Sim.T_cnt, Sim.SeqQ_nxt, Sim.SeqQ_brk, Sim.SeqQ_cnt, Sim.SeqQ_ret, Sim.T_seq, Sim.T_set, Sim.T_drop, Sim.T_ret, Sim.T_retN, Sim.T_retS, Sim.T_asg, Sim.T_nameG, Sim.T_tupG, Sim.T_nilG, Sim.T_consG, Sim.T_aug, Sim.T_app, Sim.T_putD, Sim.T_newD, Sim.T_disp, Sim.T_iter, Sim.T_range1, Sim.T_range2, Sim.LoopQ_nxt, Sim.LoopQ_cnt, Sim.LoopQ_brk, Sim.LoopQ_ret, Sim.T_for, Sim.T_comp, Sim.T_yes, Sim.wipeR, Sim.T_rev, Sim.revD_lst, Sim.T_revR1, Sim.T_rg1, Sim.T_rg2, Sim.T_lstRg, Sim.T_tupRg, Sim.sumD_ints, Sim.ixDD_tup, Sim.ixDD_lst, Sim.ixDD_scr, Sim.ixDD_dct, Sim.atI_nat, Sim.atI_lit, Sim.lenD_tup, Sim.lenD_lst, Sim.lenD_scr, Sim.lenD_dct, Sim.addD_int, Sim.iaddD_int, Sim.subD_int, Sim.mulD_int, Sim.mulD_one, Sim.fdivD_int, Sim.modD_int, Sim.powD_int, Sim.addD_tup, Sim.addD_lst, Sim.negD_int, Sim.ltD_int, Sim.leD_int, Sim.gtD_int, Sim.geD_int, Sim.eqB_int, Sim.eqB_str, Sim.eqB_bl, Sim.eqB_non, Sim.eqD_of, Sim.neD_of, Sim.isD_non, Sim.isNotD_non, Sim.isN_non, Sim.isN_bl, Sim.isN_int, Sim.isN_str, Sim.isN_tup, Sim.isN_lst, Sim.frz_non, Sim.frz_bl, Sim.frz_int, Sim.frz_str, Sim.frz_tup, Sim.frz_lst, Sim.frz_dct, Sim.frz_scr, Sim.maxD_int, Sim.minD_int, Sim.absD_int, Sim.intD_int, Sim.tupleD_tup, Sim.tupleD_lst, Sim.listD_tup, Sim.listD_lst, Sim.listD_scr, Sim.itemsD_sh, Sim.itemsD_tup, Sim.itemsD_scr, Sim.isi_non, Sim.isi_bl, Sim.isi_int, Sim.isi_str, Sim.isi_tup, Sim.isi_lst, Sim.slice_tup, Sim.slice_lst, Sim.inDD_of, Sim.notInDD_of, Sim.inD_tup, Sim.inD_lst, Sim.inD_dct, Sim.cap, Sim.nat10, Sim.nat2, Nat.zero_le, Sim.ex_some, Sim.ex_some2, Sim.ex_if, Sim.ex_map, Sim.ex_eq, Sim.ex_bl, Sim.ex_int, Sim.ex_own, Sim.ex_lst, Sim.inr_at, Sim.inl_at, Sim.tt_c, Sim.ff_c, Sim.pad_nil, Sim.pad_n, Sim.nones_0, Sim.nones_s, List.getElem?_cons_zero, List.getElem?_cons_succ, List.set_cons_zero, List.set_cons_succ, List.map_cons, List.map_nil, List.cons_append, List.nil_append, Option.map_some, List.length_cons, List.length_nil, Int.zero_add, Nat.zero_add, Nat.reduceAdd, Nat.reduceLeDiff, Nat.reduceMul, true_and, and_true, decide_eq_true_eq, decide_eq_false_iff_not, Bool.false_eq_true, Bool.true_eq_false, false_implies, true_implies, implies_true, eq_self, decide_true, decide_false, not_true_eq_false, not_false_eq_true, Bool.not_true, Bool.not_false, Int.reduceLT, Int.reduceLE, Int.reduceNeg, Int.reducePow, Int.reduceToNat, ex]
        obtain ⟨k4, hk4⟩ := Int.eq_ofNat_of_zero_le (show 0 ≤ 1 + x % 4 by omega)
        have hk5 : 1 ≤ k4 ∧ k4 ≤ 4 := by omega
        rw [hk4]
        refine ⟨by omega, ?_⟩
        rw [Int.toNat_natCast]
        refine T_cut (fun ρ => ∃ (ms : List Move) (at_ : Nat) (o9 : Option D), ρ = [some (.scr ns), some (.lst .sh (hh.map .int)), some (.lst .sh ((cs.map fun (x : Nat) => (x : Int)).map .int)), some (.int cs.sum), some (.lst .own (vs'.map Var.enc)), some (.lst .own (ps.map Part.enc)), some (.int at_), some (.int p), some (.int vs.length), o9, o10, o11, o12, o13, some (.lst .own (ms.map Move.enc))] ∧
          ms.length = k4 ∧ ∀ m ∈ ms, MoveOk cs.sum vs.length c m) ?_ ?_
        · refine T_goR (fun j ρ => ∃ (ms : List Move) (at_ : Nat) (o9 : Option D), ρ = [some (.scr ns), some (.lst .sh (hh.map .int)), some (.lst .sh ((cs.map fun (x : Nat) => (x : Int)).map .int)), some (.int cs.sum), some (.lst .own (vs'.map Var.enc)), some (.lst .own (ps.map Part.enc)), some (.int at_), some (.int p), some (.int vs.length), o9, o10, o11, o12, o13, some (.lst .own (ms.map Move.enc))] ∧
            ms.length = j ∧ ∀ m ∈ ms, MoveOk cs.sum vs.length c m) ⟨[], at_, _, rfl, rfl, by simp⟩ ?_ ?_
          · intro j ρ hj hI
            obtain ⟨ms, at_, o9, hρ, hml, hmm⟩ := hI
            subst hρ
            simp only [Sim.T_ok, Sim.T_fail, Sim.T_bind, Sim.T_pureO, Sim.EndQ_nxt, Sim.EndQ_ret, Sim.lasts_nil, Sim.T_call, Sim.T_name, Sim.T_frz, Sim.T_const, Sim.T_sh, Sim.T_op2, Sim.T_op1, Sim.T_test, Sim.T_not, Sim.T_andM, Sim.T_orM, Sim.T_ifM, Sim.T_bl, Sim.T_andV, Sim.T_orV, Sim.T_notV, Sim.T_peek, Sim.T_vP, Sim.T_opP, Sim.T_nilA, Sim.T_consA, Sim.T_nilP, Sim.T_consP, Sim.T_tup, Sim.T_lst, Sim.T_noO, Sim.T_someO, Sim.T_slice, Sim.T_callM, Sim.resL_cons, Sim.resL_nil', Sim.T_isi, Sim.T_nil, Sim.T_brk, Sim.T_cnt, Sim.SeqQ_nxt, Sim.SeqQ_brk, Sim.SeqQ_cnt, Sim.SeqQ_ret, Sim.T_seq, Sim.T_set, Sim.T_drop, Sim.T_ret, Sim.T_retN, Sim.T_retS, Sim.T_asg, Sim.T_nameG, Sim.T_tupG, Sim.T_nilG, Sim.T_consG, Sim.T_aug, Sim.T_app, Sim.T_putD, Sim.T_newD, Sim.T_disp, Sim.T_iter, Sim.T_range1, Sim.T_range2, Sim.LoopQ_nxt, Sim.LoopQ_cnt, Sim.LoopQ_brk, Sim.LoopQ_ret, Sim.T_for, Sim.T_comp, Sim.T_yes, Sim.wipeR, Sim.T_rev, Sim.revD_lst, Sim.T_revR1, Sim.T_rg1, Sim.T_rg2, Sim.T_lstRg, Sim.T_tupRg, Sim.sumD_ints, Sim.ixDD_tup, Sim.ixDD_lst, Sim.ixDD_scr, Sim.ixDD_dct, Sim.atI_nat, Sim.atI_lit, Sim.lenD_tup, Sim.lenD_lst, Sim.lenD_scr, Sim.lenD_dct, Sim.addD_int, Sim.iaddD_int, Sim.subD_int, Sim.mulD_int, Sim.mulD_one, Sim.fdivD_int, Sim.modD_int, Sim.powD_int, Sim.addD_tup, Sim.addD_lst, Sim.negD_int, Sim.ltD_int, Sim.leD_int, Sim.gtD_int, Sim.geD_int, Sim.eqB_int, Sim.eqB_str, Sim.eqB_bl, Sim.eqB_non, Sim.eqD_of, Sim.neD_of, Sim.isD_non, Sim.isNotD_non, Sim.isN_non, Sim.isN_bl, Sim.isN_int, Sim.isN_str, Sim.isN_tup, Sim.isN_lst, Sim.frz_non, Sim.frz_bl, Sim.frz_int, Sim.frz_str, Sim.frz_tup, Sim.frz_lst, Sim.frz_dct, Sim.frz_scr, Sim.maxD_int, Sim.minD_int, Sim.absD_int, Sim.intD_int, Sim.tupleD_tup, Sim.tupleD_lst, Sim.listD_tup, Sim.listD_lst, Sim.listD_scr, Sim.itemsD_sh, Sim.itemsD_tup, Sim.itemsD_scr, Sim.isi_non, Sim.isi_bl, Sim.isi_int, Sim.isi_str, Sim.isi_tup, Sim.isi_lst, Sim.slice_tup, Sim.slice_lst, Sim.inDD_of, Sim.notInDD_of, Sim.inD_tup, Sim.inD_lst, Sim.inD_dct, Sim.cap, Sim.nat10, Sim.nat2, Nat.zero_le, Sim.ex_some, Sim.ex_some2, Sim.ex_if, Sim.ex_map, Sim.ex_eq, Sim.ex_bl, Sim.ex_int, Sim.ex_own, Sim.ex_lst, Sim.inr_at, Sim.inl_at, Sim.tt_c, Sim.ff_c, Sim.pad_nil, Sim.pad_n, Sim.nones_0, Sim.nones_s, List.getElem?_cons_zero, List.getElem?_cons_succ, List.set_cons_zero, List.set_cons_succ, List.map_cons, List.map_nil, List.cons_append, List.nil_append, Option.map_some, List.length_cons, List.length_nil, Int.zero_add, Nat.zero_add, Nat.reduceAdd, Nat.reduceLeDiff, Nat.reduceMul, true_and, and_true, decide_eq_true_eq, decide_eq_false_iff_not, Bool.false_eq_true, Bool.true_eq_false, false_implies, true_implies, implies_true, eq_self, decide_true, decide_false, not_true_eq_false, not_false_eq_true, Bool.not_true, Bool.not_false, Int.reduceLT, Int.reduceLE, Int.reduceNeg, Int.reducePow, Int.reduceToNat, hcg]
            refine FT_mono (hm ns at_ j vs.length c cs.sum (by omega) hc2.2 (by omega)) ?_
            rintro _ _ ⟨rfl, m, rfl, hmo⟩
            refine ⟨by simp; omega, ms ++ [m], at_ + 1, _, by rw [List.map_append]; rfl, by simp [hml], ?_⟩
            intro q hq
            rw [List.mem_append, List.mem_singleton] at hq
            rcases hq with hq | rfl
            · exact hmm q hq
            · exact hmo
          · rintro ρ ⟨ms, at_, o9, rfl, hml, hmm⟩
            exact ⟨rfl, ms, at_, o9, rfl, hml, hmm⟩
        · rintro ρ ⟨ms, at_, o9, rfl, hml, hmm⟩
          obtain ⟨q1, q2⟩ := num_str p (by omega)
          have l1 : ("p" : Str).length = 1 := rfl
          simp only [Sim.T_ok, Sim.T_fail, Sim.T_bind, Sim.T_pureO, Sim.EndQ_nxt, Sim.EndQ_ret, Sim.lasts_nil, Sim.T_call, Sim.T_name, Sim.T_frz, Sim.T_const, Sim.T_sh, Sim.T_op2, Sim.T_op1, Sim.T_test, Sim.T_not, Sim.T_andM, Sim.T_orM, Sim.T_ifM, Sim.T_bl, Sim.T_andV, Sim.T_orV, Sim.T_notV, Sim.T_peek, Sim.T_vP, Sim.T_opP, Sim.T_nilA, Sim.T_consA, Sim.T_nilP, Sim.T_consP, Sim.T_tup, Sim.T_lst, Sim.T_noO, Sim.T_someO, Sim.T_slice, Sim.T_callM, Sim.resL_cons, Sim.resL_nil', Sim.T_isi, Sim.T_nil, Sim.T_brk, Sim.T_cnt, Sim.SeqQ_nxt, Sim.SeqQ_brk, Sim.SeqQ_cnt, Sim.SeqQ_ret, Sim.T_seq, Sim.T_set, Sim.T_drop, Sim.T_ret, Sim.T_retN, Sim.T_retS, Sim.T_asg, Sim.T_nameG, Sim.T_tupG, Sim.T_nilG, Sim.T_consG, Sim.T_aug, Sim.T_app, Sim.T_putD, Sim.T_newD, Sim.T_disp, Sim.T_iter, Sim.T_range1, Sim.T_range2, Sim.LoopQ_nxt, Sim.LoopQ_cnt, Sim.LoopQ_brk, Sim.LoopQ_ret, Sim.T_for, Sim.T_comp, Sim.T_yes, Sim.wipeR, Sim.T_rev, Sim.revD_lst, Sim.T_revR1, Sim.T_rg1, Sim.T_rg2, Sim.T_lstRg, Sim.T_tupRg, Sim.sumD_ints, Sim.ixDD_tup, Sim.ixDD_lst, Sim.ixDD_scr, Sim.ixDD_dct, Sim.atI_nat, Sim.atI_lit, Sim.lenD_tup, Sim.lenD_lst, Sim.lenD_scr, Sim.lenD_dct, Sim.addD_int, Sim.iaddD_int, Sim.subD_int, Sim.mulD_int, Sim.mulD_one, Sim.fdivD_int, Sim.modD_int, Sim.powD_int, Sim.addD_tup, Sim.addD_lst, Sim.negD_int, Sim.ltD_int, Sim.leD_int, Sim.gtD_int, Sim.geD_int, Sim.eqB_int, Sim.eqB_str, Sim.eqB_bl, Sim.eqB_non, Sim.eqD_of, Sim.neD_of, Sim.isD_non, Sim.isNotD_non, Sim.isN_non, Sim.isN_bl, Sim.isN_int, Sim.isN_str, Sim.isN_tup, Sim.isN_lst, Sim.frz_non, Sim.frz_bl, Sim.frz_int, Sim.frz_str, Sim.frz_tup, Sim.frz_lst, Sim.frz_dct, Sim.frz_scr, Sim.maxD_int, Sim.minD_int, Sim.absD_int, Sim.intD_int, Sim.tupleD_tup, Sim.tupleD_lst, Sim.listD_tup, Sim.listD_lst, Sim.listD_scr, Sim.itemsD_sh, Sim.itemsD_tup, Sim.itemsD_scr, Sim.isi_non, Sim.isi_bl, Sim.isi_int, Sim.isi_str, Sim.isi_tup, Sim.isi_lst, Sim.slice_tup, Sim.slice_lst, Sim.inDD_of, Sim.notInDD_of, Sim.inD_tup, Sim.inD_lst, Sim.inD_dct, Sim.cap, Sim.nat10, Sim.nat2, Nat.zero_le, Sim.ex_some, Sim.ex_some2, Sim.ex_if, Sim.ex_map, Sim.ex_eq, Sim.ex_bl, Sim.ex_int, Sim.ex_own, Sim.ex_lst, Sim.inr_at, Sim.inl_at, Sim.tt_c, Sim.ff_c, Sim.pad_nil, Sim.pad_n, Sim.nones_0, Sim.nones_s, List.getElem?_cons_zero, List.getElem?_cons_succ, List.set_cons_zero, List.set_cons_succ, List.map_cons, List.map_nil, List.cons_append, List.nil_append, Option.map_some, List.length_cons, List.length_nil, Int.zero_add, Nat.zero_add, Nat.reduceAdd, Nat.reduceLeDiff, Nat.reduceMul, true_and, and_true, decide_eq_true_eq, decide_eq_false_iff_not, Bool.false_eq_true, Bool.true_eq_false, false_implies, true_implies, implies_true, eq_self, decide_true, decide_false, not_true_eq_false, not_false_eq_true, Bool.not_true, Bool.not_false, Int.reduceLT, Int.reduceLE, Int.reduceNeg, Int.reducePow, Int.reduceToNat, hcg, q1]
          refine ⟨_, addD_str _ _ (by show _ ≤ 16777216; omega), by simp; omega, vs', ps ++ [⟨_, vs.length, c, ms⟩], at_, _, _, _, _, _, _, _, _, by rw [List.map_append]; rfl, by rw [take_sum hcp, hvl', hvl], hv', by simp [hpl], ?_, ?_⟩
          · rw [hvl']
            exact chain_snoc hch rfl hc2.1 hc2.2
          · intro q hq
            rw [List.mem_append, List.mem_singleton] at hq
            rcases hq with hq | rfl
            · exact hpo q hq
            · exact ⟨hmm, by show 1 ≤ ms.length ∧ ms.length ≤ 4; omega⟩
    · rintro ρ ⟨vs, ps, at_, o7, o8, o9, o10, o11, o12, o13, o14, rfl, hvl, hv, hpl, hch, hpo⟩
      rw [List.take_length] at hvl
      exact ⟨rfl, vs, ps, _, _, _, _, _, _, _, _, _, rfl, hvl, hv, hpl, hch, hpo⟩
  · rintro ρ ⟨vs, ps, o6, o7, o8, o9, o10, o11, o12, o13, o14, rfl, hvl, hv, hpl, hch, hpo⟩
    simp only [Sim.T_ok, Sim.T_fail, Sim.T_bind, Sim.T_pureO, Sim.EndQ_nxt, Sim.EndQ_ret, Sim.lasts_nil, Sim.T_call, Sim.T_name, Sim.T_frz, Sim.T_const, Sim.T_sh, Sim.T_op2, Sim.T_op1, Sim.T_test, Sim.T_not, Sim.T_andM, Sim.T_orM, Sim.T_ifM, Sim.T_bl, Sim.T_andV, Sim.T_orV, Sim.T_notV, Sim.T_peek, Sim.T_vP, Sim.T_opP, Sim.T_nilA, Sim.T_consA, Sim.T_nilP, Sim.T_consP, Sim.T_tup, Sim.T_lst, Sim.T_noO, Sim.T_someO, Sim.T_slice, Sim.T_callM, Sim.resL_cons, Sim.resL_nil', Sim.T_isi, Sim.T_nil, Sim.T_brk, Sim.T_cnt, Sim.SeqQ_nxt, Sim.SeqQ_brk, Sim.SeqQ_cnt, Sim.SeqQ_ret, Sim.T_seq, Sim.T_set, Sim.T_drop, Sim.T_ret, Sim.T_retN, Sim.T_retS, Sim.T_asg, Sim.T_nameG, Sim.T_tupG, Sim.T_nilG, Sim.T_consG, Sim.T_aug, Sim.T_app, Sim.T_putD, Sim.T_newD, Sim.T_disp, Sim.T_iter, Sim.T_range1, Sim.T_range2, Sim.LoopQ_nxt, Sim.LoopQ_cnt, Sim.LoopQ_brk, Sim.LoopQ_ret, Sim.T_for, Sim.T_comp, Sim.T_yes, Sim.wipeR, Sim.T_rev, Sim.revD_lst, Sim.T_revR1, Sim.T_rg1, Sim.T_rg2, Sim.T_lstRg, Sim.T_tupRg, Sim.sumD_ints, Sim.ixDD_tup, Sim.ixDD_lst, Sim.ixDD_scr, Sim.ixDD_dct, Sim.atI_nat, Sim.atI_lit, Sim.lenD_tup, Sim.lenD_lst, Sim.lenD_scr, Sim.lenD_dct, Sim.addD_int, Sim.iaddD_int, Sim.subD_int, Sim.mulD_int, Sim.mulD_one, Sim.fdivD_int, Sim.modD_int, Sim.powD_int, Sim.addD_tup, Sim.addD_lst, Sim.negD_int, Sim.ltD_int, Sim.leD_int, Sim.gtD_int, Sim.geD_int, Sim.eqB_int, Sim.eqB_str, Sim.eqB_bl, Sim.eqB_non, Sim.eqD_of, Sim.neD_of, Sim.isD_non, Sim.isNotD_non, Sim.isN_non, Sim.isN_bl, Sim.isN_int, Sim.isN_str, Sim.isN_tup, Sim.isN_lst, Sim.frz_non, Sim.frz_bl, Sim.frz_int, Sim.frz_str, Sim.frz_tup, Sim.frz_lst, Sim.frz_dct, Sim.frz_scr, Sim.maxD_int, Sim.minD_int, Sim.absD_int, Sim.intD_int, Sim.tupleD_tup, Sim.tupleD_lst, Sim.listD_tup, Sim.listD_lst, Sim.listD_scr, Sim.itemsD_sh, Sim.itemsD_tup, Sim.itemsD_scr, Sim.isi_non, Sim.isi_bl, Sim.isi_int, Sim.isi_str, Sim.isi_tup, Sim.isi_lst, Sim.slice_tup, Sim.slice_lst, Sim.inDD_of, Sim.notInDD_of, Sim.inD_tup, Sim.inD_lst, Sim.inD_dct, Sim.cap, Sim.nat10, Sim.nat2, Nat.zero_le, Sim.ex_some, Sim.ex_some2, Sim.ex_if, Sim.ex_map, Sim.ex_eq, Sim.ex_bl, Sim.ex_int, Sim.ex_own, Sim.ex_lst, Sim.inr_at, Sim.inl_at, Sim.tt_c, Sim.ff_c, Sim.pad_nil, Sim.pad_n, Sim.nones_0, Sim.nones_s, List.getElem?_cons_zero, List.getElem?_cons_succ, List.set_cons_zero, List.set_cons_succ, List.map_cons, List.map_nil, List.cons_append, List.nil_append, Option.map_some, List.length_cons, List.length_nil, Int.zero_add, Nat.zero_add, Nat.reduceAdd, Nat.reduceLeDiff, Nat.reduceMul, true_and, and_true, decide_eq_true_eq, decide_eq_false_iff_not, Bool.false_eq_true, Bool.true_eq_false, false_implies, true_implies, implies_true, eq_self, decide_true, decide_false, not_true_eq_false, not_false_eq_true, Bool.not_true, Bool.not_false, Int.reduceLT, Int.reduceLE, Int.reduceNeg, Int.reducePow, Int.reduceToNat]
    refine FT_mono (hs ns cs.sum (by omega)) ?_
    rintro _ _ ⟨rfl, ss, rfl, hs1', hs2'⟩
    simp only [Sim.T_ok, Sim.T_fail, Sim.T_bind, Sim.T_pureO, Sim.EndQ_nxt, Sim.EndQ_ret, Sim.lasts_nil, Sim.T_call, Sim.T_name, Sim.T_frz, Sim.T_const, Sim.T_sh, Sim.T_op2, Sim.T_op1, Sim.T_test, Sim.T_not, Sim.T_andM, Sim.T_orM, Sim.T_ifM, Sim.T_bl, Sim.T_andV, Sim.T_orV, Sim.T_notV, Sim.T_peek, Sim.T_vP, Sim.T_opP, Sim.T_nilA, Sim.T_consA, Sim.T_nilP, Sim.T_consP, Sim.T_tup, Sim.T_lst, Sim.T_noO, Sim.T_someO, Sim.T_slice, Sim.T_callM, Sim.resL_cons, Sim.resL_nil', Sim.T_isi, Sim.T_nil, Sim.T_brk, Sim.T_cnt, Sim.SeqQ_nxt, Sim.SeqQ_brk, Sim.SeqQ_cnt, Sim.SeqQ_ret, Sim.T_seq, Sim.T_set, Sim.T_drop, Sim.T_ret, Sim.T_retN, Sim.T_retS, Sim.T_asg, Sim.T_nameG, Sim.T_tupG, Sim.T_nilG, Sim.T_consG, Sim.T_aug, Sim.T_app, Sim.T_putD, Sim.T_newD, Sim.T_disp, Sim.T_iter, Sim.T_range1, Sim.T_range2, Sim.LoopQ_nxt, Sim.LoopQ_cnt, Sim.LoopQ_brk, Sim.LoopQ_ret, Sim.T_for, Sim.T_comp, Sim.T_yes, Sim.wipeR, Sim.T_rev, Sim.revD_lst, Sim.T_revR1, Sim.T_rg1, Sim.T_rg2, Sim.T_lstRg, Sim.T_tupRg, Sim.sumD_ints, Sim.ixDD_tup, Sim.ixDD_lst, Sim.ixDD_scr, Sim.ixDD_dct, Sim.atI_nat, Sim.atI_lit, Sim.lenD_tup, Sim.lenD_lst, Sim.lenD_scr, Sim.lenD_dct, Sim.addD_int, Sim.iaddD_int, Sim.subD_int, Sim.mulD_int, Sim.mulD_one, Sim.fdivD_int, Sim.modD_int, Sim.powD_int, Sim.addD_tup, Sim.addD_lst, Sim.negD_int, Sim.ltD_int, Sim.leD_int, Sim.gtD_int, Sim.geD_int, Sim.eqB_int, Sim.eqB_str, Sim.eqB_bl, Sim.eqB_non, Sim.eqD_of, Sim.neD_of, Sim.isD_non, Sim.isNotD_non, Sim.isN_non, Sim.isN_bl, Sim.isN_int, Sim.isN_str, Sim.isN_tup, Sim.isN_lst, Sim.frz_non, Sim.frz_bl, Sim.frz_int, Sim.frz_str, Sim.frz_tup, Sim.frz_lst, Sim.frz_dct, Sim.frz_scr, Sim.maxD_int, Sim.minD_int, Sim.absD_int, Sim.intD_int, Sim.tupleD_tup, Sim.tupleD_lst, Sim.listD_tup, Sim.listD_lst, Sim.listD_scr, Sim.itemsD_sh, Sim.itemsD_tup, Sim.itemsD_scr, Sim.isi_non, Sim.isi_bl, Sim.isi_int, Sim.isi_str, Sim.isi_tup, Sim.isi_lst, Sim.slice_tup, Sim.slice_lst, Sim.inDD_of, Sim.notInDD_of, Sim.inD_tup, Sim.inD_lst, Sim.inD_dct, Sim.cap, Sim.nat10, Sim.nat2, Nat.zero_le, Sim.ex_some, Sim.ex_some2, Sim.ex_if, Sim.ex_map, Sim.ex_eq, Sim.ex_bl, Sim.ex_int, Sim.ex_own, Sim.ex_lst, Sim.inr_at, Sim.inl_at, Sim.tt_c, Sim.ff_c, Sim.pad_nil, Sim.pad_n, Sim.nones_0, Sim.nones_s, List.getElem?_cons_zero, List.getElem?_cons_succ, List.set_cons_zero, List.set_cons_succ, List.map_cons, List.map_nil, List.cons_append, List.nil_append, Option.map_some, List.length_cons, List.length_nil, Int.zero_add, Nat.zero_add, Nat.reduceAdd, Nat.reduceLeDiff, Nat.reduceMul, true_and, and_true, decide_eq_true_eq, decide_eq_false_iff_not, Bool.false_eq_true, Bool.true_eq_false, false_implies, true_implies, implies_true, eq_self, decide_true, decide_false, not_true_eq_false, not_false_eq_true, Bool.not_true, Bool.not_false, Int.reduceLT, Int.reduceLE, Int.reduceNeg, Int.reducePow, Int.reduceToNat]
    exact ⟨⟨vs, ps, ss⟩, rfl, ⟨by show 1 ≤ vs.length ∧ vs.length ≤ 5; omega, hv, hch, by show 1 ≤ ps.length ∧ ps.length ≤ 3; omega, fun q hq => by show PartOk vs.length q; rw [hvl]; exact hpo q hq, fun s h => by show SensorOk vs.length s; rw [hvl]; exact hs1' s h, hs2'⟩⟩
end Law

namespace Law
open PySem PySem.Spec PyProof.Rows L2 Sim
/-! ### rows of values within spans, in order -/
abbrev Sp1 := Int × Int
def lows (sp : List Sp1) : List Int := sp.map (·.1)
def nxt : List Sp1 → List Int → Option (List Int)
  | (_, h) :: sp, x :: v => match nxt sp v with
    | some v' => some (x :: v')
    | none => if x < h then some ((x + 1) :: lows sp) else none
  | _, _ => none
def rng (l h : Int) : List Int := (List.range (h + 1 - l).toNat).map fun (k : Nat) => l + (k : Int)
def prod : List Sp1 → List (List Int)
  | [] => [[]]
  | (l, h) :: sp => (rng l h).flatMap fun x => (prod sp).map (x :: ·)
inductive Run (sp : List Sp1) : List Int → List (List Int) → Prop
  | last {v : List Int} : nxt sp v = none → Run sp v [v]
  | cons {v v' : List Int} {L : List (List Int)} : nxt sp v = some v' → Run sp v' L → Run sp v (v :: L)
theorem rng_cons {l h : Int} (hl : l ≤ h) : rng l h = l :: rng (l + 1) h := by
  unfold rng
  have e : (h + 1 - l).toNat = (h + 1 - (l + 1)).toNat + 1 := by omega
  rw [e, List.range_succ_eq_map, List.map_cons, List.map_map]
  congr 1
  · simp
  · apply List.map_congr_left
    intro k _
    show l + ((k + 1 : Nat) : Int) = l + 1 + (k : Int)
    omega
theorem rng_nil {l h : Int} (hl : h < l) : rng l h = [] := by
  unfold rng
  rw [show (h + 1 - l).toNat = 0 by omega]
  rfl
theorem run_head {l h x : Int} {sp : List Sp1} {v : List Int} {L T : List (List Int)} (r : Run sp v L) (hT : (x < h ∧ Run ((l, h) :: sp) ((x + 1) :: lows sp) T) ∨ (¬ x < h ∧ T = [])) : Run ((l, h) :: sp) (x :: v) (L.map (x :: ·) ++ T) := by
  induction r with
  | last e =>
    rcases hT with ⟨h1, h2⟩ | ⟨h1, rfl⟩
    · exact .cons (by rw [nxt, e]; exact if_pos h1) h2
    · exact .last (by rw [nxt, e]; exact if_neg h1)
  | cons e _ ih => exact .cons (by rw [nxt, e]) ih
theorem run_prod : ∀ (sp : List Sp1), (∀ s ∈ sp, s.1 ≤ s.2) → Run sp (lows sp) (prod sp)
  | [], _ => .last rfl
  | (l, h) :: sp, hs => by
    have ih := run_prod sp fun s m => hs s (.tail _ m)
    have hl : l ≤ h := hs _ (.head _)
    have go : ∀ (n : Nat) (x : Int), x ≤ h → (h - x).toNat = n → Run ((l, h) :: sp) (x :: lows sp) ((rng x h).flatMap fun x => (prod sp).map (x :: ·)) := by
      intro n
      induction n with
      | zero =>
        intro x hx hn
        rw [rng_cons hx, rng_nil (show h < x + 1 by omega), List.flatMap_cons]
        exact run_head ih (.inr ⟨by omega, rfl⟩)
      | succ n ihn =>
        intro x hx hn
        rw [rng_cons hx, List.flatMap_cons]
        exact run_head ih (.inl ⟨by omega, ihn (x + 1) (by omega) (by omega)⟩)
    exact go _ l hl rfl
theorem nxt_some : ∀ {sp : List Sp1} {v w : List Int} (k : Nat), k ≤ sp.length → k ≤ v.length → nxt (sp.drop k) (v.drop k) = some w → nxt sp v = some (v.take k ++ w)
  | sp, v, w, 0, _, _, h => h
  | (l, h') :: sp, x :: v, w, k + 1, h1, h2, h => by
    rw [nxt, nxt_some k (Nat.le_of_succ_le_succ h1) (Nat.le_of_succ_le_succ h2) h]
    rfl
  | [], _, _, _ + 1, h1, _, _ => by simp at h1
  | _ :: _, [], _, _ + 1, _, h2, _ => by simp at h2
theorem nxt_len : ∀ {sp : List Sp1} {v w : List Int}, nxt sp v = some w → sp.length = v.length → w.length = v.length
  | (l, h) :: sp, x :: v, w, e, hl => by
    rw [nxt] at e
    split at e
    · rename_i v' e'
      cases e
      have := nxt_len e' (by simpa using hl)
      simp [this]
    · split at e
      · cases e
        simp [lows] at hl ⊢
        exact hl
      · cases e
  | [], _, _, e, _ => by cases e
  | _ :: _, [], _, e, _ => by cases e
/-- as the law makes its rows: each row longer by each choice -/
def box (rows : List (List Int)) (cs : List Int) : List (List Int) := rows.flatMap fun r => cs.map fun c => r ++ [c]
theorem box_prod : ∀ (sp : List Sp1) (rows : List (List Int)), sp.foldl (fun rs s => box rs (rng s.1 s.2)) rows = rows.flatMap fun r => (prod sp).map (r ++ ·)
  | [], rows => by
    simp [prod]
  | (l, h) :: sp, rows => by
    rw [List.foldl_cons, box_prod sp, box, List.flatMap_assoc]
    congr 1
    funext r
    rw [prod, List.map_flatMap, List.flatMap_map]
    congr 1
    funext c
    rw [List.map_map]
    apply List.map_congr_left
    intro q _
    simp
theorem prod_len : ∀ (sp : List Sp1), (prod sp).length = (sp.map fun s => (s.2 + 1 - s.1).toNat).prod
  | [] => rfl
  | (l, h) :: sp => by
    rw [prod, List.length_flatMap, List.map_cons, List.prod_cons, ← prod_len sp]
    have hc : ∀ (L : List Int), (L.map fun x => ((prod sp).map (x :: ·)).length).sum = L.length * (prod sp).length := fun L => by
      induction L with
      | nil => simp
      | cons a L ih => rw [List.map_cons, List.sum_cons, ih, List.length_map, List.length_cons, Nat.add_mul, Nat.one_mul, Nat.add_comm]
    rw [hc]
    simp [rng]
end Law

namespace Law
open PySem PySem.Spec PyProof.Rows L2 Sim
abbrev spD (sp : List Sp1) : List D := sp.map fun s => D.tup [.int s.1, .int s.2]
abbrev VD (v : List Int) : D := .tup (v.map .int)
def nxtD (sp : List Sp1) (v : List Int) : D := match nxt sp v with
  | some w => VD w
  | none => .non
theorem following_ok {R : Fs} (sp : List Sp1) (v : List Int) (hl : sp.length = v.length) (hs : sp.length ≤ 1000) :
    FT (defF 2 [] (b_following R)) [VD v, .lst .sh (spD sp)] fun d fs => fs = [] ∧ d = nxtD sp v := by
  refine FT_def ?_
  simp only [Sim.T_ok, Sim.T_fail, Sim.T_bind, Sim.T_pureO, Sim.EndQ_nxt, Sim.EndQ_ret, Sim.lasts_nil, Sim.T_call, Sim.T_name, Sim.T_frz, Sim.T_const, Sim.T_sh, Sim.T_op2, Sim.T_op1, Sim.T_test, Sim.T_not, Sim.T_andM, Sim.T_orM, Sim.T_ifM, Sim.T_bl, Sim.T_andV, Sim.T_orV, Sim.T_notV, Sim.T_peek, Sim.T_vP, Sim.T_opP, Sim.T_nilA, Sim.T_consA, Sim.T_nilP, Sim.T_consP, Sim.T_tup, Sim.T_lst, Sim.T_noO, Sim.T_someO, Sim.T_slice, Sim.T_callM, Sim.resL_cons, Sim.resL_nil', Sim.T_isi, Sim.T_nil, Sim.T_brk, Sim.T_cnt, Sim.SeqQ_nxt, Sim.SeqQ_brk, Sim.SeqQ_cnt, Sim.SeqQ_ret, Sim.T_seq, Sim.T_set, Sim.T_drop, Sim.T_ret, Sim.T_retN, Sim.T_retS, Sim.T_asg, Sim.T_nameG, Sim.T_tupG, Sim.T_nilG, Sim.T_consG, Sim.T_aug, Sim.T_app, Sim.T_putD, Sim.T_newD, Sim.T_disp, Sim.T_iter, Sim.T_range1, Sim.T_range2, Sim.LoopQ_nxt, Sim.LoopQ_cnt, Sim.LoopQ_brk, Sim.LoopQ_ret, Sim.T_for, Sim.T_comp, Sim.T_yes, Sim.wipeR, Sim.T_rev, Sim.revD_lst, Sim.T_revR1, Sim.T_rg1, Sim.T_rg2, Sim.T_lstRg, Sim.T_tupRg, Sim.sumD_ints, Sim.ixDD_tup, Sim.ixDD_lst, Sim.ixDD_scr, Sim.ixDD_dct, Sim.atI_nat, Sim.atI_lit, Sim.lenD_tup, Sim.lenD_lst, Sim.lenD_scr, Sim.lenD_dct, Sim.addD_int, Sim.iaddD_int, Sim.subD_int, Sim.mulD_int, Sim.mulD_one, Sim.fdivD_int, Sim.modD_int, Sim.powD_int, Sim.addD_tup, Sim.addD_lst, Sim.negD_int, Sim.ltD_int, Sim.leD_int, Sim.gtD_int, Sim.geD_int, Sim.eqB_int, Sim.eqB_str, Sim.eqB_bl, Sim.eqB_non, Sim.eqD_of, Sim.neD_of, Sim.isD_non, Sim.isNotD_non, Sim.isN_non, Sim.isN_bl, Sim.isN_int, Sim.isN_str, Sim.isN_tup, Sim.isN_lst, Sim.frz_non, Sim.frz_bl, Sim.frz_int, Sim.frz_str, Sim.frz_tup, Sim.frz_lst, Sim.frz_dct, Sim.frz_scr, Sim.maxD_int, Sim.minD_int, Sim.absD_int, Sim.intD_int, Sim.tupleD_tup, Sim.tupleD_lst, Sim.listD_tup, Sim.listD_lst, Sim.listD_scr, Sim.itemsD_sh, Sim.itemsD_tup, Sim.itemsD_scr, Sim.isi_non, Sim.isi_bl, Sim.isi_int, Sim.isi_str, Sim.isi_tup, Sim.isi_lst, Sim.slice_tup, Sim.slice_lst, Sim.inDD_of, Sim.notInDD_of, Sim.inD_tup, Sim.inD_lst, Sim.inD_dct, Sim.cap, Sim.nat10, Sim.nat2, Nat.zero_le, Sim.ex_some, Sim.ex_some2, Sim.ex_if, Sim.ex_map, Sim.ex_eq, Sim.ex_bl, Sim.ex_int, Sim.ex_own, Sim.ex_lst, Sim.inr_at, Sim.inl_at, Sim.tt_c, Sim.ff_c, Sim.pad_nil, Sim.pad_n, Sim.nones_0, Sim.nones_s, List.getElem?_cons_zero, List.getElem?_cons_succ, List.set_cons_zero, List.set_cons_succ, List.map_cons, List.map_nil, List.cons_append, List.nil_append, Option.map_some, List.length_cons, List.length_nil, Int.zero_add, Nat.zero_add, Nat.reduceAdd, Nat.reduceLeDiff, Nat.reduceMul, true_and, and_true, decide_eq_true_eq, decide_eq_false_iff_not, Bool.false_eq_true, Bool.true_eq_false, false_implies, true_implies, implies_true, eq_self, decide_true, decide_false, not_true_eq_false, not_false_eq_true, Bool.not_true, Bool.not_false, Int.reduceLT, Int.reduceLE, Int.reduceNeg, Int.reducePow, Int.reduceToNat, b_following, List.length_map]
  refine ⟨by omega, ?_⟩
  rw [Int.toNat_natCast]
  generalize hn : sp.length = n at hl hs
  refine T_goIx (fun i ρ => i ≤ n ∧ nxt (sp.drop (n - i)) (v.drop (n - i)) = none ∧ ∃ o, ρ = [some (VD v), some (.lst .sh (spD sp)), some (.lst .own ((v.take (n - i) ++ lows (sp.drop (n - i))).map .int)), o]) ⟨Nat.zero_le _, ?_, none, ?_⟩ ?_ ?_
  · rw [Nat.sub_zero, List.drop_eq_nil_of_le (by omega)]
    rfl
  · rw [Nat.sub_zero, List.drop_eq_nil_of_le (by omega), List.take_of_length_le (by omega)]
    simp [lows]
  · rintro i d ρ hd ⟨hi, hx, o, rfl⟩
    have hd := rev_at hd
    rw [rangeL_len] at hd
    obtain ⟨hk, rfl⟩ := rangeL_get hd
    rw [Int.zero_add]
    have hin : i < n := by
      have := (List.getElem?_eq_some_iff.mp ‹(rangeL 0 n).reverse[i]? = some _›).1
      rw [List.length_reverse, rangeL_len] at this
      exact this
    generalize hkk : n - 1 - i = k at hk
    have e1 : n - i = k + 1 := by omega
    have e2 : n - (i + 1) = k := by omega
    rw [e1] at hx ⊢
    obtain ⟨x, hvk⟩ : ∃ x, v[k]? = some x := ⟨_, List.getElem?_eq_getElem (by omega)⟩
    obtain ⟨s, hsk⟩ : ∃ s, sp[k]? = some s := ⟨_, List.getElem?_eq_getElem (by omega)⟩
    have hvd : v.drop k = x :: v.drop (k + 1) := by rw [List.drop_eq_getElem_cons (by omega)]; congr 1; exact (List.getElem?_eq_some_iff.mp hvk).2
    have hsd : sp.drop k = s :: sp.drop (k + 1) := by rw [List.drop_eq_getElem_cons (by omega)]; congr 1; exact (List.getElem?_eq_some_iff.mp hsk).2
    have htk : v.take (k + 1) = v.take k ++ [x] := by rw [List.take_succ, hvk]; rfl
    have hlen : (v.take k).length = k := by rw [List.length_take]; omega
    have g1 : ((v.take (k + 1) ++ lows (sp.drop (k + 1))).map D.int)[k]? = some (.int x) := by
      rw [List.getElem?_map, htk, List.append_assoc, List.getElem?_append_right (by omega), hlen, Nat.sub_self]
      rfl
    have g2 : (spD sp)[k]? = some (.tup [.int s.1, .int s.2]) := by rw [List.getElem?_map, hsk]; rfl
    have hset : ∀ y : Int, ((v.take (k + 1) ++ lows (sp.drop (k + 1))).map D.int).set k (.int y) = (v.take k ++ y :: lows (sp.drop (k + 1))).map D.int := by
      intro y
      rw [htk, List.append_assoc, List.map_append, List.map_append, List.set_append_right _ _ (by rw [List.length_map]; omega), List.length_map, hlen, Nat.sub_self]
      simp
    have hlt : k < ((v.take (k + 1) ++ lows (sp.drop (k + 1))).map D.int).length := (List.getElem?_eq_some_iff.mp g1).1
    simp only [Sim.T_ok, Sim.T_fail, Sim.T_bind, Sim.T_pureO, Sim.EndQ_nxt, Sim.EndQ_ret, Sim.lasts_nil, Sim.T_call, Sim.T_name, Sim.T_frz, Sim.T_const, Sim.T_sh, Sim.T_op2, Sim.T_op1, Sim.T_test, Sim.T_not, Sim.T_andM, Sim.T_orM, Sim.T_ifM, Sim.T_bl, Sim.T_andV, Sim.T_orV, Sim.T_notV, Sim.T_peek, Sim.T_vP, Sim.T_opP, Sim.T_nilA, Sim.T_consA, Sim.T_nilP, Sim.T_consP, Sim.T_tup, Sim.T_lst, Sim.T_noO, Sim.T_someO, Sim.T_slice, Sim.T_callM, Sim.resL_cons, Sim.resL_nil', Sim.T_isi, Sim.T_nil, Sim.T_brk, Sim.T_cnt, Sim.SeqQ_nxt, Sim.SeqQ_brk, Sim.SeqQ_cnt, Sim.SeqQ_ret, Sim.T_seq, Sim.T_set, Sim.T_drop, Sim.T_ret, Sim.T_retN, Sim.T_retS, Sim.T_asg, Sim.T_nameG, Sim.T_tupG, Sim.T_nilG, Sim.T_consG, Sim.T_aug, Sim.T_app, Sim.T_putD, Sim.T_newD, Sim.T_disp, Sim.T_iter, Sim.T_range1, Sim.T_range2, Sim.LoopQ_nxt, Sim.LoopQ_cnt, Sim.LoopQ_brk, Sim.LoopQ_ret, Sim.T_for, Sim.T_comp, Sim.T_yes, Sim.wipeR, Sim.T_rev, Sim.revD_lst, Sim.T_revR1, Sim.T_rg1, Sim.T_rg2, Sim.T_lstRg, Sim.T_tupRg, Sim.sumD_ints, Sim.ixDD_tup, Sim.ixDD_lst, Sim.ixDD_scr, Sim.ixDD_dct, Sim.atI_nat, Sim.atI_lit, Sim.lenD_tup, Sim.lenD_lst, Sim.lenD_scr, Sim.lenD_dct, Sim.addD_int, Sim.iaddD_int, Sim.subD_int, Sim.mulD_int, Sim.mulD_one, Sim.fdivD_int, Sim.modD_int, Sim.powD_int, Sim.addD_tup, Sim.addD_lst, Sim.negD_int, Sim.ltD_int, Sim.leD_int, Sim.gtD_int, Sim.geD_int, Sim.eqB_int, Sim.eqB_str, Sim.eqB_bl, Sim.eqB_non, Sim.eqD_of, Sim.neD_of, Sim.isD_non, Sim.isNotD_non, Sim.isN_non, Sim.isN_bl, Sim.isN_int, Sim.isN_str, Sim.isN_tup, Sim.isN_lst, Sim.frz_non, Sim.frz_bl, Sim.frz_int, Sim.frz_str, Sim.frz_tup, Sim.frz_lst, Sim.frz_dct, Sim.frz_scr, Sim.maxD_int, Sim.minD_int, Sim.absD_int, Sim.intD_int, Sim.tupleD_tup, Sim.tupleD_lst, Sim.listD_tup, Sim.listD_lst, Sim.listD_scr, Sim.itemsD_sh, Sim.itemsD_tup, Sim.itemsD_scr, Sim.isi_non, Sim.isi_bl, Sim.isi_int, Sim.isi_str, Sim.isi_tup, Sim.isi_lst, Sim.slice_tup, Sim.slice_lst, Sim.inDD_of, Sim.notInDD_of, Sim.inD_tup, Sim.inD_lst, Sim.inD_dct, Sim.cap, Sim.nat10, Sim.nat2, Nat.zero_le, Sim.ex_some, Sim.ex_some2, Sim.ex_if, Sim.ex_map, Sim.ex_eq, Sim.ex_bl, Sim.ex_int, Sim.ex_own, Sim.ex_lst, Sim.inr_at, Sim.inl_at, Sim.tt_c, Sim.ff_c, Sim.pad_nil, Sim.pad_n, Sim.nones_0, Sim.nones_s, List.getElem?_cons_zero, List.getElem?_cons_succ, List.set_cons_zero, List.set_cons_succ, List.map_cons, List.map_nil, List.cons_append, List.nil_append, Option.map_some, List.length_cons, List.length_nil, Int.zero_add, Nat.zero_add, Nat.reduceAdd, Nat.reduceLeDiff, Nat.reduceMul, true_and, and_true, decide_eq_true_eq, decide_eq_false_iff_not, Bool.false_eq_true, Bool.true_eq_false, false_implies, true_implies, implies_true, eq_self, decide_true, decide_false, not_true_eq_false, not_false_eq_true, Bool.not_true, Bool.not_false, Int.reduceLT, Int.reduceLE, Int.reduceNeg, Int.reducePow, Int.reduceToNat]
    refine T_iteTo (fun b => b = decide (x < s.2)) ?_ (fun h => ?_) (fun h => ?_)
    · simp only [Sim.T_ok, Sim.T_fail, Sim.T_bind, Sim.T_pureO, Sim.EndQ_nxt, Sim.EndQ_ret, Sim.lasts_nil, Sim.T_call, Sim.T_name, Sim.T_frz, Sim.T_const, Sim.T_sh, Sim.T_op2, Sim.T_op1, Sim.T_test, Sim.T_not, Sim.T_andM, Sim.T_orM, Sim.T_ifM, Sim.T_bl, Sim.T_andV, Sim.T_orV, Sim.T_notV, Sim.T_peek, Sim.T_vP, Sim.T_opP, Sim.T_nilA, Sim.T_consA, Sim.T_nilP, Sim.T_consP, Sim.T_tup, Sim.T_lst, Sim.T_noO, Sim.T_someO, Sim.T_slice, Sim.T_callM, Sim.resL_cons, Sim.resL_nil', Sim.T_isi, Sim.T_nil, Sim.T_brk, Sim.T_cnt, Sim.SeqQ_nxt, Sim.SeqQ_brk, Sim.SeqQ_cnt, Sim.SeqQ_ret, Sim.T_seq, Sim.T_set, Sim.T_drop, Sim.T_ret, Sim.T_retN, Sim.T_retS, Sim.T_asg, Sim.T_nameG, Sim.T_tupG, Sim.T_nilG, Sim.T_consG, Sim.T_aug, Sim.T_app, Sim.T_putD, Sim.T_newD, Sim.T_disp, Sim.T_iter, Sim.T_range1, Sim.T_range2, Sim.LoopQ_nxt, Sim.LoopQ_cnt, Sim.LoopQ_brk, Sim.LoopQ_ret, Sim.T_for, Sim.T_comp, Sim.T_yes, Sim.wipeR, Sim.T_rev, Sim.revD_lst, Sim.T_revR1, Sim.T_rg1, Sim.T_rg2, Sim.T_lstRg, Sim.T_tupRg, Sim.sumD_ints, Sim.ixDD_tup, Sim.ixDD_lst, Sim.ixDD_scr, Sim.ixDD_dct, Sim.atI_nat, Sim.atI_lit, Sim.lenD_tup, Sim.lenD_lst, Sim.lenD_scr, Sim.lenD_dct, Sim.addD_int, Sim.iaddD_int, Sim.subD_int, Sim.mulD_int, Sim.mulD_one, Sim.fdivD_int, Sim.modD_int, Sim.powD_int, Sim.addD_tup, Sim.addD_lst, Sim.negD_int, Sim.ltD_int, Sim.leD_int, Sim.gtD_int, Sim.geD_int, Sim.eqB_int, Sim.eqB_str, Sim.eqB_bl, Sim.eqB_non, Sim.eqD_of, Sim.neD_of, Sim.isD_non, Sim.isNotD_non, Sim.isN_non, Sim.isN_bl, Sim.isN_int, Sim.isN_str, Sim.isN_tup, Sim.isN_lst, Sim.frz_non, Sim.frz_bl, Sim.frz_int, Sim.frz_str, Sim.frz_tup, Sim.frz_lst, Sim.frz_dct, Sim.frz_scr, Sim.maxD_int, Sim.minD_int, Sim.absD_int, Sim.intD_int, Sim.tupleD_tup, Sim.tupleD_lst, Sim.listD_tup, Sim.listD_lst, Sim.listD_scr, Sim.itemsD_sh, Sim.itemsD_tup, Sim.itemsD_scr, Sim.isi_non, Sim.isi_bl, Sim.isi_int, Sim.isi_str, Sim.isi_tup, Sim.isi_lst, Sim.slice_tup, Sim.slice_lst, Sim.inDD_of, Sim.notInDD_of, Sim.inD_tup, Sim.inD_lst, Sim.inD_dct, Sim.cap, Sim.nat10, Sim.nat2, Nat.zero_le, Sim.ex_some, Sim.ex_some2, Sim.ex_if, Sim.ex_map, Sim.ex_eq, Sim.ex_bl, Sim.ex_int, Sim.ex_own, Sim.ex_lst, Sim.inr_at, Sim.inl_at, Sim.tt_c, Sim.ff_c, Sim.pad_nil, Sim.pad_n, Sim.nones_0, Sim.nones_s, List.getElem?_cons_zero, List.getElem?_cons_succ, List.set_cons_zero, List.set_cons_succ, List.map_cons, List.map_nil, List.cons_append, List.nil_append, Option.map_some, List.length_cons, List.length_nil, Int.zero_add, Nat.zero_add, Nat.reduceAdd, Nat.reduceLeDiff, Nat.reduceMul, true_and, and_true, decide_eq_true_eq, decide_eq_false_iff_not, Bool.false_eq_true, Bool.true_eq_false, false_implies, true_implies, implies_true, eq_self, decide_true, decide_false, not_true_eq_false, not_false_eq_true, Bool.not_true, Bool.not_false, Int.reduceLT, Int.reduceLE, Int.reduceNeg, Int.reducePow, Int.reduceToNat, g1, g2]
      exact ⟨_, rfl⟩
    · have h : x < s.2 := of_decide_eq_true h.symm
      simp only [Sim.T_ok, Sim.T_fail, Sim.T_bind, Sim.T_pureO, Sim.EndQ_nxt, Sim.EndQ_ret, Sim.lasts_nil, Sim.T_call, Sim.T_name, Sim.T_frz, Sim.T_const, Sim.T_sh, Sim.T_op2, Sim.T_op1, Sim.T_test, Sim.T_not, Sim.T_andM, Sim.T_orM, Sim.T_ifM, Sim.T_bl, Sim.T_andV, Sim.T_orV, Sim.T_notV, Sim.T_peek, Sim.T_vP, Sim.T_opP, Sim.T_nilA, Sim.T_consA, Sim.T_nilP, Sim.T_consP, Sim.T_tup, Sim.T_lst, Sim.T_noO, Sim.T_someO, Sim.T_slice, Sim.T_callM, Sim.resL_cons, Sim.resL_nil', Sim.T_isi, Sim.T_nil, Sim.T_brk, Sim.T_cnt, Sim.SeqQ_nxt, Sim.SeqQ_brk, Sim.SeqQ_cnt, Sim.SeqQ_ret, Sim.T_seq, Sim.T_set, Sim.T_drop, Sim.T_ret, Sim.T_retN, Sim.T_retS, Sim.T_asg, Sim.T_nameG, Sim.T_tupG, Sim.T_nilG, Sim.T_consG, Sim.T_aug, Sim.T_app, Sim.T_putD, Sim.T_newD, Sim.T_disp, Sim.T_iter, Sim.T_range1, Sim.T_range2, Sim.LoopQ_nxt, Sim.LoopQ_cnt, Sim.LoopQ_brk, Sim.LoopQ_ret, Sim.T_for, Sim.T_comp, Sim.T_yes, Sim.wipeR, Sim.T_rev, Sim.revD_lst, Sim.T_revR1, Sim.T_rg1, Sim.T_rg2, Sim.T_lstRg, Sim.T_tupRg, Sim.sumD_ints, Sim.ixDD_tup, Sim.ixDD_lst, Sim.ixDD_scr, Sim.ixDD_dct, Sim.atI_nat, Sim.atI_lit, Sim.lenD_tup, Sim.lenD_lst, Sim.lenD_scr, Sim.lenD_dct, Sim.addD_int, Sim.iaddD_int, Sim.subD_int, Sim.mulD_int, Sim.mulD_one, Sim.fdivD_int, Sim.modD_int, Sim.powD_int, Sim.addD_tup, Sim.addD_lst, Sim.negD_int, Sim.ltD_int, Sim.leD_int, Sim.gtD_int, Sim.geD_int, Sim.eqB_int, Sim.eqB_str, Sim.eqB_bl, Sim.eqB_non, Sim.eqD_of, Sim.neD_of, Sim.isD_non, Sim.isNotD_non, Sim.isN_non, Sim.isN_bl, Sim.isN_int, Sim.isN_str, Sim.isN_tup, Sim.isN_lst, Sim.frz_non, Sim.frz_bl, Sim.frz_int, Sim.frz_str, Sim.frz_tup, Sim.frz_lst, Sim.frz_dct, Sim.frz_scr, Sim.maxD_int, Sim.minD_int, Sim.absD_int, Sim.intD_int, Sim.tupleD_tup, Sim.tupleD_lst, Sim.listD_tup, Sim.listD_lst, Sim.listD_scr, Sim.itemsD_sh, Sim.itemsD_tup, Sim.itemsD_scr, Sim.isi_non, Sim.isi_bl, Sim.isi_int, Sim.isi_str, Sim.isi_tup, Sim.isi_lst, Sim.slice_tup, Sim.slice_lst, Sim.inDD_of, Sim.notInDD_of, Sim.inD_tup, Sim.inD_lst, Sim.inD_dct, Sim.cap, Sim.nat10, Sim.nat2, Nat.zero_le, Sim.ex_some, Sim.ex_some2, Sim.ex_if, Sim.ex_map, Sim.ex_eq, Sim.ex_bl, Sim.ex_int, Sim.ex_own, Sim.ex_lst, Sim.inr_at, Sim.inl_at, Sim.tt_c, Sim.ff_c, Sim.pad_nil, Sim.pad_n, Sim.nones_0, Sim.nones_s, List.getElem?_cons_zero, List.getElem?_cons_succ, List.set_cons_zero, List.set_cons_succ, List.map_cons, List.map_nil, List.cons_append, List.nil_append, Option.map_some, List.length_cons, List.length_nil, Int.zero_add, Nat.zero_add, Nat.reduceAdd, Nat.reduceLeDiff, Nat.reduceMul, true_and, and_true, decide_eq_true_eq, decide_eq_false_iff_not, Bool.false_eq_true, Bool.true_eq_false, false_implies, true_implies, implies_true, eq_self, decide_true, decide_false, not_true_eq_false, not_false_eq_true, Bool.not_true, Bool.not_false, Int.reduceLT, Int.reduceLE, Int.reduceNeg, Int.reducePow, Int.reduceToNat]
      refine T_augIx ⟨_, rfl, ?_⟩
      simp only [Sim.T_ok, Sim.T_fail, Sim.T_bind, Sim.T_pureO, Sim.EndQ_nxt, Sim.EndQ_ret, Sim.lasts_nil, Sim.T_call, Sim.T_name, Sim.T_frz, Sim.T_const, Sim.T_sh, Sim.T_op2, Sim.T_op1, Sim.T_test, Sim.T_not, Sim.T_andM, Sim.T_orM, Sim.T_ifM, Sim.T_bl, Sim.T_andV, Sim.T_orV, Sim.T_notV, Sim.T_peek, Sim.T_vP, Sim.T_opP, Sim.T_nilA, Sim.T_consA, Sim.T_nilP, Sim.T_consP, Sim.T_tup, Sim.T_lst, Sim.T_noO, Sim.T_someO, Sim.T_slice, Sim.T_callM, Sim.resL_cons, Sim.resL_nil', Sim.T_isi, Sim.T_nil, Sim.T_brk, Sim.T_cnt, Sim.SeqQ_nxt, Sim.SeqQ_brk, Sim.SeqQ_cnt, Sim.SeqQ_ret, Sim.T_seq, Sim.T_set, Sim.T_drop, Sim.T_ret, Sim.T_retN, Sim.T_retS, Sim.T_asg, Sim.T_nameG, Sim.T_tupG, Sim.T_nilG, Sim.T_consG, Sim.T_aug, Sim.T_app, Sim.T_putD, Sim.T_newD, Sim.T_disp, Sim.T_iter, Sim.T_range1, Sim.T_range2, Sim.LoopQ_nxt, Sim.LoopQ_cnt, Sim.LoopQ_brk, Sim.LoopQ_ret, Sim.T_for, Sim.T_comp, Sim.T_yes, Sim.wipeR, Sim.T_rev, Sim.revD_lst, Sim.T_revR1, Sim.T_rg1, Sim.T_rg2, Sim.T_lstRg, Sim.T_tupRg, Sim.sumD_ints, Sim.ixDD_tup, Sim.ixDD_lst, Sim.ixDD_scr, Sim.ixDD_dct, Sim.atI_nat, Sim.atI_lit, Sim.lenD_tup, Sim.lenD_lst, Sim.lenD_scr, Sim.lenD_dct, Sim.addD_int, Sim.iaddD_int, Sim.subD_int, Sim.mulD_int, Sim.mulD_one, Sim.fdivD_int, Sim.modD_int, Sim.powD_int, Sim.addD_tup, Sim.addD_lst, Sim.negD_int, Sim.ltD_int, Sim.leD_int, Sim.gtD_int, Sim.geD_int, Sim.eqB_int, Sim.eqB_str, Sim.eqB_bl, Sim.eqB_non, Sim.eqD_of, Sim.neD_of, Sim.isD_non, Sim.isNotD_non, Sim.isN_non, Sim.isN_bl, Sim.isN_int, Sim.isN_str, Sim.isN_tup, Sim.isN_lst, Sim.frz_non, Sim.frz_bl, Sim.frz_int, Sim.frz_str, Sim.frz_tup, Sim.frz_lst, Sim.frz_dct, Sim.frz_scr, Sim.maxD_int, Sim.minD_int, Sim.absD_int, Sim.intD_int, Sim.tupleD_tup, Sim.tupleD_lst, Sim.listD_tup, Sim.listD_lst, Sim.listD_scr, Sim.itemsD_sh, Sim.itemsD_tup, Sim.itemsD_scr, Sim.isi_non, Sim.isi_bl, Sim.isi_int, Sim.isi_str, Sim.isi_tup, Sim.isi_lst, Sim.slice_tup, Sim.slice_lst, Sim.inDD_of, Sim.notInDD_of, Sim.inD_tup, Sim.inD_lst, Sim.inD_dct, Sim.cap, Sim.nat10, Sim.nat2, Nat.zero_le, Sim.ex_some, Sim.ex_some2, Sim.ex_if, Sim.ex_map, Sim.ex_eq, Sim.ex_bl, Sim.ex_int, Sim.ex_own, Sim.ex_lst, Sim.inr_at, Sim.inl_at, Sim.tt_c, Sim.ff_c, Sim.pad_nil, Sim.pad_n, Sim.nones_0, Sim.nones_s, List.getElem?_cons_zero, List.getElem?_cons_succ, List.set_cons_zero, List.set_cons_succ, List.map_cons, List.map_nil, List.cons_append, List.nil_append, Option.map_some, List.length_cons, List.length_nil, Int.zero_add, Nat.zero_add, Nat.reduceAdd, Nat.reduceLeDiff, Nat.reduceMul, true_and, and_true, decide_eq_true_eq, decide_eq_false_iff_not, Bool.false_eq_true, Bool.true_eq_false, false_implies, true_implies, implies_true, eq_self, decide_true, decide_false, not_true_eq_false, not_false_eq_true, Bool.not_true, Bool.not_false, Int.reduceLT, Int.reduceLE, Int.reduceNeg, Int.reducePow, Int.reduceToNat]
      refine ⟨k, rfl, .int x, g1, ?_⟩
      simp only [Sim.T_ok, Sim.T_fail, Sim.T_bind, Sim.T_pureO, Sim.EndQ_nxt, Sim.EndQ_ret, Sim.lasts_nil, Sim.T_call, Sim.T_name, Sim.T_frz, Sim.T_const, Sim.T_sh, Sim.T_op2, Sim.T_op1, Sim.T_test, Sim.T_not, Sim.T_andM, Sim.T_orM, Sim.T_ifM, Sim.T_bl, Sim.T_andV, Sim.T_orV, Sim.T_notV, Sim.T_peek, Sim.T_vP, Sim.T_opP, Sim.T_nilA, Sim.T_consA, Sim.T_nilP, Sim.T_consP, Sim.T_tup, Sim.T_lst, Sim.T_noO, Sim.T_someO, Sim.T_slice, Sim.T_callM, Sim.resL_cons, Sim.resL_nil', Sim.T_isi, Sim.T_nil, Sim.T_brk, Sim.T_cnt, Sim.SeqQ_nxt, Sim.SeqQ_brk, Sim.SeqQ_cnt, Sim.SeqQ_ret, Sim.T_seq, Sim.T_set, Sim.T_drop, Sim.T_ret, Sim.T_retN, Sim.T_retS, Sim.T_asg, Sim.T_nameG, Sim.T_tupG, Sim.T_nilG, Sim.T_consG, Sim.T_aug, Sim.T_app, Sim.T_putD, Sim.T_newD, Sim.T_disp, Sim.T_iter, Sim.T_range1, Sim.T_range2, Sim.LoopQ_nxt, Sim.LoopQ_cnt, Sim.LoopQ_brk, Sim.LoopQ_ret, Sim.T_for, Sim.T_comp, Sim.T_yes, Sim.wipeR, Sim.T_rev, Sim.revD_lst, Sim.T_revR1, Sim.T_rg1, Sim.T_rg2, Sim.T_lstRg, Sim.T_tupRg, Sim.sumD_ints, Sim.ixDD_tup, Sim.ixDD_lst, Sim.ixDD_scr, Sim.ixDD_dct, Sim.atI_nat, Sim.atI_lit, Sim.lenD_tup, Sim.lenD_lst, Sim.lenD_scr, Sim.lenD_dct, Sim.addD_int, Sim.iaddD_int, Sim.subD_int, Sim.mulD_int, Sim.mulD_one, Sim.fdivD_int, Sim.modD_int, Sim.powD_int, Sim.addD_tup, Sim.addD_lst, Sim.negD_int, Sim.ltD_int, Sim.leD_int, Sim.gtD_int, Sim.geD_int, Sim.eqB_int, Sim.eqB_str, Sim.eqB_bl, Sim.eqB_non, Sim.eqD_of, Sim.neD_of, Sim.isD_non, Sim.isNotD_non, Sim.isN_non, Sim.isN_bl, Sim.isN_int, Sim.isN_str, Sim.isN_tup, Sim.isN_lst, Sim.frz_non, Sim.frz_bl, Sim.frz_int, Sim.frz_str, Sim.frz_tup, Sim.frz_lst, Sim.frz_dct, Sim.frz_scr, Sim.maxD_int, Sim.minD_int, Sim.absD_int, Sim.intD_int, Sim.tupleD_tup, Sim.tupleD_lst, Sim.listD_tup, Sim.listD_lst, Sim.listD_scr, Sim.itemsD_sh, Sim.itemsD_tup, Sim.itemsD_scr, Sim.isi_non, Sim.isi_bl, Sim.isi_int, Sim.isi_str, Sim.isi_tup, Sim.isi_lst, Sim.slice_tup, Sim.slice_lst, Sim.inDD_of, Sim.notInDD_of, Sim.inD_tup, Sim.inD_lst, Sim.inD_dct, Sim.cap, Sim.nat10, Sim.nat2, Nat.zero_le, Sim.ex_some, Sim.ex_some2, Sim.ex_if, Sim.ex_map, Sim.ex_eq, Sim.ex_bl, Sim.ex_int, Sim.ex_own, Sim.ex_lst, Sim.inr_at, Sim.inl_at, Sim.tt_c, Sim.ff_c, Sim.pad_nil, Sim.pad_n, Sim.nones_0, Sim.nones_s, List.getElem?_cons_zero, List.getElem?_cons_succ, List.set_cons_zero, List.set_cons_succ, List.map_cons, List.map_nil, List.cons_append, List.nil_append, Option.map_some, List.length_cons, List.length_nil, Int.zero_add, Nat.zero_add, Nat.reduceAdd, Nat.reduceLeDiff, Nat.reduceMul, true_and, and_true, decide_eq_true_eq, decide_eq_false_iff_not, Bool.false_eq_true, Bool.true_eq_false, false_implies, true_implies, implies_true, eq_self, decide_true, decide_false, not_true_eq_false, not_false_eq_true, Bool.not_true, Bool.not_false, Int.reduceLT, Int.reduceLE, Int.reduceNeg, Int.reducePow, Int.reduceToNat, hset]
      refine ⟨hlt, ?_⟩
      unfold nxtD
      rw [nxt_some (w := (x + 1) :: lows (sp.drop (k + 1))) k (by omega) (by omega) (by rw [hvd, hsd, nxt, hx]; exact if_pos h)]
    · have h : ¬ x < s.2 := of_decide_eq_false h.symm
      simp only [Sim.T_ok, Sim.T_fail, Sim.T_bind, Sim.T_pureO, Sim.EndQ_nxt, Sim.EndQ_ret, Sim.lasts_nil, Sim.T_call, Sim.T_name, Sim.T_frz, Sim.T_const, Sim.T_sh, Sim.T_op2, Sim.T_op1, Sim.T_test, Sim.T_not, Sim.T_andM, Sim.T_orM, Sim.T_ifM, Sim.T_bl, Sim.T_andV, Sim.T_orV, Sim.T_notV, Sim.T_peek, Sim.T_vP, Sim.T_opP, Sim.T_nilA, Sim.T_consA, Sim.T_nilP, Sim.T_consP, Sim.T_tup, Sim.T_lst, Sim.T_noO, Sim.T_someO, Sim.T_slice, Sim.T_callM, Sim.resL_cons, Sim.resL_nil', Sim.T_isi, Sim.T_nil, Sim.T_brk, Sim.T_cnt, Sim.SeqQ_nxt, Sim.SeqQ_brk, Sim.SeqQ_cnt, Sim.SeqQ_ret, Sim.T_seq, Sim.T_set, Sim.T_drop, Sim.T_ret, Sim.T_retN, Sim.T_retS, Sim.T_asg, Sim.T_nameG, Sim.T_tupG, Sim.T_nilG, Sim.T_consG, Sim.T_aug, Sim.T_app, Sim.T_putD, Sim.T_newD, Sim.T_disp, Sim.T_iter, Sim.T_range1, Sim.T_range2, Sim.LoopQ_nxt, Sim.LoopQ_cnt, Sim.LoopQ_brk, Sim.LoopQ_ret, Sim.T_for, Sim.T_comp, Sim.T_yes, Sim.wipeR, Sim.T_rev, Sim.revD_lst, Sim.T_revR1, Sim.T_rg1, Sim.T_rg2, Sim.T_lstRg, Sim.T_tupRg, Sim.sumD_ints, Sim.ixDD_tup, Sim.ixDD_lst, Sim.ixDD_scr, Sim.ixDD_dct, Sim.atI_nat, Sim.atI_lit, Sim.lenD_tup, Sim.lenD_lst, Sim.lenD_scr, Sim.lenD_dct, Sim.addD_int, Sim.iaddD_int, Sim.subD_int, Sim.mulD_int, Sim.mulD_one, Sim.fdivD_int, Sim.modD_int, Sim.powD_int, Sim.addD_tup, Sim.addD_lst, Sim.negD_int, Sim.ltD_int, Sim.leD_int, Sim.gtD_int, Sim.geD_int, Sim.eqB_int, Sim.eqB_str, Sim.eqB_bl, Sim.eqB_non, Sim.eqD_of, Sim.neD_of, Sim.isD_non, Sim.isNotD_non, Sim.isN_non, Sim.isN_bl, Sim.isN_int, Sim.isN_str, Sim.isN_tup, Sim.isN_lst, Sim.frz_non, Sim.frz_bl, Sim.frz_int, Sim.frz_str, Sim.frz_tup, Sim.frz_lst, Sim.frz_dct, Sim.frz_scr, Sim.maxD_int, Sim.minD_int, Sim.absD_int, Sim.intD_int, Sim.tupleD_tup, Sim.tupleD_lst, Sim.listD_tup, Sim.listD_lst, Sim.listD_scr, Sim.itemsD_sh, Sim.itemsD_tup, Sim.itemsD_scr, Sim.isi_non, Sim.isi_bl, Sim.isi_int, Sim.isi_str, Sim.isi_tup, Sim.isi_lst, Sim.slice_tup, Sim.slice_lst, Sim.inDD_of, Sim.notInDD_of, Sim.inD_tup, Sim.inD_lst, Sim.inD_dct, Sim.cap, Sim.nat10, Sim.nat2, Nat.zero_le, Sim.ex_some, Sim.ex_some2, Sim.ex_if, Sim.ex_map, Sim.ex_eq, Sim.ex_bl, Sim.ex_int, Sim.ex_own, Sim.ex_lst, Sim.inr_at, Sim.inl_at, Sim.tt_c, Sim.ff_c, Sim.pad_nil, Sim.pad_n, Sim.nones_0, Sim.nones_s, List.getElem?_cons_zero, List.getElem?_cons_succ, List.set_cons_zero, List.set_cons_succ, List.map_cons, List.map_nil, List.cons_append, List.nil_append, Option.map_some, List.length_cons, List.length_nil, Int.zero_add, Nat.zero_add, Nat.reduceAdd, Nat.reduceLeDiff, Nat.reduceMul, true_and, and_true, decide_eq_true_eq, decide_eq_false_iff_not, Bool.false_eq_true, Bool.true_eq_false, false_implies, true_implies, implies_true, eq_self, decide_true, decide_false, not_true_eq_false, not_false_eq_true, Bool.not_true, Bool.not_false, Int.reduceLT, Int.reduceLE, Int.reduceNeg, Int.reducePow, Int.reduceToNat, g2]
      refine ⟨_, by rw [stored_lst, setIx_nat _ _ _ hlt]; rfl, ?_⟩
      rw [e2]
      refine ⟨by omega, by rw [hvd, hsd, nxt, hx]; exact if_neg h, some (.int k), ?_⟩
      rw [hset, hsd]
      rfl
  · rintro ρ ⟨hi, hx, o, rfl⟩
    rw [List.length_reverse, rangeL_len, Nat.sub_self] at hx
    simp only [Sim.T_ok, Sim.T_fail, Sim.T_bind, Sim.T_pureO, Sim.EndQ_nxt, Sim.EndQ_ret, Sim.lasts_nil, Sim.T_call, Sim.T_name, Sim.T_frz, Sim.T_const, Sim.T_sh, Sim.T_op2, Sim.T_op1, Sim.T_test, Sim.T_not, Sim.T_andM, Sim.T_orM, Sim.T_ifM, Sim.T_bl, Sim.T_andV, Sim.T_orV, Sim.T_notV, Sim.T_peek, Sim.T_vP, Sim.T_opP, Sim.T_nilA, Sim.T_consA, Sim.T_nilP, Sim.T_consP, Sim.T_tup, Sim.T_lst, Sim.T_noO, Sim.T_someO, Sim.T_slice, Sim.T_callM, Sim.resL_cons, Sim.resL_nil', Sim.T_isi, Sim.T_nil, Sim.T_brk, Sim.T_cnt, Sim.SeqQ_nxt, Sim.SeqQ_brk, Sim.SeqQ_cnt, Sim.SeqQ_ret, Sim.T_seq, Sim.T_set, Sim.T_drop, Sim.T_ret, Sim.T_retN, Sim.T_retS, Sim.T_asg, Sim.T_nameG, Sim.T_tupG, Sim.T_nilG, Sim.T_consG, Sim.T_aug, Sim.T_app, Sim.T_putD, Sim.T_newD, Sim.T_disp, Sim.T_iter, Sim.T_range1, Sim.T_range2, Sim.LoopQ_nxt, Sim.LoopQ_cnt, Sim.LoopQ_brk, Sim.LoopQ_ret, Sim.T_for, Sim.T_comp, Sim.T_yes, Sim.wipeR, Sim.T_rev, Sim.revD_lst, Sim.T_revR1, Sim.T_rg1, Sim.T_rg2, Sim.T_lstRg, Sim.T_tupRg, Sim.sumD_ints, Sim.ixDD_tup, Sim.ixDD_lst, Sim.ixDD_scr, Sim.ixDD_dct, Sim.atI_nat, Sim.atI_lit, Sim.lenD_tup, Sim.lenD_lst, Sim.lenD_scr, Sim.lenD_dct, Sim.addD_int, Sim.iaddD_int, Sim.subD_int, Sim.mulD_int, Sim.mulD_one, Sim.fdivD_int, Sim.modD_int, Sim.powD_int, Sim.addD_tup, Sim.addD_lst, Sim.negD_int, Sim.ltD_int, Sim.leD_int, Sim.gtD_int, Sim.geD_int, Sim.eqB_int, Sim.eqB_str, Sim.eqB_bl, Sim.eqB_non, Sim.eqD_of, Sim.neD_of, Sim.isD_non, Sim.isNotD_non, Sim.isN_non, Sim.isN_bl, Sim.isN_int, Sim.isN_str, Sim.isN_tup, Sim.isN_lst, Sim.frz_non, Sim.frz_bl, Sim.frz_int, Sim.frz_str, Sim.frz_tup, Sim.frz_lst, Sim.frz_dct, Sim.frz_scr, Sim.maxD_int, Sim.minD_int, Sim.absD_int, Sim.intD_int, Sim.tupleD_tup, Sim.tupleD_lst, Sim.listD_tup, Sim.listD_lst, Sim.listD_scr, Sim.itemsD_sh, Sim.itemsD_tup, Sim.itemsD_scr, Sim.isi_non, Sim.isi_bl, Sim.isi_int, Sim.isi_str, Sim.isi_tup, Sim.isi_lst, Sim.slice_tup, Sim.slice_lst, Sim.inDD_of, Sim.notInDD_of, Sim.inD_tup, Sim.inD_lst, Sim.inD_dct, Sim.cap, Sim.nat10, Sim.nat2, Nat.zero_le, Sim.ex_some, Sim.ex_some2, Sim.ex_if, Sim.ex_map, Sim.ex_eq, Sim.ex_bl, Sim.ex_int, Sim.ex_own, Sim.ex_lst, Sim.inr_at, Sim.inl_at, Sim.tt_c, Sim.ff_c, Sim.pad_nil, Sim.pad_n, Sim.nones_0, Sim.nones_s, List.getElem?_cons_zero, List.getElem?_cons_succ, List.set_cons_zero, List.set_cons_succ, List.map_cons, List.map_nil, List.cons_append, List.nil_append, Option.map_some, List.length_cons, List.length_nil, Int.zero_add, Nat.zero_add, Nat.reduceAdd, Nat.reduceLeDiff, Nat.reduceMul, true_and, and_true, decide_eq_true_eq, decide_eq_false_iff_not, Bool.false_eq_true, Bool.true_eq_false, false_implies, true_implies, implies_true, eq_self, decide_true, decide_false, not_true_eq_false, not_false_eq_true, Bool.not_true, Bool.not_false, Int.reduceLT, Int.reduceLE, Int.reduceNeg, Int.reducePow, Int.reduceToNat]
    unfold nxtD
    rw [show nxt sp v = none from hx]
end Law

namespace Law
open PySem PySem.Spec PyProof.Rows L2 Sim
abbrev spans (vs : List Var) : List Sp1 := vs.map fun v => (v.low, v.high)
theorem first_spans_ok {R : Fs} (vs : List Var) (rest : List D) (h : vs.length ≤ 1000) : FT (defF 1 [] (b_first_spans R)) [.tup (.tup (vs.map Var.enc) :: rest)] fun d fs => fs = [] ∧ d = .lst .own (spD (spans vs)) := by
  refine FT_def ?_
  simp only [Sim.T_ok, Sim.T_fail, Sim.T_bind, Sim.T_pureO, Sim.EndQ_nxt, Sim.EndQ_ret, Sim.lasts_nil, Sim.T_call, Sim.T_name, Sim.T_frz, Sim.T_const, Sim.T_sh, Sim.T_op2, Sim.T_op1, Sim.T_test, Sim.T_not, Sim.T_andM, Sim.T_orM, Sim.T_ifM, Sim.T_bl, Sim.T_andV, Sim.T_orV, Sim.T_notV, Sim.T_peek, Sim.T_vP, Sim.T_opP, Sim.T_nilA, Sim.T_consA, Sim.T_nilP, Sim.T_consP, Sim.T_tup, Sim.T_lst, Sim.T_noO, Sim.T_someO, Sim.T_slice, Sim.T_callM, Sim.resL_cons, Sim.resL_nil', Sim.T_isi, Sim.T_nil, Sim.T_brk, Sim.T_cnt, Sim.SeqQ_nxt, Sim.SeqQ_brk, Sim.SeqQ_cnt, Sim.SeqQ_ret, Sim.T_seq, Sim.T_set, Sim.T_drop, Sim.T_ret, Sim.T_retN, Sim.T_retS, Sim.T_asg, Sim.T_nameG, Sim.T_tupG, Sim.T_nilG, Sim.T_consG, Sim.T_aug, Sim.T_app, Sim.T_putD, Sim.T_newD, Sim.T_disp, Sim.T_iter, Sim.T_range1, Sim.T_range2, Sim.LoopQ_nxt, Sim.LoopQ_cnt, Sim.LoopQ_brk, Sim.LoopQ_ret, Sim.T_for, Sim.T_comp, Sim.T_yes, Sim.wipeR, Sim.T_rev, Sim.revD_lst, Sim.T_revR1, Sim.T_rg1, Sim.T_rg2, Sim.T_lstRg, Sim.T_tupRg, Sim.sumD_ints, Sim.ixDD_tup, Sim.ixDD_lst, Sim.ixDD_scr, Sim.ixDD_dct, Sim.atI_nat, Sim.atI_lit, Sim.lenD_tup, Sim.lenD_lst, Sim.lenD_scr, Sim.lenD_dct, Sim.addD_int, Sim.iaddD_int, Sim.subD_int, Sim.mulD_int, Sim.mulD_one, Sim.fdivD_int, Sim.modD_int, Sim.powD_int, Sim.addD_tup, Sim.addD_lst, Sim.negD_int, Sim.ltD_int, Sim.leD_int, Sim.gtD_int, Sim.geD_int, Sim.eqB_int, Sim.eqB_str, Sim.eqB_bl, Sim.eqB_non, Sim.eqD_of, Sim.neD_of, Sim.isD_non, Sim.isNotD_non, Sim.isN_non, Sim.isN_bl, Sim.isN_int, Sim.isN_str, Sim.isN_tup, Sim.isN_lst, Sim.frz_non, Sim.frz_bl, Sim.frz_int, Sim.frz_str, Sim.frz_tup, Sim.frz_lst, Sim.frz_dct, Sim.frz_scr, Sim.maxD_int, Sim.minD_int, Sim.absD_int, Sim.intD_int, Sim.tupleD_tup, Sim.tupleD_lst, Sim.listD_tup, Sim.listD_lst, Sim.listD_scr, Sim.itemsD_sh, Sim.itemsD_tup, Sim.itemsD_scr, Sim.isi_non, Sim.isi_bl, Sim.isi_int, Sim.isi_str, Sim.isi_tup, Sim.isi_lst, Sim.slice_tup, Sim.slice_lst, Sim.inDD_of, Sim.notInDD_of, Sim.inD_tup, Sim.inD_lst, Sim.inD_dct, Sim.cap, Sim.nat10, Sim.nat2, Nat.zero_le, Sim.ex_some, Sim.ex_some2, Sim.ex_if, Sim.ex_map, Sim.ex_eq, Sim.ex_bl, Sim.ex_int, Sim.ex_own, Sim.ex_lst, Sim.inr_at, Sim.inl_at, Sim.tt_c, Sim.ff_c, Sim.pad_nil, Sim.pad_n, Sim.nones_0, Sim.nones_s, List.getElem?_cons_zero, List.getElem?_cons_succ, List.set_cons_zero, List.set_cons_succ, List.map_cons, List.map_nil, List.cons_append, List.nil_append, Option.map_some, List.length_cons, List.length_nil, Int.zero_add, Nat.zero_add, Nat.reduceAdd, Nat.reduceLeDiff, Nat.reduceMul, true_and, and_true, decide_eq_true_eq, decide_eq_false_iff_not, Bool.false_eq_true, Bool.true_eq_false, false_implies, true_implies, implies_true, eq_self, decide_true, decide_false, not_true_eq_false, not_false_eq_true, Bool.not_true, Bool.not_false, Int.reduceLT, Int.reduceLE, Int.reduceNeg, Int.reducePow, Int.reduceToNat, b_first_spans]
  refine ⟨by simp; omega, ?_⟩
  refine T_compF Var.enc (fun _ => true) (fun v => D.tup [.int v.low, .int v.high]) _ _ ?_ ?_
  · intro v hv
    simp only [Sim.T_ok, Sim.T_fail, Sim.T_bind, Sim.T_pureO, Sim.EndQ_nxt, Sim.EndQ_ret, Sim.lasts_nil, Sim.T_call, Sim.T_name, Sim.T_frz, Sim.T_const, Sim.T_sh, Sim.T_op2, Sim.T_op1, Sim.T_test, Sim.T_not, Sim.T_andM, Sim.T_orM, Sim.T_ifM, Sim.T_bl, Sim.T_andV, Sim.T_orV, Sim.T_notV, Sim.T_peek, Sim.T_vP, Sim.T_opP, Sim.T_nilA, Sim.T_consA, Sim.T_nilP, Sim.T_consP, Sim.T_tup, Sim.T_lst, Sim.T_noO, Sim.T_someO, Sim.T_slice, Sim.T_callM, Sim.resL_cons, Sim.resL_nil', Sim.T_isi, Sim.T_nil, Sim.T_brk, Sim.T_cnt, Sim.SeqQ_nxt, Sim.SeqQ_brk, Sim.SeqQ_cnt, Sim.SeqQ_ret, Sim.T_seq, Sim.T_set, Sim.T_drop, Sim.T_ret, Sim.T_retN, Sim.T_retS, Sim.T_asg, Sim.T_nameG, Sim.T_tupG, Sim.T_nilG, Sim.T_consG, Sim.T_aug, Sim.T_app, Sim.T_putD, Sim.T_newD, Sim.T_disp, Sim.T_iter, Sim.T_range1, Sim.T_range2, Sim.LoopQ_nxt, Sim.LoopQ_cnt, Sim.LoopQ_brk, Sim.LoopQ_ret, Sim.T_for, Sim.T_comp, Sim.T_yes, Sim.wipeR, Sim.T_rev, Sim.revD_lst, Sim.T_revR1, Sim.T_rg1, Sim.T_rg2, Sim.T_lstRg, Sim.T_tupRg, Sim.sumD_ints, Sim.ixDD_tup, Sim.ixDD_lst, Sim.ixDD_scr, Sim.ixDD_dct, Sim.atI_nat, Sim.atI_lit, Sim.lenD_tup, Sim.lenD_lst, Sim.lenD_scr, Sim.lenD_dct, Sim.addD_int, Sim.iaddD_int, Sim.subD_int, Sim.mulD_int, Sim.mulD_one, Sim.fdivD_int, Sim.modD_int, Sim.powD_int, Sim.addD_tup, Sim.addD_lst, Sim.negD_int, Sim.ltD_int, Sim.leD_int, Sim.gtD_int, Sim.geD_int, Sim.eqB_int, Sim.eqB_str, Sim.eqB_bl, Sim.eqB_non, Sim.eqD_of, Sim.neD_of, Sim.isD_non, Sim.isNotD_non, Sim.isN_non, Sim.isN_bl, Sim.isN_int, Sim.isN_str, Sim.isN_tup, Sim.isN_lst, Sim.frz_non, Sim.frz_bl, Sim.frz_int, Sim.frz_str, Sim.frz_tup, Sim.frz_lst, Sim.frz_dct, Sim.frz_scr, Sim.maxD_int, Sim.minD_int, Sim.absD_int, Sim.intD_int, Sim.tupleD_tup, Sim.tupleD_lst, Sim.listD_tup, Sim.listD_lst, Sim.listD_scr, Sim.itemsD_sh, Sim.itemsD_tup, Sim.itemsD_scr, Sim.isi_non, Sim.isi_bl, Sim.isi_int, Sim.isi_str, Sim.isi_tup, Sim.isi_lst, Sim.slice_tup, Sim.slice_lst, Sim.inDD_of, Sim.notInDD_of, Sim.inD_tup, Sim.inD_lst, Sim.inD_dct, Sim.cap, Sim.nat10, Sim.nat2, Nat.zero_le, Sim.ex_some, Sim.ex_some2, Sim.ex_if, Sim.ex_map, Sim.ex_eq, Sim.ex_bl, Sim.ex_int, Sim.ex_own, Sim.ex_lst, Sim.inr_at, Sim.inl_at, Sim.tt_c, Sim.ff_c, Sim.pad_nil, Sim.pad_n, Sim.nones_0, Sim.nones_s, List.getElem?_cons_zero, List.getElem?_cons_succ, List.set_cons_zero, List.set_cons_succ, List.map_cons, List.map_nil, List.cons_append, List.nil_append, Option.map_some, List.length_cons, List.length_nil, Int.zero_add, Nat.zero_add, Nat.reduceAdd, Nat.reduceLeDiff, Nat.reduceMul, true_and, and_true, decide_eq_true_eq, decide_eq_false_iff_not, Bool.false_eq_true, Bool.true_eq_false, false_implies, true_implies, implies_true, eq_self, decide_true, decide_false, not_true_eq_false, not_false_eq_true, Bool.not_true, Bool.not_false, Int.reduceLT, Int.reduceLE, Int.reduceNeg, Int.reducePow, Int.reduceToNat, Var.enc]
  · simp only [Sim.T_ok, Sim.T_fail, Sim.T_bind, Sim.T_pureO, Sim.EndQ_nxt, Sim.EndQ_ret, Sim.lasts_nil, Sim.T_call, Sim.T_name, Sim.T_frz, Sim.T_const, Sim.T_sh, Sim.T_op2, Sim.T_op1, Sim.T_test, Sim.T_not, Sim.T_andM, Sim.T_orM, Sim.T_ifM, Sim.T_bl, Sim.T_andV, Sim.T_orV, Sim.T_notV, Sim.T_peek, Sim.T_vP, Sim.T_opP, Sim.T_nilA, Sim.T_consA, Sim.T_nilP, Sim.T_consP, Sim.T_tup, Sim.T_lst, Sim.T_noO, Sim.T_someO, Sim.T_slice, Sim.T_callM, Sim.resL_cons, Sim.resL_nil', Sim.T_isi, Sim.T_nil, Sim.T_brk, Sim.T_cnt, Sim.SeqQ_nxt, Sim.SeqQ_brk, Sim.SeqQ_cnt, Sim.SeqQ_ret, Sim.T_seq, Sim.T_set, Sim.T_drop, Sim.T_ret, Sim.T_retN, Sim.T_retS, Sim.T_asg, Sim.T_nameG, Sim.T_tupG, Sim.T_nilG, Sim.T_consG, Sim.T_aug, Sim.T_app, Sim.T_putD, Sim.T_newD, Sim.T_disp, Sim.T_iter, Sim.T_range1, Sim.T_range2, Sim.LoopQ_nxt, Sim.LoopQ_cnt, Sim.LoopQ_brk, Sim.LoopQ_ret, Sim.T_for, Sim.T_comp, Sim.T_yes, Sim.wipeR, Sim.T_rev, Sim.revD_lst, Sim.T_revR1, Sim.T_rg1, Sim.T_rg2, Sim.T_lstRg, Sim.T_tupRg, Sim.sumD_ints, Sim.ixDD_tup, Sim.ixDD_lst, Sim.ixDD_scr, Sim.ixDD_dct, Sim.atI_nat, Sim.atI_lit, Sim.lenD_tup, Sim.lenD_lst, Sim.lenD_scr, Sim.lenD_dct, Sim.addD_int, Sim.iaddD_int, Sim.subD_int, Sim.mulD_int, Sim.mulD_one, Sim.fdivD_int, Sim.modD_int, Sim.powD_int, Sim.addD_tup, Sim.addD_lst, Sim.negD_int, Sim.ltD_int, Sim.leD_int, Sim.gtD_int, Sim.geD_int, Sim.eqB_int, Sim.eqB_str, Sim.eqB_bl, Sim.eqB_non, Sim.eqD_of, Sim.neD_of, Sim.isD_non, Sim.isNotD_non, Sim.isN_non, Sim.isN_bl, Sim.isN_int, Sim.isN_str, Sim.isN_tup, Sim.isN_lst, Sim.frz_non, Sim.frz_bl, Sim.frz_int, Sim.frz_str, Sim.frz_tup, Sim.frz_lst, Sim.frz_dct, Sim.frz_scr, Sim.maxD_int, Sim.minD_int, Sim.absD_int, Sim.intD_int, Sim.tupleD_tup, Sim.tupleD_lst, Sim.listD_tup, Sim.listD_lst, Sim.listD_scr, Sim.itemsD_sh, Sim.itemsD_tup, Sim.itemsD_scr, Sim.isi_non, Sim.isi_bl, Sim.isi_int, Sim.isi_str, Sim.isi_tup, Sim.isi_lst, Sim.slice_tup, Sim.slice_lst, Sim.inDD_of, Sim.notInDD_of, Sim.inD_tup, Sim.inD_lst, Sim.inD_dct, Sim.cap, Sim.nat10, Sim.nat2, Nat.zero_le, Sim.ex_some, Sim.ex_some2, Sim.ex_if, Sim.ex_map, Sim.ex_eq, Sim.ex_bl, Sim.ex_int, Sim.ex_own, Sim.ex_lst, Sim.inr_at, Sim.inl_at, Sim.tt_c, Sim.ff_c, Sim.pad_nil, Sim.pad_n, Sim.nones_0, Sim.nones_s, List.getElem?_cons_zero, List.getElem?_cons_succ, List.set_cons_zero, List.set_cons_succ, List.map_cons, List.map_nil, List.cons_append, List.nil_append, Option.map_some, List.length_cons, List.length_nil, Int.zero_add, Nat.zero_add, Nat.reduceAdd, Nat.reduceLeDiff, Nat.reduceMul, true_and, and_true, decide_eq_true_eq, decide_eq_false_iff_not, Bool.false_eq_true, Bool.true_eq_false, false_implies, true_implies, implies_true, eq_self, decide_true, decide_false, not_true_eq_false, not_false_eq_true, Bool.not_true, Bool.not_false, Int.reduceLT, Int.reduceLE, Int.reduceNeg, Int.reducePow, Int.reduceToNat]
    rw [List.filter_eq_self.mpr (fun _ _ => rfl)]
    simp [spD]
def cnt (sp : List Sp1) (m : Int) : Int := sp.foldl (fun m s => m * (s.2 - s.1 + 1)) m
theorem count_ok {R : Fs} (hf : ∀ (vs : List Var) (rest : List D), vs.length ≤ 1000 → FT R.f_first_spans [.tup (.tup (vs.map Var.enc) :: rest)] fun d fs => fs = [] ∧ d = .lst .own (spD (spans vs)))
    (vs : List Var) (rest : List D) (h : vs.length ≤ 1000) (hb : ∀ s ∈ spans vs, -1000000000000 < s.2 - s.1 + 1 ∧ s.2 - s.1 + 1 < 1000000000000) :
    FT (defF 3 [] (b_count_first R)) [.tup (.tup (vs.map Var.enc) :: rest)] fun d fs => fs = [] ∧ d = .int (cnt (spans vs) 1) := by
  refine FT_def ?_
  simp only [Sim.T_ok, Sim.T_fail, Sim.T_bind, Sim.T_pureO, Sim.EndQ_nxt, Sim.EndQ_ret, Sim.lasts_nil, Sim.T_call, Sim.T_name, Sim.T_frz, Sim.T_const, Sim.T_sh, Sim.T_op2, Sim.T_op1, Sim.T_test, Sim.T_not, Sim.T_andM, Sim.T_orM, Sim.T_ifM, Sim.T_bl, Sim.T_andV, Sim.T_orV, Sim.T_notV, Sim.T_peek, Sim.T_vP, Sim.T_opP, Sim.T_nilA, Sim.T_consA, Sim.T_nilP, Sim.T_consP, Sim.T_tup, Sim.T_lst, Sim.T_noO, Sim.T_someO, Sim.T_slice, Sim.T_callM, Sim.resL_cons, Sim.resL_nil', Sim.T_isi, Sim.T_nil, Sim.T_brk, Sim.T_cnt, Sim.SeqQ_nxt, Sim.SeqQ_brk, Sim.SeqQ_cnt, Sim.SeqQ_ret, Sim.T_seq, Sim.T_set, Sim.T_drop, Sim.T_ret, Sim.T_retN, Sim.T_retS, Sim.T_asg, Sim.T_nameG, Sim.T_tupG, Sim.T_nilG, Sim.T_consG, Sim.T_aug, Sim.T_app, Sim.T_putD, Sim.T_newD, Sim.T_disp, Sim.T_iter, Sim.T_range1, Sim.T_range2, Sim.LoopQ_nxt, Sim.LoopQ_cnt, Sim.LoopQ_brk, Sim.LoopQ_ret, Sim.T_for, Sim.T_comp, Sim.T_yes, Sim.wipeR, Sim.T_rev, Sim.revD_lst, Sim.T_revR1, Sim.T_rg1, Sim.T_rg2, Sim.T_lstRg, Sim.T_tupRg, Sim.sumD_ints, Sim.ixDD_tup, Sim.ixDD_lst, Sim.ixDD_scr, Sim.ixDD_dct, Sim.atI_nat, Sim.atI_lit, Sim.lenD_tup, Sim.lenD_lst, Sim.lenD_scr, Sim.lenD_dct, Sim.addD_int, Sim.iaddD_int, Sim.subD_int, Sim.mulD_int, Sim.mulD_one, Sim.fdivD_int, Sim.modD_int, Sim.powD_int, Sim.addD_tup, Sim.addD_lst, Sim.negD_int, Sim.ltD_int, Sim.leD_int, Sim.gtD_int, Sim.geD_int, Sim.eqB_int, Sim.eqB_str, Sim.eqB_bl, Sim.eqB_non, Sim.eqD_of, Sim.neD_of, Sim.isD_non, Sim.isNotD_non, Sim.isN_non, Sim.isN_bl, Sim.isN_int, Sim.isN_str, Sim.isN_tup, Sim.isN_lst, Sim.frz_non, Sim.frz_bl, Sim.frz_int, Sim.frz_str, Sim.frz_tup, Sim.frz_lst, Sim.frz_dct, Sim.frz_scr, Sim.maxD_int, Sim.minD_int, Sim.absD_int, Sim.intD_int, Sim.tupleD_tup, Sim.tupleD_lst, Sim.listD_tup, Sim.listD_lst, Sim.listD_scr, Sim.itemsD_sh, Sim.itemsD_tup, Sim.itemsD_scr, Sim.isi_non, Sim.isi_bl, Sim.isi_int, Sim.isi_str, Sim.isi_tup, Sim.isi_lst, Sim.slice_tup, Sim.slice_lst, Sim.inDD_of, Sim.notInDD_of, Sim.inD_tup, Sim.inD_lst, Sim.inD_dct, Sim.cap, Sim.nat10, Sim.nat2, Nat.zero_le, Sim.ex_some, Sim.ex_some2, Sim.ex_if, Sim.ex_map, Sim.ex_eq, Sim.ex_bl, Sim.ex_int, Sim.ex_own, Sim.ex_lst, Sim.inr_at, Sim.inl_at, Sim.tt_c, Sim.ff_c, Sim.pad_nil, Sim.pad_n, Sim.nones_0, Sim.nones_s, List.getElem?_cons_zero, List.getElem?_cons_succ, List.set_cons_zero, List.set_cons_succ, List.map_cons, List.map_nil, List.cons_append, List.nil_append, Option.map_some, List.length_cons, List.length_nil, Int.zero_add, Nat.zero_add, Nat.reduceAdd, Nat.reduceLeDiff, Nat.reduceMul, true_and, and_true, decide_eq_true_eq, decide_eq_false_iff_not, Bool.false_eq_true, Bool.true_eq_false, false_implies, true_implies, implies_true, eq_self, decide_true, decide_false, not_true_eq_false, not_false_eq_true, Bool.not_true, Bool.not_false, Int.reduceLT, Int.reduceLE, Int.reduceNeg, Int.reducePow, Int.reduceToNat, b_count_first]
  refine FT_mono (hf vs rest h) ?_
  rintro _ _ ⟨rfl, rfl⟩
  simp only [Sim.T_ok, Sim.T_fail, Sim.T_bind, Sim.T_pureO, Sim.EndQ_nxt, Sim.EndQ_ret, Sim.lasts_nil, Sim.T_call, Sim.T_name, Sim.T_frz, Sim.T_const, Sim.T_sh, Sim.T_op2, Sim.T_op1, Sim.T_test, Sim.T_not, Sim.T_andM, Sim.T_orM, Sim.T_ifM, Sim.T_bl, Sim.T_andV, Sim.T_orV, Sim.T_notV, Sim.T_peek, Sim.T_vP, Sim.T_opP, Sim.T_nilA, Sim.T_consA, Sim.T_nilP, Sim.T_consP, Sim.T_tup, Sim.T_lst, Sim.T_noO, Sim.T_someO, Sim.T_slice, Sim.T_callM, Sim.resL_cons, Sim.resL_nil', Sim.T_isi, Sim.T_nil, Sim.T_brk, Sim.T_cnt, Sim.SeqQ_nxt, Sim.SeqQ_brk, Sim.SeqQ_cnt, Sim.SeqQ_ret, Sim.T_seq, Sim.T_set, Sim.T_drop, Sim.T_ret, Sim.T_retN, Sim.T_retS, Sim.T_asg, Sim.T_nameG, Sim.T_tupG, Sim.T_nilG, Sim.T_consG, Sim.T_aug, Sim.T_app, Sim.T_putD, Sim.T_newD, Sim.T_disp, Sim.T_iter, Sim.T_range1, Sim.T_range2, Sim.LoopQ_nxt, Sim.LoopQ_cnt, Sim.LoopQ_brk, Sim.LoopQ_ret, Sim.T_for, Sim.T_comp, Sim.T_yes, Sim.wipeR, Sim.T_rev, Sim.revD_lst, Sim.T_revR1, Sim.T_rg1, Sim.T_rg2, Sim.T_lstRg, Sim.T_tupRg, Sim.sumD_ints, Sim.ixDD_tup, Sim.ixDD_lst, Sim.ixDD_scr, Sim.ixDD_dct, Sim.atI_nat, Sim.atI_lit, Sim.lenD_tup, Sim.lenD_lst, Sim.lenD_scr, Sim.lenD_dct, Sim.addD_int, Sim.iaddD_int, Sim.subD_int, Sim.mulD_int, Sim.mulD_one, Sim.fdivD_int, Sim.modD_int, Sim.powD_int, Sim.addD_tup, Sim.addD_lst, Sim.negD_int, Sim.ltD_int, Sim.leD_int, Sim.gtD_int, Sim.geD_int, Sim.eqB_int, Sim.eqB_str, Sim.eqB_bl, Sim.eqB_non, Sim.eqD_of, Sim.neD_of, Sim.isD_non, Sim.isNotD_non, Sim.isN_non, Sim.isN_bl, Sim.isN_int, Sim.isN_str, Sim.isN_tup, Sim.isN_lst, Sim.frz_non, Sim.frz_bl, Sim.frz_int, Sim.frz_str, Sim.frz_tup, Sim.frz_lst, Sim.frz_dct, Sim.frz_scr, Sim.maxD_int, Sim.minD_int, Sim.absD_int, Sim.intD_int, Sim.tupleD_tup, Sim.tupleD_lst, Sim.listD_tup, Sim.listD_lst, Sim.listD_scr, Sim.itemsD_sh, Sim.itemsD_tup, Sim.itemsD_scr, Sim.isi_non, Sim.isi_bl, Sim.isi_int, Sim.isi_str, Sim.isi_tup, Sim.isi_lst, Sim.slice_tup, Sim.slice_lst, Sim.inDD_of, Sim.notInDD_of, Sim.inD_tup, Sim.inD_lst, Sim.inD_dct, Sim.cap, Sim.nat10, Sim.nat2, Nat.zero_le, Sim.ex_some, Sim.ex_some2, Sim.ex_if, Sim.ex_map, Sim.ex_eq, Sim.ex_bl, Sim.ex_int, Sim.ex_own, Sim.ex_lst, Sim.inr_at, Sim.inl_at, Sim.tt_c, Sim.ff_c, Sim.pad_nil, Sim.pad_n, Sim.nones_0, Sim.nones_s, List.getElem?_cons_zero, List.getElem?_cons_succ, List.set_cons_zero, List.set_cons_succ, List.map_cons, List.map_nil, List.cons_append, List.nil_append, Option.map_some, List.length_cons, List.length_nil, Int.zero_add, Nat.zero_add, Nat.reduceAdd, Nat.reduceLeDiff, Nat.reduceMul, true_and, and_true, decide_eq_true_eq, decide_eq_false_iff_not, Bool.false_eq_true, Bool.true_eq_false, false_implies, true_implies, implies_true, eq_self, decide_true, decide_false, not_true_eq_false, not_false_eq_true, Bool.not_true, Bool.not_false, Int.reduceLT, Int.reduceLE, Int.reduceNeg, Int.reducePow, Int.reduceToNat]
  refine T_go (fun q ρ => ∃ (sp : List Sp1) (m : Int) (o2 o3 : Option D), q = spD sp ∧ ρ = [some (.tup (.tup (vs.map Var.enc) :: rest)), some (.int m), o2, o3] ∧ cnt sp m = cnt (spans vs) 1 ∧ (∀ s ∈ sp, -1000000000000 < s.2 - s.1 + 1 ∧ s.2 - s.1 + 1 < 1000000000000)) ?_ ?_ _ _ ⟨_, 1, _, _, rfl, rfl, rfl, hb⟩
  · intro d q ρ hI
    obtain ⟨sp, m, o2, o3, hq, hρ, hc, hb⟩ := hI
    subst hρ
    match sp, hq with
    | s :: sp, hq =>
      cases hq
      have hs := hb s (.head _)
      simp only [Sim.T_ok, Sim.T_fail, Sim.T_bind, Sim.T_pureO, Sim.EndQ_nxt, Sim.EndQ_ret, Sim.lasts_nil, Sim.T_call, Sim.T_name, Sim.T_frz, Sim.T_const, Sim.T_sh, Sim.T_op2, Sim.T_op1, Sim.T_test, Sim.T_not, Sim.T_andM, Sim.T_orM, Sim.T_ifM, Sim.T_bl, Sim.T_andV, Sim.T_orV, Sim.T_notV, Sim.T_peek, Sim.T_vP, Sim.T_opP, Sim.T_nilA, Sim.T_consA, Sim.T_nilP, Sim.T_consP, Sim.T_tup, Sim.T_lst, Sim.T_noO, Sim.T_someO, Sim.T_slice, Sim.T_callM, Sim.resL_cons, Sim.resL_nil', Sim.T_isi, Sim.T_nil, Sim.T_brk, Sim.T_cnt, Sim.SeqQ_nxt, Sim.SeqQ_brk, Sim.SeqQ_cnt, Sim.SeqQ_ret, Sim.T_seq, Sim.T_set, Sim.T_drop, Sim.T_ret, Sim.T_retN, Sim.T_retS, Sim.T_asg, Sim.T_nameG, Sim.T_tupG, Sim.T_nilG, Sim.T_consG, Sim.T_aug, Sim.T_app, Sim.T_putD, Sim.T_newD, Sim.T_disp, Sim.T_iter, Sim.T_range1, Sim.T_range2, Sim.LoopQ_nxt, Sim.LoopQ_cnt, Sim.LoopQ_brk, Sim.LoopQ_ret, Sim.T_for, Sim.T_comp, Sim.T_yes, Sim.wipeR, Sim.T_rev, Sim.revD_lst, Sim.T_revR1, Sim.T_rg1, Sim.T_rg2, Sim.T_lstRg, Sim.T_tupRg, Sim.sumD_ints, Sim.ixDD_tup, Sim.ixDD_lst, Sim.ixDD_scr, Sim.ixDD_dct, Sim.atI_nat, Sim.atI_lit, Sim.lenD_tup, Sim.lenD_lst, Sim.lenD_scr, Sim.lenD_dct, Sim.addD_int, Sim.iaddD_int, Sim.subD_int, Sim.mulD_int, Sim.mulD_one, Sim.fdivD_int, Sim.modD_int, Sim.powD_int, Sim.addD_tup, Sim.addD_lst, Sim.negD_int, Sim.ltD_int, Sim.leD_int, Sim.gtD_int, Sim.geD_int, Sim.eqB_int, Sim.eqB_str, Sim.eqB_bl, Sim.eqB_non, Sim.eqD_of, Sim.neD_of, Sim.isD_non, Sim.isNotD_non, Sim.isN_non, Sim.isN_bl, Sim.isN_int, Sim.isN_str, Sim.isN_tup, Sim.isN_lst, Sim.frz_non, Sim.frz_bl, Sim.frz_int, Sim.frz_str, Sim.frz_tup, Sim.frz_lst, Sim.frz_dct, Sim.frz_scr, Sim.maxD_int, Sim.minD_int, Sim.absD_int, Sim.intD_int, Sim.tupleD_tup, Sim.tupleD_lst, Sim.listD_tup, Sim.listD_lst, Sim.listD_scr, Sim.itemsD_sh, Sim.itemsD_tup, Sim.itemsD_scr, Sim.isi_non, Sim.isi_bl, Sim.isi_int, Sim.isi_str, Sim.isi_tup, Sim.isi_lst, Sim.slice_tup, Sim.slice_lst, Sim.inDD_of, Sim.notInDD_of, Sim.inD_tup, Sim.inD_lst, Sim.inD_dct, Sim.cap, Sim.nat10, Sim.nat2, Nat.zero_le, Sim.ex_some, Sim.ex_some2, Sim.ex_if, Sim.ex_map, Sim.ex_eq, Sim.ex_bl, Sim.ex_int, Sim.ex_own, Sim.ex_lst, Sim.inr_at, Sim.inl_at, Sim.tt_c, Sim.ff_c, Sim.pad_nil, Sim.pad_n, Sim.nones_0, Sim.nones_s, List.getElem?_cons_zero, List.getElem?_cons_succ, List.set_cons_zero, List.set_cons_succ, List.map_cons, List.map_nil, List.cons_append, List.nil_append, Option.map_some, List.length_cons, List.length_nil, Int.zero_add, Nat.zero_add, Nat.reduceAdd, Nat.reduceLeDiff, Nat.reduceMul, true_and, and_true, decide_eq_true_eq, decide_eq_false_iff_not, Bool.false_eq_true, Bool.true_eq_false, false_implies, true_implies, implies_true, eq_self, decide_true, decide_false, not_true_eq_false, not_false_eq_true, Bool.not_true, Bool.not_false, Int.reduceLT, Int.reduceLE, Int.reduceNeg, Int.reducePow, Int.reduceToNat]
      exact ⟨.inr (by omega), sp, _, _, _, rfl, rfl, hc, fun t ht => hb t (.tail _ ht)⟩
  · intro ρ hI
    obtain ⟨sp, m, o2, o3, hq, hρ, hc, hb⟩ := hI
    subst hρ
    match sp, hq with
    | [], _ =>
      simp only [Sim.T_ok, Sim.T_fail, Sim.T_bind, Sim.T_pureO, Sim.EndQ_nxt, Sim.EndQ_ret, Sim.lasts_nil, Sim.T_call, Sim.T_name, Sim.T_frz, Sim.T_const, Sim.T_sh, Sim.T_op2, Sim.T_op1, Sim.T_test, Sim.T_not, Sim.T_andM, Sim.T_orM, Sim.T_ifM, Sim.T_bl, Sim.T_andV, Sim.T_orV, Sim.T_notV, Sim.T_peek, Sim.T_vP, Sim.T_opP, Sim.T_nilA, Sim.T_consA, Sim.T_nilP, Sim.T_consP, Sim.T_tup, Sim.T_lst, Sim.T_noO, Sim.T_someO, Sim.T_slice, Sim.T_callM, Sim.resL_cons, Sim.resL_nil', Sim.T_isi, Sim.T_nil, Sim.T_brk, Sim.T_cnt, Sim.SeqQ_nxt, Sim.SeqQ_brk, Sim.SeqQ_cnt, Sim.SeqQ_ret, Sim.T_seq, Sim.T_set, Sim.T_drop, Sim.T_ret, Sim.T_retN, Sim.T_retS, Sim.T_asg, Sim.T_nameG, Sim.T_tupG, Sim.T_nilG, Sim.T_consG, Sim.T_aug, Sim.T_app, Sim.T_putD, Sim.T_newD, Sim.T_disp, Sim.T_iter, Sim.T_range1, Sim.T_range2, Sim.LoopQ_nxt, Sim.LoopQ_cnt, Sim.LoopQ_brk, Sim.LoopQ_ret, Sim.T_for, Sim.T_comp, Sim.T_yes, Sim.wipeR, Sim.T_rev, Sim.revD_lst, Sim.T_revR1, Sim.T_rg1, Sim.T_rg2, Sim.T_lstRg, Sim.T_tupRg, Sim.sumD_ints, Sim.ixDD_tup, Sim.ixDD_lst, Sim.ixDD_scr, Sim.ixDD_dct, Sim.atI_nat, Sim.atI_lit, Sim.lenD_tup, Sim.lenD_lst, Sim.lenD_scr, Sim.lenD_dct, Sim.addD_int, Sim.iaddD_int, Sim.subD_int, Sim.mulD_int, Sim.mulD_one, Sim.fdivD_int, Sim.modD_int, Sim.powD_int, Sim.addD_tup, Sim.addD_lst, Sim.negD_int, Sim.ltD_int, Sim.leD_int, Sim.gtD_int, Sim.geD_int, Sim.eqB_int, Sim.eqB_str, Sim.eqB_bl, Sim.eqB_non, Sim.eqD_of, Sim.neD_of, Sim.isD_non, Sim.isNotD_non, Sim.isN_non, Sim.isN_bl, Sim.isN_int, Sim.isN_str, Sim.isN_tup, Sim.isN_lst, Sim.frz_non, Sim.frz_bl, Sim.frz_int, Sim.frz_str, Sim.frz_tup, Sim.frz_lst, Sim.frz_dct, Sim.frz_scr, Sim.maxD_int, Sim.minD_int, Sim.absD_int, Sim.intD_int, Sim.tupleD_tup, Sim.tupleD_lst, Sim.listD_tup, Sim.listD_lst, Sim.listD_scr, Sim.itemsD_sh, Sim.itemsD_tup, Sim.itemsD_scr, Sim.isi_non, Sim.isi_bl, Sim.isi_int, Sim.isi_str, Sim.isi_tup, Sim.isi_lst, Sim.slice_tup, Sim.slice_lst, Sim.inDD_of, Sim.notInDD_of, Sim.inD_tup, Sim.inD_lst, Sim.inD_dct, Sim.cap, Sim.nat10, Sim.nat2, Nat.zero_le, Sim.ex_some, Sim.ex_some2, Sim.ex_if, Sim.ex_map, Sim.ex_eq, Sim.ex_bl, Sim.ex_int, Sim.ex_own, Sim.ex_lst, Sim.inr_at, Sim.inl_at, Sim.tt_c, Sim.ff_c, Sim.pad_nil, Sim.pad_n, Sim.nones_0, Sim.nones_s, List.getElem?_cons_zero, List.getElem?_cons_succ, List.set_cons_zero, List.set_cons_succ, List.map_cons, List.map_nil, List.cons_append, List.nil_append, Option.map_some, List.length_cons, List.length_nil, Int.zero_add, Nat.zero_add, Nat.reduceAdd, Nat.reduceLeDiff, Nat.reduceMul, true_and, and_true, decide_eq_true_eq, decide_eq_false_iff_not, Bool.false_eq_true, Bool.true_eq_false, false_implies, true_implies, implies_true, eq_self, decide_true, decide_false, not_true_eq_false, not_false_eq_true, Bool.not_true, Bool.not_false, Int.reduceLT, Int.reduceLE, Int.reduceNeg, Int.reducePow, Int.reduceToNat]
      rw [← hc]
      rfl
theorem run_len {sp : List Sp1} {v : List Int} {L : List (List Int)} (r : Run sp v L) (hl : sp.length = v.length) : ∀ w ∈ L, w.length = sp.length := by
  induction r with
  | last e => intro w hw; rw [List.mem_singleton] at hw; subst hw; exact hl.symm
  | cons e _ ih =>
    intro w hw
    rcases List.mem_cons.mp hw with rfl | hw
    · exact hl.symm
    · exact ih (by have := nxt_len e hl; omega) w hw
theorem values_ok {R : Fs} (hf : ∀ (vs : List Var) (rest : List D), vs.length ≤ 1000 → FT R.f_first_spans [.tup (.tup (vs.map Var.enc) :: rest)] fun d fs => fs = [] ∧ d = .lst .own (spD (spans vs)))
    (hn : ∀ (sp : List Sp1) (v : List Int), sp.length = v.length → sp.length ≤ 1000 → FT R.f_following [VD v, .lst .sh (spD sp)] fun d fs => fs = [] ∧ d = nxtD sp v)
    (vs : List Var) (rest : List D) (h : vs.length ≤ 1000) (L : List (List Int)) (hr : Run (spans vs) (lows (spans vs)) L) (hL : L.length ≤ 1000) :
    FT (defF 4 [] (b_first_values R)) [.tup (.tup (vs.map Var.enc) :: rest)] fun d fs => fs = [] ∧ d = .lst .own (L.map VD) := by
  refine FT_def ?_
  simp only [Sim.T_ok, Sim.T_fail, Sim.T_bind, Sim.T_pureO, Sim.EndQ_nxt, Sim.EndQ_ret, Sim.lasts_nil, Sim.T_call, Sim.T_name, Sim.T_frz, Sim.T_const, Sim.T_sh, Sim.T_op2, Sim.T_op1, Sim.T_test, Sim.T_not, Sim.T_andM, Sim.T_orM, Sim.T_ifM, Sim.T_bl, Sim.T_andV, Sim.T_orV, Sim.T_notV, Sim.T_peek, Sim.T_vP, Sim.T_opP, Sim.T_nilA, Sim.T_consA, Sim.T_nilP, Sim.T_consP, Sim.T_tup, Sim.T_lst, Sim.T_noO, Sim.T_someO, Sim.T_slice, Sim.T_callM, Sim.resL_cons, Sim.resL_nil', Sim.T_isi, Sim.T_nil, Sim.T_brk, Sim.T_cnt, Sim.SeqQ_nxt, Sim.SeqQ_brk, Sim.SeqQ_cnt, Sim.SeqQ_ret, Sim.T_seq, Sim.T_set, Sim.T_drop, Sim.T_ret, Sim.T_retN, Sim.T_retS, Sim.T_asg, Sim.T_nameG, Sim.T_tupG, Sim.T_nilG, Sim.T_consG, Sim.T_aug, Sim.T_app, Sim.T_putD, Sim.T_newD, Sim.T_disp, Sim.T_iter, Sim.T_range1, Sim.T_range2, Sim.LoopQ_nxt, Sim.LoopQ_cnt, Sim.LoopQ_brk, Sim.LoopQ_ret, Sim.T_for, Sim.T_comp, Sim.T_yes, Sim.wipeR, Sim.T_rev, Sim.revD_lst, Sim.T_revR1, Sim.T_rg1, Sim.T_rg2, Sim.T_lstRg, Sim.T_tupRg, Sim.sumD_ints, Sim.ixDD_tup, Sim.ixDD_lst, Sim.ixDD_scr, Sim.ixDD_dct, Sim.atI_nat, Sim.atI_lit, Sim.lenD_tup, Sim.lenD_lst, Sim.lenD_scr, Sim.lenD_dct, Sim.addD_int, Sim.iaddD_int, Sim.subD_int, Sim.mulD_int, Sim.mulD_one, Sim.fdivD_int, Sim.modD_int, Sim.powD_int, Sim.addD_tup, Sim.addD_lst, Sim.negD_int, Sim.ltD_int, Sim.leD_int, Sim.gtD_int, Sim.geD_int, Sim.eqB_int, Sim.eqB_str, Sim.eqB_bl, Sim.eqB_non, Sim.eqD_of, Sim.neD_of, Sim.isD_non, Sim.isNotD_non, Sim.isN_non, Sim.isN_bl, Sim.isN_int, Sim.isN_str, Sim.isN_tup, Sim.isN_lst, Sim.frz_non, Sim.frz_bl, Sim.frz_int, Sim.frz_str, Sim.frz_tup, Sim.frz_lst, Sim.frz_dct, Sim.frz_scr, Sim.maxD_int, Sim.minD_int, Sim.absD_int, Sim.intD_int, Sim.tupleD_tup, Sim.tupleD_lst, Sim.listD_tup, Sim.listD_lst, Sim.listD_scr, Sim.itemsD_sh, Sim.itemsD_tup, Sim.itemsD_scr, Sim.isi_non, Sim.isi_bl, Sim.isi_int, Sim.isi_str, Sim.isi_tup, Sim.isi_lst, Sim.slice_tup, Sim.slice_lst, Sim.inDD_of, Sim.notInDD_of, Sim.inD_tup, Sim.inD_lst, Sim.inD_dct, Sim.cap, Sim.nat10, Sim.nat2, Nat.zero_le, Sim.ex_some, Sim.ex_some2, Sim.ex_if, Sim.ex_map, Sim.ex_eq, Sim.ex_bl, Sim.ex_int, Sim.ex_own, Sim.ex_lst, Sim.inr_at, Sim.inl_at, Sim.tt_c, Sim.ff_c, Sim.pad_nil, Sim.pad_n, Sim.nones_0, Sim.nones_s, List.getElem?_cons_zero, List.getElem?_cons_succ, List.set_cons_zero, List.set_cons_succ, List.map_cons, List.map_nil, List.cons_append, List.nil_append, Option.map_some, List.length_cons, List.length_nil, Int.zero_add, Nat.zero_add, Nat.reduceAdd, Nat.reduceLeDiff, Nat.reduceMul, true_and, and_true, decide_eq_true_eq, decide_eq_false_iff_not, Bool.false_eq_true, Bool.true_eq_false, false_implies, true_implies, implies_true, eq_self, decide_true, decide_false, not_true_eq_false, not_false_eq_true, Bool.not_true, Bool.not_false, Int.reduceLT, Int.reduceLE, Int.reduceNeg, Int.reducePow, Int.reduceToNat, b_first_values]
  refine FT_mono (hf vs rest h) ?_
  rintro _ _ ⟨rfl, rfl⟩
  simp only [Sim.T_ok, Sim.T_fail, Sim.T_bind, Sim.T_pureO, Sim.EndQ_nxt, Sim.EndQ_ret, Sim.lasts_nil, Sim.T_call, Sim.T_name, Sim.T_frz, Sim.T_const, Sim.T_sh, Sim.T_op2, Sim.T_op1, Sim.T_test, Sim.T_not, Sim.T_andM, Sim.T_orM, Sim.T_ifM, Sim.T_bl, Sim.T_andV, Sim.T_orV, Sim.T_notV, Sim.T_peek, Sim.T_vP, Sim.T_opP, Sim.T_nilA, Sim.T_consA, Sim.T_nilP, Sim.T_consP, Sim.T_tup, Sim.T_lst, Sim.T_noO, Sim.T_someO, Sim.T_slice, Sim.T_callM, Sim.resL_cons, Sim.resL_nil', Sim.T_isi, Sim.T_nil, Sim.T_brk, Sim.T_cnt, Sim.SeqQ_nxt, Sim.SeqQ_brk, Sim.SeqQ_cnt, Sim.SeqQ_ret, Sim.T_seq, Sim.T_set, Sim.T_drop, Sim.T_ret, Sim.T_retN, Sim.T_retS, Sim.T_asg, Sim.T_nameG, Sim.T_tupG, Sim.T_nilG, Sim.T_consG, Sim.T_aug, Sim.T_app, Sim.T_putD, Sim.T_newD, Sim.T_disp, Sim.T_iter, Sim.T_range1, Sim.T_range2, Sim.LoopQ_nxt, Sim.LoopQ_cnt, Sim.LoopQ_brk, Sim.LoopQ_ret, Sim.T_for, Sim.T_comp, Sim.T_yes, Sim.wipeR, Sim.T_rev, Sim.revD_lst, Sim.T_revR1, Sim.T_rg1, Sim.T_rg2, Sim.T_lstRg, Sim.T_tupRg, Sim.sumD_ints, Sim.ixDD_tup, Sim.ixDD_lst, Sim.ixDD_scr, Sim.ixDD_dct, Sim.atI_nat, Sim.atI_lit, Sim.lenD_tup, Sim.lenD_lst, Sim.lenD_scr, Sim.lenD_dct, Sim.addD_int, Sim.iaddD_int, Sim.subD_int, Sim.mulD_int, Sim.mulD_one, Sim.fdivD_int, Sim.modD_int, Sim.powD_int, Sim.addD_tup, Sim.addD_lst, Sim.negD_int, Sim.ltD_int, Sim.leD_int, Sim.gtD_int, Sim.geD_int, Sim.eqB_int, Sim.eqB_str, Sim.eqB_bl, Sim.eqB_non, Sim.eqD_of, Sim.neD_of, Sim.isD_non, Sim.isNotD_non, Sim.isN_non, Sim.isN_bl, Sim.isN_int, Sim.isN_str, Sim.isN_tup, Sim.isN_lst, Sim.frz_non, Sim.frz_bl, Sim.frz_int, Sim.frz_str, Sim.frz_tup, Sim.frz_lst, Sim.frz_dct, Sim.frz_scr, Sim.maxD_int, Sim.minD_int, Sim.absD_int, Sim.intD_int, Sim.tupleD_tup, Sim.tupleD_lst, Sim.listD_tup, Sim.listD_lst, Sim.listD_scr, Sim.itemsD_sh, Sim.itemsD_tup, Sim.itemsD_scr, Sim.isi_non, Sim.isi_bl, Sim.isi_int, Sim.isi_str, Sim.isi_tup, Sim.isi_lst, Sim.slice_tup, Sim.slice_lst, Sim.inDD_of, Sim.notInDD_of, Sim.inD_tup, Sim.inD_lst, Sim.inD_dct, Sim.cap, Sim.nat10, Sim.nat2, Nat.zero_le, Sim.ex_some, Sim.ex_some2, Sim.ex_if, Sim.ex_map, Sim.ex_eq, Sim.ex_bl, Sim.ex_int, Sim.ex_own, Sim.ex_lst, Sim.inr_at, Sim.inl_at, Sim.tt_c, Sim.ff_c, Sim.pad_nil, Sim.pad_n, Sim.nones_0, Sim.nones_s, List.getElem?_cons_zero, List.getElem?_cons_succ, List.set_cons_zero, List.set_cons_succ, List.map_cons, List.map_nil, List.cons_append, List.nil_append, Option.map_some, List.length_cons, List.length_nil, Int.zero_add, Nat.zero_add, Nat.reduceAdd, Nat.reduceLeDiff, Nat.reduceMul, true_and, and_true, decide_eq_true_eq, decide_eq_false_iff_not, Bool.false_eq_true, Bool.true_eq_false, false_implies, true_implies, implies_true, eq_self, decide_true, decide_false, not_true_eq_false, not_false_eq_true, Bool.not_true, Bool.not_false, Int.reduceLT, Int.reduceLE, Int.reduceNeg, Int.reducePow, Int.reduceToNat]
  have hspl : (spans vs).length ≤ 1000 := by simpa using h
  generalize hsp : spans vs = sp at hr hspl
  refine ⟨by show (sp.map _).length ≤ 16777216; rw [List.length_map]; omega, ?_⟩
  refine T_compF (fun s : Sp1 => D.tup [.int s.1, .int s.2]) (fun _ => true) (fun s => D.int s.1) _ _ ?_ ?_
  · intro s hs
    simp only [Sim.T_ok, Sim.T_fail, Sim.T_bind, Sim.T_pureO, Sim.EndQ_nxt, Sim.EndQ_ret, Sim.lasts_nil, Sim.T_call, Sim.T_name, Sim.T_frz, Sim.T_const, Sim.T_sh, Sim.T_op2, Sim.T_op1, Sim.T_test, Sim.T_not, Sim.T_andM, Sim.T_orM, Sim.T_ifM, Sim.T_bl, Sim.T_andV, Sim.T_orV, Sim.T_notV, Sim.T_peek, Sim.T_vP, Sim.T_opP, Sim.T_nilA, Sim.T_consA, Sim.T_nilP, Sim.T_consP, Sim.T_tup, Sim.T_lst, Sim.T_noO, Sim.T_someO, Sim.T_slice, Sim.T_callM, Sim.resL_cons, Sim.resL_nil', Sim.T_isi, Sim.T_nil, Sim.T_brk, Sim.T_cnt, Sim.SeqQ_nxt, Sim.SeqQ_brk, Sim.SeqQ_cnt, Sim.SeqQ_ret, Sim.T_seq, Sim.T_set, Sim.T_drop, Sim.T_ret, Sim.T_retN, Sim.T_retS, Sim.T_asg, Sim.T_nameG, Sim.T_tupG, Sim.T_nilG, Sim.T_consG, Sim.T_aug, Sim.T_app, Sim.T_putD, Sim.T_newD, Sim.T_disp, Sim.T_iter, Sim.T_range1, Sim.T_range2, Sim.LoopQ_nxt, Sim.LoopQ_cnt, Sim.LoopQ_brk, Sim.LoopQ_ret, Sim.T_for, Sim.T_comp, Sim.T_yes, Sim.wipeR, Sim.T_rev, Sim.revD_lst, Sim.T_revR1, Sim.T_rg1, Sim.T_rg2, Sim.T_lstRg, Sim.T_tupRg, Sim.sumD_ints, Sim.ixDD_tup, Sim.ixDD_lst, Sim.ixDD_scr, Sim.ixDD_dct, Sim.atI_nat, Sim.atI_lit, Sim.lenD_tup, Sim.lenD_lst, Sim.lenD_scr, Sim.lenD_dct, Sim.addD_int, Sim.iaddD_int, Sim.subD_int, Sim.mulD_int, Sim.mulD_one, Sim.fdivD_int, Sim.modD_int, Sim.powD_int, Sim.addD_tup, Sim.addD_lst, Sim.negD_int, Sim.ltD_int, Sim.leD_int, Sim.gtD_int, Sim.geD_int, Sim.eqB_int, Sim.eqB_str, Sim.eqB_bl, Sim.eqB_non, Sim.eqD_of, Sim.neD_of, Sim.isD_non, Sim.isNotD_non, Sim.isN_non, Sim.isN_bl, Sim.isN_int, Sim.isN_str, Sim.isN_tup, Sim.isN_lst, Sim.frz_non, Sim.frz_bl, Sim.frz_int, Sim.frz_str, Sim.frz_tup, Sim.frz_lst, Sim.frz_dct, Sim.frz_scr, Sim.maxD_int, Sim.minD_int, Sim.absD_int, Sim.intD_int, Sim.tupleD_tup, Sim.tupleD_lst, Sim.listD_tup, Sim.listD_lst, Sim.listD_scr, Sim.itemsD_sh, Sim.itemsD_tup, Sim.itemsD_scr, Sim.isi_non, Sim.isi_bl, Sim.isi_int, Sim.isi_str, Sim.isi_tup, Sim.isi_lst, Sim.slice_tup, Sim.slice_lst, Sim.inDD_of, Sim.notInDD_of, Sim.inD_tup, Sim.inD_lst, Sim.inD_dct, Sim.cap, Sim.nat10, Sim.nat2, Nat.zero_le, Sim.ex_some, Sim.ex_some2, Sim.ex_if, Sim.ex_map, Sim.ex_eq, Sim.ex_bl, Sim.ex_int, Sim.ex_own, Sim.ex_lst, Sim.inr_at, Sim.inl_at, Sim.tt_c, Sim.ff_c, Sim.pad_nil, Sim.pad_n, Sim.nones_0, Sim.nones_s, List.getElem?_cons_zero, List.getElem?_cons_succ, List.set_cons_zero, List.set_cons_succ, List.map_cons, List.map_nil, List.cons_append, List.nil_append, Option.map_some, List.length_cons, List.length_nil, Int.zero_add, Nat.zero_add, Nat.reduceAdd, Nat.reduceLeDiff, Nat.reduceMul, true_and, and_true, decide_eq_true_eq, decide_eq_false_iff_not, Bool.false_eq_true, Bool.true_eq_false, false_implies, true_implies, implies_true, eq_self, decide_true, decide_false, not_true_eq_false, not_false_eq_true, Bool.not_true, Bool.not_false, Int.reduceLT, Int.reduceLE, Int.reduceNeg, Int.reducePow, Int.reduceToNat]
  simp only [Sim.T_ok, Sim.T_fail, Sim.T_bind, Sim.T_pureO, Sim.EndQ_nxt, Sim.EndQ_ret, Sim.lasts_nil, Sim.T_call, Sim.T_name, Sim.T_frz, Sim.T_const, Sim.T_sh, Sim.T_op2, Sim.T_op1, Sim.T_test, Sim.T_not, Sim.T_andM, Sim.T_orM, Sim.T_ifM, Sim.T_bl, Sim.T_andV, Sim.T_orV, Sim.T_notV, Sim.T_peek, Sim.T_vP, Sim.T_opP, Sim.T_nilA, Sim.T_consA, Sim.T_nilP, Sim.T_consP, Sim.T_tup, Sim.T_lst, Sim.T_noO, Sim.T_someO, Sim.T_slice, Sim.T_callM, Sim.resL_cons, Sim.resL_nil', Sim.T_isi, Sim.T_nil, Sim.T_brk, Sim.T_cnt, Sim.SeqQ_nxt, Sim.SeqQ_brk, Sim.SeqQ_cnt, Sim.SeqQ_ret, Sim.T_seq, Sim.T_set, Sim.T_drop, Sim.T_ret, Sim.T_retN, Sim.T_retS, Sim.T_asg, Sim.T_nameG, Sim.T_tupG, Sim.T_nilG, Sim.T_consG, Sim.T_aug, Sim.T_app, Sim.T_putD, Sim.T_newD, Sim.T_disp, Sim.T_iter, Sim.T_range1, Sim.T_range2, Sim.LoopQ_nxt, Sim.LoopQ_cnt, Sim.LoopQ_brk, Sim.LoopQ_ret, Sim.T_for, Sim.T_comp, Sim.T_yes, Sim.wipeR, Sim.T_rev, Sim.revD_lst, Sim.T_revR1, Sim.T_rg1, Sim.T_rg2, Sim.T_lstRg, Sim.T_tupRg, Sim.sumD_ints, Sim.ixDD_tup, Sim.ixDD_lst, Sim.ixDD_scr, Sim.ixDD_dct, Sim.atI_nat, Sim.atI_lit, Sim.lenD_tup, Sim.lenD_lst, Sim.lenD_scr, Sim.lenD_dct, Sim.addD_int, Sim.iaddD_int, Sim.subD_int, Sim.mulD_int, Sim.mulD_one, Sim.fdivD_int, Sim.modD_int, Sim.powD_int, Sim.addD_tup, Sim.addD_lst, Sim.negD_int, Sim.ltD_int, Sim.leD_int, Sim.gtD_int, Sim.geD_int, Sim.eqB_int, Sim.eqB_str, Sim.eqB_bl, Sim.eqB_non, Sim.eqD_of, Sim.neD_of, Sim.isD_non, Sim.isNotD_non, Sim.isN_non, Sim.isN_bl, Sim.isN_int, Sim.isN_str, Sim.isN_tup, Sim.isN_lst, Sim.frz_non, Sim.frz_bl, Sim.frz_int, Sim.frz_str, Sim.frz_tup, Sim.frz_lst, Sim.frz_dct, Sim.frz_scr, Sim.maxD_int, Sim.minD_int, Sim.absD_int, Sim.intD_int, Sim.tupleD_tup, Sim.tupleD_lst, Sim.listD_tup, Sim.listD_lst, Sim.listD_scr, Sim.itemsD_sh, Sim.itemsD_tup, Sim.itemsD_scr, Sim.isi_non, Sim.isi_bl, Sim.isi_int, Sim.isi_str, Sim.isi_tup, Sim.isi_lst, Sim.slice_tup, Sim.slice_lst, Sim.inDD_of, Sim.notInDD_of, Sim.inD_tup, Sim.inD_lst, Sim.inD_dct, Sim.cap, Sim.nat10, Sim.nat2, Nat.zero_le, Sim.ex_some, Sim.ex_some2, Sim.ex_if, Sim.ex_map, Sim.ex_eq, Sim.ex_bl, Sim.ex_int, Sim.ex_own, Sim.ex_lst, Sim.inr_at, Sim.inl_at, Sim.tt_c, Sim.ff_c, Sim.pad_nil, Sim.pad_n, Sim.nones_0, Sim.nones_s, List.getElem?_cons_zero, List.getElem?_cons_succ, List.set_cons_zero, List.set_cons_succ, List.map_cons, List.map_nil, List.cons_append, List.nil_append, Option.map_some, List.length_cons, List.length_nil, Int.zero_add, Nat.zero_add, Nat.reduceAdd, Nat.reduceLeDiff, Nat.reduceMul, true_and, and_true, decide_eq_true_eq, decide_eq_false_iff_not, Bool.false_eq_true, Bool.true_eq_false, false_implies, true_implies, implies_true, eq_self, decide_true, decide_false, not_true_eq_false, not_false_eq_true, Bool.not_true, Bool.not_false, Int.reduceLT, Int.reduceLE, Int.reduceNeg, Int.reducePow, Int.reduceToNat]
  rw [List.filter_eq_self.mpr (fun _ _ => rfl), show sp.map (fun s => D.int s.1) = (lows sp).map D.int from by rw [lows, List.map_map]; rfl]
  refine T_cut (fun ρ => ∃ a b c e, ρ = [a, b, some (.lst .own (L.map VD)), c, e]) ?_ ?_
  · refine T_while (fun m ρ => ∃ (dn : List (List Int)) (c : D), ρ = [some (.tup (.tup (vs.map Var.enc) :: rest)), some (.lst .sh (spD sp)), some (.lst .own (dn.map VD)), some c, none] ∧
      ((c = .non ∧ dn = L ∧ m = 0) ∨ ∃ v r, c = VD v ∧ Run sp v r ∧ dn ++ r = L ∧ sp.length = v.length ∧ m = r.length + 1)) ?_ wf (L.length + 1) _ (by unfold wf; omega) ⟨[], VD (lows sp), rfl, .inr ⟨lows sp, L, rfl, hr, rfl, by simp [lows], rfl⟩⟩
    rintro m ρ ⟨dn, c, rfl, hI⟩
    rcases hI with ⟨rfl, rfl, rfl⟩ | ⟨v, r, rfl, hr, hdn, hlv, rfl⟩
    · simp only [Sim.T_ok, Sim.T_fail, Sim.T_bind, Sim.T_pureO, Sim.EndQ_nxt, Sim.EndQ_ret, Sim.lasts_nil, Sim.T_call, Sim.T_name, Sim.T_frz, Sim.T_const, Sim.T_sh, Sim.T_op2, Sim.T_op1, Sim.T_test, Sim.T_not, Sim.T_andM, Sim.T_orM, Sim.T_ifM, Sim.T_bl, Sim.T_andV, Sim.T_orV, Sim.T_notV, Sim.T_peek, Sim.T_vP, Sim.T_opP, Sim.T_nilA, Sim.T_consA, Sim.T_nilP, Sim.T_consP, Sim.T_tup, Sim.T_lst, Sim.T_noO, Sim.T_someO, Sim.T_slice, Sim.T_callM, Sim.resL_cons, Sim.resL_nil', Sim.T_isi, Sim.T_nil, Sim.T_brk, Sim.T_cnt, Sim.SeqQ_nxt, Sim.SeqQ_brk, Sim.SeqQ_cnt, Sim.SeqQ_ret, Sim.T_seq, Sim.T_set, Sim.T_drop, Sim.T_ret, Sim.T_retN, Sim.T_retS, Sim.T_ite, Sim.T_asg, Sim.T_nameG, Sim.T_tupG, Sim.T_nilG, Sim.T_consG, Sim.T_aug, Sim.T_app, Sim.T_putD, Sim.T_newD, Sim.T_disp, Sim.T_iter, Sim.T_range1, Sim.T_range2, Sim.LoopQ_nxt, Sim.LoopQ_cnt, Sim.LoopQ_brk, Sim.LoopQ_ret, Sim.T_for, Sim.T_comp, Sim.T_yes, Sim.wipeR, Sim.T_rev, Sim.revD_lst, Sim.T_revR1, Sim.T_rg1, Sim.T_rg2, Sim.T_lstRg, Sim.T_tupRg, Sim.sumD_ints, Sim.ixDD_tup, Sim.ixDD_lst, Sim.ixDD_scr, Sim.ixDD_dct, Sim.atI_nat, Sim.atI_lit, Sim.lenD_tup, Sim.lenD_lst, Sim.lenD_scr, Sim.lenD_dct, Sim.addD_int, Sim.iaddD_int, Sim.subD_int, Sim.mulD_int, Sim.mulD_one, Sim.fdivD_int, Sim.modD_int, Sim.powD_int, Sim.addD_tup, Sim.addD_lst, Sim.negD_int, Sim.ltD_int, Sim.leD_int, Sim.gtD_int, Sim.geD_int, Sim.eqB_int, Sim.eqB_str, Sim.eqB_bl, Sim.eqB_non, Sim.eqD_of, Sim.neD_of, Sim.isD_non, Sim.isNotD_non, Sim.isN_non, Sim.isN_bl, Sim.isN_int, Sim.isN_str, Sim.isN_tup, Sim.isN_lst, Sim.frz_non, Sim.frz_bl, Sim.frz_int, Sim.frz_str, Sim.frz_tup, Sim.frz_lst, Sim.frz_dct, Sim.frz_scr, Sim.maxD_int, Sim.minD_int, Sim.absD_int, Sim.intD_int, Sim.tupleD_tup, Sim.tupleD_lst, Sim.listD_tup, Sim.listD_lst, Sim.listD_scr, Sim.itemsD_sh, Sim.itemsD_tup, Sim.itemsD_scr, Sim.isi_non, Sim.isi_bl, Sim.isi_int, Sim.isi_str, Sim.isi_tup, Sim.isi_lst, Sim.slice_tup, Sim.slice_lst, Sim.inDD_of, Sim.notInDD_of, Sim.inD_tup, Sim.inD_lst, Sim.inD_dct, Sim.cap, Sim.nat10, Sim.nat2, Nat.zero_le, Sim.ex_some, Sim.ex_some2, Sim.ex_if, Sim.ex_map, Sim.ex_eq, Sim.ex_bl, Sim.ex_int, Sim.ex_own, Sim.ex_lst, Sim.inr_at, Sim.inl_at, Sim.tt_c, Sim.ff_c, Sim.pad_nil, Sim.pad_n, Sim.nones_0, Sim.nones_s, List.getElem?_cons_zero, List.getElem?_cons_succ, List.set_cons_zero, List.set_cons_succ, List.map_cons, List.map_nil, List.cons_append, List.nil_append, Option.map_some, List.length_cons, List.length_nil, Int.zero_add, Nat.zero_add, Nat.reduceAdd, Nat.reduceLeDiff, Nat.reduceMul, true_and, and_true, decide_eq_true_eq, decide_eq_false_iff_not, Bool.false_eq_true, Bool.true_eq_false, false_implies, true_implies, implies_true, eq_self, decide_true, decide_false, not_true_eq_false, not_false_eq_true, Bool.not_true, Bool.not_false, Int.reduceLT, Int.reduceLE, Int.reduceNeg, Int.reducePow, Int.reduceToNat]
      exact ⟨_, _, _, _, rfl⟩
    · have hdl : dn.length + r.length = L.length := by rw [← hdn, List.length_append]
      have hrp : 1 ≤ r.length := by cases hr <;> simp
      simp only [Sim.T_ok, Sim.T_fail, Sim.T_bind, Sim.T_pureO, Sim.EndQ_nxt, Sim.EndQ_ret, Sim.lasts_nil, Sim.T_call, Sim.T_name, Sim.T_frz, Sim.T_const, Sim.T_sh, Sim.T_op2, Sim.T_op1, Sim.T_test, Sim.T_not, Sim.T_andM, Sim.T_orM, Sim.T_ifM, Sim.T_bl, Sim.T_andV, Sim.T_orV, Sim.T_notV, Sim.T_peek, Sim.T_vP, Sim.T_opP, Sim.T_nilA, Sim.T_consA, Sim.T_nilP, Sim.T_consP, Sim.T_tup, Sim.T_lst, Sim.T_noO, Sim.T_someO, Sim.T_slice, Sim.T_callM, Sim.resL_cons, Sim.resL_nil', Sim.T_isi, Sim.T_nil, Sim.T_brk, Sim.T_cnt, Sim.SeqQ_nxt, Sim.SeqQ_brk, Sim.SeqQ_cnt, Sim.SeqQ_ret, Sim.T_seq, Sim.T_set, Sim.T_drop, Sim.T_ret, Sim.T_retN, Sim.T_retS, Sim.T_ite, Sim.T_asg, Sim.T_nameG, Sim.T_tupG, Sim.T_nilG, Sim.T_consG, Sim.T_aug, Sim.T_app, Sim.T_putD, Sim.T_newD, Sim.T_disp, Sim.T_iter, Sim.T_range1, Sim.T_range2, Sim.LoopQ_nxt, Sim.LoopQ_cnt, Sim.LoopQ_brk, Sim.LoopQ_ret, Sim.T_for, Sim.T_comp, Sim.T_yes, Sim.wipeR, Sim.T_rev, Sim.revD_lst, Sim.T_revR1, Sim.T_rg1, Sim.T_rg2, Sim.T_lstRg, Sim.T_tupRg, Sim.sumD_ints, Sim.ixDD_tup, Sim.ixDD_lst, Sim.ixDD_scr, Sim.ixDD_dct, Sim.atI_nat, Sim.atI_lit, Sim.lenD_tup, Sim.lenD_lst, Sim.lenD_scr, Sim.lenD_dct, Sim.addD_int, Sim.iaddD_int, Sim.subD_int, Sim.mulD_int, Sim.mulD_one, Sim.fdivD_int, Sim.modD_int, Sim.powD_int, Sim.addD_tup, Sim.addD_lst, Sim.negD_int, Sim.ltD_int, Sim.leD_int, Sim.gtD_int, Sim.geD_int, Sim.eqB_int, Sim.eqB_str, Sim.eqB_bl, Sim.eqB_non, Sim.eqD_of, Sim.neD_of, Sim.isD_non, Sim.isNotD_non, Sim.isN_non, Sim.isN_bl, Sim.isN_int, Sim.isN_str, Sim.isN_tup, Sim.isN_lst, Sim.frz_non, Sim.frz_bl, Sim.frz_int, Sim.frz_str, Sim.frz_tup, Sim.frz_lst, Sim.frz_dct, Sim.frz_scr, Sim.maxD_int, Sim.minD_int, Sim.absD_int, Sim.intD_int, Sim.tupleD_tup, Sim.tupleD_lst, Sim.listD_tup, Sim.listD_lst, Sim.listD_scr, Sim.itemsD_sh, Sim.itemsD_tup, Sim.itemsD_scr, Sim.isi_non, Sim.isi_bl, Sim.isi_int, Sim.isi_str, Sim.isi_tup, Sim.isi_lst, Sim.slice_tup, Sim.slice_lst, Sim.inDD_of, Sim.notInDD_of, Sim.inD_tup, Sim.inD_lst, Sim.inD_dct, Sim.cap, Sim.nat10, Sim.nat2, Nat.zero_le, Sim.ex_some, Sim.ex_some2, Sim.ex_if, Sim.ex_map, Sim.ex_eq, Sim.ex_bl, Sim.ex_int, Sim.ex_own, Sim.ex_lst, Sim.inr_at, Sim.inl_at, Sim.tt_c, Sim.ff_c, Sim.pad_nil, Sim.pad_n, Sim.nones_0, Sim.nones_s, List.getElem?_cons_zero, List.getElem?_cons_succ, List.set_cons_zero, List.set_cons_succ, List.map_cons, List.map_nil, List.cons_append, List.nil_append, Option.map_some, List.length_cons, List.length_nil, Int.zero_add, Nat.zero_add, Nat.reduceAdd, Nat.reduceLeDiff, Nat.reduceMul, true_and, and_true, decide_eq_true_eq, decide_eq_false_iff_not, Bool.false_eq_true, Bool.true_eq_false, false_implies, true_implies, implies_true, eq_self, decide_true, decide_false, not_true_eq_false, not_false_eq_true, Bool.not_true, Bool.not_false, Int.reduceLT, Int.reduceLE, Int.reduceNeg, Int.reducePow, Int.reduceToNat]
      refine ⟨by simp; omega, ?_⟩
      refine FT_mono (hn sp v hlv hspl) ?_
      rintro _ _ ⟨rfl, rfl⟩
      have fz : (nxtD sp v).frz = nxtD sp v := by unfold nxtD; split <;> rfl
      rw [fz]
      cases hr with
      | last e =>
        refine ⟨0, by omega, dn ++ [v], nxtD sp v, by rw [List.map_append]; rfl, .inl ⟨by unfold nxtD; rw [e], hdn, rfl⟩⟩
      | @cons _ v' r' e hr =>
        refine ⟨r'.length + 1, by simp, dn ++ [v], nxtD sp v, by rw [List.map_append]; rfl, .inr ⟨v', r', by unfold nxtD; rw [e], hr, by rw [List.append_assoc]; exact hdn, ?_, rfl⟩⟩
        have := nxt_len e hlv
        omega
  · rintro ρ ⟨a, b, c, e, rfl⟩
    simp only [Sim.T_ok, Sim.T_fail, Sim.T_bind, Sim.T_pureO, Sim.EndQ_nxt, Sim.EndQ_ret, Sim.lasts_nil, Sim.T_call, Sim.T_name, Sim.T_frz, Sim.T_const, Sim.T_sh, Sim.T_op2, Sim.T_op1, Sim.T_test, Sim.T_not, Sim.T_andM, Sim.T_orM, Sim.T_ifM, Sim.T_bl, Sim.T_andV, Sim.T_orV, Sim.T_notV, Sim.T_peek, Sim.T_vP, Sim.T_opP, Sim.T_nilA, Sim.T_consA, Sim.T_nilP, Sim.T_consP, Sim.T_tup, Sim.T_lst, Sim.T_noO, Sim.T_someO, Sim.T_slice, Sim.T_callM, Sim.resL_cons, Sim.resL_nil', Sim.T_isi, Sim.T_nil, Sim.T_brk, Sim.T_cnt, Sim.SeqQ_nxt, Sim.SeqQ_brk, Sim.SeqQ_cnt, Sim.SeqQ_ret, Sim.T_seq, Sim.T_set, Sim.T_drop, Sim.T_ret, Sim.T_retN, Sim.T_retS, Sim.T_asg, Sim.T_nameG, Sim.T_tupG, Sim.T_nilG, Sim.T_consG, Sim.T_aug, Sim.T_app, Sim.T_putD, Sim.T_newD, Sim.T_disp, Sim.T_iter, Sim.T_range1, Sim.T_range2, Sim.LoopQ_nxt, Sim.LoopQ_cnt, Sim.LoopQ_brk, Sim.LoopQ_ret, Sim.T_for, Sim.T_comp, Sim.T_yes, Sim.wipeR, Sim.T_rev, Sim.revD_lst, Sim.T_revR1, Sim.T_rg1, Sim.T_rg2, Sim.T_lstRg, Sim.T_tupRg, Sim.sumD_ints, Sim.ixDD_tup, Sim.ixDD_lst, Sim.ixDD_scr, Sim.ixDD_dct, Sim.atI_nat, Sim.atI_lit, Sim.lenD_tup, Sim.lenD_lst, Sim.lenD_scr, Sim.lenD_dct, Sim.addD_int, Sim.iaddD_int, Sim.subD_int, Sim.mulD_int, Sim.mulD_one, Sim.fdivD_int, Sim.modD_int, Sim.powD_int, Sim.addD_tup, Sim.addD_lst, Sim.negD_int, Sim.ltD_int, Sim.leD_int, Sim.gtD_int, Sim.geD_int, Sim.eqB_int, Sim.eqB_str, Sim.eqB_bl, Sim.eqB_non, Sim.eqD_of, Sim.neD_of, Sim.isD_non, Sim.isNotD_non, Sim.isN_non, Sim.isN_bl, Sim.isN_int, Sim.isN_str, Sim.isN_tup, Sim.isN_lst, Sim.frz_non, Sim.frz_bl, Sim.frz_int, Sim.frz_str, Sim.frz_tup, Sim.frz_lst, Sim.frz_dct, Sim.frz_scr, Sim.maxD_int, Sim.minD_int, Sim.absD_int, Sim.intD_int, Sim.tupleD_tup, Sim.tupleD_lst, Sim.listD_tup, Sim.listD_lst, Sim.listD_scr, Sim.itemsD_sh, Sim.itemsD_tup, Sim.itemsD_scr, Sim.isi_non, Sim.isi_bl, Sim.isi_int, Sim.isi_str, Sim.isi_tup, Sim.isi_lst, Sim.slice_tup, Sim.slice_lst, Sim.inDD_of, Sim.notInDD_of, Sim.inD_tup, Sim.inD_lst, Sim.inD_dct, Sim.cap, Sim.nat10, Sim.nat2, Nat.zero_le, Sim.ex_some, Sim.ex_some2, Sim.ex_if, Sim.ex_map, Sim.ex_eq, Sim.ex_bl, Sim.ex_int, Sim.ex_own, Sim.ex_lst, Sim.inr_at, Sim.inl_at, Sim.tt_c, Sim.ff_c, Sim.pad_nil, Sim.pad_n, Sim.nones_0, Sim.nones_s, List.getElem?_cons_zero, List.getElem?_cons_succ, List.set_cons_zero, List.set_cons_succ, List.map_cons, List.map_nil, List.cons_append, List.nil_append, Option.map_some, List.length_cons, List.length_nil, Int.zero_add, Nat.zero_add, Nat.reduceAdd, Nat.reduceLeDiff, Nat.reduceMul, true_and, and_true, decide_eq_true_eq, decide_eq_false_iff_not, Bool.false_eq_true, Bool.true_eq_false, false_implies, true_implies, implies_true, eq_self, decide_true, decide_false, not_true_eq_false, not_false_eq_true, Bool.not_true, Bool.not_false, Int.reduceLT, Int.reduceLE, Int.reduceNeg, Int.reducePow, Int.reduceToNat]
theorem box_ok {R : Fs} (rows : List (List Int)) (cs : List Int) (h1 : (box rows cs).length ≤ 1000000) (h2 : ∀ r ∈ rows, r.length ≤ 1000) :
    FT (defF 3 [] (b__law_box R)) [.lst .sh (rows.map VD), .lst .sh (cs.map .int)] fun d fs => fs = [] ∧ d = .lst .own ((box rows cs).map VD) := by
  refine FT_def ?_
  simp only [Sim.T_ok, Sim.T_fail, Sim.T_bind, Sim.T_pureO, Sim.EndQ_nxt, Sim.EndQ_ret, Sim.lasts_nil, Sim.T_call, Sim.T_name, Sim.T_frz, Sim.T_const, Sim.T_sh, Sim.T_op2, Sim.T_op1, Sim.T_test, Sim.T_not, Sim.T_andM, Sim.T_orM, Sim.T_ifM, Sim.T_bl, Sim.T_andV, Sim.T_orV, Sim.T_notV, Sim.T_peek, Sim.T_vP, Sim.T_opP, Sim.T_nilA, Sim.T_consA, Sim.T_nilP, Sim.T_consP, Sim.T_tup, Sim.T_lst, Sim.T_noO, Sim.T_someO, Sim.T_slice, Sim.T_callM, Sim.resL_cons, Sim.resL_nil', Sim.T_isi, Sim.T_nil, Sim.T_brk, Sim.T_cnt, Sim.SeqQ_nxt, Sim.SeqQ_brk, Sim.SeqQ_cnt, Sim.SeqQ_ret, Sim.T_seq, Sim.T_set, Sim.T_drop, Sim.T_ret, Sim.T_retN, Sim.T_retS, Sim.T_asg, Sim.T_nameG, Sim.T_tupG, Sim.T_nilG, Sim.T_consG, Sim.T_aug, Sim.T_app, Sim.T_putD, Sim.T_newD, Sim.T_disp, Sim.T_iter, Sim.T_range1, Sim.T_range2, Sim.LoopQ_nxt, Sim.LoopQ_cnt, Sim.LoopQ_brk, Sim.LoopQ_ret, Sim.T_for, Sim.T_comp, Sim.T_yes, Sim.wipeR, Sim.T_rev, Sim.revD_lst, Sim.T_revR1, Sim.T_rg1, Sim.T_rg2, Sim.T_lstRg, Sim.T_tupRg, Sim.sumD_ints, Sim.ixDD_tup, Sim.ixDD_lst, Sim.ixDD_scr, Sim.ixDD_dct, Sim.atI_nat, Sim.atI_lit, Sim.lenD_tup, Sim.lenD_lst, Sim.lenD_scr, Sim.lenD_dct, Sim.addD_int, Sim.iaddD_int, Sim.subD_int, Sim.mulD_int, Sim.mulD_one, Sim.fdivD_int, Sim.modD_int, Sim.powD_int, Sim.addD_tup, Sim.addD_lst, Sim.negD_int, Sim.ltD_int, Sim.leD_int, Sim.gtD_int, Sim.geD_int, Sim.eqB_int, Sim.eqB_str, Sim.eqB_bl, Sim.eqB_non, Sim.eqD_of, Sim.neD_of, Sim.isD_non, Sim.isNotD_non, Sim.isN_non, Sim.isN_bl, Sim.isN_int, Sim.isN_str, Sim.isN_tup, Sim.isN_lst, Sim.frz_non, Sim.frz_bl, Sim.frz_int, Sim.frz_str, Sim.frz_tup, Sim.frz_lst, Sim.frz_dct, Sim.frz_scr, Sim.maxD_int, Sim.minD_int, Sim.absD_int, Sim.intD_int, Sim.tupleD_tup, Sim.tupleD_lst, Sim.listD_tup, Sim.listD_lst, Sim.listD_scr, Sim.itemsD_sh, Sim.itemsD_tup, Sim.itemsD_scr, Sim.isi_non, Sim.isi_bl, Sim.isi_int, Sim.isi_str, Sim.isi_tup, Sim.isi_lst, Sim.slice_tup, Sim.slice_lst, Sim.inDD_of, Sim.notInDD_of, Sim.inD_tup, Sim.inD_lst, Sim.inD_dct, Sim.cap, Sim.nat10, Sim.nat2, Nat.zero_le, Sim.ex_some, Sim.ex_some2, Sim.ex_if, Sim.ex_map, Sim.ex_eq, Sim.ex_bl, Sim.ex_int, Sim.ex_own, Sim.ex_lst, Sim.inr_at, Sim.inl_at, Sim.tt_c, Sim.ff_c, Sim.pad_nil, Sim.pad_n, Sim.nones_0, Sim.nones_s, List.getElem?_cons_zero, List.getElem?_cons_succ, List.set_cons_zero, List.set_cons_succ, List.map_cons, List.map_nil, List.cons_append, List.nil_append, Option.map_some, List.length_cons, List.length_nil, Int.zero_add, Nat.zero_add, Nat.reduceAdd, Nat.reduceLeDiff, Nat.reduceMul, true_and, and_true, decide_eq_true_eq, decide_eq_false_iff_not, Bool.false_eq_true, Bool.true_eq_false, false_implies, true_implies, implies_true, eq_self, decide_true, decide_false, not_true_eq_false, not_false_eq_true, Bool.not_true, Bool.not_false, Int.reduceLT, Int.reduceLE, Int.reduceNeg, Int.reducePow, Int.reduceToNat, b__law_box]
  refine T_go (fun q ρ => ∃ (dn rs : List (List Int)) (o3 o4 : Option D), q = rs.map VD ∧ ρ = [some (.lst .sh (rows.map VD)), some (.lst .sh (cs.map .int)), some (.lst .own (dn.map VD)), o3, o4] ∧ dn ++ box rs cs = box rows cs ∧ (∀ r ∈ rs, r.length ≤ 1000)) ?_ ?_ _ _ ⟨[], rows, none, none, rfl, rfl, rfl, h2⟩
  · intro d q ρ hI
    obtain ⟨dn, rs, o3, o4, hq, hρ, hd, hr⟩ := hI
    subst hρ
    match rs, hq with
    | r :: rs, hq =>
      cases hq
      have hr1 := hr r (.head _)
      simp only [Sim.T_ok, Sim.T_fail, Sim.T_bind, Sim.T_pureO, Sim.EndQ_nxt, Sim.EndQ_ret, Sim.lasts_nil, Sim.T_call, Sim.T_name, Sim.T_frz, Sim.T_const, Sim.T_sh, Sim.T_op2, Sim.T_op1, Sim.T_test, Sim.T_not, Sim.T_andM, Sim.T_orM, Sim.T_ifM, Sim.T_bl, Sim.T_andV, Sim.T_orV, Sim.T_notV, Sim.T_peek, Sim.T_vP, Sim.T_opP, Sim.T_nilA, Sim.T_consA, Sim.T_nilP, Sim.T_consP, Sim.T_tup, Sim.T_lst, Sim.T_noO, Sim.T_someO, Sim.T_slice, Sim.T_callM, Sim.resL_cons, Sim.resL_nil', Sim.T_isi, Sim.T_nil, Sim.T_brk, Sim.T_cnt, Sim.SeqQ_nxt, Sim.SeqQ_brk, Sim.SeqQ_cnt, Sim.SeqQ_ret, Sim.T_seq, Sim.T_set, Sim.T_drop, Sim.T_ret, Sim.T_retN, Sim.T_retS, Sim.T_asg, Sim.T_nameG, Sim.T_tupG, Sim.T_nilG, Sim.T_consG, Sim.T_aug, Sim.T_app, Sim.T_putD, Sim.T_newD, Sim.T_disp, Sim.T_iter, Sim.T_range1, Sim.T_range2, Sim.LoopQ_nxt, Sim.LoopQ_cnt, Sim.LoopQ_brk, Sim.LoopQ_ret, Sim.T_for, Sim.T_comp, Sim.T_yes, Sim.wipeR, Sim.T_rev, Sim.revD_lst, Sim.T_revR1, Sim.T_rg1, Sim.T_rg2, Sim.T_lstRg, Sim.T_tupRg, Sim.sumD_ints, Sim.ixDD_tup, Sim.ixDD_lst, Sim.ixDD_scr, Sim.ixDD_dct, Sim.atI_nat, Sim.atI_lit, Sim.lenD_tup, Sim.lenD_lst, Sim.lenD_scr, Sim.lenD_dct, Sim.addD_int, Sim.iaddD_int, Sim.subD_int, Sim.mulD_int, Sim.mulD_one, Sim.fdivD_int, Sim.modD_int, Sim.powD_int, Sim.addD_tup, Sim.addD_lst, Sim.negD_int, Sim.ltD_int, Sim.leD_int, Sim.gtD_int, Sim.geD_int, Sim.eqB_int, Sim.eqB_str, Sim.eqB_bl, Sim.eqB_non, Sim.eqD_of, Sim.neD_of, Sim.isD_non, Sim.isNotD_non, Sim.isN_non, Sim.isN_bl, Sim.isN_int, Sim.isN_str, Sim.isN_tup, Sim.isN_lst, Sim.frz_non, Sim.frz_bl, Sim.frz_int, Sim.frz_str, Sim.frz_tup, Sim.frz_lst, Sim.frz_dct, Sim.frz_scr, Sim.maxD_int, Sim.minD_int, Sim.absD_int, Sim.intD_int, Sim.tupleD_tup, Sim.tupleD_lst, Sim.listD_tup, Sim.listD_lst, Sim.listD_scr, Sim.itemsD_sh, Sim.itemsD_tup, Sim.itemsD_scr, Sim.isi_non, Sim.isi_bl, Sim.isi_int, Sim.isi_str, Sim.isi_tup, Sim.isi_lst, Sim.slice_tup, Sim.slice_lst, Sim.inDD_of, Sim.notInDD_of, Sim.inD_tup, Sim.inD_lst, Sim.inD_dct, Sim.cap, Sim.nat10, Sim.nat2, Nat.zero_le, Sim.ex_some, Sim.ex_some2, Sim.ex_if, Sim.ex_map, Sim.ex_eq, Sim.ex_bl, Sim.ex_int, Sim.ex_own, Sim.ex_lst, Sim.inr_at, Sim.inl_at, Sim.tt_c, Sim.ff_c, Sim.pad_nil, Sim.pad_n, Sim.nones_0, Sim.nones_s, List.getElem?_cons_zero, List.getElem?_cons_succ, List.set_cons_zero, List.set_cons_succ, List.map_cons, List.map_nil, List.cons_append, List.nil_append, Option.map_some, List.length_cons, List.length_nil, Int.zero_add, Nat.zero_add, Nat.reduceAdd, Nat.reduceLeDiff, Nat.reduceMul, true_and, and_true, decide_eq_true_eq, decide_eq_false_iff_not, Bool.false_eq_true, Bool.true_eq_false, false_implies, true_implies, implies_true, eq_self, decide_true, decide_false, not_true_eq_false, not_false_eq_true, Bool.not_true, Bool.not_false, Int.reduceLT, Int.reduceLE, Int.reduceNeg, Int.reducePow, Int.reduceToNat]
      refine T_go (fun q ρ => ∃ (dn : List (List Int)) (c : List Int) (o4 : Option D), q = c.map D.int ∧ ρ = [some (.lst .sh (rows.map VD)), some (.lst .sh (cs.map .int)), some (.lst .own (dn.map VD)), some (VD r), o4] ∧ dn ++ (c.map fun x => r ++ [x]) ++ box rs cs = box rows cs) ?_ ?_ _ _ ⟨dn, cs, o4, rfl, rfl, by rw [List.append_assoc]; exact hd⟩
      · intro d q ρ hI
        obtain ⟨dn, c, o4, hq, hρ, hd⟩ := hI
        subst hρ
        match c, hq with
        | x :: c, hq =>
          cases hq
          have hlen : dn.length + 1 ≤ 1000000 := by
            have := congrArg List.length hd
            simp at this
            omega
          simp only [Sim.T_ok, Sim.T_fail, Sim.T_bind, Sim.T_pureO, Sim.EndQ_nxt, Sim.EndQ_ret, Sim.lasts_nil, Sim.T_call, Sim.T_name, Sim.T_frz, Sim.T_const, Sim.T_sh, Sim.T_op2, Sim.T_op1, Sim.T_test, Sim.T_not, Sim.T_andM, Sim.T_orM, Sim.T_ifM, Sim.T_bl, Sim.T_andV, Sim.T_orV, Sim.T_notV, Sim.T_peek, Sim.T_vP, Sim.T_opP, Sim.T_nilA, Sim.T_consA, Sim.T_nilP, Sim.T_consP, Sim.T_tup, Sim.T_lst, Sim.T_noO, Sim.T_someO, Sim.T_slice, Sim.T_callM, Sim.resL_cons, Sim.resL_nil', Sim.T_isi, Sim.T_nil, Sim.T_brk, Sim.T_cnt, Sim.SeqQ_nxt, Sim.SeqQ_brk, Sim.SeqQ_cnt, Sim.SeqQ_ret, Sim.T_seq, Sim.T_set, Sim.T_drop, Sim.T_ret, Sim.T_retN, Sim.T_retS, Sim.T_asg, Sim.T_nameG, Sim.T_tupG, Sim.T_nilG, Sim.T_consG, Sim.T_aug, Sim.T_app, Sim.T_putD, Sim.T_newD, Sim.T_disp, Sim.T_iter, Sim.T_range1, Sim.T_range2, Sim.LoopQ_nxt, Sim.LoopQ_cnt, Sim.LoopQ_brk, Sim.LoopQ_ret, Sim.T_for, Sim.T_comp, Sim.T_yes, Sim.wipeR, Sim.T_rev, Sim.revD_lst, Sim.T_revR1, Sim.T_rg1, Sim.T_rg2, Sim.T_lstRg, Sim.T_tupRg, Sim.sumD_ints, Sim.ixDD_tup, Sim.ixDD_lst, Sim.ixDD_scr, Sim.ixDD_dct, Sim.atI_nat, Sim.atI_lit, Sim.lenD_tup, Sim.lenD_lst, Sim.lenD_scr, Sim.lenD_dct, Sim.addD_int, Sim.iaddD_int, Sim.subD_int, Sim.mulD_int, Sim.mulD_one, Sim.fdivD_int, Sim.modD_int, Sim.powD_int, Sim.addD_tup, Sim.addD_lst, Sim.negD_int, Sim.ltD_int, Sim.leD_int, Sim.gtD_int, Sim.geD_int, Sim.eqB_int, Sim.eqB_str, Sim.eqB_bl, Sim.eqB_non, Sim.eqD_of, Sim.neD_of, Sim.isD_non, Sim.isNotD_non, Sim.isN_non, Sim.isN_bl, Sim.isN_int, Sim.isN_str, Sim.isN_tup, Sim.isN_lst, Sim.frz_non, Sim.frz_bl, Sim.frz_int, Sim.frz_str, Sim.frz_tup, Sim.frz_lst, Sim.frz_dct, Sim.frz_scr, Sim.maxD_int, Sim.minD_int, Sim.absD_int, Sim.intD_int, Sim.tupleD_tup, Sim.tupleD_lst, Sim.listD_tup, Sim.listD_lst, Sim.listD_scr, Sim.itemsD_sh, Sim.itemsD_tup, Sim.itemsD_scr, Sim.isi_non, Sim.isi_bl, Sim.isi_int, Sim.isi_str, Sim.isi_tup, Sim.isi_lst, Sim.slice_tup, Sim.slice_lst, Sim.inDD_of, Sim.notInDD_of, Sim.inD_tup, Sim.inD_lst, Sim.inD_dct, Sim.cap, Sim.nat10, Sim.nat2, Nat.zero_le, Sim.ex_some, Sim.ex_some2, Sim.ex_if, Sim.ex_map, Sim.ex_eq, Sim.ex_bl, Sim.ex_int, Sim.ex_own, Sim.ex_lst, Sim.inr_at, Sim.inl_at, Sim.tt_c, Sim.ff_c, Sim.pad_nil, Sim.pad_n, Sim.nones_0, Sim.nones_s, List.getElem?_cons_zero, List.getElem?_cons_succ, List.set_cons_zero, List.set_cons_succ, List.map_cons, List.map_nil, List.cons_append, List.nil_append, Option.map_some, List.length_cons, List.length_nil, Int.zero_add, Nat.zero_add, Nat.reduceAdd, Nat.reduceLeDiff, Nat.reduceMul, true_and, and_true, decide_eq_true_eq, decide_eq_false_iff_not, Bool.false_eq_true, Bool.true_eq_false, false_implies, true_implies, implies_true, eq_self, decide_true, decide_false, not_true_eq_false, not_false_eq_true, Bool.not_true, Bool.not_false, Int.reduceLT, Int.reduceLE, Int.reduceNeg, Int.reducePow, Int.reduceToNat]
          refine ⟨by simp; omega, by simp; omega, dn ++ [r ++ [x]], c, some (.int x), rfl, by simp, by rw [← hd]; simp⟩
      · intro ρ hI
        obtain ⟨dn, c, o4, hq, hρ, hd⟩ := hI
        subst hρ
        match c, hq with
        | [], _ => exact ⟨dn, rs, _, _, rfl, rfl, by simpa using hd, fun q hq => hr q (.tail _ hq)⟩
  · intro ρ hI
    obtain ⟨dn, rs, o3, o4, hq, hρ, hd, hr⟩ := hI
    subst hρ
    match rs, hq with
    | [], _ =>
      simp only [Sim.T_ok, Sim.T_fail, Sim.T_bind, Sim.T_pureO, Sim.EndQ_nxt, Sim.EndQ_ret, Sim.lasts_nil, Sim.T_call, Sim.T_name, Sim.T_frz, Sim.T_const, Sim.T_sh, Sim.T_op2, Sim.T_op1, Sim.T_test, Sim.T_not, Sim.T_andM, Sim.T_orM, Sim.T_ifM, Sim.T_bl, Sim.T_andV, Sim.T_orV, Sim.T_notV, Sim.T_peek, Sim.T_vP, Sim.T_opP, Sim.T_nilA, Sim.T_consA, Sim.T_nilP, Sim.T_consP, Sim.T_tup, Sim.T_lst, Sim.T_noO, Sim.T_someO, Sim.T_slice, Sim.T_callM, Sim.resL_cons, Sim.resL_nil', Sim.T_isi, Sim.T_nil, Sim.T_brk, Sim.T_cnt, Sim.SeqQ_nxt, Sim.SeqQ_brk, Sim.SeqQ_cnt, Sim.SeqQ_ret, Sim.T_seq, Sim.T_set, Sim.T_drop, Sim.T_ret, Sim.T_retN, Sim.T_retS, Sim.T_asg, Sim.T_nameG, Sim.T_tupG, Sim.T_nilG, Sim.T_consG, Sim.T_aug, Sim.T_app, Sim.T_putD, Sim.T_newD, Sim.T_disp, Sim.T_iter, Sim.T_range1, Sim.T_range2, Sim.LoopQ_nxt, Sim.LoopQ_cnt, Sim.LoopQ_brk, Sim.LoopQ_ret, Sim.T_for, Sim.T_comp, Sim.T_yes, Sim.wipeR, Sim.T_rev, Sim.revD_lst, Sim.T_revR1, Sim.T_rg1, Sim.T_rg2, Sim.T_lstRg, Sim.T_tupRg, Sim.sumD_ints, Sim.ixDD_tup, Sim.ixDD_lst, Sim.ixDD_scr, Sim.ixDD_dct, Sim.atI_nat, Sim.atI_lit, Sim.lenD_tup, Sim.lenD_lst, Sim.lenD_scr, Sim.lenD_dct, Sim.addD_int, Sim.iaddD_int, Sim.subD_int, Sim.mulD_int, Sim.mulD_one, Sim.fdivD_int, Sim.modD_int, Sim.powD_int, Sim.addD_tup, Sim.addD_lst, Sim.negD_int, Sim.ltD_int, Sim.leD_int, Sim.gtD_int, Sim.geD_int, Sim.eqB_int, Sim.eqB_str, Sim.eqB_bl, Sim.eqB_non, Sim.eqD_of, Sim.neD_of, Sim.isD_non, Sim.isNotD_non, Sim.isN_non, Sim.isN_bl, Sim.isN_int, Sim.isN_str, Sim.isN_tup, Sim.isN_lst, Sim.frz_non, Sim.frz_bl, Sim.frz_int, Sim.frz_str, Sim.frz_tup, Sim.frz_lst, Sim.frz_dct, Sim.frz_scr, Sim.maxD_int, Sim.minD_int, Sim.absD_int, Sim.intD_int, Sim.tupleD_tup, Sim.tupleD_lst, Sim.listD_tup, Sim.listD_lst, Sim.listD_scr, Sim.itemsD_sh, Sim.itemsD_tup, Sim.itemsD_scr, Sim.isi_non, Sim.isi_bl, Sim.isi_int, Sim.isi_str, Sim.isi_tup, Sim.isi_lst, Sim.slice_tup, Sim.slice_lst, Sim.inDD_of, Sim.notInDD_of, Sim.inD_tup, Sim.inD_lst, Sim.inD_dct, Sim.cap, Sim.nat10, Sim.nat2, Nat.zero_le, Sim.ex_some, Sim.ex_some2, Sim.ex_if, Sim.ex_map, Sim.ex_eq, Sim.ex_bl, Sim.ex_int, Sim.ex_own, Sim.ex_lst, Sim.inr_at, Sim.inl_at, Sim.tt_c, Sim.ff_c, Sim.pad_nil, Sim.pad_n, Sim.nones_0, Sim.nones_s, List.getElem?_cons_zero, List.getElem?_cons_succ, List.set_cons_zero, List.set_cons_succ, List.map_cons, List.map_nil, List.cons_append, List.nil_append, Option.map_some, List.length_cons, List.length_nil, Int.zero_add, Nat.zero_add, Nat.reduceAdd, Nat.reduceLeDiff, Nat.reduceMul, true_and, and_true, decide_eq_true_eq, decide_eq_false_iff_not, Bool.false_eq_true, Bool.true_eq_false, false_implies, true_implies, implies_true, eq_self, decide_true, decide_false, not_true_eq_false, not_false_eq_true, Bool.not_true, Bool.not_false, Int.reduceLT, Int.reduceLE, Int.reduceNeg, Int.reducePow, Int.reduceToNat]
      rw [← hd]
      simp [box]
theorem rng_len (l h : Int) : (rng l h).length = (h + 1 - l).toNat := by unfold rng; simp
theorem rangeL_rng (l h : Int) : rangeL l (h + 1 - l).toNat = (rng l h).map D.int := by unfold rangeL rng; rw [List.map_map]; rfl
theorem box_len (rows : List (List Int)) (cs : List Int) : (box rows cs).length = rows.length * cs.length := by
  unfold box
  induction rows with
  | nil => simp
  | cons r rows ih => rw [List.flatMap_cons, List.length_append, ih, List.length_map, List.length_cons, Nat.add_mul, Nat.one_mul, Nat.add_comm]
theorem box_in {rows : List (List Int)} {cs : List Int} {n : Nat} (h : ∀ r ∈ rows, r.length ≤ n) : ∀ r ∈ box rows cs, r.length ≤ n + 1 := by
  intro r hr
  obtain ⟨q, hq, hr⟩ := List.mem_flatMap.mp hr
  obtain ⟨c, _, rfl⟩ := List.mem_map.mp hr
  have := h q hq
  simp
  omega
theorem first_ok {R : Fs} (hb : ∀ (rows : List (List Int)) (cs : List Int), (box rows cs).length ≤ 1000000 → (∀ r ∈ rows, r.length ≤ 1000) → FT R.f__law_box [.lst .sh (rows.map VD), .lst .sh (cs.map .int)] fun d fs => fs = [] ∧ d = .lst .own ((box rows cs).map VD))
    (vs : List Var) (rest : List D) (hv : ∀ v ∈ vs, VarOk v) (hl : vs.length ≤ 5) :
    FT (defF 2 [] (b__law_first R)) [.tup (.tup (vs.map Var.enc) :: rest)] fun d fs => fs = [] ∧ d = .lst .own ((prod (spans vs)).map VD) := by
  refine FT_def ?_
  simp only [Sim.T_ok, Sim.T_fail, Sim.T_bind, Sim.T_pureO, Sim.EndQ_nxt, Sim.EndQ_ret, Sim.lasts_nil, Sim.T_call, Sim.T_name, Sim.T_frz, Sim.T_const, Sim.T_sh, Sim.T_op2, Sim.T_op1, Sim.T_test, Sim.T_not, Sim.T_andM, Sim.T_orM, Sim.T_ifM, Sim.T_bl, Sim.T_andV, Sim.T_orV, Sim.T_notV, Sim.T_peek, Sim.T_vP, Sim.T_opP, Sim.T_nilA, Sim.T_consA, Sim.T_nilP, Sim.T_consP, Sim.T_tup, Sim.T_lst, Sim.T_noO, Sim.T_someO, Sim.T_slice, Sim.T_callM, Sim.resL_cons, Sim.resL_nil', Sim.T_isi, Sim.T_nil, Sim.T_brk, Sim.T_cnt, Sim.SeqQ_nxt, Sim.SeqQ_brk, Sim.SeqQ_cnt, Sim.SeqQ_ret, Sim.T_seq, Sim.T_set, Sim.T_drop, Sim.T_ret, Sim.T_retN, Sim.T_retS, Sim.T_asg, Sim.T_nameG, Sim.T_tupG, Sim.T_nilG, Sim.T_consG, Sim.T_aug, Sim.T_app, Sim.T_putD, Sim.T_newD, Sim.T_disp, Sim.T_iter, Sim.T_range1, Sim.T_range2, Sim.LoopQ_nxt, Sim.LoopQ_cnt, Sim.LoopQ_brk, Sim.LoopQ_ret, Sim.T_for, Sim.T_comp, Sim.T_yes, Sim.wipeR, Sim.T_rev, Sim.revD_lst, Sim.T_revR1, Sim.T_rg1, Sim.T_rg2, Sim.T_lstRg, Sim.T_tupRg, Sim.sumD_ints, Sim.ixDD_tup, Sim.ixDD_lst, Sim.ixDD_scr, Sim.ixDD_dct, Sim.atI_nat, Sim.atI_lit, Sim.lenD_tup, Sim.lenD_lst, Sim.lenD_scr, Sim.lenD_dct, Sim.addD_int, Sim.iaddD_int, Sim.subD_int, Sim.mulD_int, Sim.mulD_one, Sim.fdivD_int, Sim.modD_int, Sim.powD_int, Sim.addD_tup, Sim.addD_lst, Sim.negD_int, Sim.ltD_int, Sim.leD_int, Sim.gtD_int, Sim.geD_int, Sim.eqB_int, Sim.eqB_str, Sim.eqB_bl, Sim.eqB_non, Sim.eqD_of, Sim.neD_of, Sim.isD_non, Sim.isNotD_non, Sim.isN_non, Sim.isN_bl, Sim.isN_int, Sim.isN_str, Sim.isN_tup, Sim.isN_lst, Sim.frz_non, Sim.frz_bl, Sim.frz_int, Sim.frz_str, Sim.frz_tup, Sim.frz_lst, Sim.frz_dct, Sim.frz_scr, Sim.maxD_int, Sim.minD_int, Sim.absD_int, Sim.intD_int, Sim.tupleD_tup, Sim.tupleD_lst, Sim.listD_tup, Sim.listD_lst, Sim.listD_scr, Sim.itemsD_sh, Sim.itemsD_tup, Sim.itemsD_scr, Sim.isi_non, Sim.isi_bl, Sim.isi_int, Sim.isi_str, Sim.isi_tup, Sim.isi_lst, Sim.slice_tup, Sim.slice_lst, Sim.inDD_of, Sim.notInDD_of, Sim.inD_tup, Sim.inD_lst, Sim.inD_dct, Sim.cap, Sim.nat10, Sim.nat2, Nat.zero_le, Sim.ex_some, Sim.ex_some2, Sim.ex_if, Sim.ex_map, Sim.ex_eq, Sim.ex_bl, Sim.ex_int, Sim.ex_own, Sim.ex_lst, Sim.inr_at, Sim.inl_at, Sim.tt_c, Sim.ff_c, Sim.pad_nil, Sim.pad_n, Sim.nones_0, Sim.nones_s, List.getElem?_cons_zero, List.getElem?_cons_succ, List.set_cons_zero, List.set_cons_succ, List.map_cons, List.map_nil, List.cons_append, List.nil_append, Option.map_some, List.length_cons, List.length_nil, Int.zero_add, Nat.zero_add, Nat.reduceAdd, Nat.reduceLeDiff, Nat.reduceMul, true_and, and_true, decide_eq_true_eq, decide_eq_false_iff_not, Bool.false_eq_true, Bool.true_eq_false, false_implies, true_implies, implies_true, eq_self, decide_true, decide_false, not_true_eq_false, not_false_eq_true, Bool.not_true, Bool.not_false, Int.reduceLT, Int.reduceLE, Int.reduceNeg, Int.reducePow, Int.reduceToNat, b__law_first]
  have h0 := box_prod (spans vs) [[]]
  have hfin : (spans vs).foldl (fun rs s => box rs (rng s.1 s.2)) [[]] = prod (spans vs) := by rw [h0]; simp
  refine T_cut (fun ρ => ∃ a b, ρ = [a, some (.lst .own ((prod (spans vs)).map VD)), b]) ?_ ?_
  · refine T_goIx (fun j ρ => ∃ (rows : List (List Int)) (o2 : Option D), ρ = [some (.tup (.tup (vs.map Var.enc) :: rest)), some (.lst .own (rows.map VD)), o2] ∧ (spans (vs.drop j)).foldl (fun rs s => box rs (rng s.1 s.2)) rows = prod (spans vs) ∧ rows.length ≤ 3 ^ j ∧ (∀ r ∈ rows, r.length ≤ j) ∧ j ≤ vs.length) ⟨[[]], none, rfl, hfin, by decide, by simp, Nat.zero_le _⟩ ?_ ?_
    · rintro j d ρ hd ⟨rows, o2, rfl, hf, hr1, hr2, hj⟩
      rw [List.getElem?_map] at hd
      obtain ⟨v, hvj, rfl⟩ := Option.map_eq_some_iff.mp hd
      have hjl : j < vs.length := (List.getElem?_eq_some_iff.mp hvj).1
      have hdr : vs.drop j = v :: vs.drop (j + 1) := by rw [List.drop_eq_getElem_cons hjl]; congr 1; exact (List.getElem?_eq_some_iff.mp hvj).2
      have hvo := (hv v (List.mem_of_getElem? hvj)).range
      rw [hdr] at hf
      have hcs : (rng v.low v.high).length ≤ 3 := by rw [rng_len]; omega
      have hbl : (box rows (rng v.low v.high)).length ≤ 3 ^ (j + 1) := by
        rw [box_len, Nat.pow_succ]
        exact Nat.mul_le_mul hr1 hcs
      have h35 : 3 ^ (j + 1) ≤ 3 ^ 5 := Nat.pow_le_pow_right (by decide) (by omega)
      simp only [Sim.T_ok, Sim.T_fail, Sim.T_bind, Sim.T_pureO, Sim.EndQ_nxt, Sim.EndQ_ret, Sim.lasts_nil, Sim.T_call, Sim.T_name, Sim.T_frz, Sim.T_const, Sim.T_sh, Sim.T_op2, Sim.T_op1, Sim.T_test, Sim.T_not, Sim.T_andM, Sim.T_orM, Sim.T_ifM, Sim.T_bl, Sim.T_andV, Sim.T_orV, Sim.T_notV, Sim.T_peek, Sim.T_vP, Sim.T_opP, Sim.T_nilA, Sim.T_consA, Sim.T_nilP, Sim.T_consP, Sim.T_tup, Sim.T_lst, Sim.T_noO, Sim.T_someO, Sim.T_slice, Sim.T_callM, Sim.resL_cons, Sim.resL_nil', Sim.T_isi, Sim.T_nil, Sim.T_brk, Sim.T_cnt, Sim.SeqQ_nxt, Sim.SeqQ_brk, Sim.SeqQ_cnt, Sim.SeqQ_ret, Sim.T_seq, Sim.T_set, Sim.T_drop, Sim.T_ret, Sim.T_retN, Sim.T_retS, Sim.T_asg, Sim.T_nameG, Sim.T_tupG, Sim.T_nilG, Sim.T_consG, Sim.T_aug, Sim.T_app, Sim.T_putD, Sim.T_newD, Sim.T_disp, Sim.T_iter, Sim.T_range1, Sim.T_range2, Sim.LoopQ_nxt, Sim.LoopQ_cnt, Sim.LoopQ_brk, Sim.LoopQ_ret, Sim.T_for, Sim.T_comp, Sim.T_yes, Sim.wipeR, Sim.T_rev, Sim.revD_lst, Sim.T_revR1, Sim.T_rg1, Sim.T_rg2, Sim.T_lstRg, Sim.T_tupRg, Sim.sumD_ints, Sim.ixDD_tup, Sim.ixDD_lst, Sim.ixDD_scr, Sim.ixDD_dct, Sim.atI_nat, Sim.atI_lit, Sim.lenD_tup, Sim.lenD_lst, Sim.lenD_scr, Sim.lenD_dct, Sim.addD_int, Sim.iaddD_int, Sim.subD_int, Sim.mulD_int, Sim.mulD_one, Sim.fdivD_int, Sim.modD_int, Sim.powD_int, Sim.addD_tup, Sim.addD_lst, Sim.negD_int, Sim.ltD_int, Sim.leD_int, Sim.gtD_int, Sim.geD_int, Sim.eqB_int, Sim.eqB_str, Sim.eqB_bl, Sim.eqB_non, Sim.eqD_of, Sim.neD_of, Sim.isD_non, Sim.isNotD_non, Sim.isN_non, Sim.isN_bl, Sim.isN_int, Sim.isN_str, Sim.isN_tup, Sim.isN_lst, Sim.frz_non, Sim.frz_bl, Sim.frz_int, Sim.frz_str, Sim.frz_tup, Sim.frz_lst, Sim.frz_dct, Sim.frz_scr, Sim.maxD_int, Sim.minD_int, Sim.absD_int, Sim.intD_int, Sim.tupleD_tup, Sim.tupleD_lst, Sim.listD_tup, Sim.listD_lst, Sim.listD_scr, Sim.itemsD_sh, Sim.itemsD_tup, Sim.itemsD_scr, Sim.isi_non, Sim.isi_bl, Sim.isi_int, Sim.isi_str, Sim.isi_tup, Sim.isi_lst, Sim.slice_tup, Sim.slice_lst, Sim.inDD_of, Sim.notInDD_of, Sim.inD_tup, Sim.inD_lst, Sim.inD_dct, Sim.cap, Sim.nat10, Sim.nat2, Nat.zero_le, Sim.ex_some, Sim.ex_some2, Sim.ex_if, Sim.ex_map, Sim.ex_eq, Sim.ex_bl, Sim.ex_int, Sim.ex_own, Sim.ex_lst, Sim.inr_at, Sim.inl_at, Sim.tt_c, Sim.ff_c, Sim.pad_nil, Sim.pad_n, Sim.nones_0, Sim.nones_s, List.getElem?_cons_zero, List.getElem?_cons_succ, List.set_cons_zero, List.set_cons_succ, List.map_cons, List.map_nil, List.cons_append, List.nil_append, Option.map_some, List.length_cons, List.length_nil, Int.zero_add, Nat.zero_add, Nat.reduceAdd, Nat.reduceLeDiff, Nat.reduceMul, true_and, and_true, decide_eq_true_eq, decide_eq_false_iff_not, Bool.false_eq_true, Bool.true_eq_false, false_implies, true_implies, implies_true, eq_self, decide_true, decide_false, not_true_eq_false, not_false_eq_true, Bool.not_true, Bool.not_false, Int.reduceLT, Int.reduceLE, Int.reduceNeg, Int.reducePow, Int.reduceToNat, Var.enc, rangeL_rng]
      refine ⟨⟨by show _ ≤ v.low; omega, by show v.low ≤ _; omega, by show _ ≤ v.high + 1; omega, by show v.high + 1 ≤ _; omega, by show (v.high + 1 - v.low).toNat ≤ 16777216; omega⟩, ?_⟩
      refine FT_mono (hb rows (rng v.low v.high) (by omega) (fun r hr => by have := hr2 r hr; omega)) ?_
      rintro _ _ ⟨rfl, rfl⟩
      exact ⟨box rows (rng v.low v.high), _, rfl, hf, hbl, box_in hr2, hjl⟩
    · rintro ρ ⟨rows, o2, rfl, hf, hr1, hr2, hj⟩
      rw [List.length_map, List.drop_eq_nil_of_le (Nat.le_refl _)] at hf
      obtain rfl : rows = prod (spans vs) := hf
      exact ⟨rfl, _, _, rfl⟩
  · rintro ρ ⟨a, b, rfl⟩
    simp only [Sim.T_ok, Sim.T_fail, Sim.T_bind, Sim.T_pureO, Sim.EndQ_nxt, Sim.EndQ_ret, Sim.lasts_nil, Sim.T_call, Sim.T_name, Sim.T_frz, Sim.T_const, Sim.T_sh, Sim.T_op2, Sim.T_op1, Sim.T_test, Sim.T_not, Sim.T_andM, Sim.T_orM, Sim.T_ifM, Sim.T_bl, Sim.T_andV, Sim.T_orV, Sim.T_notV, Sim.T_peek, Sim.T_vP, Sim.T_opP, Sim.T_nilA, Sim.T_consA, Sim.T_nilP, Sim.T_consP, Sim.T_tup, Sim.T_lst, Sim.T_noO, Sim.T_someO, Sim.T_slice, Sim.T_callM, Sim.resL_cons, Sim.resL_nil', Sim.T_isi, Sim.T_nil, Sim.T_brk, Sim.T_cnt, Sim.SeqQ_nxt, Sim.SeqQ_brk, Sim.SeqQ_cnt, Sim.SeqQ_ret, Sim.T_seq, Sim.T_set, Sim.T_drop, Sim.T_ret, Sim.T_retN, Sim.T_retS, Sim.T_asg, Sim.T_nameG, Sim.T_tupG, Sim.T_nilG, Sim.T_consG, Sim.T_aug, Sim.T_app, Sim.T_putD, Sim.T_newD, Sim.T_disp, Sim.T_iter, Sim.T_range1, Sim.T_range2, Sim.LoopQ_nxt, Sim.LoopQ_cnt, Sim.LoopQ_brk, Sim.LoopQ_ret, Sim.T_for, Sim.T_comp, Sim.T_yes, Sim.wipeR, Sim.T_rev, Sim.revD_lst, Sim.T_revR1, Sim.T_rg1, Sim.T_rg2, Sim.T_lstRg, Sim.T_tupRg, Sim.sumD_ints, Sim.ixDD_tup, Sim.ixDD_lst, Sim.ixDD_scr, Sim.ixDD_dct, Sim.atI_nat, Sim.atI_lit, Sim.lenD_tup, Sim.lenD_lst, Sim.lenD_scr, Sim.lenD_dct, Sim.addD_int, Sim.iaddD_int, Sim.subD_int, Sim.mulD_int, Sim.mulD_one, Sim.fdivD_int, Sim.modD_int, Sim.powD_int, Sim.addD_tup, Sim.addD_lst, Sim.negD_int, Sim.ltD_int, Sim.leD_int, Sim.gtD_int, Sim.geD_int, Sim.eqB_int, Sim.eqB_str, Sim.eqB_bl, Sim.eqB_non, Sim.eqD_of, Sim.neD_of, Sim.isD_non, Sim.isNotD_non, Sim.isN_non, Sim.isN_bl, Sim.isN_int, Sim.isN_str, Sim.isN_tup, Sim.isN_lst, Sim.frz_non, Sim.frz_bl, Sim.frz_int, Sim.frz_str, Sim.frz_tup, Sim.frz_lst, Sim.frz_dct, Sim.frz_scr, Sim.maxD_int, Sim.minD_int, Sim.absD_int, Sim.intD_int, Sim.tupleD_tup, Sim.tupleD_lst, Sim.listD_tup, Sim.listD_lst, Sim.listD_scr, Sim.itemsD_sh, Sim.itemsD_tup, Sim.itemsD_scr, Sim.isi_non, Sim.isi_bl, Sim.isi_int, Sim.isi_str, Sim.isi_tup, Sim.isi_lst, Sim.slice_tup, Sim.slice_lst, Sim.inDD_of, Sim.notInDD_of, Sim.inD_tup, Sim.inD_lst, Sim.inD_dct, Sim.cap, Sim.nat10, Sim.nat2, Nat.zero_le, Sim.ex_some, Sim.ex_some2, Sim.ex_if, Sim.ex_map, Sim.ex_eq, Sim.ex_bl, Sim.ex_int, Sim.ex_own, Sim.ex_lst, Sim.inr_at, Sim.inl_at, Sim.tt_c, Sim.ff_c, Sim.pad_nil, Sim.pad_n, Sim.nones_0, Sim.nones_s, List.getElem?_cons_zero, List.getElem?_cons_succ, List.set_cons_zero, List.set_cons_succ, List.map_cons, List.map_nil, List.cons_append, List.nil_append, Option.map_some, List.length_cons, List.length_nil, Int.zero_add, Nat.zero_add, Nat.reduceAdd, Nat.reduceLeDiff, Nat.reduceMul, true_and, and_true, decide_eq_true_eq, decide_eq_false_iff_not, Bool.false_eq_true, Bool.true_eq_false, false_implies, true_implies, implies_true, eq_self, decide_true, decide_false, not_true_eq_false, not_false_eq_true, Bool.not_true, Bool.not_false, Int.reduceLT, Int.reduceLE, Int.reduceNeg, Int.reducePow, Int.reduceToNat]
end Law

namespace Law
open PySem PySem.Spec PyProof.Rows L2 Sim
theorem cnt_mul : ∀ (sp : List Sp1) (m : Int), cnt sp m = m * cnt sp 1
  | [], m => by simp [cnt]
  | s :: sp, m => by
    show cnt sp (m * (s.2 - s.1 + 1)) = m * cnt sp (1 * (s.2 - s.1 + 1))
    rw [cnt_mul sp (m * _), cnt_mul sp (1 * _), Int.one_mul, Int.mul_assoc]
theorem cnt_prod : ∀ (sp : List Sp1), (∀ s ∈ sp, s.1 ≤ s.2) → cnt sp 1 = ((prod sp).length : Int)
  | [], _ => rfl
  | s :: sp, h => by
    have hs := h s (.head _)
    show cnt sp (1 * (s.2 - s.1 + 1)) = _
    rw [cnt_mul, Int.one_mul, cnt_prod sp fun t ht => h t (.tail _ ht), prod_len, prod_len, List.map_cons, List.prod_cons, Int.natCast_mul]
    congr 1
    omega
theorem prod_small : ∀ (vs : List Var), (∀ v ∈ vs, VarOk v) → (prod (spans vs)).length ≤ 3 ^ vs.length
  | [], _ => Nat.le_refl _
  | v :: vs, h => by
    have hv := (h v (.head _)).range
    have ih := prod_small vs fun u hu => h u (.tail _ hu)
    rw [prod_len] at ih ⊢
    show List.prod ((v.high + 1 - v.low).toNat :: (spans vs).map fun s => (s.2 + 1 - s.1).toNat) ≤ _
    rw [List.prod_cons, List.length_cons, Nat.pow_succ, Nat.mul_comm]
    exact Nat.mul_le_mul ih (by show (v.high + 1 - v.low).toNat ≤ 3; omega)
theorem law_ok {R : Fs} (ns : List Int) (hd : DrawOk R.f__law_draw)
    (hplant : FT R.f__law_plant [.scr ns] fun d fs => fs = [] ∧ ∃ p : Plant, d = p.enc ∧ PlantOk p)
    (hfirst : ∀ (vs : List Var) (rest : List D), (∀ v ∈ vs, VarOk v) → vs.length ≤ 5 → FT R.f__law_first [.tup (.tup (vs.map Var.enc) :: rest)] fun d fs => fs = [] ∧ d = .lst .own ((prod (spans vs)).map VD))
    (hvals : ∀ (vs : List Var) (rest : List D), vs.length ≤ 1000 → ∀ L : List (List Int), Run (spans vs) (lows (spans vs)) L → L.length ≤ 1000 → FT R.f_first_values [.tup (.tup (vs.map Var.enc) :: rest)] fun d fs => fs = [] ∧ d = .lst .own (L.map VD))
    (hcnt : ∀ (vs : List Var) (rest : List D), vs.length ≤ 1000 → (∀ s ∈ spans vs, -1000000000000 < s.2 - s.1 + 1 ∧ s.2 - s.1 + 1 < 1000000000000) → FT R.f_count_first [.tup (.tup (vs.map Var.enc) :: rest)] fun d fs => fs = [] ∧ d = .int (cnt (spans vs) 1))
    (halike : ∀ d : D, rank d < 5 → Sim.plain d = true → Sim.short d = true → FT R.f__law_alike [d, d] IsTrue) :
    FT (defF 5 [] (b_law R)) [.scr ns] IsTrue := by
  refine FT_def ?_
  simp only [Sim.T_ok, Sim.T_fail, Sim.T_bind, Sim.T_pureO, Sim.EndQ_nxt, Sim.EndQ_ret, Sim.lasts_nil, Sim.T_call, Sim.T_name, Sim.T_frz, Sim.T_const, Sim.T_sh, Sim.T_op2, Sim.T_op1, Sim.T_test, Sim.T_not, Sim.T_andM, Sim.T_orM, Sim.T_ifM, Sim.T_bl, Sim.T_andV, Sim.T_orV, Sim.T_notV, Sim.T_peek, Sim.T_vP, Sim.T_opP, Sim.T_nilA, Sim.T_consA, Sim.T_nilP, Sim.T_consP, Sim.T_tup, Sim.T_lst, Sim.T_noO, Sim.T_someO, Sim.T_slice, Sim.T_callM, Sim.resL_cons, Sim.resL_nil', Sim.T_isi, Sim.T_nil, Sim.T_brk, Sim.T_cnt, Sim.SeqQ_nxt, Sim.SeqQ_brk, Sim.SeqQ_cnt, Sim.SeqQ_ret, Sim.T_seq, Sim.T_set, Sim.T_drop, Sim.T_ret, Sim.T_retN, Sim.T_retS, Sim.T_asg, Sim.T_nameG, Sim.T_tupG, Sim.T_nilG, Sim.T_consG, Sim.T_aug, Sim.T_app, Sim.T_putD, Sim.T_newD, Sim.T_disp, Sim.T_iter, Sim.T_range1, Sim.T_range2, Sim.LoopQ_nxt, Sim.LoopQ_cnt, Sim.LoopQ_brk, Sim.LoopQ_ret, Sim.T_for, Sim.T_comp, Sim.T_yes, Sim.wipeR, Sim.T_rev, Sim.revD_lst, Sim.T_revR1, Sim.T_rg1, Sim.T_rg2, Sim.T_lstRg, Sim.T_tupRg, Sim.sumD_ints, Sim.ixDD_tup, Sim.ixDD_lst, Sim.ixDD_scr, Sim.ixDD_dct, Sim.atI_nat, Sim.atI_lit, Sim.lenD_tup, Sim.lenD_lst, Sim.lenD_scr, Sim.lenD_dct, Sim.addD_int, Sim.iaddD_int, Sim.subD_int, Sim.mulD_int, Sim.mulD_one, Sim.fdivD_int, Sim.modD_int, Sim.powD_int, Sim.addD_tup, Sim.addD_lst, Sim.negD_int, Sim.ltD_int, Sim.leD_int, Sim.gtD_int, Sim.geD_int, Sim.eqB_int, Sim.eqB_str, Sim.eqB_bl, Sim.eqB_non, Sim.eqD_of, Sim.neD_of, Sim.isD_non, Sim.isNotD_non, Sim.isN_non, Sim.isN_bl, Sim.isN_int, Sim.isN_str, Sim.isN_tup, Sim.isN_lst, Sim.frz_non, Sim.frz_bl, Sim.frz_int, Sim.frz_str, Sim.frz_tup, Sim.frz_lst, Sim.frz_dct, Sim.frz_scr, Sim.maxD_int, Sim.minD_int, Sim.absD_int, Sim.intD_int, Sim.tupleD_tup, Sim.tupleD_lst, Sim.listD_tup, Sim.listD_lst, Sim.listD_scr, Sim.itemsD_sh, Sim.itemsD_tup, Sim.itemsD_scr, Sim.isi_non, Sim.isi_bl, Sim.isi_int, Sim.isi_str, Sim.isi_tup, Sim.isi_lst, Sim.slice_tup, Sim.slice_lst, Sim.inDD_of, Sim.notInDD_of, Sim.inD_tup, Sim.inD_lst, Sim.inD_dct, Sim.cap, Sim.nat10, Sim.nat2, Nat.zero_le, Sim.ex_some, Sim.ex_some2, Sim.ex_if, Sim.ex_map, Sim.ex_eq, Sim.ex_bl, Sim.ex_int, Sim.ex_own, Sim.ex_lst, Sim.inr_at, Sim.inl_at, Sim.tt_c, Sim.ff_c, Sim.pad_nil, Sim.pad_n, Sim.nones_0, Sim.nones_s, List.getElem?_cons_zero, List.getElem?_cons_succ, List.set_cons_zero, List.set_cons_succ, List.map_cons, List.map_nil, List.cons_append, List.nil_append, Option.map_some, List.length_cons, List.length_nil, Int.zero_add, Nat.zero_add, Nat.reduceAdd, Nat.reduceLeDiff, Nat.reduceMul, true_and, and_true, decide_eq_true_eq, decide_eq_false_iff_not, Bool.false_eq_true, Bool.true_eq_false, false_implies, true_implies, implies_true, eq_self, decide_true, decide_false, not_true_eq_false, not_false_eq_true, Bool.not_true, Bool.not_false, Int.reduceLT, Int.reduceLE, Int.reduceNeg, Int.reducePow, Int.reduceToNat, b_law]
  refine FT_mono hplant ?_
  rintro _ _ ⟨rfl, P, rfl, ok⟩
  obtain ⟨vs, ps, ss⟩ := P
  have hv : ∀ v ∈ vs, VarOk v := ok.vars
  have hl : vs.length ≤ 5 := ok.many.2
  have al : ∀ i : Int, FT R.f__law_alike [.int i, .int i] IsTrue := fun i => halike (.int i) (Nat.zero_lt_succ _) rfl rfl
  have hsp : ∀ s ∈ spans vs, s.1 ≤ s.2 := fun s hs => by
    obtain ⟨v, hv', rfl⟩ := List.mem_map.mp hs
    exact (hv v hv').range.2.2.1
  have hpl : (prod (spans vs)).length ≤ 243 := Nat.le_trans (prod_small vs hv) (Nat.pow_le_pow_right (by decide) hl : 3 ^ vs.length ≤ 3 ^ 5)
  have hrun := run_prod (spans vs) hsp
  have al2 : FT R.f__law_alike [.lst .sh ((prod (spans vs)).map VD), .lst .sh ((prod (spans vs)).map VD)] IsTrue := by
    have hwl := run_len hrun (by simp [lows])
    refine halike _ ?_ ?_ ?_
    · have : ranks ((prod (spans vs)).map VD) ≤ 1 := ranks_of fun d hd => by
        obtain ⟨w, hw, rfl⟩ := List.mem_map.mp hd
        have : ranks (w.map D.int) ≤ 0 := ranks_of fun d hd => by
          obtain ⟨i, hi, rfl⟩ := List.mem_map.mp hd
          exact Nat.le_refl _
        rw [rank]
        omega
      rw [rank]
      omega
    · exact plains_of fun d hd => by
        obtain ⟨w, hw, rfl⟩ := List.mem_map.mp hd
        exact plains_of fun d hd => by
          obtain ⟨i, hi, rfl⟩ := List.mem_map.mp hd
          rfl
    · rw [Sim.short, shorts_of fun d hd => by
        obtain ⟨w, hw, rfl⟩ := List.mem_map.mp hd
        have := hwl w hw
        rw [Sim.short, shorts_of fun d hd => by
          obtain ⟨i, hi, rfl⟩ := List.mem_map.mp hd
          rfl]
        simp at this ⊢
        omega]
      simp
      omega
  have hb : ∀ s ∈ spans vs, -1000000000000 < s.2 - s.1 + 1 ∧ s.2 - s.1 + 1 < 1000000000000 := fun s hs => by
    obtain ⟨v, hv', rfl⟩ := List.mem_map.mp hs
    have := (hv v hv').range
    show _ < v.high - v.low + 1 ∧ v.high - v.low + 1 < _
    omega
  show FT R.f__law_first [Plant.enc ⟨vs, ps, ss⟩] _
  refine FT_mono (hfirst vs _ hv hl) ?_
  rintro _ _ ⟨rfl, rfl⟩
  simp only [Sim.T_ok, Sim.T_fail, Sim.T_bind, Sim.T_pureO, Sim.EndQ_nxt, Sim.EndQ_ret, Sim.lasts_nil, Sim.T_call, Sim.T_name, Sim.T_frz, Sim.T_const, Sim.T_sh, Sim.T_op2, Sim.T_op1, Sim.T_test, Sim.T_not, Sim.T_andM, Sim.T_orM, Sim.T_ifM, Sim.T_bl, Sim.T_andV, Sim.T_orV, Sim.T_notV, Sim.T_peek, Sim.T_vP, Sim.T_opP, Sim.T_nilA, Sim.T_consA, Sim.T_nilP, Sim.T_consP, Sim.T_tup, Sim.T_lst, Sim.T_noO, Sim.T_someO, Sim.T_slice, Sim.T_callM, Sim.resL_cons, Sim.resL_nil', Sim.T_isi, Sim.T_nil, Sim.T_brk, Sim.T_cnt, Sim.SeqQ_nxt, Sim.SeqQ_brk, Sim.SeqQ_cnt, Sim.SeqQ_ret, Sim.T_seq, Sim.T_set, Sim.T_drop, Sim.T_ret, Sim.T_retN, Sim.T_retS, Sim.T_asg, Sim.T_nameG, Sim.T_tupG, Sim.T_nilG, Sim.T_consG, Sim.T_aug, Sim.T_app, Sim.T_putD, Sim.T_newD, Sim.T_disp, Sim.T_iter, Sim.T_range1, Sim.T_range2, Sim.LoopQ_nxt, Sim.LoopQ_cnt, Sim.LoopQ_brk, Sim.LoopQ_ret, Sim.T_for, Sim.T_comp, Sim.T_yes, Sim.wipeR, Sim.T_rev, Sim.revD_lst, Sim.T_revR1, Sim.T_rg1, Sim.T_rg2, Sim.T_lstRg, Sim.T_tupRg, Sim.sumD_ints, Sim.ixDD_tup, Sim.ixDD_lst, Sim.ixDD_scr, Sim.ixDD_dct, Sim.atI_nat, Sim.atI_lit, Sim.lenD_tup, Sim.lenD_lst, Sim.lenD_scr, Sim.lenD_dct, Sim.addD_int, Sim.iaddD_int, Sim.subD_int, Sim.mulD_int, Sim.mulD_one, Sim.fdivD_int, Sim.modD_int, Sim.powD_int, Sim.addD_tup, Sim.addD_lst, Sim.negD_int, Sim.ltD_int, Sim.leD_int, Sim.gtD_int, Sim.geD_int, Sim.eqB_int, Sim.eqB_str, Sim.eqB_bl, Sim.eqB_non, Sim.eqD_of, Sim.neD_of, Sim.isD_non, Sim.isNotD_non, Sim.isN_non, Sim.isN_bl, Sim.isN_int, Sim.isN_str, Sim.isN_tup, Sim.isN_lst, Sim.frz_non, Sim.frz_bl, Sim.frz_int, Sim.frz_str, Sim.frz_tup, Sim.frz_lst, Sim.frz_dct, Sim.frz_scr, Sim.maxD_int, Sim.minD_int, Sim.absD_int, Sim.intD_int, Sim.tupleD_tup, Sim.tupleD_lst, Sim.listD_tup, Sim.listD_lst, Sim.listD_scr, Sim.itemsD_sh, Sim.itemsD_tup, Sim.itemsD_scr, Sim.isi_non, Sim.isi_bl, Sim.isi_int, Sim.isi_str, Sim.isi_tup, Sim.isi_lst, Sim.slice_tup, Sim.slice_lst, Sim.inDD_of, Sim.notInDD_of, Sim.inD_tup, Sim.inD_lst, Sim.inD_dct, Sim.cap, Sim.nat10, Sim.nat2, Nat.zero_le, Sim.ex_some, Sim.ex_some2, Sim.ex_if, Sim.ex_map, Sim.ex_eq, Sim.ex_bl, Sim.ex_int, Sim.ex_own, Sim.ex_lst, Sim.inr_at, Sim.inl_at, Sim.tt_c, Sim.ff_c, Sim.pad_nil, Sim.pad_n, Sim.nones_0, Sim.nones_s, List.getElem?_cons_zero, List.getElem?_cons_succ, List.set_cons_zero, List.set_cons_succ, List.map_cons, List.map_nil, List.cons_append, List.nil_append, Option.map_some, List.length_cons, List.length_nil, Int.zero_add, Nat.zero_add, Nat.reduceAdd, Nat.reduceLeDiff, Nat.reduceMul, true_and, and_true, decide_eq_true_eq, decide_eq_false_iff_not, Bool.false_eq_true, Bool.true_eq_false, false_implies, true_implies, implies_true, eq_self, decide_true, decide_false, not_true_eq_false, not_false_eq_true, Bool.not_true, Bool.not_false, Int.reduceLT, Int.reduceLE, Int.reduceNeg, Int.reducePow, Int.reduceToNat]
  refine T_iteTo (fun b => b = false) ?_ (fun h => by cases h) (fun _ => ?_)
  · simp only [Sim.T_ok, Sim.T_fail, Sim.T_bind, Sim.T_pureO, Sim.EndQ_nxt, Sim.EndQ_ret, Sim.lasts_nil, Sim.T_call, Sim.T_name, Sim.T_frz, Sim.T_const, Sim.T_sh, Sim.T_op2, Sim.T_op1, Sim.T_test, Sim.T_not, Sim.T_andM, Sim.T_orM, Sim.T_ifM, Sim.T_bl, Sim.T_andV, Sim.T_orV, Sim.T_notV, Sim.T_peek, Sim.T_vP, Sim.T_opP, Sim.T_nilA, Sim.T_consA, Sim.T_nilP, Sim.T_consP, Sim.T_tup, Sim.T_lst, Sim.T_noO, Sim.T_someO, Sim.T_slice, Sim.T_callM, Sim.resL_cons, Sim.resL_nil', Sim.T_isi, Sim.T_nil, Sim.T_brk, Sim.T_cnt, Sim.SeqQ_nxt, Sim.SeqQ_brk, Sim.SeqQ_cnt, Sim.SeqQ_ret, Sim.T_seq, Sim.T_set, Sim.T_drop, Sim.T_ret, Sim.T_retN, Sim.T_retS, Sim.T_asg, Sim.T_nameG, Sim.T_tupG, Sim.T_nilG, Sim.T_consG, Sim.T_aug, Sim.T_app, Sim.T_putD, Sim.T_newD, Sim.T_disp, Sim.T_iter, Sim.T_range1, Sim.T_range2, Sim.LoopQ_nxt, Sim.LoopQ_cnt, Sim.LoopQ_brk, Sim.LoopQ_ret, Sim.T_for, Sim.T_comp, Sim.T_yes, Sim.wipeR, Sim.T_rev, Sim.revD_lst, Sim.T_revR1, Sim.T_rg1, Sim.T_rg2, Sim.T_lstRg, Sim.T_tupRg, Sim.sumD_ints, Sim.ixDD_tup, Sim.ixDD_lst, Sim.ixDD_scr, Sim.ixDD_dct, Sim.atI_nat, Sim.atI_lit, Sim.lenD_tup, Sim.lenD_lst, Sim.lenD_scr, Sim.lenD_dct, Sim.addD_int, Sim.iaddD_int, Sim.subD_int, Sim.mulD_int, Sim.mulD_one, Sim.fdivD_int, Sim.modD_int, Sim.powD_int, Sim.addD_tup, Sim.addD_lst, Sim.negD_int, Sim.ltD_int, Sim.leD_int, Sim.gtD_int, Sim.geD_int, Sim.eqB_int, Sim.eqB_str, Sim.eqB_bl, Sim.eqB_non, Sim.eqD_of, Sim.neD_of, Sim.isD_non, Sim.isNotD_non, Sim.isN_non, Sim.isN_bl, Sim.isN_int, Sim.isN_str, Sim.isN_tup, Sim.isN_lst, Sim.frz_non, Sim.frz_bl, Sim.frz_int, Sim.frz_str, Sim.frz_tup, Sim.frz_lst, Sim.frz_dct, Sim.frz_scr, Sim.maxD_int, Sim.minD_int, Sim.absD_int, Sim.intD_int, Sim.tupleD_tup, Sim.tupleD_lst, Sim.listD_tup, Sim.listD_lst, Sim.listD_scr, Sim.itemsD_sh, Sim.itemsD_tup, Sim.itemsD_scr, Sim.isi_non, Sim.isi_bl, Sim.isi_int, Sim.isi_str, Sim.isi_tup, Sim.isi_lst, Sim.slice_tup, Sim.slice_lst, Sim.inDD_of, Sim.notInDD_of, Sim.inD_tup, Sim.inD_lst, Sim.inD_dct, Sim.cap, Sim.nat10, Sim.nat2, Nat.zero_le, Sim.ex_some, Sim.ex_some2, Sim.ex_if, Sim.ex_map, Sim.ex_eq, Sim.ex_bl, Sim.ex_int, Sim.ex_own, Sim.ex_lst, Sim.inr_at, Sim.inl_at, Sim.tt_c, Sim.ff_c, Sim.pad_nil, Sim.pad_n, Sim.nones_0, Sim.nones_s, List.getElem?_cons_zero, List.getElem?_cons_succ, List.set_cons_zero, List.set_cons_succ, List.map_cons, List.map_nil, List.cons_append, List.nil_append, Option.map_some, List.length_cons, List.length_nil, Int.zero_add, Nat.zero_add, Nat.reduceAdd, Nat.reduceLeDiff, Nat.reduceMul, true_and, and_true, decide_eq_true_eq, decide_eq_false_iff_not, Bool.false_eq_true, Bool.true_eq_false, false_implies, true_implies, implies_true, eq_self, decide_true, decide_false, not_true_eq_false, not_false_eq_true, Bool.not_true, Bool.not_false, Int.reduceLT, Int.reduceLE, Int.reduceNeg, Int.reducePow, Int.reduceToNat]
    refine FT_mono (hvals vs _ (by omega) _ hrun (by omega)) ?_
    rintro _ _ ⟨rfl, rfl⟩
    refine FT_mono al2 ?_
    rintro _ _ ⟨rfl, rfl⟩
    simp only [Sim.T_ok, Sim.T_fail, Sim.T_bind, Sim.T_pureO, Sim.EndQ_nxt, Sim.EndQ_ret, Sim.lasts_nil, Sim.T_call, Sim.T_name, Sim.T_frz, Sim.T_const, Sim.T_sh, Sim.T_op2, Sim.T_op1, Sim.T_test, Sim.T_not, Sim.T_andM, Sim.T_orM, Sim.T_ifM, Sim.T_bl, Sim.T_andV, Sim.T_orV, Sim.T_notV, Sim.T_peek, Sim.T_vP, Sim.T_opP, Sim.T_nilA, Sim.T_consA, Sim.T_nilP, Sim.T_consP, Sim.T_tup, Sim.T_lst, Sim.T_noO, Sim.T_someO, Sim.T_slice, Sim.T_callM, Sim.resL_cons, Sim.resL_nil', Sim.T_isi, Sim.T_nil, Sim.T_brk, Sim.T_cnt, Sim.SeqQ_nxt, Sim.SeqQ_brk, Sim.SeqQ_cnt, Sim.SeqQ_ret, Sim.T_seq, Sim.T_set, Sim.T_drop, Sim.T_ret, Sim.T_retN, Sim.T_retS, Sim.T_asg, Sim.T_nameG, Sim.T_tupG, Sim.T_nilG, Sim.T_consG, Sim.T_aug, Sim.T_app, Sim.T_putD, Sim.T_newD, Sim.T_disp, Sim.T_iter, Sim.T_range1, Sim.T_range2, Sim.LoopQ_nxt, Sim.LoopQ_cnt, Sim.LoopQ_brk, Sim.LoopQ_ret, Sim.T_for, Sim.T_comp, Sim.T_yes, Sim.wipeR, Sim.T_rev, Sim.revD_lst, Sim.T_revR1, Sim.T_rg1, Sim.T_rg2, Sim.T_lstRg, Sim.T_tupRg, Sim.sumD_ints, Sim.ixDD_tup, Sim.ixDD_lst, Sim.ixDD_scr, Sim.ixDD_dct, Sim.atI_nat, Sim.atI_lit, Sim.lenD_tup, Sim.lenD_lst, Sim.lenD_scr, Sim.lenD_dct, Sim.addD_int, Sim.iaddD_int, Sim.subD_int, Sim.mulD_int, Sim.mulD_one, Sim.fdivD_int, Sim.modD_int, Sim.powD_int, Sim.addD_tup, Sim.addD_lst, Sim.negD_int, Sim.ltD_int, Sim.leD_int, Sim.gtD_int, Sim.geD_int, Sim.eqB_int, Sim.eqB_str, Sim.eqB_bl, Sim.eqB_non, Sim.eqD_of, Sim.neD_of, Sim.isD_non, Sim.isNotD_non, Sim.isN_non, Sim.isN_bl, Sim.isN_int, Sim.isN_str, Sim.isN_tup, Sim.isN_lst, Sim.frz_non, Sim.frz_bl, Sim.frz_int, Sim.frz_str, Sim.frz_tup, Sim.frz_lst, Sim.frz_dct, Sim.frz_scr, Sim.maxD_int, Sim.minD_int, Sim.absD_int, Sim.intD_int, Sim.tupleD_tup, Sim.tupleD_lst, Sim.listD_tup, Sim.listD_lst, Sim.listD_scr, Sim.itemsD_sh, Sim.itemsD_tup, Sim.itemsD_scr, Sim.isi_non, Sim.isi_bl, Sim.isi_int, Sim.isi_str, Sim.isi_tup, Sim.isi_lst, Sim.slice_tup, Sim.slice_lst, Sim.inDD_of, Sim.notInDD_of, Sim.inD_tup, Sim.inD_lst, Sim.inD_dct, Sim.cap, Sim.nat10, Sim.nat2, Nat.zero_le, Sim.ex_some, Sim.ex_some2, Sim.ex_if, Sim.ex_map, Sim.ex_eq, Sim.ex_bl, Sim.ex_int, Sim.ex_own, Sim.ex_lst, Sim.inr_at, Sim.inl_at, Sim.tt_c, Sim.ff_c, Sim.pad_nil, Sim.pad_n, Sim.nones_0, Sim.nones_s, List.getElem?_cons_zero, List.getElem?_cons_succ, List.set_cons_zero, List.set_cons_succ, List.map_cons, List.map_nil, List.cons_append, List.nil_append, Option.map_some, List.length_cons, List.length_nil, Int.zero_add, Nat.zero_add, Nat.reduceAdd, Nat.reduceLeDiff, Nat.reduceMul, true_and, and_true, decide_eq_true_eq, decide_eq_false_iff_not, Bool.false_eq_true, Bool.true_eq_false, false_implies, true_implies, implies_true, eq_self, decide_true, decide_false, not_true_eq_false, not_false_eq_true, Bool.not_true, Bool.not_false, Int.reduceLT, Int.reduceLE, Int.reduceNeg, Int.reducePow, Int.reduceToNat]
    refine FT_mono (hcnt vs _ (by omega) hb) ?_
    rintro _ _ ⟨rfl, rfl⟩
    simp only [Sim.T_ok, Sim.T_fail, Sim.T_bind, Sim.T_pureO, Sim.EndQ_nxt, Sim.EndQ_ret, Sim.lasts_nil, Sim.T_call, Sim.T_name, Sim.T_frz, Sim.T_const, Sim.T_sh, Sim.T_op2, Sim.T_op1, Sim.T_test, Sim.T_not, Sim.T_andM, Sim.T_orM, Sim.T_ifM, Sim.T_bl, Sim.T_andV, Sim.T_orV, Sim.T_notV, Sim.T_peek, Sim.T_vP, Sim.T_opP, Sim.T_nilA, Sim.T_consA, Sim.T_nilP, Sim.T_consP, Sim.T_tup, Sim.T_lst, Sim.T_noO, Sim.T_someO, Sim.T_slice, Sim.T_callM, Sim.resL_cons, Sim.resL_nil', Sim.T_isi, Sim.T_nil, Sim.T_brk, Sim.T_cnt, Sim.SeqQ_nxt, Sim.SeqQ_brk, Sim.SeqQ_cnt, Sim.SeqQ_ret, Sim.T_seq, Sim.T_set, Sim.T_drop, Sim.T_ret, Sim.T_retN, Sim.T_retS, Sim.T_asg, Sim.T_nameG, Sim.T_tupG, Sim.T_nilG, Sim.T_consG, Sim.T_aug, Sim.T_app, Sim.T_putD, Sim.T_newD, Sim.T_disp, Sim.T_iter, Sim.T_range1, Sim.T_range2, Sim.LoopQ_nxt, Sim.LoopQ_cnt, Sim.LoopQ_brk, Sim.LoopQ_ret, Sim.T_for, Sim.T_comp, Sim.T_yes, Sim.wipeR, Sim.T_rev, Sim.revD_lst, Sim.T_revR1, Sim.T_rg1, Sim.T_rg2, Sim.T_lstRg, Sim.T_tupRg, Sim.sumD_ints, Sim.ixDD_tup, Sim.ixDD_lst, Sim.ixDD_scr, Sim.ixDD_dct, Sim.atI_nat, Sim.atI_lit, Sim.lenD_tup, Sim.lenD_lst, Sim.lenD_scr, Sim.lenD_dct, Sim.addD_int, Sim.iaddD_int, Sim.subD_int, Sim.mulD_int, Sim.mulD_one, Sim.fdivD_int, Sim.modD_int, Sim.powD_int, Sim.addD_tup, Sim.addD_lst, Sim.negD_int, Sim.ltD_int, Sim.leD_int, Sim.gtD_int, Sim.geD_int, Sim.eqB_int, Sim.eqB_str, Sim.eqB_bl, Sim.eqB_non, Sim.eqD_of, Sim.neD_of, Sim.isD_non, Sim.isNotD_non, Sim.isN_non, Sim.isN_bl, Sim.isN_int, Sim.isN_str, Sim.isN_tup, Sim.isN_lst, Sim.frz_non, Sim.frz_bl, Sim.frz_int, Sim.frz_str, Sim.frz_tup, Sim.frz_lst, Sim.frz_dct, Sim.frz_scr, Sim.maxD_int, Sim.minD_int, Sim.absD_int, Sim.intD_int, Sim.tupleD_tup, Sim.tupleD_lst, Sim.listD_tup, Sim.listD_lst, Sim.listD_scr, Sim.itemsD_sh, Sim.itemsD_tup, Sim.itemsD_scr, Sim.isi_non, Sim.isi_bl, Sim.isi_int, Sim.isi_str, Sim.isi_tup, Sim.isi_lst, Sim.slice_tup, Sim.slice_lst, Sim.inDD_of, Sim.notInDD_of, Sim.inD_tup, Sim.inD_lst, Sim.inD_dct, Sim.cap, Sim.nat10, Sim.nat2, Nat.zero_le, Sim.ex_some, Sim.ex_some2, Sim.ex_if, Sim.ex_map, Sim.ex_eq, Sim.ex_bl, Sim.ex_int, Sim.ex_own, Sim.ex_lst, Sim.inr_at, Sim.inl_at, Sim.tt_c, Sim.ff_c, Sim.pad_nil, Sim.pad_n, Sim.nones_0, Sim.nones_s, List.getElem?_cons_zero, List.getElem?_cons_succ, List.set_cons_zero, List.set_cons_succ, List.map_cons, List.map_nil, List.cons_append, List.nil_append, Option.map_some, List.length_cons, List.length_nil, Int.zero_add, Nat.zero_add, Nat.reduceAdd, Nat.reduceLeDiff, Nat.reduceMul, true_and, and_true, decide_eq_true_eq, decide_eq_false_iff_not, Bool.false_eq_true, Bool.true_eq_false, false_implies, true_implies, implies_true, eq_self, decide_true, decide_false, not_true_eq_false, not_false_eq_true, Bool.not_true, Bool.not_false, Int.reduceLT, Int.reduceLE, Int.reduceNeg, Int.reducePow, Int.reduceToNat]
    rw [cnt_prod _ hsp, List.length_map]
    refine FT_mono (al _) ?_
    rintro _ _ ⟨rfl, rfl⟩
    simp only [Sim.T_ok, Sim.T_fail, Sim.T_bind, Sim.T_pureO, Sim.EndQ_nxt, Sim.EndQ_ret, Sim.lasts_nil, Sim.T_call, Sim.T_name, Sim.T_frz, Sim.T_const, Sim.T_sh, Sim.T_op2, Sim.T_op1, Sim.T_test, Sim.T_not, Sim.T_andM, Sim.T_orM, Sim.T_ifM, Sim.T_bl, Sim.T_andV, Sim.T_orV, Sim.T_notV, Sim.T_peek, Sim.T_vP, Sim.T_opP, Sim.T_nilA, Sim.T_consA, Sim.T_nilP, Sim.T_consP, Sim.T_tup, Sim.T_lst, Sim.T_noO, Sim.T_someO, Sim.T_slice, Sim.T_callM, Sim.resL_cons, Sim.resL_nil', Sim.T_isi, Sim.T_nil, Sim.T_brk, Sim.T_cnt, Sim.SeqQ_nxt, Sim.SeqQ_brk, Sim.SeqQ_cnt, Sim.SeqQ_ret, Sim.T_seq, Sim.T_set, Sim.T_drop, Sim.T_ret, Sim.T_retN, Sim.T_retS, Sim.T_asg, Sim.T_nameG, Sim.T_tupG, Sim.T_nilG, Sim.T_consG, Sim.T_aug, Sim.T_app, Sim.T_putD, Sim.T_newD, Sim.T_disp, Sim.T_iter, Sim.T_range1, Sim.T_range2, Sim.LoopQ_nxt, Sim.LoopQ_cnt, Sim.LoopQ_brk, Sim.LoopQ_ret, Sim.T_for, Sim.T_comp, Sim.T_yes, Sim.wipeR, Sim.T_rev, Sim.revD_lst, Sim.T_revR1, Sim.T_rg1, Sim.T_rg2, Sim.T_lstRg, Sim.T_tupRg, Sim.sumD_ints, Sim.ixDD_tup, Sim.ixDD_lst, Sim.ixDD_scr, Sim.ixDD_dct, Sim.atI_nat, Sim.atI_lit, Sim.lenD_tup, Sim.lenD_lst, Sim.lenD_scr, Sim.lenD_dct, Sim.addD_int, Sim.iaddD_int, Sim.subD_int, Sim.mulD_int, Sim.mulD_one, Sim.fdivD_int, Sim.modD_int, Sim.powD_int, Sim.addD_tup, Sim.addD_lst, Sim.negD_int, Sim.ltD_int, Sim.leD_int, Sim.gtD_int, Sim.geD_int, Sim.eqB_int, Sim.eqB_str, Sim.eqB_bl, Sim.eqB_non, Sim.eqD_of, Sim.neD_of, Sim.isD_non, Sim.isNotD_non, Sim.isN_non, Sim.isN_bl, Sim.isN_int, Sim.isN_str, Sim.isN_tup, Sim.isN_lst, Sim.frz_non, Sim.frz_bl, Sim.frz_int, Sim.frz_str, Sim.frz_tup, Sim.frz_lst, Sim.frz_dct, Sim.frz_scr, Sim.maxD_int, Sim.minD_int, Sim.absD_int, Sim.intD_int, Sim.tupleD_tup, Sim.tupleD_lst, Sim.listD_tup, Sim.listD_lst, Sim.listD_scr, Sim.itemsD_sh, Sim.itemsD_tup, Sim.itemsD_scr, Sim.isi_non, Sim.isi_bl, Sim.isi_int, Sim.isi_str, Sim.isi_tup, Sim.isi_lst, Sim.slice_tup, Sim.slice_lst, Sim.inDD_of, Sim.notInDD_of, Sim.inD_tup, Sim.inD_lst, Sim.inD_dct, Sim.cap, Sim.nat10, Sim.nat2, Nat.zero_le, Sim.ex_some, Sim.ex_some2, Sim.ex_if, Sim.ex_map, Sim.ex_eq, Sim.ex_bl, Sim.ex_int, Sim.ex_own, Sim.ex_lst, Sim.inr_at, Sim.inl_at, Sim.tt_c, Sim.ff_c, Sim.pad_nil, Sim.pad_n, Sim.nones_0, Sim.nones_s, List.getElem?_cons_zero, List.getElem?_cons_succ, List.set_cons_zero, List.set_cons_succ, List.map_cons, List.map_nil, List.cons_append, List.nil_append, Option.map_some, List.length_cons, List.length_nil, Int.zero_add, Nat.zero_add, Nat.reduceAdd, Nat.reduceLeDiff, Nat.reduceMul, true_and, and_true, decide_eq_true_eq, decide_eq_false_iff_not, Bool.false_eq_true, Bool.true_eq_false, false_implies, true_implies, implies_true, eq_self, decide_true, decide_false, not_true_eq_false, not_false_eq_true, Bool.not_true, Bool.not_false, Int.reduceLT, Int.reduceLE, Int.reduceNeg, Int.reducePow, Int.reduceToNat]
  simp only [Sim.T_ok, Sim.T_fail, Sim.T_bind, Sim.T_pureO, Sim.EndQ_nxt, Sim.EndQ_ret, Sim.lasts_nil, Sim.T_call, Sim.T_name, Sim.T_frz, Sim.T_const, Sim.T_sh, Sim.T_op2, Sim.T_op1, Sim.T_test, Sim.T_not, Sim.T_andM, Sim.T_orM, Sim.T_ifM, Sim.T_bl, Sim.T_andV, Sim.T_orV, Sim.T_notV, Sim.T_peek, Sim.T_vP, Sim.T_opP, Sim.T_nilA, Sim.T_consA, Sim.T_nilP, Sim.T_consP, Sim.T_tup, Sim.T_lst, Sim.T_noO, Sim.T_someO, Sim.T_slice, Sim.T_callM, Sim.resL_cons, Sim.resL_nil', Sim.T_isi, Sim.T_nil, Sim.T_brk, Sim.T_cnt, Sim.SeqQ_nxt, Sim.SeqQ_brk, Sim.SeqQ_cnt, Sim.SeqQ_ret, Sim.T_seq, Sim.T_set, Sim.T_drop, Sim.T_ret, Sim.T_retN, Sim.T_retS, Sim.T_asg, Sim.T_nameG, Sim.T_tupG, Sim.T_nilG, Sim.T_consG, Sim.T_aug, Sim.T_app, Sim.T_putD, Sim.T_newD, Sim.T_disp, Sim.T_iter, Sim.T_range1, Sim.T_range2, Sim.LoopQ_nxt, Sim.LoopQ_cnt, Sim.LoopQ_brk, Sim.LoopQ_ret, Sim.T_for, Sim.T_comp, Sim.T_yes, Sim.wipeR, Sim.T_rev, Sim.revD_lst, Sim.T_revR1, Sim.T_rg1, Sim.T_rg2, Sim.T_lstRg, Sim.T_tupRg, Sim.sumD_ints, Sim.ixDD_tup, Sim.ixDD_lst, Sim.ixDD_scr, Sim.ixDD_dct, Sim.atI_nat, Sim.atI_lit, Sim.lenD_tup, Sim.lenD_lst, Sim.lenD_scr, Sim.lenD_dct, Sim.addD_int, Sim.iaddD_int, Sim.subD_int, Sim.mulD_int, Sim.mulD_one, Sim.fdivD_int, Sim.modD_int, Sim.powD_int, Sim.addD_tup, Sim.addD_lst, Sim.negD_int, Sim.ltD_int, Sim.leD_int, Sim.gtD_int, Sim.geD_int, Sim.eqB_int, Sim.eqB_str, Sim.eqB_bl, Sim.eqB_non, Sim.eqD_of, Sim.neD_of, Sim.isD_non, Sim.isNotD_non, Sim.isN_non, Sim.isN_bl, Sim.isN_int, Sim.isN_str, Sim.isN_tup, Sim.isN_lst, Sim.frz_non, Sim.frz_bl, Sim.frz_int, Sim.frz_str, Sim.frz_tup, Sim.frz_lst, Sim.frz_dct, Sim.frz_scr, Sim.maxD_int, Sim.minD_int, Sim.absD_int, Sim.intD_int, Sim.tupleD_tup, Sim.tupleD_lst, Sim.listD_tup, Sim.listD_lst, Sim.listD_scr, Sim.itemsD_sh, Sim.itemsD_tup, Sim.itemsD_scr, Sim.isi_non, Sim.isi_bl, Sim.isi_int, Sim.isi_str, Sim.isi_tup, Sim.isi_lst, Sim.slice_tup, Sim.slice_lst, Sim.inDD_of, Sim.notInDD_of, Sim.inD_tup, Sim.inD_lst, Sim.inD_dct, Sim.cap, Sim.nat10, Sim.nat2, Nat.zero_le, Sim.ex_some, Sim.ex_some2, Sim.ex_if, Sim.ex_map, Sim.ex_eq, Sim.ex_bl, Sim.ex_int, Sim.ex_own, Sim.ex_lst, Sim.inr_at, Sim.inl_at, Sim.tt_c, Sim.ff_c, Sim.pad_nil, Sim.pad_n, Sim.nones_0, Sim.nones_s, List.getElem?_cons_zero, List.getElem?_cons_succ, List.set_cons_zero, List.set_cons_succ, List.map_cons, List.map_nil, List.cons_append, List.nil_append, Option.map_some, List.length_cons, List.length_nil, Int.zero_add, Nat.zero_add, Nat.reduceAdd, Nat.reduceLeDiff, Nat.reduceMul, true_and, and_true, decide_eq_true_eq, decide_eq_false_iff_not, Bool.false_eq_true, Bool.true_eq_false, false_implies, true_implies, implies_true, eq_self, decide_true, decide_false, not_true_eq_false, not_false_eq_true, Bool.not_true, Bool.not_false, Int.reduceLT, Int.reduceLE, Int.reduceNeg, Int.reducePow, Int.reduceToNat]
  refine FT_mono (hd ns 30 [1000000001, 1000000001] (by decide) (by decide)) ?_
  rintro _ _ ⟨rfl, ws, rfl, hx⟩
  obtain ⟨x, _, ex, hx0, hx1⟩ := drawn_get hx (j := 0) rfl
  obtain ⟨y, _, ey, hy0, hy1⟩ := drawn_get hx (j := 1) rfl
  simp only [Sim.T_ok, Sim.T_fail, Sim.T_bind, Sim.T_pureO, Sim.EndQ_nxt, Sim.EndQ_ret, Sim.lasts_nil, Sim.T_call, Sim.T_name, Sim.T_frz, Sim.T_const, Sim.T_sh, Sim.T_op2, Sim.T_op1, Sim.T_test, Sim.T_not, Sim.T_andM, Sim.T_orM, Sim.T_ifM, Sim.T_bl, Sim.T_andV, Sim.T_orV, Sim.T_notV, Sim.T_peek, Sim.T_vP, Sim.T_opP, Sim.T_nilA, Sim.T_consA, Sim.T_nilP, Sim.T_consP, Sim.T_tup, Sim.T_lst, Sim.T_noO, Sim.T_someO, Sim.T_slice, Sim.T_callM, Sim.resL_cons, Sim.resL_nil', Sim.T_isi, Sim.T_nil, Sim.T_brk, Sim.T_cnt, Sim.SeqQ_nxt, Sim.SeqQ_brk, Sim.SeqQ_cnt, Sim.SeqQ_ret, Sim.T_seq, Sim.T_set, Sim.T_drop, Sim.T_ret, Sim.T_retN, Sim.T_retS, Sim.T_asg, Sim.T_nameG, Sim.T_tupG, Sim.T_nilG, Sim.T_consG, Sim.T_aug, Sim.T_app, Sim.T_putD, Sim.T_newD, Sim.T_disp, Sim.T_iter, Sim.T_range1, Sim.T_range2, Sim.LoopQ_nxt, Sim.LoopQ_cnt, Sim.LoopQ_brk, Sim.LoopQ_ret, Sim.T_for, Sim.T_comp, Sim.T_yes, Sim.wipeR, Sim.T_rev, Sim.revD_lst, Sim.T_revR1, Sim.T_rg1, Sim.T_rg2, Sim.T_lstRg, Sim.T_tupRg, Sim.sumD_ints, Sim.ixDD_tup, Sim.ixDD_lst, Sim.ixDD_scr, Sim.ixDD_dct, Sim.atI_nat, Sim.atI_lit, Sim.lenD_tup, Sim.lenD_lst, Sim.lenD_scr, Sim.lenD_dct, Sim.addD_int, Sim.iaddD_int, Sim.subD_int, Sim.mulD_int, Sim.mulD_one, Sim.fdivD_int, Sim.modD_int, Sim.powD_int, Sim.addD_tup, Sim.addD_lst, Sim.negD_int, Sim.ltD_int, Sim.leD_int, Sim.gtD_int, Sim.geD_int, Sim.eqB_int, Sim.eqB_str, Sim.eqB_bl, Sim.eqB_non, Sim.eqD_of, Sim.neD_of, Sim.isD_non, Sim.isNotD_non, Sim.isN_non, Sim.isN_bl, Sim.isN_int, Sim.isN_str, Sim.isN_tup, Sim.isN_lst, Sim.frz_non, Sim.frz_bl, Sim.frz_int, Sim.frz_str, Sim.frz_tup, Sim.frz_lst, Sim.frz_dct, Sim.frz_scr, Sim.maxD_int, Sim.minD_int, Sim.absD_int, Sim.intD_int, Sim.tupleD_tup, Sim.tupleD_lst, Sim.listD_tup, Sim.listD_lst, Sim.listD_scr, Sim.itemsD_sh, Sim.itemsD_tup, Sim.itemsD_scr, Sim.isi_non, Sim.isi_bl, Sim.isi_int, Sim.isi_str, Sim.isi_tup, Sim.isi_lst, Sim.slice_tup, Sim.slice_lst, Sim.inDD_of, Sim.notInDD_of, Sim.inD_tup, Sim.inD_lst, Sim.inD_dct, Sim.cap, Sim.nat10, Sim.nat2, Nat.zero_le, Sim.ex_some, Sim.ex_some2, Sim.ex_if, Sim.ex_map, Sim.ex_eq, Sim.ex_bl, Sim.ex_int, Sim.ex_own, Sim.ex_lst, Sim.inr_at, Sim.inl_at, Sim.tt_c, Sim.ff_c, Sim.pad_nil, Sim.pad_n, Sim.nones_0, Sim.nones_s, List.getElem?_cons_zero, List.getElem?_cons_succ, List.set_cons_zero, List.set_cons_succ, List.map_cons, List.map_nil, List.cons_append, List.nil_append, Option.map_some, List.length_cons, List.length_nil, Int.zero_add, Nat.zero_add, Nat.reduceAdd, Nat.reduceLeDiff, Nat.reduceMul, true_and, and_true, decide_eq_true_eq, decide_eq_false_iff_not, Bool.false_eq_true, Bool.true_eq_false, false_implies, true_implies, implies_true, eq_self, decide_true, decide_false, not_true_eq_false, not_false_eq_true, Bool.not_true, Bool.not_false, Int.reduceLT, Int.reduceLE, Int.reduceNeg, Int.reducePow, Int.reduceToNat, ex, ey, Plant.enc]
  refine ⟨by simp; omega, ?_⟩
  have h2 := fun rest => hcnt (⟨"a.x", -5, x - 5, -5, x - 5⟩ :: ⟨"a.y", 0, y, 0, y⟩ :: vs) rest (by simp; omega) (fun s hs => by
    rcases List.mem_cons.mp hs with rfl | hs
    · show _ < x - 5 - -5 + 1 ∧ x - 5 - -5 + 1 < _
      omega
    · rcases List.mem_cons.mp hs with rfl | hs
      · show _ < y - 0 + 1 ∧ y - 0 + 1 < _
        omega
      · exact hb s hs)
  refine FT_mono (h2 _) ?_
  rintro _ _ ⟨rfl, rfl⟩
  have ec : cnt (spans (⟨"a.x", -5, x - 5, -5, x - 5⟩ :: ⟨"a.y", 0, y, 0, y⟩ :: vs)) 1 = (x + 1) * (y + 1) * ((prod (spans vs)).length : Int) := by
    show cnt (spans vs) (1 * (x - 5 - -5 + 1) * (y - 0 + 1)) = _
    rw [cnt_mul, cnt_prod _ hsp, show 1 * (x - 5 - -5 + 1) = x + 1 by omega, show y - 0 + 1 = y + 1 by omega]
  rw [ec, List.length_map]
  refine ⟨.inl (by omega), .inr (by omega), ?_⟩
  refine FT_mono (al _) ?_
  rintro _ _ ⟨rfl, rfl⟩
  exact ⟨rfl, rfl⟩
theorem true_all (ns : List Int) (_ : ns.length ≤ 63) : ∃ fs, (M 100).f_law [.scr ns] = some (.bl true, fs) := by
  have hdraw : ∀ k, DrawOk (M (k + 2)).f__law_draw := fun k ns i ms hl hm => draw_ok (R := M (k + 1)) (fun ns i => cell_ok (R := M k) ns i) ns i ms hl hm
  have hterm : ∀ k, TermOk (M (k + 1)).f__law_term := fun k => term_ok (R := M k)
  have hcond : ∀ k, CondOk (M (k + 2)).f__law_condition := fun k => cond_ok (R := M (k + 1)) (hterm k)
  have hmove : ∀ k, MoveFn (M (k + 3)).f__law_move := fun k => move_ok (R := M (k + 2)) (hdraw k) (hterm (k + 1)) (hcond k)
  have hplant := plant_ok (R := M 98) (hdraw 96) (hmove 95) (fun ns n hn => sensors_ok (R := M 97) (hdraw 95) (hterm 96) ns n hn) ns
  have := law_ok (R := M 99) ns (hdraw 97) hplant
    (fun vs rest h1 h2 => first_ok (R := M 98) (fun rows cs h1 h2 => box_ok (R := M 97) rows cs h1 h2) vs rest h1 h2)
    (fun vs rest h1 L h2 h3 => values_ok (R := M 98) (fun vs rest h => first_spans_ok (R := M 97) vs rest h) (fun sp v h1 h2 => following_ok (R := M 97) sp v h1 h2) vs rest h1 L h2 h3)
    (fun vs rest h1 h2 => count_ok (R := M 98) (fun vs rest h => first_spans_ok (R := M 97) vs rest h) vs rest h1 h2)
    (fun d h1 h2 h3 => alike_all 5 94 d h1 h2 h3)
  exact ⟨_, FT_eq this⟩
end Law

open PySem PySem.W PyProof.Rows
set_option maxHeartbeats 0 in
theorem PySem.Challenge.cw_wardens_k25_first_values_holds : PySem.Challenge.rw_wardens_k25_first_values.Holds := by
  w_on; o_law; k_head; (case hw => w_witness2)
  k_fill
  refine L2.walk_of (l := PySem.Challenge.rw_wardens_k25_first_values) (n := 63) (k := 100) (x := "_law_script") (CX := fun _ => L2.CX0) (sp := fun w => Sim.spF ⟨PySem.Challenge.rw_wardens_k25_first_values.prog, w, _⟩ Law.S_law 1 5 (Law.M 100).f_law) rfl (by decide) rfl ⟨rfl, by decide, by decide⟩ (fun w h Y => PySem.W.kIn_of Y) ?F (fun _ H a ns hl _ hS => Sim.law_end rfl Law.true_all H a ns hl hS) (fun _ _ _ _ _ h => h)
  case F =>
    intro w mg fa h KX G hmg
    refine' Law.top_mk KX G ?a0 ?l0 ?c0 ?k0 ?a1 ?l1 ?c1 ?k1 ?a2 ?l2 ?c2 ?k2 ?a3 ?l3 ?c3 ?k3 ?a4 ?l4 ?c4 ?k4 ?a5 ?l5 ?c5 ?k5 ?a6 ?l6 ?c6 ?k6 ?a7 ?l7 ?c7 ?k7 ?a8 ?l8 ?c8 ?k8 ?a9 ?l9 ?c9 ?k9 ?a10 ?l10 ?c10 ?k10 ?a11 ?l11 ?c11 ?k11 ?a12 ?l12 ?c12 ?k12 ?a13 ?l13 ?c13 ?k13 ?a14 ?l14 ?c14 ?k14 ?z_bool ?z_int ?z_isinstance ?z_len ?z_list ?z_max ?z_range ?z_reversed ?z_str ?z_sum ?z_tuple ?fin
    (case a0 => k_is)
    (case l0 => k_is)
    (case c0 => k_is)
    (case k0 => k_is)
    (case a1 => k_is)
    (case l1 => k_is)
    (case c1 => k_is)
    (case k1 => k_is)
    (case a2 => k_is)
    (case l2 => k_is)
    (case c2 => k_is)
    (case k2 => k_is)
    (case a3 => k_is)
    (case l3 => k_is)
    (case c3 => k_is)
    (case k3 => k_is)
    (case a4 => k_is)
    (case l4 => k_is)
    (case c4 => k_is)
    (case k4 => k_is)
    (case a5 => k_is)
    (case l5 => k_is)
    (case c5 => k_is)
    (case k5 => k_is)
    (case a6 => k_is)
    (case l6 => k_is)
    (case c6 => k_is)
    (case k6 => k_is)
    (case a7 => k_is)
    (case l7 => k_is)
    (case c7 => k_is)
    (case k7 => k_is)
    (case a8 => k_is)
    (case l8 => k_is)
    (case c8 => k_is)
    (case k8 => k_is)
    (case a9 => k_is)
    (case l9 => k_is)
    (case c9 => k_is)
    (case k9 => k_is)
    (case a10 => k_is)
    (case l10 => k_is)
    (case c10 => k_is)
    (case k10 => k_is)
    (case a11 => k_is)
    (case l11 => k_is)
    (case c11 => k_is)
    (case k11 => k_is)
    (case a12 => k_is)
    (case l12 => k_is)
    (case c12 => k_is)
    (case k12 => k_is)
    (case a13 => k_is)
    (case l13 => k_is)
    (case c13 => k_is)
    (case k13 => k_is)
    (case a14 => k_is)
    (case l14 => k_is)
    (case c14 => k_is)
    (case k14 => k_is)
    (case z_bool => k_is)
    (case z_int => k_is)
    (case z_isinstance => k_is)
    (case z_len => k_is)
    (case z_list => k_is)
    (case z_max => k_is)
    (case z_range => k_is)
    (case z_reversed => k_is)
    (case z_str => k_is)
    (case z_sum => k_is)
    (case z_tuple => k_is)
    intro T h1 h2
    have e := hmg.symm.trans h1
    cases e
    exact ⟨T.d_law, h2, fun base _ _ => (Law.all_ok (T := T) 100).f_law⟩

