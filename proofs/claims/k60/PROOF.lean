import PyProof.Rows.All
import Wide.All
import OpenK.AllK
import Wide.FinOn
import HandS.ForMost
import HandS.ForExc
import HandS.Flow
import HandS.Style
import HandS.TupAny
import HandS.TupLe
import HandS.Deep
import HandS.IsInst
import HandS.Walk
import HandS.Zip
import HandS.Rev
import HandS.Codes
import KE.DataMinMax
import HandS.TryOnly
import HandS.Ends
import PySem.Challenge.RW_solvedandshown_k60_whole_leading_parts
set_option Elab.async false
set_option linter.all false
set_option maxRecDepth 100000
set_option maxHeartbeats 8000000
/-! Mi: values as trees, slots with owners, the state that bears them -/
namespace Mi
open PySem PySem.Spec L2

inductive D where
  | non
  | bl (b : Bool)
  | int (i : Int)
  | str (s : List Nat)
  | tup (ds : List D)
  | lst (ds : List D)
  | dct (kvs : List (D × D))

instance : Inhabited D := ⟨.non⟩

def strG (s : List Nat) : Bool := s.all (fun c => decide (c < 0x110000)) && decide (s.length ≤ 16777216)

mutual
inductive Rep (K : PySem.W.Frag) (H : Hp) : V → D → Prop
  | non : Rep K H .non .non
  | bl (b : Bool) : Rep K H (.bl b) (.bl b)
  | int (i : Int) : Rep K H (.int i) (.int i)
  | str {s : List Nat} : strG s = true → Rep K H (.str ⟨s.toArray⟩) (.str s)
  | tup {a : Addr} {vs : List V} {ds : List D} : SqT K H a vs → Reps K H vs ds → Rep K H (.ref a) (.tup ds)
  | lst {a : Addr} {vs : List V} {ds : List D} : SqL K H a vs → Reps K H vs ds → Rep K H (.ref a) (.lst ds)
inductive Reps (K : PySem.W.Frag) (H : Hp) : List V → List D → Prop
  | nil : Reps K H [] []
  | cons {v : V} {vs : List V} {d : D} {ds : List D} : Rep K H v d → Reps K H vs ds → Reps K H (v :: vs) (d :: ds)
end

theorem Same.seqT {K : PySem.W.Frag} {H H' : Hp} {a : Addr} {xs : List V} (e : Same H H') (h : SqT K H a xs) : SqT K H' a xs := by
  rcases h with (h | ⟨o, h⟩) | h
  · exact .inl (.inl (e _ _ h))
  · exact .inl (.inr ⟨o, e _ _ h⟩)
  · exact .inr h

theorem Same.rd {H H' : Hp} {a : Addr} {u : HO} (e : Same H H') (h : Rd H a u) : Rd H' a u := by
  rcases h with h | ⟨o, h⟩
  · exact .inl (e _ _ h)
  · exact .inr ⟨o, e _ _ h⟩

theorem Same.seqL {K : PySem.W.Frag} {H H' : Hp} {a : Addr} {xs : List V} (e : Same H H') (h : SqL K H a xs) : SqL K H' a xs := by
  rcases h with h | h
  · exact .inl (Same.rd e h)
  · exact .inr h
mutual
theorem Rep.mono {K : PySem.W.Frag} {H H' : Hp} (e : Same H H') : ∀ {v : V} {d : D}, Rep K H v d → Rep K H' v d
  | _, _, .non => .non
  | _, _, .bl b => .bl b
  | _, _, .int i => .int i
  | _, _, .str h => .str h
  | _, _, .tup h r => .tup (Same.seqT e h) (Reps.mono e r)
  | _, _, .lst h r => .lst (Same.seqL e h) (Reps.mono e r)
theorem Reps.mono {K : PySem.W.Frag} {H H' : Hp} (e : Same H H') : ∀ {vs : List V} {ds : List D}, Reps K H vs ds → Reps K H' vs ds
  | _, _, .nil => .nil
  | _, _, .cons h r => .cons (Rep.mono e h) (Reps.mono e r)
end

section
variable {K : PySem.W.Frag} {H H' : Hp}
theorem Reps.length : ∀ {vs : List V} {ds : List D}, Reps K H vs ds → vs.length = ds.length
  | _, _, .nil => rfl
  | _, _, .cons _ r => by simp [Reps.length r]
theorem Reps.get : ∀ {vs : List V} {ds : List D} {i : Nat} {d : D}, Reps K H vs ds → ds[i]? = some d → ∃ v, vs[i]? = some v ∧ Rep K H v d
  | _, _, _, _, .nil, e => by simp at e
  | _, _, 0, _, .cons h _, e => by simp at e; subst e; exact ⟨_, rfl, h⟩
  | _, _, i + 1, _, .cons _ r, e => by
    obtain ⟨v, h1, h2⟩ := Reps.get (i := i) r (by simpa using e)
    exact ⟨v, by simpa using h1, h2⟩
theorem Reps.get' : ∀ {vs : List V} {ds : List D} {i : Nat} {v : V}, Reps K H vs ds → vs[i]? = some v → ∃ d, ds[i]? = some d ∧ Rep K H v d
  | _, _, _, _, .nil, e => by simp at e
  | _, _, 0, _, .cons h _, e => by simp at e; subst e; exact ⟨_, rfl, h⟩
  | _, _, i + 1, _, .cons _ r, e => by
    obtain ⟨v, h1, h2⟩ := Reps.get' (i := i) r (by simpa using e)
    exact ⟨v, by simpa using h1, h2⟩
theorem Reps.append : ∀ {vs ws : List V} {ds es : List D}, Reps K H vs ds → Reps K H ws es → Reps K H (vs ++ ws) (ds ++ es)
  | _, _, _, _, .nil, s => s
  | _, _, _, _, .cons h r, s => .cons h (Reps.append r s)
theorem Reps.take : ∀ {vs : List V} {ds : List D} (n : Nat), Reps K H vs ds → Reps K H (vs.take n) (ds.take n)
  | _, _, 0, _ => by simpa using Reps.nil
  | _, _, _ + 1, .nil => .nil
  | _, _, n + 1, .cons h r => .cons h (Reps.take n r)
theorem Reps.drop : ∀ {vs : List V} {ds : List D} (n : Nat), Reps K H vs ds → Reps K H (vs.drop n) (ds.drop n)
  | _, _, 0, r => r
  | _, _, _ + 1, .nil => .nil
  | _, _, n + 1, .cons _ r => Reps.drop n r
theorem Reps.set {v : V} {d : D} (h : Rep K H v d) : ∀ {vs : List V} {ds : List D} (i : Nat), Reps K H vs ds → Reps K H (vs.set i v) (ds.set i d)
  | _, _, _, .nil => .nil
  | _, _, 0, .cons _ r => .cons h r
  | _, _, i + 1, .cons q r => .cons q (Reps.set h i r)
theorem Reps.reverse : ∀ {vs : List V} {ds : List D}, Reps K H vs ds → Reps K H vs.reverse ds.reverse
  | _, _, .nil => .nil
  | _, _, .cons h r => by
    rw [List.reverse_cons, List.reverse_cons]
    exact (Reps.reverse r).append (.cons h .nil)
theorem Reps.one {v : V} {d : D} (h : Rep K H v d) : Reps K H [v] [d] := .cons h .nil
end

/-! ### slots -/
inductive Sl where
  | un
  | sh (d : D)
  | ow (par : Bool) (d : D)
abbrev Rho := List Sl

/-- an object that its one holder may change -/
def Own (K : PySem.W.Frag) (H HF : Hp) (a : Addr) : D → Prop
  | .lst ds => ∃ vs, H a = some (.lst vs) ∧ Reps K HF vs ds
  | _ => False

def OwnSl (ρ : Rho) (σ : St) (i : Nat) (p : Bool) (d : D) (a : Addr) : Prop := ρ[i]? = some (.ow p d) ∧ σ[i]? = some (some (.ref a))
def Owned (ρ : Rho) (σ : St) (a : Addr) : Prop := ∃ i p d, OwnSl ρ σ i p d a

structure Rl (K : PySem.W.Frag) (ρ : Rho) (σ : St) (H HF : Hp) : Prop where
  sub : Same HF H
  len : ρ.length = σ.length
  sh : ∀ (i : Nat) (d : D), ρ[i]? = some (.sh d) → ∃ v, σ[i]? = some (some v) ∧ Rep K HF v d
  ow : ∀ (i : Nat) (p : Bool) (d : D), ρ[i]? = some (.ow p d) → ∃ a, σ[i]? = some (some (.ref a)) ∧ HF a = none ∧ Own K H HF a d
  dis : ∀ (i j : Nat) (p q : Bool) (d e : D) (a : Addr), OwnSl ρ σ i p d a → OwnSl ρ σ j q e a → i = j

/-- from the base to here -/
structure Stp (K : PySem.W.Frag) (ρ : Rho) (σ : St) (H HF : Hp) (ρ' : Rho) (σ' : St) (H' HF' : Hp) : Prop where
  le : Same HF HF'
  rl : Rl K ρ' σ' H' HF'
  fr : ∀ a o, H a = some o → ¬ Owned ρ σ a → H' a = some o
  fsh : ∀ a o, HF' a = some o → HF a = some o ∨ H a = none ∨ Owned ρ σ a
  own : ∀ a, Owned ρ' σ' a → Owned ρ σ a ∨ H a = none
  dom : ∀ a, H' a = none → H a = none
  par : ∀ (i : Nat) (d : D), ρ[i]? = some (.ow true d) → (∃ d', ρ'[i]? = some (.ow true d')) ∧ σ'[i]? = σ[i]?
  par' : ∀ (i : Nat) (d : D), ρ'[i]? = some (.ow true d) → ∃ d', ρ[i]? = some (.ow true d')

section
variable {K : PySem.W.Frag} {ρ ρ1 ρ2 : Rho} {σ σ1 σ2 : St} {H HF H1 HF1 H2 HF2 : Hp}
theorem Stp.refl (r : Rl K ρ σ H HF) : Stp K ρ σ H HF ρ σ H HF :=
  ⟨fun _ _ h => h, r, fun _ _ h _ => h, fun _ _ h => .inl h, fun _ h => .inl h, fun _ h => h, fun _ d h => ⟨⟨d, h⟩, rfl⟩, fun _ d h => ⟨d, h⟩⟩
theorem Stp.trans (a : Stp K ρ σ H HF ρ1 σ1 H1 HF1) (b : Stp K ρ1 σ1 H1 HF1 ρ2 σ2 H2 HF2) : Stp K ρ σ H HF ρ2 σ2 H2 HF2 where
  le := a.le.trans b.le
  rl := b.rl
  fr := fun x o h n => b.fr x o (a.fr x o h n) fun q => (a.own x q).elim n fun z => by rw [h] at z; cases z
  fsh := fun x o h => by
    rcases b.fsh x o h with q | q | q
    · exact a.fsh x o q
    · exact .inr (.inl (a.dom x q))
    · rcases a.own x q with z | z
      · exact .inr (.inr z)
      · exact .inr (.inl z)
  own := fun x h => by
    rcases b.own x h with q | q
    · exact a.own x q
    · exact .inr (a.dom x q)
  dom := fun x h => a.dom x (b.dom x h)
  par := fun i d h => by
    obtain ⟨⟨d1, h1⟩, e1⟩ := a.par i d h
    obtain ⟨h2, e2⟩ := b.par i d1 h1
    exact ⟨h2, e2.trans e1⟩
  par' := fun i d h => by
    obtain ⟨d1, h1⟩ := b.par' i d h
    exact a.par' i d1 h1
theorem Own.mono {a : Addr} {d : D} (l : Same HF HF1) (e : H1 a = H a) (h : Own K H HF a d) : Own K H1 HF1 a d := by
  cases d with
  | lst ds =>
    obtain ⟨vs, h1, h2⟩ := h
    exact ⟨vs, e.trans h1, h2.mono l⟩
  | _ => exact h.elim
theorem Own.some {a : Addr} {d : D} (h : Own K H HF a d) : ∃ o, H a = some o := by
  cases d with
  | lst ds => obtain ⟨vs, h1, _⟩ := h; exact ⟨_, h1⟩
  | _ => exact h.elim
end

/-! ### places -/
inductive Pl where
  | sh (d : D)
  | ow (d : D)
  | at (i : Nat)

def Pl.get (ρ : Rho) : Pl → Option D
  | .sh d => some d
  | .ow d => some d
  | .at i => match ρ[i]? with
    | some (.sh d) => some d
    | some (.ow _ d) => some d
    | _ => none
/-- made fast: it never changes from here on -/
def Pl.frz (ρ : Rho) : Pl → Option (D × Rho)
  | .sh d => some (d, ρ)
  | .ow d => some (d, ρ)
  | .at i => match ρ[i]? with
    | some (.sh d) => some (d, ρ)
    | some (.ow false d) => some (d, ρ.set i (.sh d))
    | _ => none

/-- slots that hold something go on to hold something; what is fast stays -/
def Live (ρ ρ' : Rho) : Prop := ρ'.length = ρ.length ∧ (∀ (i : Nat) (d : D), ρ[i]? = some (.sh d) → ρ'[i]? = some (.sh d)) ∧ (∀ (i : Nat) (p : Bool) (d : D), ρ[i]? = some (.ow p d) → ∃ d', ρ'[i]? = some (.sh d') ∨ ρ'[i]? = some (.ow p d'))
theorem Live.refl {ρ : Rho} : Live ρ ρ := ⟨rfl, fun _ _ h => h, fun _ _ d h => ⟨d, .inr h⟩⟩
theorem Live.trans {ρ ρ1 ρ2 : Rho} (a : Live ρ ρ1) (b : Live ρ1 ρ2) : Live ρ ρ2 := by
  refine ⟨b.1.trans a.1, fun i d h => b.2.1 i d (a.2.1 i d h), fun i p d h => ?_⟩
  obtain ⟨d1, h1 | h1⟩ := a.2.2 i p d h
  · exact ⟨d1, .inl (b.2.1 i d1 h1)⟩
  · exact b.2.2 i p d1 h1

/-- a value at hand: since the base (ρ0 σ H0) -/
def RepP (K : PySem.W.Frag) (ρ0 : Rho) (σ0 : St) (H0 : Hp) (ρ : Rho) (σ : St) (H HF : Hp) (v : V) : Pl → Prop
  | .sh d => Rep K HF v d
  | .ow d => ∃ a, v = .ref a ∧ HF a = none ∧ ¬ Owned ρ σ a ∧ Own K H HF a d ∧ (H0 a = none ∨ Owned ρ0 σ0 a)
  | .at i => σ[i]? = some (some v) ∧ ∃ s, ρ[i]? = some s ∧ s ≠ .un

/-- how a value is read: a list's items are fast -/
inductive Vw (K : PySem.W.Frag) (H HF : Hp) : V → D → Prop
  | rep {v : V} {d : D} : Rep K HF v d → Vw K H HF v d
  | own {a : Addr} {d : D} : Own K H HF a d → Vw K H HF (.ref a) d

structure StE (K : PySem.W.Frag) (ρ : Rho) (σ : St) (H HF : Hp) (ρ' : Rho) (H' HF' : Hp) : Prop extends Stp K ρ σ H HF ρ' σ H' HF' where
  lv : Live ρ ρ'

section
variable {K : PySem.W.Frag} {ρ ρ1 ρ2 ρ0 : Rho} {σ σ0 : St} {H HF H1 HF1 H2 HF2 H0 HF0 : Hp} {v : V} {pl : Pl} {d : D}
theorem StE.refl (r : Rl K ρ σ H HF) : StE K ρ σ H HF ρ H HF := ⟨Stp.refl r, Live.refl⟩
theorem StE.trans (a : StE K ρ σ H HF ρ1 H1 HF1) (b : StE K ρ1 σ H1 HF1 ρ2 H2 HF2) : StE K ρ σ H HF ρ2 H2 HF2 := ⟨a.toStp.trans b.toStp, a.lv.trans b.lv⟩

/-- a value at hand stays at hand -/
theorem RepP.step (h : RepP K ρ0 σ0 H0 ρ σ H HF v pl) (s : StE K ρ σ H HF ρ1 H1 HF1) : RepP K ρ0 σ0 H0 ρ1 σ H1 HF1 v pl := by
  cases pl with
  | sh d => exact Rep.mono s.le h
  | ow d =>
    obtain ⟨a, rfl, h1, h2, h3, h4⟩ := h
    obtain ⟨o, ho⟩ := h3.some
    refine ⟨a, rfl, ?_, fun q => ?_, h3.mono s.le ?_, h4⟩
    · cases e : HF1 a with
      | none => rfl
      | some u =>
        rcases s.fsh a u e with q | q | q
        · rw [h1] at q; cases q
        · rw [ho] at q; cases q
        · exact (h2 q).elim
    · rcases s.own a q with z | z
      · exact h2 z
      · rw [ho] at z; cases z
    · rw [ho]; exact s.fr a o ho h2
  | «at» i =>
    obtain ⟨h1, sl, h2, h3⟩ := h
    refine ⟨h1, ?_⟩
    cases sl with
    | un => exact (h3 rfl).elim
    | sh d => exact ⟨_, s.lv.2.1 i d h2, by intro z; cases z⟩
    | ow p d =>
      obtain ⟨d', q | q⟩ := s.lv.2.2 i p d h2
      · exact ⟨_, q, by intro z; cases z⟩
      · exact ⟨_, q, by intro z; cases z⟩
/-- told from an earlier base -/
theorem RepP.base (h : RepP K ρ1 σ H1 ρ2 σ H2 HF2 v pl) (s : StE K ρ0 σ H0 HF0 ρ1 H1 HF1) : RepP K ρ0 σ H0 ρ2 σ H2 HF2 v pl := by
  cases pl with
  | sh d => exact h
  | ow d =>
    obtain ⟨a, rfl, h1, h2, h3, h4⟩ := h
    refine ⟨a, rfl, h1, h2, h3, ?_⟩
    rcases h4 with q | q
    · exact .inl (s.dom a q)
    · rcases s.own a q with z | z
      · exact .inr z
      · exact .inl z
  | «at» i => exact h
theorem RepP.vw (r : Rl K ρ σ H HF) (h : RepP K ρ0 σ0 H0 ρ σ H HF v pl) (g : pl.get ρ = some d) : Vw K H HF v d := by
  cases pl with
  | sh d' => cases g; exact .rep h
  | ow d' =>
    cases g
    obtain ⟨a, rfl, _, _, h3, _⟩ := h
    exact .own h3
  | «at» i =>
    obtain ⟨h1, sl, h2, h3⟩ := h
    unfold Pl.get at g
    simp only [h2] at g
    cases sl with
    | un => cases g
    | sh d' =>
      cases g
      obtain ⟨w, e, q⟩ := r.sh i _ h2
      rw [h1] at e; cases e
      exact .rep q
    | ow p d' =>
      cases g
      obtain ⟨a, e, _, q⟩ := r.ow i p _ h2
      rw [h1] at e; cases e
      exact .own q
theorem upd_le {a : Addr} {o : HO} (h : HF a = none) : Same HF (upd HF a o) := fun b u e => by rw [upd_ne (ne_of_none e h)]; exact e

/-- made fast -/
theorem RepP.frz {ρ' : Rho} (s : StE K ρ0 σ H0 HF0 ρ H HF) (h : RepP K ρ0 σ H0 ρ σ H HF v pl) (g : pl.frz ρ = some (d, ρ')) :
    ∃ HF', StE K ρ0 σ H0 HF0 ρ' H HF' ∧ Rep K HF' v d ∧ Same HF HF' ∧ (∀ a, ¬ Owned ρ σ a → (∀ e, pl = .ow e → v ≠ .ref a) → HF a = none → HF' a = none) := by
  cases pl with
  | sh d' => cases g; exact ⟨HF, s, h, fun _ _ q => q, fun _ _ _ q => q⟩
  | ow d' =>
    cases g
    obtain ⟨a, rfl, h1, h2, h3, h4⟩ := h
    cases d with
    | lst ds =>
      obtain ⟨vs, e1, e2⟩ := h3
      have le : Same HF (upd HF a (.lst vs)) := upd_le h1
      refine ⟨upd HF a (.lst vs), ⟨⟨s.le.trans le, ⟨fun b o e => ?_, s.rl.len, fun i d e => ?_, fun i p d e => ?_, s.rl.dis⟩, s.fr, fun b o e => ?_, s.own, s.dom, s.par, s.par'⟩, s.lv⟩, .lst (.inl (.inl upd_same)) (e2.mono le), le, fun b _ n hb => ?_⟩
      · by_cases hb : b = a
        · subst hb; rw [upd_same] at e; cases e; exact e1
        · rw [upd_ne hb] at e; exact s.rl.sub b o e
      · obtain ⟨w, q1, q2⟩ := s.rl.sh i d e
        exact ⟨w, q1, q2.mono le⟩
      · obtain ⟨b, q1, q2, q3⟩ := s.rl.ow i p d e
        have hb : b ≠ a := fun z => h2 (z ▸ ⟨i, p, d, e, q1⟩)
        exact ⟨b, q1, by rw [upd_ne hb]; exact q2, q3.mono le rfl⟩
      · by_cases hb : b = a
        · subst hb
          rcases h4 with z | z
          · exact .inr (.inl z)
          · exact .inr (.inr z)
        · rw [upd_ne hb] at e; exact s.fsh b o e
      · rw [upd_ne (fun z => n _ rfl (by rw [z]))]; exact hb
    | _ => exact h3.elim
  | «at» i =>
    obtain ⟨h1, sl, h2, h3⟩ := h
    unfold Pl.frz at g
    simp only [h2] at g
    cases sl with
    | un => cases g
    | sh d' =>
      cases g
      obtain ⟨w, e, q⟩ := s.rl.sh i _ h2
      rw [h1] at e; cases e
      exact ⟨HF, s, q, fun _ _ q => q, fun _ _ _ q => q⟩
    | ow p d' =>
      cases p with
      | true => cases g
      | false =>
        cases g
        obtain ⟨a, e, n, q⟩ := s.rl.ow i false _ h2
        rw [h1] at e; cases e
        cases d with
        | lst ds =>
          obtain ⟨vs, e1, e2⟩ := q
          have le : Same HF (upd HF a (.lst vs)) := upd_le n
          have hi : i < ρ.length := (List.getElem?_eq_some_iff.mp h2).1
          have oa : Owned ρ σ a := ⟨i, false, _, h2, h1⟩
          have own' : ∀ j p d, (ρ.set i (.sh (.lst ds)))[j]? = some (.ow p d) → j ≠ i ∧ ρ[j]? = some (.ow p d) := fun j p d e => by
            by_cases hj : j = i
            · subst hj; rw [List.getElem?_set_self hi] at e; cases e
            · rw [List.getElem?_set_ne (Ne.symm hj)] at e; exact ⟨hj, e⟩
          refine ⟨upd HF a (.lst vs), ⟨⟨s.le.trans le, ⟨fun b o e => ?_, by rw [List.length_set]; exact s.rl.len, fun j d e => ?_, fun j p d e => ?_, fun j k p q d e b x y => ?_⟩, s.fr, fun b o e => ?_, fun b q => ?_, s.dom, fun j d e => ?_, fun j d e => s.par' j d (own' j true d e).2⟩, ?_⟩, .lst (.inl (.inl upd_same)) (e2.mono le), le, fun b no _ hb => ?_⟩
          · by_cases hb : b = a
            · subst hb; rw [upd_same] at e; cases e; exact e1
            · rw [upd_ne hb] at e; exact s.rl.sub b o e
          · by_cases hj : j = i
            · subst hj
              rw [List.getElem?_set_self hi] at e; cases e
              exact ⟨_, h1, .lst (.inl (.inl upd_same)) (e2.mono le)⟩
            · rw [List.getElem?_set_ne (Ne.symm hj)] at e
              obtain ⟨w, q1, q2⟩ := s.rl.sh j d e
              exact ⟨w, q1, q2.mono le⟩
          · obtain ⟨hj, e'⟩ := own' j p d e
            obtain ⟨b, q1, q2, q3⟩ := s.rl.ow j p d e'
            have hb : b ≠ a := fun z => hj (s.rl.dis j i p false d _ a ⟨e', z ▸ q1⟩ ⟨h2, h1⟩)
            exact ⟨b, q1, by rw [upd_ne hb]; exact q2, q3.mono le rfl⟩
          · exact s.rl.dis j k p q d e b ⟨(own' _ _ _ x.1).2, x.2⟩ ⟨(own' _ _ _ y.1).2, y.2⟩
          · by_cases hb : b = a
            · subst hb
              rcases s.own b oa with z | z
              · exact .inr (.inr z)
              · exact .inr (.inl z)
            · rw [upd_ne hb] at e; exact s.fsh b o e
          · obtain ⟨j, p, d, x, y⟩ := q
            exact s.own b ⟨j, p, d, (own' _ _ _ x).2, y⟩
          · obtain ⟨⟨d', e'⟩, z⟩ := s.par j d e
            refine ⟨⟨d', ?_⟩, z⟩
            have hj : j ≠ i := fun z => by subst z; rw [h2] at e'; cases e'
            rw [List.getElem?_set_ne (Ne.symm hj)]; exact e'
          · refine s.lv.trans ⟨by rw [List.length_set], fun j d e => ?_, fun j p d e => ?_⟩
            · have hj : j ≠ i := fun z => by subst z; rw [h2] at e; cases e
              rw [List.getElem?_set_ne (Ne.symm hj)]; exact e
            · by_cases hj : j = i
              · subst hj; rw [h2] at e; cases e
                exact ⟨_, .inl (List.getElem?_set_self hi)⟩
              · exact ⟨d, .inr (by rw [List.getElem?_set_ne (Ne.symm hj)]; exact e)⟩
          · rw [upd_ne (fun z => no (by rw [z]; exact oa))]; exact hb
        | _ => exact q.elim
end
end Mi

/-! Mi: the small language and what its pieces give -/
namespace Mi
open PySem PySem.Spec L2

inductive R (α : Type) where
  | ok (a : α) (ρ : Rho)
  | ex (c : Nat) (ρ : Rho)
  | bad
def R.bind {α β : Type} : R α → (α → Rho → R β) → R β
  | .ok a ρ, f => f a ρ
  | .ex c ρ, _ => .ex c ρ
  | .bad, _ => .bad
inductive CR where
  | ok (own : Bool) (d : D) (outs : List D)
  | ex (c : Nat) (outs : List D)
  | bad
structure G where
  C : Nat → List D → CR
  md : Nat → List Bool
  n : Nat

inductive BOp where | add | sub | mul | fdiv | mod | pow | xor | shr
  deriving DecidableEq
inductive COp where | eq | ne | lt | le | gt | ge | is | nis | mem | nin
  deriving DecidableEq
inductive Blt where | len | abs | int | tuple | list | min1
  deriving DecidableEq
inductive Mth where | join
  deriving DecidableEq
mutual
inductive T where
  | nm (i : Nat)
  | tu (ts : Ts)
inductive Ts where
  | nil
  | cons (t : T) (ts : Ts)
end
mutual
inductive E where
  | var (i : Nat)
  | con (d : D)
  | bin (o : BOp) (a b : E)
  | neg (a : E)
  | cmp (o : COp) (a b : E)
  | chain (o o' : COp) (a b c : E)
  | and (a b : E)
  | or (a b : E)
  | not (a : E)
  | ite (c a b : E)
  | tup (es : Es)
  | lst (es : Es)
  | idx (a b : E)
  | slL (a lo : E)
  | slH (a hi : E)
  | slB (a lo hi : E)
  | rev (a : E)
  | call (f : Nat) (es : Es)
  | blt (b : Blt) (es : Es)
  | mth (m : Mth) (a b : E)
  | pop (i : Nat)
  | isi (a : E) (t : String)
  | comp (own : List Nat) (t : T) (it : I) (c : Es) (e : E)
inductive Es where
  | nil
  | cons (e : E) (es : Es)
inductive I where
  | of (e : E)
  | rng1 (a : E)
  | rng2 (a b : E)
  | enum (e : E)
  | zip (a b : E)
end
mutual
inductive S where
  | asg (t : T) (e : E)
  | par (i j : Nat) (a b : E)
  | aug (i : Nat) (e : E)
  | setix (i : Nat) (k v : E)
  | app (i : Nat) (e : E)
  | ext (i : Nat) (e : E)
  | expr (e : E)
  | ret (e : E)
  | retN
  | ifs (c : E) (a b : Ss)
  | whl (c : E) (b : Ss)
  | fors (t : T) (it : I) (b : Ss)
  | brk
  | cnt
  | pas
inductive Ss where
  | nil
  | cons (s : S) (ss : Ss)
end

def Es.len : Es → Nat
  | .nil => 0
  | .cons _ es => es.len + 1

/-! ### trees -/
mutual
def D.depth : D → Nat
  | .lst xs => depths xs + 1
  | .tup xs => depths xs + 1
  | .dct _ => 0
  | .non => 0
  | .bl _ => 0
  | .int _ => 0
  | .str _ => 0
def depths : List D → Nat
  | [] => 0
  | x :: xs => max (D.depth x) (depths xs)
end
mutual
/-- no dict within -/
def D.flat : D → Bool
  | .lst xs => flats xs
  | .tup xs => flats xs
  | .dct _ => false
  | .non => true
  | .bl _ => true
  | .int _ => true
  | .str _ => true
def flats : List D → Bool
  | [] => true
  | x :: xs => D.flat x && flats xs
end
mutual
def eqD : D → D → Bool
  | .non, .non => true
  | .bl a, .bl b => a == b
  | .bl a, .int j => (if a then 1 else 0) == j
  | .int i, .bl b => i == (if b then 1 else 0)
  | .int i, .int j => i == j
  | .str x, .str y => x == y
  | .lst xs, .lst ys => eqDs xs ys
  | .tup xs, .tup ys => eqDs xs ys
  | .non, .bl _ | .non, .int _ | .non, .str _ | .non, .lst _ | .non, .tup _ | .non, .dct _ => false
  | .bl _, .non | .bl _, .str _ | .bl _, .lst _ | .bl _, .tup _ | .bl _, .dct _ => false
  | .int _, .non | .int _, .str _ | .int _, .lst _ | .int _, .tup _ | .int _, .dct _ => false
  | .str _, .non | .str _, .bl _ | .str _, .int _ | .str _, .lst _ | .str _, .tup _ | .str _, .dct _ => false
  | .lst _, .non | .lst _, .bl _ | .lst _, .int _ | .lst _, .str _ | .lst _, .tup _ | .lst _, .dct _ => false
  | .tup _, .non | .tup _, .bl _ | .tup _, .int _ | .tup _, .str _ | .tup _, .lst _ | .tup _, .dct _ => false
  | .dct _, _ => false
def eqDs : List D → List D → Bool
  | [], [] => true
  | x :: xs, y :: ys => eqD x y && eqDs xs ys
  | [], _ :: _ => false
  | _ :: _, [] => false
end

def big : Nat := 16777216
def mulOk (i j : Int) : Bool := (decide (-18446744073709551616 < i) && decide (i < 18446744073709551616)) || (decide (-18446744073709551616 < j) && decide (j < 18446744073709551616))
def repN {α : Type} (k : Nat) (xs : List α) : List α := (List.replicate k xs).flatten

/-- what two values give: a new list of its own? -/
def binD : BOp → D → D → Option (Bool × D)
  | .add, .int i, .int j => some (false, .int (i + j))
  | .add, .str s, .str t => if s.length + t.length ≤ big then some (false, .str (s ++ t)) else none
  | .add, .tup s, .tup t => if s.length + t.length ≤ big then some (false, .tup (s ++ t)) else none
  | .add, .lst s, .lst t => if s.length + t.length ≤ big then some (true, .lst (s ++ t)) else none
  | .sub, .int i, .int j => some (false, .int (i - j))
  | .mul, .int i, .int j => if mulOk i j then some (false, .int (i * j)) else none
  | .mul, .str s, .int k => if 0 < k ∧ k ≤ 1000 ∧ s.length * k.toNat ≤ big then some (false, .str (repN k.toNat s)) else none
  | .fdiv, .int i, .int j => if 0 < j ∧ j < 1073741824 then some (false, .int (i / j)) else none
  | .mod, .int i, .int j => if 0 < j then some (false, .int (i % j)) else none
  | .pow, .int i, .int j => if 0 ≤ j ∧ j ≤ 1000000 ∧ i.natAbs < 2 ^ 64 then some (false, .int (i ^ j.toNat)) else none
  | .xor, .int i, .int j => some (false, .int (Builtin.bitXor i j))
  | .shr, .int i, .int j => if 0 ≤ j then some (false, .int (i / 2 ^ j.toNat)) else none
  | _, _, _ => none

def D.isNon : D → Bool
  | .non => true
  | _ => false
def cmpD : COp → D → D → Option Bool
  | .eq, x, y => if x.flat && y.flat && decide (min x.depth y.depth ≤ 100) then some (eqD x y) else none
  | .ne, x, y => if x.flat && y.flat && decide (min x.depth y.depth ≤ 100) then some (!eqD x y) else none
  | .lt, .int i, .int j => some (decide (i < j))
  | .le, .int i, .int j => some (decide (i ≤ j))
  | .gt, .int i, .int j => some (decide (j < i))
  | .ge, .int i, .int j => some (decide (j ≤ i))
  | .lt, .str i, .str j => some (decide (i < j))
  | .le, .str i, .str j => some (!decide (j < i))
  | .gt, .str i, .str j => some (decide (j < i))
  | .ge, .str i, .str j => some (!decide (i < j))
  | .is, x, .non => some x.isNon
  | .nis, x, .non => some (!x.isNon)
  | .is, .bl a, .bl b => some (decide (a = b))
  | .nis, .bl a, .bl b => some (!decide (a = b))
  | .mem, .str s, .str t => some (!(Builtin.Str.occurrences ⟨t.toArray⟩ ⟨s.toArray⟩ 0 t.length 1).isEmpty)
  | .nin, .str s, .str t => some (!(!(Builtin.Str.occurrences ⟨t.toArray⟩ ⟨s.toArray⟩ 0 t.length 1).isEmpty))
  | _, _, _ => none

def truD : D → Option Bool
  | .non => some false
  | .bl b => some b
  | .int i => some (i != 0)
  | .str s => some (!s.isEmpty)
  | .tup xs => some (!xs.isEmpty)
  | .lst xs => some (!xs.isEmpty)
  | .dct _ => none

def idxD : D → D → Option D
  | .lst xs, .int i => atI xs i
  | .tup xs, .int i => atI xs i
  | .str s, .int i => (atI s i).map fun c => .str [c]
  | _, _ => none

def cut {α : Type} (xs : List α) (lo hi : Option Int) : List α := (xs.drop (HT.sIx xs.length 0 lo)).take (HT.sIx xs.length xs.length hi - HT.sIx xs.length 0 lo)
def slcD : D → Option Int → Option Int → Option (Bool × D)
  | .lst xs, lo, hi => some (true, .lst (cut xs lo hi))
  | .tup xs, lo, hi => some (false, .tup (cut xs lo hi))
  | .str s, lo, hi => some (false, .str (cut s lo hi))
  | _, _, _ => none
def revD : D → Option (Bool × D)
  | .lst xs => some (true, .lst xs.reverse)
  | .str s => some (false, .str s.reverse)
  | _ => none

def strs? : List D → Option (List (List Nat))
  | [] => some []
  | .str s :: r => (strs? r).map (s :: ·)
  | _ :: _ => none
/-- the least of some texts: the first of the least -/
def leastS (s : List Nat) : List (List Nat) → List Nat
  | [] => s
  | t :: r => leastS (if t < s then t else s) r

def bltD : Blt → List D → Option (Bool × D)
  | .len, [.lst xs] => some (false, .int xs.length)
  | .len, [.tup xs] => some (false, .int xs.length)
  | .len, [.str s] => some (false, .int s.length)
  | .abs, [.int i] => some (false, .int (if i < 0 then -i else i))
  | .int, [.int i] => some (false, .int i)
  | .int, [.bl b] => some (false, .int (if b then 1 else 0))
  | .tuple, [.lst xs] => some (false, .tup xs)
  | .tuple, [.tup xs] => some (false, .tup xs)
  | .list, [.lst xs] => some (true, .lst xs)
  | .list, [.tup xs] => some (true, .lst xs)
  | .min1, [.lst xs] => match strs? xs with
    | some (s :: ws) => some (false, .str (leastS s ws))
    | _ => none
  | _, _ => none
def mthD : Mth → D → D → Option (Bool × D)
  | .join, .str s, .lst xs => match strs? xs with
    | some ws => if (ws.map (·.length)).sum + ws.length * s.length ≤ big then some (false, .str (TL.joinL s ws)) else none
    | none => none
  | .join, .str s, .tup xs => match strs? xs with
    | some ws => if (ws.map (·.length)).sum + ws.length * s.length ≤ big then some (false, .str (TL.joinL s ws)) else none
    | none => none
  | _, _, _ => none
def tyD : D → Option String
  | .non => some "NoneType"
  | .bl _ => some "bool"
  | .int _ => some "int"
  | .str _ => some "str"
  | .tup _ => some "tuple"
  | .lst _ => some "list"
  | .dct _ => none
def isiD (t : String) (d : D) : Option Bool := match tyD d with
  | some s => kitB s t
  | none => none

/-! ### steps -/
def res (ρ : Rho) : Option (Bool × D) → R Pl
  | some (true, d) => .ok (.ow d) ρ
  | some (false, d) => .ok (.sh d) ρ
  | none => .bad
def get1 (ρ : Rho) (f : D → Option (Bool × D)) (p : Pl) : R Pl := res ρ ((p.get ρ).bind f)
def get2 (ρ : Rho) (f : D → D → Option (Bool × D)) (p q : Pl) : R Pl := res ρ ((p.get ρ).bind fun x => (q.get ρ).bind fun y => f x y)
def bo (b : Option Bool) : Option (Bool × D) := b.map fun x => (false, .bl x)
def shD (d : Option D) : Option (Bool × D) := d.map fun x => (false, x)
def tru (ρ : Rho) (p : Pl) : R Bool := match (p.get ρ).bind truD with
  | some b => .ok b ρ
  | none => .bad
def getL (ρ : Rho) : List Pl → Option (List D)
  | [] => some []
  | p :: r => (p.get ρ).bind fun d => (getL ρ r).map (d :: ·)
def frzL : List Pl → Rho → Option (List D × Rho)
  | [], ρ => some ([], ρ)
  | p :: r, ρ => match p.frz ρ with
    | some (d, ρ1) => match frzL r ρ1 with
      | some (ds, ρ2) => some (d :: ds, ρ2)
      | none => none
    | none => none
/-- arguments: those that the callee only reads are made fast -/
def argF : List Bool → List Pl → Rho → Option Rho
  | [], [], ρ => some ρ
  | false :: ms, p :: r, ρ => match p.frz ρ with
    | some (_, ρ1) => argF ms r ρ1
    | none => none
  | true :: ms, .at _ :: r, ρ => argF ms r ρ
  | _, _, _ => none
def ios : List Bool → List Pl → List Nat
  | true :: ms, .at i :: r => i :: ios ms r
  | _ :: ms, _ :: r => ios ms r
  | _, _ => []
def isOw (ρ : Rho) (i : Nat) : Bool := match ρ[i]? with
  | some (.ow _ _) => true
  | _ => false
def setD (ρ : Rho) (i : Nat) (d : D) : Rho := match ρ[i]? with
  | some (.ow p _) => ρ.set i (.ow p d)
  | _ => ρ
def outs : List Bool → List Pl → List D → Rho → Rho
  | true :: ms, .at i :: r, d :: ds, ρ => outs ms r ds (setD ρ i d)
  | _ :: ms, _ :: r, _ :: ds, ρ => outs ms r ds ρ
  | _, _, _, ρ => ρ
def callR (g : G) (f : Nat) (ps : List Pl) (ρ : Rho) : R Pl :=
  match argF (g.md f) ps ρ with
  | some ρ1 => if (ios (g.md f) ps).Nodup ∧ (ios (g.md f) ps).all (isOw ρ1) = true then
      match getL ρ1 ps with
      | some ds => match g.C f ds with
        | .ok own d os => if own then .ok (.ow d) (outs (g.md f) ps os ρ1) else .ok (.sh d) (outs (g.md f) ps os ρ1)
        | .ex c os => .ex c (outs (g.md f) ps os ρ1)
        | .bad => .bad
      | none => .bad
    else .bad
  | none => .bad

mutual
def asgT : T → D → Rho → Option Rho
  | .nm i, d, ρ => match ρ[i]? with
    | some (.ow true _) => none
    | some _ => some (ρ.set i (.sh d))
    | none => none
  | .tu ts, .tup ds, ρ => asgTs ts ds ρ
  | .tu ts, .lst ds, ρ => asgTs ts ds ρ
  | .tu _, _, _ => none
def asgTs : Ts → List D → Rho → Option Rho
  | .nil, [], ρ => some ρ
  | .cons t ts, d :: ds, ρ => match asgT t d ρ with
    | some ρ1 => asgTs ts ds ρ1
    | none => none
  | _, _, _ => none
end
mutual
def T.within : T → List Nat → Bool
  | .nm i, own => own.contains i
  | .tu ts, own => ts.within own
def Ts.within : Ts → List Nat → Bool
  | .nil, _ => true
  | .cons t ts, own => t.within own && ts.within own
end
def putSl (i : Nat) (p : Pl) (ρ : Rho) : Option Rho := match p with
  | .ow d => some (ρ.set i (.ow false d))
  | p => match p.frz ρ with
    | some (d, ρ1) => some (ρ1.set i (.sh d))
    | none => none
def setSl (i : Nat) (p : Pl) (ρ : Rho) : Option Rho := match ρ[i]? with
  | some (.ow true _) => none
  | none => none
  | some _ => putSl i p ρ

def okW (own : List Nat) (ρ : Rho) : Bool := own.all fun i => match ρ[i]? with
  | some (.ow _ _) => false
  | some _ => true
  | none => false
def wipeR (ρ : Rho) : List Nat → Rho
  | [] => ρ
  | v :: vs => (wipeR ρ vs).set v .un
def back (ρ0 : Rho) : List Nat → Rho → Rho
  | [], ρ => ρ
  | v :: vs, ρ => (back ρ0 vs ρ).set v (ρ0.getD v .un)

def compL (own : List Nat) (asg : D → Rho → Option Rho) (c : Rho → R Bool) (e : Rho → R Pl) : List D → List D → Rho → R (List D)
  | [], acc, ρ => .ok acc ρ
  | x :: xs, acc, ρ => match asg x ρ with
    | none => .bad
    | some ρ1 => (c ρ1).bind fun b ρ2 => match b with
      | false => if okW own ρ2 then compL own asg c e xs acc (wipeR ρ2 own) else .bad
      | true => (e ρ2).bind fun p ρ3 => match p.frz ρ3 with
        | some (d, ρ4) => if okW own ρ4 then compL own asg c e xs (acc ++ [d]) (wipeR ρ4 own) else .bad
        | none => .bad

def itemsD : D → Option (List D)
  | .lst xs => some xs
  | .tup xs => some xs
  | .str s => some (s.map fun c => .str [c])
  | _ => none
def seqD : D → Option (List D)
  | .lst xs => some xs
  | _ => none
def rngD (i : Int) (n : Nat) : List D := (List.range n).map fun k => .int (i + (k : Nat))
def enumD (i : Nat) : List D → List D
  | [] => []
  | x :: r => .tup [.int i, x] :: enumD (i + 1) r
def zipD : List D → List D → List D
  | x :: r, y :: s => .tup [x, y] :: zipD r s
  | _, _ => []
def smallI (i : Int) : Bool := decide (-4611686018427387904 ≤ i) && decide (i < 4611686018427387904)
def rng1D : Option D → Option (List D)
  | some (.int j) => if smallI j then some (rngD 0 j.toNat) else none
  | _ => none
def rng2D : Option D → Option D → Option (List D)
  | some (.int i), some (.int j) => if smallI i && smallI j then some (rngD i (j - i).toNat) else none
  | _, _ => none
def outR {α : Type} (ρ : Rho) : Option α → R α
  | some a => .ok a ρ
  | none => .bad
def frzI (f : D → Option (List D)) (p : Pl) (ρ : Rho) : R (List D) := match p.frz ρ with
  | some (d, ρ1) => outR ρ1 (f d)
  | none => .bad

def asInt (ρ : Rho) (p : Pl) : Option Int := match p.get ρ with
  | some (.int i) => some i
  | _ => none
def popD (i : Nat) (ρ : Rho) : R Pl := match ρ[i]? with
  | some (.ow p (.lst ds)) => match ds.getLast? with
    | some d => .ok (.sh d) (ρ.set i (.ow p (.lst ds.dropLast)))
    | none => .bad
  | _ => .bad

mutual
def evE (g : G) : E → Rho → R Pl
  | .var i, ρ => match ρ[i]? with
    | some (.sh d) => .ok (.sh d) ρ
    | some (.ow _ _) => .ok (.at i) ρ
    | _ => .bad
  | .con d, ρ => .ok (.sh d) ρ
  | .bin o a b, ρ => (evE g a ρ).bind fun p ρ1 => (evE g b ρ1).bind fun q ρ2 => get2 ρ2 (binD o) p q
  | .neg a, ρ => (evE g a ρ).bind fun p ρ1 => get1 ρ1 (fun | .int i => some (false, .int (-i)) | _ => none) p
  | .cmp o a b, ρ => (evE g a ρ).bind fun p ρ1 => (evE g b ρ1).bind fun q ρ2 => get2 ρ2 (fun x y => bo (cmpD o x y)) p q
  | .chain o o' a b c, ρ => (evE g a ρ).bind fun p ρ1 => (evE g b ρ1).bind fun q ρ2 => match (p.get ρ2).bind fun x => (q.get ρ2).bind fun y => cmpD o x y with
    | some true => (evE g c ρ2).bind fun r ρ3 => get2 ρ3 (fun x y => bo (cmpD o' x y)) q r
    | some false => .ok (.sh (.bl false)) ρ2
    | none => .bad
  | .and a b, ρ => (evE g a ρ).bind fun p ρ1 => (tru ρ1 p).bind fun k ρ2 => match k with
    | true => evE g b ρ2
    | false => .ok p ρ2
  | .or a b, ρ => (evE g a ρ).bind fun p ρ1 => (tru ρ1 p).bind fun k ρ2 => match k with
    | true => .ok p ρ2
    | false => evE g b ρ2
  | .not a, ρ => (evE g a ρ).bind fun p ρ1 => (tru ρ1 p).bind fun k ρ2 => .ok (.sh (.bl (!k))) ρ2
  | .ite c a b, ρ => (evE g c ρ).bind fun p ρ1 => (tru ρ1 p).bind fun k ρ2 => match k with
    | true => evE g a ρ2
    | false => evE g b ρ2
  | .tup es, ρ => (evEs g es ρ).bind fun ps ρ1 => match frzL ps ρ1 with
    | some (ds, ρ2) => .ok (.sh (.tup ds)) ρ2
    | none => .bad
  | .lst es, ρ => (evEs g es ρ).bind fun ps ρ1 => match frzL ps ρ1 with
    | some (ds, ρ2) => .ok (.ow (.lst ds)) ρ2
    | none => .bad
  | .idx a b, ρ => (evE g a ρ).bind fun p ρ1 => (evE g b ρ1).bind fun q ρ2 => get2 ρ2 (fun x y => shD (idxD x y)) p q
  | .slL a b, ρ => (evE g a ρ).bind fun p ρ1 => (evE g b ρ1).bind fun q ρ2 => match asInt ρ2 q with
    | some i => get1 ρ2 (fun x => slcD x (some i) none) p
    | none => .bad
  | .slH a b, ρ => (evE g a ρ).bind fun p ρ1 => (evE g b ρ1).bind fun q ρ2 => match asInt ρ2 q with
    | some i => get1 ρ2 (fun x => slcD x none (some i)) p
    | none => .bad
  | .slB a b c, ρ => (evE g a ρ).bind fun p ρ1 => (evE g b ρ1).bind fun q ρ2 => match asInt ρ2 q with
    | some i => (evE g c ρ2).bind fun r ρ3 => match asInt ρ3 r with
      | some j => get1 ρ3 (fun x => slcD x (some i) (some j)) p
      | none => .bad
    | none => .bad
  | .rev a, ρ => (evE g a ρ).bind fun p ρ1 => get1 ρ1 revD p
  | .call f es, ρ => (evEs g es ρ).bind fun ps ρ1 => callR g f ps ρ1
  | .blt b es, ρ => (evEs g es ρ).bind fun ps ρ1 => res ρ1 ((getL ρ1 ps).bind (bltD b))
  | .mth m a b, ρ => (evE g a ρ).bind fun p ρ1 => match p.get ρ1 with
    | some (.str s) => (evE g b ρ1).bind fun q ρ2 => get1 ρ2 (fun y => mthD m (.str s) y) q
    | _ => .bad
  | .pop i, ρ => popD i ρ
  | .isi a t, ρ => (evE g a ρ).bind fun p ρ1 => get1 ρ1 (fun x => bo (isiD t x)) p
  | .comp own t it c e, ρ => (evI g it ρ).bind fun xs ρ1 => if okW own ρ1 && t.within own && decide (xs.length ≤ big) then
      match compL own (asgT t) (fun r => evC g c r) (fun r => evE g e r) xs [] (wipeR ρ1 own) with
      | .ok ds ρ2 => .ok (.ow (.lst ds)) (back ρ1 own ρ2)
      | _ => .bad
    else .bad
def evEs (g : G) : Es → Rho → R (List Pl)
  | .nil, ρ => .ok [] ρ
  | .cons e es, ρ => (evE g e ρ).bind fun p ρ1 => (evEs g es ρ1).bind fun ps ρ2 => .ok (p :: ps) ρ2
/-- a clause's tests -/
def evC (g : G) : Es → Rho → R Bool
  | .nil, ρ => .ok true ρ
  | .cons e es, ρ => match es with
    | .nil => (evE g e ρ).bind fun p ρ1 => tru ρ1 p
    | .cons _ _ => .bad
def evI (g : G) : I → Rho → R (List D)
  | .of e, ρ => (evE g e ρ).bind fun p ρ1 => frzI itemsD p ρ1
  | .rng1 a, ρ => (evE g a ρ).bind fun p ρ1 => outR ρ1 (rng1D (p.get ρ1))
  | .rng2 a b, ρ => (evE g a ρ).bind fun p ρ1 => (evE g b ρ1).bind fun q ρ2 => outR ρ2 (rng2D (p.get ρ2) (q.get ρ2))
  | .enum e, ρ => (evE g e ρ).bind fun p ρ1 => frzI (fun d => (seqD d).map (enumD 0)) p ρ1
  | .zip a b, ρ => (evE g a ρ).bind fun p ρ1 => (evE g b ρ1).bind fun q ρ2 => match p.frz ρ2 with
    | some (d, ρ3) => frzI (fun e => (seqD d).bind fun xs => (seqD e).map fun ys => zipD xs ys) q ρ3
    | none => .bad
end
def evT (g : G) (e : E) (ρ : Rho) : R Bool := (evE g e ρ).bind fun p ρ1 => tru ρ1 p

inductive Fl where
  | nx
  | br
  | ct
  | rt (p : Pl)

def loopF (step : D → Rho → R Fl) : List D → Rho → R Fl
  | [], ρ => .ok .nx ρ
  | x :: xs, ρ => (step x ρ).bind fun f ρ1 => match f with
    | .nx => loopF step xs ρ1
    | .ct => loopF step xs ρ1
    | .br => .ok .nx ρ1
    | .rt p => .ok (.rt p) ρ1
def loopW (c : Rho → R Bool) (b : Rho → R Fl) : Nat → Rho → R Fl
  | 0, _ => .bad
  | n + 1, ρ => (c ρ).bind fun k ρ1 => match k with
    | false => .ok .nx ρ1
    | true => (b ρ1).bind fun f ρ2 => match f with
      | .nx => loopW c b n ρ2
      | .ct => loopW c b n ρ2
      | .br => .ok .nx ρ2
      | .rt p => .ok (.rt p) ρ2

mutual
def evS (g : G) : S → Rho → R Fl
  | .asg t e, ρ => (evE g e ρ).bind fun p ρ1 => match t with
    | .nm i => outR' (setSl i p ρ1)
    | .tu ts => match p.get ρ1 with
      | some d => outR' (asgT (.tu ts) d ρ1)
      | none => .bad
  | .par i j a b, ρ => (evE g a ρ).bind fun p ρ1 => (evE g b ρ1).bind fun q ρ2 => match frzL [p, q] ρ2 with
    | some ([x, y], ρ3) => outR' ((asgT (.nm i) x ρ3).bind fun ρ4 => asgT (.nm j) y ρ4)
    | _ => .bad
  | .aug i e, ρ => match ρ[i]? with
    | some (.sh (.int x)) => (evE g e ρ).bind fun p ρ1 => match p.get ρ1 with
      | some (.int y) => .ok .nx (ρ1.set i (.sh (.int (x + y))))
      | _ => .bad
    | _ => .bad
  | .setix i k v, ρ => (evE g v ρ).bind fun p ρ1 => match p.frz ρ1 with
    | some (d, ρ2) => if isOw ρ2 i then (evE g k ρ2).bind fun q ρ3 => match asInt ρ3 q with
      | some j => match ρ3[i]? with
        | some (.ow b (.lst ds)) => match ixN ds.length j with
          | some m => .ok .nx (ρ3.set i (.ow b (.lst (ds.set m d))))
          | none => .bad
        | _ => .bad
      | none => .bad else .bad
    | none => .bad
  | .app i e, ρ => if isOw ρ i then (evE g e ρ).bind fun p ρ1 => match p.frz ρ1 with
    | some (d, ρ2) => match ρ2[i]? with
      | some (.ow b (.lst ds)) => if ds.length < big then .ok .nx (ρ2.set i (.ow b (.lst (ds ++ [d])))) else .bad
      | _ => .bad
    | none => .bad else .bad
  | .ext i e, ρ => (evE g e ρ).bind fun p ρ1 => match p.frz ρ1 with
    | some (.lst es, ρ2) => match ρ2[i]? with
      | some (.ow b (.lst ds)) => if ds.length + es.length ≤ big then .ok .nx (ρ2.set i (.ow b (.lst (ds ++ es)))) else .bad
      | _ => .bad
    | _ => .bad
  | .expr e, ρ => (evE g e ρ).bind fun _ ρ1 => .ok .nx ρ1
  | .ret e, ρ => (evE g e ρ).bind fun p ρ1 => .ok (.rt p) ρ1
  | .retN, ρ => .ok (.rt (.sh .non)) ρ
  | .ifs c a b, ρ => (evT g c ρ).bind fun k ρ1 => match k with
    | true => evSs g a ρ1
    | false => evSs g b ρ1
  | .whl c b, ρ => loopW (evT g c) (fun r => evSs g b r) g.n ρ
  | .fors t it b, ρ => (evI g it ρ).bind fun xs ρ1 => loopF (fun x r => match asgT t x r with
    | some r1 => evSs g b r1
    | none => .bad) xs ρ1
  | .brk, ρ => .ok .br ρ
  | .cnt, ρ => .ok .ct ρ
  | .pas, ρ => .ok .nx ρ
where
  outR' : Option Rho → R Fl
    | some ρ => .ok .nx ρ
    | none => .bad
def evSs (g : G) : Ss → Rho → R Fl
  | .nil, ρ => .ok .nx ρ
  | .cons s ss, ρ => (evS g s ρ).bind fun f ρ1 => match f with
    | .nx => evSs g ss ρ1
    | f => .ok f ρ1
end

/-! ### defs -/
structure Df where
  md : List Bool
  N : Nat
  body : Ss
def argR : List Bool → List D → List Sl
  | true :: ms, d :: ds => .ow true d :: argR ms ds
  | false :: ms, d :: ds => .sh d :: argR ms ds
  | _, _ => []
def start (f : Df) (ds : List D) : Rho := argR f.md ds ++ List.replicate (f.N - ds.length) .un
def outsOf (ms : List Bool) (ρ : Rho) : Nat → List D
  | i => match ms with
    | [] => []
    | true :: r => (match ρ[i]? with | some (.ow _ d) => d | _ => .non) :: outsOf r ρ (i + 1)
    | false :: r => .non :: outsOf r ρ (i + 1)
def retR (ms : List Bool) (ρ : Rho) : Pl → CR
  | .sh d => .ok false d (outsOf ms ρ 0)
  | .ow d => .ok true d (outsOf ms ρ 0)
  | .at i => match ρ[i]? with
    | some (.sh d) => .ok false d (outsOf ms ρ 0)
    | some (.ow false d) => .ok true d (outsOf ms ρ 0)
    | _ => .bad
def runD (g : G) (f : Df) (ds : List D) : CR :=
  if ds.length = f.md.length ∧ f.md.length ≤ f.N then
    match evSs g f.body (start f ds) with
    | .ok .nx ρ => .ok false .non (outsOf f.md ρ 0)
    | .ok (.rt p) ρ => retR f.md ρ p
    | .ok _ _ => .bad
    | .ex c ρ => .ex c (outsOf f.md ρ 0)
    | .bad => .bad
  else .bad
def mdOf (Γ : List Df) (f : Nat) : List Bool := match Γ[f]? with
  | some d => d.md
  | none => []
def call (Γ : List Df) (n : Nat) : Nat → Nat → List D → CR
  | 0, _, _ => .bad
  | k + 1, f, ds => match Γ[f]? with
    | some d => runD ⟨call Γ n k, mdOf Γ, n⟩ d ds
    | none => .bad
end Mi

/-! Mi: which text is which small piece -/
namespace Mi
open PySem PySem.Spec L2

structure SC where
  N : List Str
  sc : Scope
  fns : List Str
  blt : List Str
  con : List (Str × D)
  fnF : Option Scope := none

def visB (c : SC) (x : Str) : Bool := match c.sc.names.lookup x with
  | some .local => true
  | some .cell => true
  | some .free => true
  | _ => false
def fnOk (c : SC) (x : Str) : Bool := match c.fnF with
  | none => true
  | some s => s.names.lookup x == some .cell
def locB (c : SC) (x : Str) : Bool := match c.sc.names.lookup x with
  | some .local => true
  | some .cell => fnOk c x
  | _ => false
def okNm (x : Str) : Bool := !(x == ("__debug__" : Str)) && !(x == ("__classdict__" : Str)) && !(x == ("__name__" : Str))
def glbB (c : SC) (x : Str) : Bool := (c.sc.names.lookup x == some .globalImplicit) && okNm x
def SC.blk (c : SC) (scope : Scope) : SC := { c with sc := relS scope c.sc, fnF := some scope }
def nmIs (c : SC) (i : Nat) (x : Str) : Bool := c.N[i]? == some x && okNm x

def bopB : BOp → Operator → Bool
  | .add, .Add => true | .sub, .Sub => true | .mul, .Mult => true | .fdiv, .FloorDiv => true | .mod, .Mod => true | .pow, .Pow => true | .xor, .BitXor => true | .shr, .RShift => true
  | _, _ => false
def copB : COp → CmpOp → Bool
  | .eq, .Eq => true | .ne, .NotEq => true | .lt, .Lt => true | .le, .LtE => true | .gt, .Gt => true | .ge, .GtE => true | .is, .Is => true | .nis, .IsNot => true | .mem, .In => true | .nin, .NotIn => true
  | _, _ => false
def constB : D → Const → Bool
  | .non, .none => true
  | .bl a, .bool b => a == b
  | .int i, .int j => i == j
  | .str s, .str t => strG s && (s == t.cps.toList)
  | _, _ => false
mutual
def conB : D → D → Bool
  | .non, .non => true
  | .bl a, .bl b => a == b
  | .int i, .int j => i == j
  | .str s, .str t => s == t
  | .tup xs, .tup ys => conBs xs ys
  | _, _ => false
def conBs : List D → List D → Bool
  | [], [] => true
  | x :: xs, y :: ys => conB x y && conBs xs ys
  | _, _ => false
end
def conIs (c : SC) (x : Str) (d : D) : Bool := match c.con.lookup x with
  | some e => conB d e
  | none => false
def notSet : Expr → Bool
  | .Set _ _ _ => false
  | _ => true
def notSlice : Expr → Bool
  | .Slice _ _ _ _ => false
  | _ => true
def notComp : Expr → Bool
  | .ListComp _ _ _ _ => false
  | .SetComp _ _ _ _ => false
  | .DictComp _ _ _ _ _ => false
  | _ => true
def notStar : Expr → Bool
  | .Starred _ _ => false
  | _ => true
def notTup : Expr → Bool
  | .Tuple _ _ _ => false
  | _ => true
def plainB : Expr → Bool
  | .Call _ _ _ _ => false
  | _ => true
def bltB : Blt → Str → Bool
  | .len, x => x == "len"
  | .abs, x => x == "abs"
  | .int, x => x == "int"
  | .tuple, x => x == "tuple"
  | .list, x => x == "list"
  | .min1, x => x == "min"
def ownOf (N : List Str) (own : List Nat) : List (Str × Nat) := own.map fun i => (N.getD i "", i)

mutual
def chkT (c : SC) : T → Expr → Bool
  | .nm i, e => match e with
    | .Name x _ => nmIs c i x && locB c x
    | _ => false
  | .tu ts, e => match e with
    | .Tuple es _ _ => chkTs c ts es
    | _ => false
def chkTs (c : SC) : Ts → List Expr → Bool
  | .nil, es => match es with
    | [] => true
    | _ => false
  | .cons t ts, es => match es with
    | e :: r => chkT c t e && chkTs c ts r
    | _ => false
end

/-- pairs are taken apart at once -/
def tgB : I → Expr → Bool
  | .enum _, .Tuple _ _ _ => true
  | .zip _ _, .Tuple _ _ _ => true
  | .enum _, _ => false
  | .zip _ _, _ => false
  | _, _ => true
def oneB : Es → Bool
  | .nil => true
  | .cons _ .nil => true
  | _ => false
mutual
def chkE : SC → E → Expr → Bool
  | c, .var i, e => match e with
    | .Name x _ => nmIs c i x && visB c x
    | _ => false
  | c, .con d, e => match e with
    | .Constant k _ _ => constB d k
    | .Name x _ => glbB c x && conIs c x d
    | _ => false
  | c, .bin o a b, e => match e with
    | .BinOp x op y _ => bopB o op && chkE c a x && chkE c b y
    | _ => false
  | c, .neg a, e => match e with
    | .UnaryOp .USub x _ => chkE c a x
    | _ => false
  | c, .cmp o a b, e => match e with
    | .Compare x [op] [y] _ => copB o op && notSet y && chkE c a x && chkE c b y
    | _ => false
  | c, .chain o o' a b d, e => match e with
    | .Compare x [op, op'] [y, z] _ => copB o op && copB o' op' && notSet z && chkE c a x && chkE c b y && chkE c d z
    | _ => false
  | c, .and a b, e => match e with
    | .BoolOp .And [x, y] _ => chkE c a x && chkE c b y
    | .BoolOp .And (x :: y :: z :: r) p => chkE c a x && chkE c b (.BoolOp .And (y :: z :: r) p)
    | _ => false
  | c, .or a b, e => match e with
    | .BoolOp .Or [x, y] _ => chkE c a x && chkE c b y
    | .BoolOp .Or (x :: y :: z :: r) p => chkE c a x && chkE c b (.BoolOp .Or (y :: z :: r) p)
    | _ => false
  | c, .not a, e => match e with
    | .UnaryOp .Not x _ => chkE c a x
    | _ => false
  | c, .ite t a b, e => match e with
    | .IfExp x y z _ => chkE c t x && chkE c a y && chkE c b z
    | _ => false
  | c, .tup es, e => match e with
    | .Tuple xs _ _ => decide (xs.length ≤ 1000) && chkEs c es xs
    | _ => false
  | c, .lst es, e => match e with
    | .List xs _ => decide (xs.length ≤ 1000) && chkEs c es xs
    | _ => false
  | c, .idx a b, e => match e with
    | .Subscript x y _ => notSlice y && chkE c a x && chkE c b y
    | _ => false
  | c, .slL a b, e => match e with
    | .Subscript x (.Slice (some y) none none _) _ => chkE c a x && chkE c b y
    | _ => false
  | c, .slH a b, e => match e with
    | .Subscript x (.Slice none (some y) none _) _ => chkE c a x && chkE c b y
    | _ => false
  | c, .slB a b d, e => match e with
    | .Subscript x (.Slice (some y) (some z) none _) _ => chkE c a x && chkE c b y && chkE c d z
    | _ => false
  | c, .rev a, e => match e with
    | .Subscript x (.Slice none none (some (.UnaryOp .USub (.Constant (.int 1) _ _) _)) _) _ => chkE c a x
    | _ => false
  | c, .call f es, e => match e with
    | .Call (.Name x _) xs [] _ => glbB c x && (c.fns[f]? == some x) && chkEs c es xs
    | _ => false
  | c, .blt b es, e => match e with
    | .Call (.Name x _) (y :: ys) [] _ => glbB c x && bltB b x && c.blt.contains x && chkEs c es (y :: ys)
    | _ => false
  | c, .mth m a b, e => match e with
    | .Call (.Attribute x n p) [y] [] q => plainB x && (match m with | .join => n == "join") && (p.endLine == q.line) && notStar y && chkE c a x && chkE c b y
    | _ => false
  | c, .pop i, e => match e with
    | .Call (.Attribute (.Name x _) n p) [] [] q => nmIs c i x && visB c x && n == "pop" && (p.endLine == q.line)
    | _ => false
  | c, .isi a t, e => match e with
    | .Call (.Name x _) [y, .Name z _] [] _ => glbB c x && (x == "isinstance") && c.blt.contains x && glbB c z && c.blt.contains z && (bootBuiltins z == some (.type t)) && notStar y && chkE c a y
    | _ => false
  | c, .comp own t it cs a, e => match e with
    | .ListComp x [⟨tg, iter, ifs, 0⟩] scope _ => blkC c.N c.sc scope (ownOf c.N own) && tgB it tg && notSet iter && oneB cs && chkI c it iter && chkT (c.blk scope) t tg && chkEs (c.blk scope) cs ifs && chkE (c.blk scope) a x
    | _ => false
def chkEs : SC → Es → List Expr → Bool
  | _, .nil, es => match es with
    | [] => true
    | _ => false
  | c, .cons m ms, es => match es with
    | e :: r => notStar e && chkE c m e && chkEs c ms r
    | _ => false
def chkI : SC → I → Expr → Bool
  | c, .of a, e => notSet e && chkE c a e
  | c, .rng1 a, e => match e with
    | .Call (.Name x _) [y] [] _ => glbB c x && (x == "range") && c.blt.contains x && notStar y && chkE c a y
    | _ => false
  | c, .rng2 a b, e => match e with
    | .Call (.Name x _) [y, z] [] _ => glbB c x && (x == "range") && c.blt.contains x && notStar y && notStar z && chkE c a y && chkE c b z
    | _ => false
  | c, .enum a, e => match e with
    | .Call (.Name x _) [y] [] _ => glbB c x && (x == "enumerate") && c.blt.contains x && notStar y && chkE c a y
    | _ => false
  | c, .zip a b, e => match e with
    | .Call (.Name x _) [y, z] [] _ => glbB c x && (x == "zip") && c.blt.contains x && notStar y && notStar z && chkE c a y && chkE c b z
    | _ => false
end

def fnKind (c : SC) : Bool := match c.sc.kind with
  | .function => true
  | _ => false
/-- what a stored comprehension asks: stored within its frame, or not -/
def swapB (c : SC) (v : Expr) (tg : Expr) (line : Nat) : Bool := match v with
  | .ListComp e gs scope p => match tg with
    | .Name y py => fnKind c && (c.sc.names.lookup y == some .local) && (py.line == p.line) && !(scope.names.any fun (n, k) => n == y && (k == .local || k == .cell))
    | _ => false
  | _ => false
def parB (x y : Str) (px py : Pos) (a b : Expr) : Bool :=
  (px.line == py.line) && !(x == y) && notStar a && notStar b && !(foldedForSure 8 a && foldedForSure 8 b) && !(constantsAlone 8 a && constantsAlone 8 b)
mutual
def chkS : SC → S → Stmt → Bool
  | c, .asg t e, st => match st with
    | .Assign [tg] v p => chkT c t tg && chkE c e v && (notTup tg || notTup v) && (notComp v || swapB c v tg p.line)
    | _ => false
  | c, .par i j a b, st => match st with
    | .Assign [.Tuple [.Name x px, .Name y py] _ _] (.Tuple [ea, eb] _ _) _ => fnKind c && nmIs c i x && nmIs c j y && (c.sc.names.lookup x == some .local) && (c.sc.names.lookup y == some .local) && parB x y px py ea eb && !(i == j) && chkE c a ea && chkE c b eb
    | _ => false
  | c, .aug i e, st => match st with
    | .AugAssign (.Name x _) .Add v _ => nmIs c i x && locB c x && chkE c e v
    | _ => false
  | c, .setix i k v, st => match st with
    | .Assign [.Subscript (.Name x _) y _] z _ => nmIs c i x && visB c x && notSlice y && notComp z && chkE c k y && chkE c v z
    | _ => false
  | c, .app i e, st => match st with
    | .Expr (.Call (.Attribute (.Name x _) n p) [y] [] q) _ => nmIs c i x && visB c x && n == "append" && (p.endLine == q.line) && notStar y && chkE c e y
    | _ => false
  | c, .ext i e, st => false
  | c, .expr e, st => match st with
    | .Expr v _ => notComp v && chkE c e v
    | _ => false
  | c, .ret e, st => match st with
    | .Return (some v) _ => chkE c e v
    | _ => false
  | c, .retN, st => match st with
    | .Return none _ => true
    | _ => false
  | c, .ifs t a b, st => match st with
    | .If x p q _ => chkE c t x && chkSs c a p && chkSs c b q
    | _ => false
  | c, .whl t b, st => match st with
    | .While x p [] _ => chkE c t x && chkSs c b p
    | _ => false
  | c, .fors t it b, st => match st with
    | .For tg iter p [] _ => chkT c t tg && notSet iter && tgB it tg && chkI c it iter && chkSs c b p
    | _ => false
  | c, .brk, st => match st with
    | .Break _ => true
    | _ => false
  | c, .cnt, st => match st with
    | .Continue _ => true
    | _ => false
  | c, .pas, st => match st with
    | .Pass _ => true
    | _ => false
def chkSs : SC → Ss → List Stmt → Bool
  | _, .nil, ss => match ss with
    | [] => true
    | _ => false
  | c, .cons s r, ss => match ss with
    | x :: xs => chkS c s x && chkSs c r xs
    | _ => false
end
end Mi

/-! Mi: judgements by what they say; the operations -/
namespace Mi
open PySem PySem.Spec L2

section
variable {X : Cx}
def SemE (X : Cx) (e : Expr) : TE := fun σ H Q => ∀ (pins : List (Addr × Obj)) (s : Shared), Inv X pins σ H s → wpAny (model X.prog X.w) X.A (eval e X.env) (EP X pins σ Q) X.xe s
def SemT (X : Cx) (e : Expr) : TT := fun σ H Q => ∀ (pins : List (Addr × Obj)) (s : Shared), Inv X pins σ H s → wpAny (model X.prog X.w) X.A (isTrue e X.env (eval e X.env)) (TP X pins σ Q) X.xe s
def SemA (X : Cx) (es : List Expr) : TA := fun σ H Q => ∀ (pos : Pos) (pins : List (Addr × Obj)) (s : Shared), Inv X pins σ H s → wpAny (model X.prog X.w) X.A (spliced (backTo pos (starEach es X.env))) (AP X pins σ Q) X.xe s
def SemR2 (X : Cx) (f : Value → Value → Sem Value) : R2 := fun x y H Q => ∀ (pins : List (Addr × Obj)) (s : Shared) (σ : L2.St) (v u : Value), Inv X pins σ H s → RelV x v → RelV y u → wpAny (model X.prog X.w) X.A (f v u) (EP X pins σ Q) X.xe s
def SemC (X : Cx) (f : Value) : List V → Hp → VK → Prop := fun xs H Q => ∀ (pins : List (Addr × Obj)) (s : Shared) (σ : L2.St) (us : List Value), Inv X pins σ H s → Vals xs us → wpAny (model X.prog X.w) X.A (PySem.call f us) (EP X pins σ Q) X.xe s
theorem pe_sem {e : Expr} : PE X e (SemE X e) := ⟨fun pins s _ _ _ I h => h pins s I⟩
theorem pt_sem {e : Expr} : PT X e (SemT X e) := ⟨fun pins s _ _ _ I h => h pins s I⟩
theorem pa_sem {es : List Expr} : PA X es (SemA X es) := ⟨fun pos pins s _ _ _ I h => h pos pins s I⟩
theorem sem_pe {e : Expr} {t : TE} {σ : L2.St} {H : Hp} {Q : VK} (h : PE X e t) (q : t σ H Q) : SemE X e σ H Q := fun pins s I => h.run pins s σ H Q I q
theorem sem_pt {e : Expr} {t : TT} {σ : L2.St} {H : Hp} {Q : Bool → Hp → Prop} (h : PT X e t) (q : t σ H Q) : SemT X e σ H Q := fun pins s I => h.run pins s σ H Q I q
theorem sem_pa {es : List Expr} {t : TA} {σ : L2.St} {H : Hp} {Q : List V → Hp → Prop} (h : PA X es t) (q : t σ H Q) : SemA X es σ H Q := fun pos pins s I => h.run pos pins s σ H Q I q
theorem op_sem {f : Value → Value → Sem Value} : OpR X f (SemR2 X f) := fun pins s σ _ _ _ v u _ I rx ry h => h pins s σ v u I rx ry
theorem sem_op {f : Value → Value → Sem Value} {r : R2} {x y : V} {H : Hp} {Q : VK} (h : OpR X f r) (q : r x y H Q) : SemR2 X f x y H Q := fun pins s σ v u I rx ry => h pins s σ H x y v u Q I rx ry q
theorem cl_sem {f : Value} : CallR X f (SemC X f) := fun pins s σ _ _ us _ I rx h => h pins s σ us I rx
theorem sem_cl {f : Value} {r : List V → Hp → VK → Prop} {xs : List V} {H : Hp} {Q : VK} (h : CallR X f r) (q : r xs H Q) : SemC X f xs H Q := fun pins s σ us I rx => h pins s σ H xs us Q I rx q
end

/-! ### bases -/
structure Bs where
  ρ : Rho
  σ : L2.St
  H : Hp
  HF : Hp
abbrev StB (K : PySem.W.Frag) (b : Bs) (ρ : Rho) (H HF : Hp) : Prop := StE K b.ρ b.σ b.H b.HF ρ H HF
abbrev RpB (K : PySem.W.Frag) (b : Bs) (ρ : Rho) (H HF : Hp) (v : V) (pl : Pl) : Prop := RepP K b.ρ b.σ b.H ρ b.σ H HF v pl

def Post {α : Type} (K : PySem.W.Frag) (XC : Nat → Value) (b : Bs) (W : WX) (r : R α) (P : α → Rho → Hp → Hp → Prop) : Prop :=
  match r with
  | .ok a ρ => ∀ H HF, StB K b ρ H HF → P a ρ H HF
  | .ex c ρ => ∀ H HF, StB K b ρ H HF → W (XC c) none b.σ H
  | .bad => False
def plOf : Bool × D → Pl
  | (true, d) => .ow d
  | (false, d) => .sh d

section
variable {K : PySem.W.Frag} {XC : Nat → Value} {b : Bs} {W : WX} {ρ : Rho} {H HF : Hp} {α β : Type}
theorem post_ok {a : α} {P : α → Rho → Hp → Hp → Prop} (h : Post K XC b W (.ok a ρ) P) (st : StB K b ρ H HF) : P a ρ H HF := h H HF st
theorem post_get2 {f : D → D → Option (Bool × D)} {p q : Pl} {P : Pl → Rho → Hp → Hp → Prop} (h : Post K XC b W (get2 ρ f p q) P) :
    ∃ x y o, p.get ρ = some x ∧ q.get ρ = some y ∧ f x y = some o ∧ Post K XC b W (.ok (plOf o) ρ) P := by
  unfold get2 at h
  cases h1 : p.get ρ with
  | none => rw [h1] at h; exact False.elim h
  | some x =>
    cases h2 : q.get ρ with
    | none => rw [h1, h2] at h; exact False.elim h
    | some y =>
      rw [h1, h2] at h
      simp only [Option.bind_some] at h
      cases h3 : f x y with
      | none => rw [h3] at h; exact False.elim h
      | some o =>
        rw [h3] at h
        refine ⟨x, y, o, rfl, rfl, h3, ?_⟩
        obtain ⟨w, d⟩ := o
        cases w <;> exact h
theorem post_get1 {f : D → Option (Bool × D)} {p : Pl} {P : Pl → Rho → Hp → Hp → Prop} (h : Post K XC b W (get1 ρ f p) P) :
    ∃ x o, p.get ρ = some x ∧ f x = some o ∧ Post K XC b W (.ok (plOf o) ρ) P := by
  unfold get1 at h
  cases h1 : p.get ρ with
  | none => rw [h1] at h; exact False.elim h
  | some x =>
    rw [h1] at h
    simp only [Option.bind_some] at h
    cases h3 : f x with
    | none => rw [h3] at h; exact False.elim h
    | some o =>
      rw [h3] at h
      refine ⟨x, o, rfl, h3, ?_⟩
      obtain ⟨w, d⟩ := o
      cases w <;> exact h
theorem post_tru {p : Pl} {f : Bool → Rho → R β} {P : β → Rho → Hp → Hp → Prop} (h : Post K XC b W ((tru ρ p).bind f) P) :
    ∃ x k, p.get ρ = some x ∧ truD x = some k ∧ Post K XC b W (f k ρ) P := by
  unfold tru at h
  cases h1 : p.get ρ with
  | none => rw [h1] at h; exact False.elim h
  | some x =>
    rw [h1] at h
    simp only [Option.bind_some] at h
    cases h3 : truD x with
    | none => rw [h3] at h; exact False.elim h
    | some k => rw [h3] at h; exact ⟨x, k, rfl, h3, h⟩
theorem post_tru' {p : Pl} {P : Bool → Rho → Hp → Hp → Prop} (h : Post K XC b W (tru ρ p) P) :
    ∃ x k, p.get ρ = some x ∧ truD x = some k ∧ Post K XC b W (.ok k ρ) P := by
  unfold tru at h
  cases h1 : p.get ρ with
  | none => rw [h1] at h; exact False.elim h
  | some x =>
    rw [h1] at h
    simp only [Option.bind_some] at h
    cases h3 : truD x with
    | none => rw [h3] at h; exact False.elim h
    | some k => rw [h3] at h; exact ⟨x, k, rfl, h3, h⟩

/-! ### new objects -/
theorem st_alloc {p : Addr} {o : HO} (s : StB K b ρ H HF) (hp : H p = none) : StB K b ρ (upd H p o) HF := by
  have ne : ∀ a u, H a = some u → a ≠ p := fun a u e => ne_of_none e hp
  refine ⟨⟨s.le, ⟨fun a u e => ?_, s.rl.len, s.rl.sh, fun i q d e => ?_, s.rl.dis⟩, fun a u e n => ?_, s.fsh, s.own, fun a e => ?_, s.par, s.par'⟩, s.lv⟩
  · have q := s.rl.sub a u e
    rw [upd_ne (ne a u q)]; exact q
  · obtain ⟨a, h1, h2, h3⟩ := s.rl.ow i q d e
    obtain ⟨u, hu⟩ := h3.some
    exact ⟨a, h1, h2, h3.mono (fun _ _ z => z) (upd_ne (ne a u hu))⟩
  · have q := s.fr a u e n
    rw [upd_ne (ne a u q)]; exact q
  · by_cases ha : a = p
    · subst ha; rw [upd_same] at e; cases e
    · rw [upd_ne ha] at e; exact s.dom a e
theorem st_alloc_f {p : Addr} {o : HO} (s : StB K b ρ H HF) (hp : H p = none) : StB K b ρ (upd H p o) (upd HF p o) := by
  have ne : ∀ a u, H a = some u → a ≠ p := fun a u e => ne_of_none e hp
  have hf : HF p = none := by
    cases e : HF p with
    | none => rfl
    | some u => rw [s.rl.sub p u e] at hp; cases hp
  have le : Same HF (upd HF p o) := upd_le hf
  refine ⟨⟨s.le.trans le, ⟨fun a u e => ?_, s.rl.len, fun i d e => ?_, fun i q d e => ?_, s.rl.dis⟩, fun a u e n => ?_, fun a u e => ?_, s.own, fun a e => ?_, s.par, s.par'⟩, s.lv⟩
  · by_cases ha : a = p
    · subst ha; rw [upd_same] at e ⊢; exact e
    · rw [upd_ne ha] at e ⊢; exact s.rl.sub a u e
  · obtain ⟨v, h1, h2⟩ := s.rl.sh i d e
    exact ⟨v, h1, h2.mono le⟩
  · obtain ⟨a, h1, h2, h3⟩ := s.rl.ow i q d e
    obtain ⟨u, hu⟩ := h3.some
    have ha := ne a u hu
    exact ⟨a, h1, by rw [upd_ne ha]; exact h2, h3.mono le (upd_ne ha)⟩
  · have q := s.fr a u e n
    rw [upd_ne (ne a u q)]; exact q
  · by_cases ha : a = p
    · subst ha; exact .inr (.inl (s.dom a hp))
    · rw [upd_ne ha] at e; exact s.fsh a u e
  · by_cases ha : a = p
    · subst ha; rw [upd_same] at e; cases e
    · rw [upd_ne ha] at e; exact s.dom a e

/-- what is wanted of a result -/
def Want (K : PySem.W.Frag) (b : Bs) (ρ : Rho) (o : Bool × D) (Q : VK) : Prop := ∀ v H HF, StB K b ρ H HF → RpB K b ρ H HF v (plOf o) → Q v H
theorem want_of {o : Bool × D} {Q : VK} (h : Post K XC b W (.ok (plOf o) ρ) fun pl ρ' H' HF' => ∀ v, RpB K b ρ' H' HF' v pl → Q v H') : Want K b ρ o Q := fun v H HF st r => h H HF st v r
theorem Want.here {d : D} {Q : VK} {v : V} (w : Want K b ρ (false, d) Q) (st : StB K b ρ H HF) (r : Rep K HF v d) : Q v H := w v H HF st r
theorem Want.tup {ds : List D} {Q : VK} {vs : List V} (w : Want K b ρ (false, .tup ds) Q) (st : StB K b ρ H HF) (r : Reps K HF vs ds) (p : Addr) (hp : H p = none) : Q (.ref p) (upd H p (.tup vs)) := by
  have hf : HF p = none := by
    cases e : HF p with
    | none => rfl
    | some u => rw [st.rl.sub p u e] at hp; cases hp
  exact w (.ref p) _ _ (st_alloc_f st hp) (.tup (SqT.of upd_same) (r.mono (upd_le hf)))
theorem Want.lst {ds : List D} {Q : VK} {vs : List V} (w : Want K b ρ (true, .lst ds) Q) (st : StB K b ρ H HF) (r : Reps K HF vs ds) (p : Addr) (hp : H p = none) : Q (.ref p) (upd H p (.lst vs)) := by
  have hf : HF p = none := by
    cases e : HF p with
    | none => rfl
    | some u => rw [st.rl.sub p u e] at hp; cases hp
  refine w (.ref p) _ HF (st_alloc st hp) ⟨p, rfl, hf, fun z => ?_, ⟨vs, upd_same, r⟩, .inl (st.dom p hp)⟩
  obtain ⟨i, q, d, e1, e2⟩ := z
  obtain ⟨a, h1, _, h3⟩ := st.rl.ow i q d e1
  rw [e2] at h1; cases h1
  obtain ⟨u, hu⟩ := h3.some
  rw [hp] at hu; cases hu
end

/-! ### views -/
section
variable {K : PySem.W.Frag} {H HF : Hp} {v : V}
theorem Vw.int {i : Int} (h : Vw K H HF v (.int i)) : v = .int i := by
  cases h with
  | rep r => cases r; rfl
  | own o => exact o.elim
theorem Vw.bl {k : Bool} (h : Vw K H HF v (.bl k)) : v = .bl k := by
  cases h with
  | rep r => cases r; rfl
  | own o => exact o.elim
theorem Vw.non (h : Vw K H HF v .non) : v = .non := by
  cases h with
  | rep r => cases r; rfl
  | own o => exact o.elim
theorem Vw.str {s : List Nat} (h : Vw K H HF v (.str s)) : v = .str ⟨s.toArray⟩ ∧ strG s = true := by
  cases h with
  | rep r => cases r with | str g => exact ⟨rfl, g⟩
  | own o => exact o.elim
theorem Vw.tup {ds : List D} (h : Vw K H HF v (.tup ds)) : ∃ a vs, v = .ref a ∧ SqT K HF a vs ∧ Reps K HF vs ds := by
  cases h with
  | rep r => cases r with | tup h1 h2 => exact ⟨_, _, rfl, h1, h2⟩
  | own o => exact o.elim
theorem Vw.lst {ds : List D} (sub : Same HF H) (h : Vw K H HF v (.lst ds)) : ∃ a vs, v = .ref a ∧ SqL K H a vs ∧ Reps K HF vs ds := by
  cases h with
  | rep r => cases r with | lst h1 h2 => exact ⟨_, _, rfl, Same.seqL sub h1, h2⟩
  | own o => obtain ⟨vs, h1, h2⟩ := o; exact ⟨_, vs, rfl, .inl (.inl h1), h2⟩
/-- read whole -/
theorem Vw.rep_all {d : D} (sub : Same HF H) (h : Vw K H HF v d) : Rep K H v d := by
  cases h with
  | rep r => exact r.mono sub
  | own o =>
    cases d with
    | lst ds => obtain ⟨vs, h1, h2⟩ := o; exact .lst (.inl (.inl h1)) (h2.mono sub)
    | _ => exact o.elim
theorem strG_app {s t : List Nat} (h : strG s = true) (g : strG t = true) (l : s.length + t.length ≤ big) : strG (s ++ t) = true := by
  unfold strG at *
  simp only [Bool.and_eq_true, List.all_eq_true, decide_eq_true_eq, List.mem_append, List.length_append] at *
  exact ⟨fun x hx => hx.elim (h.1 x) (g.1 x), l⟩
theorem strG_sub {s t : List Nat} (h : strG s = true) (hm : ∀ x ∈ t, x ∈ s) (l : t.length ≤ s.length) : strG t = true := by
  unfold strG at *
  simp only [Bool.and_eq_true, List.all_eq_true, decide_eq_true_eq] at *
  exact ⟨fun x hx => h.1 x (hm x hx), Nat.le_trans l h.2⟩
theorem strG_all {s : List Nat} (h : ∀ x ∈ s, x < 0x110000) (l : s.length ≤ big) : strG s = true := by
  unfold strG
  simp only [Bool.and_eq_true, List.all_eq_true, decide_eq_true_eq]
  exact ⟨h, l⟩
theorem strG_len {s : List Nat} (h : strG s = true) : (⟨s.toArray⟩ : Str).length ≤ sizeLine := by
  unfold strG at h
  simp only [Bool.and_eq_true, decide_eq_true_eq] at h
  have e : (⟨s.toArray⟩ : Str).length = s.length := by simp [Str.length]
  rw [e]; exact h.2
theorem strG_mem {s : List Nat} (h : strG s = true) : ∀ x ∈ s, x < 0x110000 := by
  unfold strG at h
  simp only [Bool.and_eq_true, List.all_eq_true, decide_eq_true_eq] at h
  exact h.1
theorem str_len {s : List Nat} : (⟨s.toArray⟩ : Str).length = s.length := by simp [Str.length]

/-! ### == -/
mutual
def D.py : D → PyData
  | .non => .none
  | .bl b => .bool b
  | .int i => .int i
  | .str s => .str ⟨s.toArray⟩
  | .tup ds => .tuple (pys ds)
  | .lst ds => .list (pys ds)
  | .dct _ => .none
def pys : List D → List PyData
  | [] => []
  | d :: ds => D.py d :: pys ds
end
mutual
theorem depth_py : ∀ d : D, d.py.depth = d.depth
  | .non => by simp [D.py, D.depth, PyData.depth]
  | .bl _ => by simp [D.py, D.depth, PyData.depth]
  | .int _ => by simp [D.py, D.depth, PyData.depth]
  | .str _ => by simp [D.py, D.depth, PyData.depth]
  | .dct _ => by simp [D.py, D.depth, PyData.depth]
  | .tup ds => by simp [D.py, D.depth, PyData.depth, depths_py ds]
  | .lst ds => by simp [D.py, D.depth, PyData.depth, depths_py ds]
theorem depths_py : ∀ ds : List D, PyData.depthAll (pys ds) = depths ds
  | [] => by simp [pys, depths, PyData.depthAll]
  | d :: ds => by simp [pys, depths, PyData.depthAll, depth_py d, depths_py ds]
end
mutual
theorem Rep.dp : ∀ {v : V} {d : D}, Rep K H v d → Dp K H v d.py
  | _, _, .non => by simp only [D.py]; exact .non
  | _, _, .bl b => by simp only [D.py]; exact .bl b
  | _, _, .int i => by simp only [D.py]; exact .int i
  | _, _, .str h => by simp only [D.py]; exact .str _
  | _, _, .tup h r => by simp only [D.py]; exact .tup h (Reps.dp r)
  | _, _, .lst h r => by simp only [D.py]; exact .lst h (Reps.dp r)
theorem Reps.dp : ∀ {vs : List V} {ds : List D}, Reps K H vs ds → DpAll K H vs (pys ds)
  | _, _, .nil => by simp only [pys]; exact .nil
  | _, _, .cons h r => by simp only [pys]; exact .cons (Rep.dp h) (Reps.dp r)
end
mutual
theorem Rep.lay : ∀ {v : V} {d : D}, Rep K H v d → d.py.canLay0 = true
  | _, _, .non => by simp [D.py, PyData.canLay0]
  | _, _, .bl b => by simp [D.py, PyData.canLay0]
  | _, _, .int i => by simp [D.py, PyData.canLay0]
  | _, _, .str h => by
    have q := strG_mem h
    simp only [D.py, PyData.canLay0, PyData.strOk]
    simpa using q
  | _, _, .tup h r => by simp only [D.py, PyData.canLay0]; exact Reps.lay r
  | _, _, .lst h r => by simp only [D.py, PyData.canLay0]; exact Reps.lay r
theorem Reps.lay : ∀ {vs : List V} {ds : List D}, Reps K H vs ds → PyData.canLayAll0 (pys ds) = true
  | _, _, .nil => by simp [pys, PyData.canLayAll0]
  | _, _, .cons h r => by simp only [pys, PyData.canLayAll0, Rep.lay h, Reps.lay r, Bool.and_self]
end
theorem str_beq {x y : List Nat} : ((⟨x.toArray⟩ : Str) == ⟨y.toArray⟩) = (x == y) := by
  by_cases h : x = y
  · subst h; simp
  · have h2 : ¬ ((⟨x.toArray⟩ : Str) = ⟨y.toArray⟩) := fun e => h (by
      have e2 : x.toArray = y.toArray := Str.mk.inj e
      simpa using congrArg Array.toList e2)
    rw [beq_eq_false_iff_ne.mpr h2, beq_eq_false_iff_ne.mpr h]
mutual
theorem eqv_py : ∀ (x y : D), x.flat = true → y.flat = true → PyData.eqv x.py y.py = eqD x y
  | .non, y, _, h => by cases y <;> first | (simp [D.flat] at h; done) | simp [D.py, PyData.eqv, eqD]
  | .bl a, y, _, h => by cases y <;> first | (simp [D.flat] at h; done) | simp [D.py, PyData.eqv, eqD]
  | .int a, y, _, h => by cases y <;> first | (simp [D.flat] at h; done) | simp [D.py, PyData.eqv, eqD]
  | .str a, y, _, h => by
    cases y with
    | str t => simp only [D.py, PyData.eqv, eqD, str_beq]
    | dct k => simp [D.flat] at h
    | _ => simp [D.py, PyData.eqv, eqD]
  | .tup a, y, g, h => by
    cases y with
    | tup t => simp only [D.py, PyData.eqv, eqD]; exact eqvs_py a t (by simpa [D.flat] using g) (by simpa [D.flat] using h)
    | dct k => simp [D.flat] at h
    | _ => simp [D.py, PyData.eqv, eqD]
  | .lst a, y, g, h => by
    cases y with
    | lst t => simp only [D.py, PyData.eqv, eqD]; exact eqvs_py a t (by simpa [D.flat] using g) (by simpa [D.flat] using h)
    | dct k => simp [D.flat] at h
    | _ => simp [D.py, PyData.eqv, eqD]
  | .dct _, _, g, _ => by simp [D.flat] at g
theorem eqvs_py : ∀ (xs ys : List D), flats xs = true → flats ys = true → PyData.eqvAll (pys xs) (pys ys) = eqDs xs ys
  | [], [], _, _ => by simp [pys, PyData.eqvAll, eqDs]
  | [], _ :: _, _, _ => by simp [pys, PyData.eqvAll, eqDs]
  | _ :: _, [], _, _ => by simp [pys, PyData.eqvAll, eqDs]
  | x :: xs, y :: ys, g, h => by
    simp only [flats, Bool.and_eq_true] at g h
    simp only [pys, PyData.eqvAll, eqDs, eqv_py x y g.1 h.1, eqvs_py xs ys g.2 h.2]
end
end
end Mi

/-! Mi: the operations do what the trees say -/
namespace Mi
open PySem PySem.Spec L2

def opOf : BOp → Operator
  | .add => .Add | .sub => .Sub | .mul => .Mult | .fdiv => .FloorDiv | .mod => .Mod | .pow => .Pow | .xor => .BitXor | .shr => .RShift
theorem bopB_of {o : BOp} {p : Operator} (h : bopB o p = true) : p = opOf o := by
  cases o <;> cases p <;> first | rfl | (simp [bopB] at h)
def cmOf : COp → CmpOp
  | .eq => .Eq | .ne => .NotEq | .lt => .Lt | .le => .LtE | .gt => .Gt | .ge => .GtE | .is => .Is | .nis => .IsNot | .mem => .In | .nin => .NotIn
theorem copB_of {o : COp} {p : CmpOp} (h : copB o p = true) : p = cmOf o := by
  cases o <;> cases p <;> first | rfl | (simp [copB] at h)

section
open PySem.MeetsSeq PySem.AutoSeq1
open Sem (wp)
theorem add_sl (l : Addr) (items : Array Value) (n : Nat) (b : Addr) (items2 : Array Value) (n2 : Nat) (sl1 sl2 : Array (Option Value)) (hc0 : items.size + items2.size ≤ sizeLine) :
    Meets (Builtin.«list.__add__» ⟨[.ref l, .ref b], []⟩) (fun _ R s => s.heap.get? l = some ⟨.type "list", none, .seq items n, sl1⟩ ∧ s.heap.get? b = some ⟨.type "list", none, .seq items2 n2, sl2⟩ ∧ R (.ok (.ret (Value.ref s.heap.objs.size))) ⟨s.heap.push ⟨Value.type "list", none, Data.seq (items ++ items2), #[]⟩, s.gens, s.drawn, s.toks, s.os⟩) := by
  refine .of_wp fun prog w A R s h => ?_
  obtain ⟨hp, gs, dr, tk, os⟩ := s
  obtain ⟨ga, gb, h⟩ := h
  have i1 := idx_int
  have i2 := sub_tuple_tuple
  have i3 := sub_list_list
  have i4 := sub_tuple_list
  have i5 := sub_list_tuple
  wp_walk using wpAny_loadPart' ga, wpAny_loadPart' gb
  exact ⟨_, rfl, h⟩
end
section
variable {X : Cx}
section
open PySem.MeetsSeq PySem.AutoSeq1
theorem op_catR : OpR X (binaryOp .Add) (fun x y H Q => ∃ l b xs zs, x = .ref l ∧ y = .ref b ∧ SqL X.K H l xs ∧ SqL X.K H b zs ∧ xs.length + zs.length ≤ sizeLine ∧ ∀ p, H p = none → Q (.ref p) (upd H p (.lst (xs ++ zs)))) := by
  intro pins s σ H x y v u Q I rx ry h
  obtain ⟨l, b, xs, zs, rfl, rfl, hH, hB, hz, q⟩ := h
  cases rx
  cases ry
  obtain ⟨its, r, ⟨o, n, e, c1, c2, c3⟩, z⟩ := I.list hH
  obtain ⟨its2, r2, ⟨o2, n2, e2, d1, d2, d3⟩, z2⟩ := I.list hB
  have hl := r.length
  have hl2 := r2.length
  obtain ⟨oc, od, odt, osl⟩ := o
  obtain ⟨pc, pd, pdt, psl⟩ := o2
  dsimp only at c1 c2 c3 d1 d2 d3
  subst c1; subst c2; subst c3; subst d1; subst d2; subst d3
  have ea : its.toArray ++ its2.toArray = (its ++ its2).toArray := by simp
  refine concat_meets ⟨_, e, rfl⟩ ⟨_, e2, rfl⟩ noFill_list_add seq_list_add F.slot_list_add F.entry_list_add (F.args_list_add_2 _ _) (add_sl l its.toArray n b its2.toArray n2 osl psl (by rw [List.size_toArray, List.size_toArray]; omega)) ⟨e, e2, ?_⟩
  rw [ea]
  exact ⟨.ref _, _, I.lnew (t' := s.toks) (r.append r2) (by rw [List.length_append]; omega), rfl, q _ I.fresh⟩
end
theorem fold_app (k : Nat) (x : Array Nat) : ∀ acc : Array Nat, (List.replicate k x).foldl (· ++ ·) acc = acc ++ (List.replicate k x.toList).flatten.toArray := by
  induction k with
  | zero => intro acc; simp
  | succ k ih =>
    intro acc
    rw [List.replicate_succ, List.foldl_cons, ih, List.replicate_succ, List.flatten_cons]
    rw [← List.append_toArray, ← Array.append_assoc]
/-- a text times a number -/
theorem op_mulS : OpR X (binaryOp .Mult) (fun x y H Q => ∃ (s : List Nat) (k : Int), x = .str ⟨s.toArray⟩ ∧ y = .int k ∧ 0 < k ∧ k ≤ 1000 ∧ s.length * k.toNat ≤ big ∧ Q (.str ⟨(repN k.toNat s).toArray⟩) H) := by
  intro pins s σ H x y v u Q I rx ry h
  obtain ⟨a, k, rfl, rfl, h0, h1, hz, q⟩ := h
  obtain ⟨t, rfl⟩ := rx
  obtain ⟨t', rfl⟩ := ry
  have hb : big = 16777216 := rfl
  have e1 : decide (k < -(2 ^ 63 : Int)) = false := decide_eq_false (by omega)
  have e2 : decide (k ≥ 2 ^ 63) = false := decide_eq_false (by omega)
  have hkz : (a.length : Int) * k ≤ 16777216 := by
    have q2 : ((a.length * k.toNat : Nat) : Int) ≤ 16777216 := by omega
    rw [Int.natCast_mul, Int.toNat_of_nonneg (by omega)] at q2
    exact q2
  refine PySem.P.mul_str (by rw [e1, e2]; rfl) (fun _ _ => ?_) (fun _ _ => ?_) ?_
  · rw [str_len]
    have q3 : (a.length : Int) ≤ (2 ^ 63 - 1) / k := by
      rw [Int.le_ediv_iff_mul_le h0]
      omega
    omega
  · rw [str_len]
    unfold Builtin.Str.tooLong
    exact decide_eq_false (by have : sizeLine = 16777216 := by decide
                              omega)
  · rw [if_neg (by omega)]
    by_cases hc : (k == 1 || (⟨a.toArray⟩ : Str).length == 0) = true
    · rw [if_pos hc]
      have e3 : repN k.toNat a = a := by
        rcases Bool.or_eq_true _ _ ▸ hc with z | z
        · have z' : k = 1 := eq_of_beq z
          subst z'
          simp [repN]
        · have z' : a.length = 0 := by rw [str_len] at z; exact eq_of_beq z
          have z2 : a = [] := List.eq_nil_of_length_eq_zero z'
          subst z2
          simp [repN]
      rw [e3] at q
      exact ⟨.str _, H, I, ⟨_, rfl⟩, q⟩
    · rw [if_neg hc]
      have e4 : ((List.replicate k.toNat a.toArray).foldl (· ++ ·) #[]) = (repN k.toNat a).toArray := by
        rw [fold_app]; simp [repN]
      refine ⟨?_, ?_⟩
      · show (Str.length ⟨(List.replicate k.toNat a.toArray).foldl (· ++ ·) #[]⟩) ≤ sizeLine
        rw [e4, str_len]
        have e5 : (repN k.toNat a).length = a.length * k.toNat := by simp [repN, Nat.mul_comm]
        rw [e5]
        have : sizeLine = 16777216 := by decide
        omega
      · show EP X pins σ Q (.str ⟨(List.replicate k.toNat a.toArray).foldl (· ++ ·) #[]⟩ _) _
        rw [e4]
        exact ⟨.str _, H, I.tok _, ⟨_, rfl⟩, q⟩

/-- two values under an operator -/
theorem bin_ok {b : Bs} {ρ : Rho} {H HF : Hp} {op : BOp} {op' : Operator} {x y : D} {r : Bool × D} {u v : V} {Q : VK} (hb : bopB op op' = true) (h : binD op x y = some r) (st : StB X.K b ρ H HF)
    (hx : Vw X.K H HF u x) (hy : Vw X.K H HF v y) (w : Want X.K b ρ r Q) : SemR2 X (binaryOp op') u v H Q := by
  obtain rfl := bopB_of hb
  have hbig : big = sizeLine := by decide
  unfold binD at h
  split at h
  · cases h
    obtain rfl := hx.int
    obtain rfl := hy.int
    exact sem_op op_add ⟨_, _, rfl, rfl, w.here st (.int _)⟩
  · rename_i s t
    split at h
    · rename_i hl
      cases h
      obtain ⟨rfl, g1⟩ := hx.str
      obtain ⟨rfl, g2⟩ := hy.str
      refine sem_op op_add_str ⟨_, _, rfl, rfl, by rw [str_len, str_len]; omega, ?_⟩
      have e : ((⟨s.toArray⟩ : Str) ++ (⟨t.toArray⟩ : Str)) = (⟨(s ++ t).toArray⟩ : Str) := by
        show (⟨s.toArray ++ t.toArray⟩ : Str) = _
        simp
      rw [e]
      exact w.here st (.str (strG_app g1 g2 hl))
    · cases h
  · rename_i s t
    split at h
    · rename_i hl
      cases h
      obtain ⟨a1, vs, rfl, h1, r1⟩ := hx.tup
      obtain ⟨a2, ws, rfl, h2, r2⟩ := hy.tup
      have l1 := r1.length
      have l2 := r2.length
      refine sem_op op_catA ⟨a1, a2, vs, ws, rfl, rfl, Same.seqT st.rl.sub h1, Same.seqT st.rl.sub h2, by omega, fun e => ?_, fun _ e => ?_, fun _ _ p hp => w.tup st (r1.append r2) p hp⟩
      · have e2 : s = [] := List.eq_nil_of_length_eq_zero (by rw [← l1, e]; rfl)
        subst e2
        exact w.here st (.tup h2 r2)
      · have e2 : t = [] := List.eq_nil_of_length_eq_zero (by rw [← l2, e]; rfl)
        subst e2
        exact w.here st (.tup h1 (by rw [List.append_nil]; exact r1))
    · cases h
  · rename_i s t
    split at h
    · rename_i hl
      cases h
      obtain ⟨a1, vs, rfl, h1, r1⟩ := hx.lst st.rl.sub
      obtain ⟨a2, ws, rfl, h2, r2⟩ := hy.lst st.rl.sub
      have l1 := r1.length
      have l2 := r2.length
      exact sem_op op_catR ⟨a1, a2, vs, ws, rfl, rfl, h1, h2, by omega, fun p hp => w.lst st (r1.append r2) p hp⟩
    · cases h
  · cases h
    obtain rfl := hx.int
    obtain rfl := hy.int
    exact sem_op op_sub ⟨_, _, rfl, rfl, w.here st (.int _)⟩
  · rename_i i j
    split at h
    · rename_i hl
      cases h
      obtain rfl := hx.int
      obtain rfl := hy.int
      refine sem_op op_mul ⟨_, _, rfl, rfl, ?_, w.here st (.int _)⟩
      unfold mulOk at hl
      simp only [Bool.or_eq_true, Bool.and_eq_true, decide_eq_true_eq] at hl
      rcases hl with q | q
      · exact .inl ⟨by omega, by omega⟩
      · exact .inr ⟨by omega, by omega⟩
    · cases h
  · rename_i s k
    split at h
    · rename_i hl
      cases h
      obtain ⟨rfl, g⟩ := hx.str
      obtain rfl := hy.int
      refine sem_op op_mulS ⟨s, k, rfl, rfl, hl.1, hl.2.1, hl.2.2, w.here st (.str ?_)⟩
      refine strG_all (fun c hc => ?_) ?_
      · unfold repN at hc
        simp only [List.mem_flatten, List.mem_replicate] at hc
        obtain ⟨l, ⟨_, rfl⟩, hm⟩ := hc
        exact strG_mem g c hm
      · have e5 : (repN k.toNat s).length = s.length * k.toNat := by simp [repN, Nat.mul_comm]
        rw [e5]; exact hl.2.2
    · cases h
  · split at h
    · rename_i hl
      cases h
      obtain rfl := hx.int
      obtain rfl := hy.int
      exact sem_op op_fdiv ⟨_, _, rfl, rfl, hl, w.here st (.int _)⟩
    · cases h
  · split at h
    · rename_i hl
      cases h
      obtain rfl := hx.int
      obtain rfl := hy.int
      exact sem_op op_mod ⟨_, _, rfl, rfl, hl, w.here st (.int _)⟩
    · cases h
  · split at h
    · rename_i hl
      cases h
      obtain rfl := hx.int
      obtain rfl := hy.int
      exact sem_op op_pow ⟨_, _, rfl, rfl, hl, w.here st (.int _)⟩
    · cases h
  · cases h
    obtain rfl := hx.int
    obtain rfl := hy.int
    exact sem_op op_xor ⟨_, _, rfl, rfl, w.here st (.int _)⟩
  · split at h
    · rename_i hl
      cases h
      obtain rfl := hx.int
      obtain rfl := hy.int
      exact sem_op op_shr ⟨_, _, rfl, rfl, hl, w.here st (.int _)⟩
    · cases h
  · cases h

/-- == of any two readable trees -/
theorem op_eqA (hu : X.A.units + 101 < cLine) : OpR X (compareOp .Eq) (fun x y H Q => ∃ d e, Rep X.K H x d ∧ Rep X.K H y e ∧ d.flat = true ∧ e.flat = true ∧ min d.depth e.depth ≤ 100 ∧ Q (.bl (eqD d e)) H) := by
  intro pins s σ H x y v u Q I rx ry h
  obtain ⟨d, e, hd, he, fd, fe, hm, q⟩ := h
  obtain ⟨as, r1⟩ := Dp.reads I d.py x v hd.dp rx
  obtain ⟨bs, r2⟩ := Dp.reads I e.py y u he.dp ry
  exact SeqAt.compareEq_reads r1 r2 hd.lay he.lay (by rw [depth_py, depth_py]; omega) ⟨.bl _, H, I, rfl, by rw [eqv_py d e fd fe]; exact q⟩
theorem op_neA (hu : X.A.units + 101 < cLine) : OpR X (compareOp .NotEq) (fun x y H Q => ∃ d e, Rep X.K H x d ∧ Rep X.K H y e ∧ d.flat = true ∧ e.flat = true ∧ min d.depth e.depth ≤ 100 ∧ Q (.bl (!eqD d e)) H) := by
  intro pins s σ H x y v u Q I rx ry h
  obtain ⟨d, e, hd, he, fd, fe, hm, q⟩ := h
  obtain ⟨as, r1⟩ := Dp.reads I d.py x v hd.dp rx
  obtain ⟨bs, r2⟩ := Dp.reads I e.py y u he.dp ry
  exact SeqAt.compareNe_reads r1 r2 hd.lay he.lay (by rw [depth_py, depth_py]; omega) ⟨.bl _, H, I, rfl, by rw [eqv_py d e fd fe]; exact q⟩

theorem Vw.nonI {K : PySem.W.Frag} {H HF : Hp} {v : V} {d : D} (h : Vw K H HF v d) : decide (v = .non) = d.isNon := by
  cases h with
  | rep r => cases r <;> rfl
  | own o => cases d with
    | lst ds => rfl
    | _ => exact o.elim
theorem cps_toList {s : List Nat} : (⟨s.toArray⟩ : Str).cps.toList = s := by simp
/-- two values compared -/
theorem cmp_ok {b : Bs} {ρ : Rho} {H HF : Hp} {op : COp} {op' : CmpOp} {x y : D} {k : Bool} {u v : V} {Q : VK} (hb : copB op op' = true) (h : cmpD op x y = some k) (hu : X.A.units + 101 < cLine) (st : StB X.K b ρ H HF)
    (hx : Vw X.K H HF u x) (hy : Vw X.K H HF v y) (w : Q (.bl k) H) : SemR2 X (compareOp op') u v H Q := by
  obtain rfl := copB_of hb
  unfold cmpD at h
  split at h
  · split at h
    · rename_i hl
      cases h
      simp only [Bool.and_eq_true, decide_eq_true_eq] at hl
      exact sem_op (op_eqA hu) ⟨x, y, hx.rep_all st.rl.sub, hy.rep_all st.rl.sub, hl.1.1, hl.1.2, hl.2, w⟩
    · cases h
  · split at h
    · rename_i hl
      cases h
      simp only [Bool.and_eq_true, decide_eq_true_eq] at hl
      exact sem_op (op_neA hu) ⟨x, y, hx.rep_all st.rl.sub, hy.rep_all st.rl.sub, hl.1.1, hl.1.2, hl.2, w⟩
    · cases h
  · cases h
    obtain rfl := hx.int
    obtain rfl := hy.int
    exact sem_op op_lt ⟨_, _, rfl, rfl, w⟩
  · cases h
    obtain rfl := hx.int
    obtain rfl := hy.int
    exact sem_op op_le ⟨_, _, rfl, rfl, w⟩
  · cases h
    obtain rfl := hx.int
    obtain rfl := hy.int
    exact sem_op op_gt ⟨_, _, rfl, rfl, w⟩
  · cases h
    obtain rfl := hx.int
    obtain rfl := hy.int
    exact sem_op op_ge ⟨_, _, rfl, rfl, w⟩
  · cases h
    obtain ⟨rfl, _⟩ := hx.str
    obtain ⟨rfl, _⟩ := hy.str
    exact sem_op op_lt_str ⟨_, _, rfl, rfl, by simpa only [cps_toList] using w⟩
  · cases h
    obtain ⟨rfl, _⟩ := hx.str
    obtain ⟨rfl, _⟩ := hy.str
    exact sem_op op_le_str ⟨_, _, rfl, rfl, by simpa only [cps_toList] using w⟩
  · cases h
    obtain ⟨rfl, _⟩ := hx.str
    obtain ⟨rfl, _⟩ := hy.str
    exact sem_op op_gt_str ⟨_, _, rfl, rfl, by simpa only [cps_toList] using w⟩
  · cases h
    obtain ⟨rfl, _⟩ := hx.str
    obtain ⟨rfl, _⟩ := hy.str
    exact sem_op op_ge_str ⟨_, _, rfl, rfl, by simpa only [cps_toList] using w⟩
  · cases h
    obtain rfl := hy.non
    exact sem_op op_isN ⟨rfl, by rw [hx.nonI]; exact w⟩
  · cases h
    obtain rfl := hy.non
    refine sem_op op_notN ⟨rfl, ?_⟩
    rw [hx.nonI]
    exact w
  · cases h
    obtain rfl := hx.bl
    obtain rfl := hy.bl
    exact sem_op op_isBl ⟨_, _, rfl, rfl, w⟩
  · cases h
    obtain rfl := hx.bl
    obtain rfl := hy.bl
    exact sem_op op_notBl ⟨_, _, rfl, rfl, w⟩
  · cases h
    obtain ⟨rfl, _⟩ := hx.str
    obtain ⟨rfl, _⟩ := hy.str
    exact sem_op op_in_str ⟨_, _, rfl, rfl, by rw [str_len]; exact w⟩
  · cases h
    obtain ⟨rfl, _⟩ := hx.str
    obtain ⟨rfl, _⟩ := hy.str
    exact sem_op op_notin_str ⟨_, _, rfl, rfl, by rw [str_len]; exact w⟩
  · cases h

/-- truth -/
theorem tru_vw {K : PySem.W.Frag} {H HF : Hp} {v : V} {d : D} {k : Bool} (sub : Same HF H) (h : Vw K H HF v d) (t : truD d = some k) : TruV K v H k := by
  cases d with
  | non => cases t; obtain rfl := h.non; rfl
  | bl c => cases t; obtain rfl := h.bl; rfl
  | int i => cases t; obtain rfl := h.int; rfl
  | str s =>
    cases t
    obtain ⟨rfl, g⟩ := h.str
    refine ⟨strG_len g, ?_⟩
    rw [str_len]
    cases s <;> simp <;> omega
  | tup ds =>
    cases t
    obtain ⟨a, vs, rfl, h1, r⟩ := h.tup
    refine .inr (.inl ⟨vs, Same.seqT sub h1, ?_⟩)
    cases r <;> rfl
  | lst ds =>
    cases t
    obtain ⟨a, vs, rfl, h1, r⟩ := h.lst sub
    refine .inl ⟨vs, h1, ?_⟩
    cases r <;> rfl
  | dct kvs => cases t

/-- x[i] -/
theorem atI_rep {K : PySem.W.Frag} {HF : Hp} {vs : List V} {ds : List D} {i : Int} {d : D} (r : Reps K HF vs ds) (h : atI ds i = some d) : ∃ v, atI vs i = some v ∧ Rep K HF v d := by
  unfold atI at *
  rw [r.length]
  cases e : ixN ds.length i with
  | none => rw [e] at h; cases h
  | some j =>
    rw [e] at h
    exact r.get h
theorem idx_ok {b : Bs} {ρ : Rho} {H HF : Hp} {x y d : D} {u v : V} {Q : VK} (h : idxD x y = some d) (st : StB X.K b ρ H HF) (hx : Vw X.K H HF u x) (hy : Vw X.K H HF v y) (w : Want X.K b ρ (false, d) Q) : rIx X.K u v H Q := by
  unfold idxD at h
  split at h
  · obtain ⟨a, vs, rfl, h1, r⟩ := hx.lst st.rl.sub
    obtain rfl := hy.int
    obtain ⟨z, e, q⟩ := atI_rep r h
    exact .inl ⟨a, vs, _, z, rfl, rfl, h1, e, w.here st q⟩
  · obtain ⟨a, vs, rfl, h1, r⟩ := hx.tup
    obtain rfl := hy.int
    obtain ⟨z, e, q⟩ := atI_rep r h
    exact .inr (.inl ⟨a, vs, _, z, rfl, rfl, Same.seqT st.rl.sub h1, e, w.here st q⟩)
  · rename_i s i
    obtain ⟨rfl, g⟩ := hx.str
    obtain rfl := hy.int
    cases e : atI s i with
    | none => rw [e] at h; cases h
    | some c =>
      rw [e] at h
      cases h
      refine .inr (.inr ⟨_, _, c, rfl, rfl, strG_len g, by rw [cps_toList]; exact e, w.here st (.str (s := [c]) ?_)⟩)
      obtain ⟨j, _, hj, hlt, _⟩ := atI_get e
      exact strG_sub g (fun z hz => by
        have : z = c := by simpa using hz
        subst this
        exact List.mem_of_getElem? hj) (by show 1 ≤ s.length; omega)
  · cases h

/-- slices -/
def rSlU (K : PySem.W.Frag) : V → Option Int → Option Int → Hp → VK → Prop := fun x lo hi H Q => rSlL K x lo hi H Q ∨ rSlA K x lo hi H Q ∨ rSlS x lo hi H Q
theorem sl_u : SlR X (rSlU X.K) := sl_list.or (sl_tupA.or sl_str)
theorem cut_rep {K : PySem.W.Frag} {HF : Hp} {vs : List V} {ds : List D} {lo hi : Option Int} (r : Reps K HF vs ds) : Reps K HF (cutV vs lo hi) (cut ds lo hi) := by
  unfold cutV cut
  rw [r.length]
  exact (r.drop _).take _
theorem slc_ok {b : Bs} {ρ : Rho} {H HF : Hp} {x : D} {lo hi : Option Int} {o : Bool × D} {u : V} {Q : VK} (h : slcD x lo hi = some o) (st : StB X.K b ρ H HF) (hx : Vw X.K H HF u x) (w : Want X.K b ρ o Q) : rSlU X.K u lo hi H Q := by
  unfold slcD at h
  split at h
  · cases h
    obtain ⟨a, vs, rfl, h1, r⟩ := hx.lst st.rl.sub
    exact .inl ⟨a, vs, rfl, h1, fun p hp => w.lst st (cut_rep r) p hp⟩
  · cases h
    obtain ⟨a, vs, rfl, h1, r⟩ := hx.tup
    refine .inr (.inl ⟨a, vs, rfl, Same.seqT st.rl.sub h1, fun e => ?_, fun _ p hp => w.tup st (cut_rep r) p hp⟩)
    have q := cut_rep (lo := lo) (hi := hi) r
    have e2 : cutV vs lo hi = vs := by
      unfold cutV
      rw [e.1, e.2, List.drop_zero, Nat.sub_zero, List.take_length]
    rw [e2] at q
    exact w.here st (.tup h1 q)
  · rename_i s
    cases h
    obtain ⟨rfl, g⟩ := hx.str
    refine .inr (.inr ⟨_, rfl, strG_len g, ?_⟩)
    have e : cutS ⟨s.toArray⟩ lo hi = ⟨(cut s lo hi).toArray⟩ := by
      unfold cutS cut
      rw [cps_toList, str_len]
    rw [e]
    refine w.here st (.str (strG_sub g (fun z hz => ?_) ?_))
    · unfold cut at hz
      exact List.mem_of_mem_drop (List.mem_of_mem_take hz)
    · unfold cut
      rw [List.length_take, List.length_drop]
      omega
  · cases h
end
end Mi

/-! Mi: built-ins, methods, and what an expression gives -/
namespace Mi
open PySem PySem.Spec L2

/-- views of several -/
inductive Vws (K : PySem.W.Frag) (H HF : Hp) : List V → List D → Prop
  | nil : Vws K H HF [] []
  | cons {v : V} {vs : List V} {d : D} {ds : List D} : Vw K H HF v d → Vws K H HF vs ds → Vws K H HF (v :: vs) (d :: ds)

theorem Vws.one {K : PySem.W.Frag} {H HF : Hp} {vs : List V} {d : D} (h : Vws K H HF vs [d]) : ∃ v, vs = [v] ∧ Vw K H HF v d := by
  cases h with
  | cons h1 h2 =>
    cases h2
    exact ⟨_, rfl, h1⟩

def bltVal : Blt → Value
  | .len => .builtin "len" | .abs => .builtin "abs" | .int => .type "int" | .tuple => .type "tuple" | .list => .type "list" | .min1 => .builtin "min"

section
variable {X : Cx}
theorem strs_rep0 {K : PySem.W.Frag} {HF : Hp} : ∀ {vs : List V} {xs : List D} {ws : List (List Nat)}, Reps K HF vs xs → strs? xs = some ws → vs = ws.map (fun w => V.str ⟨w.toArray⟩) ∧ ∀ w ∈ ws, strG w = true
  | [], [], ws, _, h => by
    simp only [strs?, Option.some.injEq] at h
    subst h
    exact ⟨rfl, fun w hw => by simp at hw⟩
  | v :: vs, x :: xs, ws, r, h => by
    cases r with
    | cons r1 r2 =>
      cases x with
      | str s =>
        simp only [strs?] at h
        cases e : strs? xs with
        | none => rw [e] at h; cases h
        | some us =>
          rw [e] at h
          have h' : s :: us = ws := Option.some.inj h
          subst h'
          obtain ⟨e1, e2⟩ := strs_rep0 r2 e
          cases r1 with
          | str g =>
            refine ⟨by rw [e1]; rfl, fun w hw => ?_⟩
            rcases List.mem_cons.mp hw with z | z
            · rw [z]; exact g
            · exact e2 w z
      | _ => simp [strs?] at h
theorem dp_strs {K : PySem.W.Frag} {H : Hp} : ∀ ws : List (List Nat), DpAll K H (ws.map fun w => V.str ⟨w.toArray⟩) (ws.map fun w => PyData.str ⟨w.toArray⟩)
  | [] => .nil
  | _ :: r => .cons (.str _) (dp_strs r)
theorem depth_strs : ∀ ws : List (List Nat), PyData.depthAll (ws.map fun w => PyData.str ⟨w.toArray⟩) = 0
  | [] => by simp [PyData.depthAll]
  | _ :: r => by simp [PyData.depthAll, PyData.depth, depth_strs r]
theorem least_fold : ∀ (ws : List (List Nat)) (s : List Nat), (ws.map fun w => PyData.str ⟨w.toArray⟩).foldl (fun a y => if PySem.W.dataLt y a then y else a) (PyData.str ⟨s.toArray⟩) = PyData.str ⟨(leastS s ws).toArray⟩
  | [], s => rfl
  | w :: r, s => by
    simp only [List.map_cons, List.foldl_cons, PySem.W.dataLt_str, leastS]
    by_cases h : w < s
    · simp only [h, decide_true, if_true]; exact least_fold r w
    · simp only [h, decide_false, if_false, Bool.false_eq_true]; exact least_fold r s
theorem leastS_mem : ∀ (ws : List (List Nat)) (s : List Nat), leastS s ws ∈ s :: ws
  | [], s => by simp [leastS]
  | w :: r, s => by
    unfold leastS
    split
    · exact List.mem_cons_of_mem _ (leastS_mem r w)
    · rcases List.mem_cons.mp (leastS_mem r s) with z | z
      · rw [z]; exact List.mem_cons_self
      · exact List.mem_cons_of_mem _ (List.mem_cons_of_mem _ z)
theorem call_minS {X : Cx} (hc : X.calm = true) (hu : X.A.units + 101 < cLine) : CallR X (.builtin "min") (fun xs H Q => ∃ (a : Addr) (s : List Nat) (ws : List (List Nat)), xs = [.ref a] ∧ SqL X.K H a ((s :: ws).map fun w => V.str ⟨w.toArray⟩) ∧ Q (.str ⟨(leastS s ws).toArray⟩) H) := by
  intro pins s σ H xs us Q I r h
  obtain ⟨a, t, ws, rfl, hq, q⟩ := h
  obtain ⟨u, rfl, ru⟩ := vals1 r
  cases ru
  obtain ⟨its, rv, p, hz⟩ := I.list hq
  obtain ⟨as, hr⟩ := Dp.readsAll I _ _ its (dp_strs (t :: ws)) rv
  have hd := depth_strs (t :: ws)
  refine PySem.W.min_list_data (I.ok.hd hc) p.isList (vs := its.toArray) hr ⟨fun x hx y hy => ?_, fun x hx => ?_⟩ (by rw [List.map_cons] at hd; rw [hd]; omega) fun i v h' tk bs hv rd k => ?_
  · rw [← List.map_cons (f := fun w : List Nat => PyData.str ⟨w.toArray⟩)] at hx hy
    obtain ⟨w1, _, rfl⟩ := List.mem_map.mp hx
    obtain ⟨w2, _, rfl⟩ := List.mem_map.mp hy
    simp [PySem.W.alike]
  · rw [← List.map_cons (f := fun w : List Nat => PyData.str ⟨w.toArray⟩)] at hx
    obtain ⟨w1, _, rfl⟩ := List.mem_map.mp hx
    intro z; cases z
  · unfold PySem.W.minD at rd
    rw [least_fold ws t] at rd
    cases rd
    exact ⟨.str _, H, I.kept k, ⟨_, rfl⟩, q⟩
theorem blt_ok (hcalm : X.calm = true) (hun : X.A.units + 101 < cLine) {b : Bs} {ρ : Rho} {H HF : Hp} {t : Blt} {ds : List D} {o : Bool × D} {vs : List V} {Q : VK} (h : bltD t ds = some o) (st : StB X.K b ρ H HF) (hv : Vws X.K H HF vs ds) (w : Want X.K b ρ o Q) : SemC X (bltVal t) vs H Q := by
  unfold bltD at h
  split at h
  · cases h
    obtain ⟨_, rfl, h1⟩ := hv.one
    obtain ⟨a, ws, rfl, q, r⟩ := h1.lst st.rl.sub
    refine sem_cl call_len_seq ⟨a, ws, rfl, .inl q, ?_⟩
    rw [r.length]
    exact w.here st (.int _)
  · cases h
    obtain ⟨_, rfl, h1⟩ := hv.one
    obtain ⟨a, ws, rfl, q, r⟩ := h1.tup
    refine sem_cl call_len_seq ⟨a, ws, rfl, .inr (Same.seqT st.rl.sub q), ?_⟩
    rw [r.length]
    exact w.here st (.int _)
  · cases h
    obtain ⟨_, rfl, h1⟩ := hv.one
    obtain ⟨rfl, g⟩ := h1.str
    refine sem_cl call_len_str ⟨_, rfl, strG_len g, ?_⟩
    rw [str_len]
    exact w.here st (.int _)
  · cases h
    obtain ⟨_, rfl, h1⟩ := hv.one
    obtain rfl := h1.int
    exact sem_cl call_abs ⟨_, rfl, w.here st (.int _)⟩
  · cases h
    obtain ⟨_, rfl, h1⟩ := hv.one
    obtain rfl := h1.int
    exact sem_cl call_int1 (.inl ⟨_, rfl, w.here st (.int _)⟩)
  · cases h
    obtain ⟨_, rfl, h1⟩ := hv.one
    obtain rfl := h1.bl
    exact sem_cl call_int1 (.inr ⟨_, rfl, w.here st (.int _)⟩)
  · cases h
    obtain ⟨_, rfl, h1⟩ := hv.one
    obtain ⟨a, ws, rfl, q, r⟩ := h1.lst st.rl.sub
    exact sem_cl call_tuple_of ⟨a, ws, rfl, .inl ⟨q, fun p hp => w.tup st r p hp⟩⟩
  · cases h
    obtain ⟨_, rfl, h1⟩ := hv.one
    obtain ⟨a, ws, rfl, q, r⟩ := h1.tup
    exact sem_cl call_tuple_of ⟨a, ws, rfl, .inr ⟨Same.seqT st.rl.sub q, w.here st (.tup q r)⟩⟩
  · cases h
    obtain ⟨_, rfl, h1⟩ := hv.one
    obtain ⟨a, ws, rfl, q, r⟩ := h1.lst st.rl.sub
    exact sem_cl call_list_of ⟨a, ws, rfl, .inl q, fun p hp => w.lst st r p hp⟩
  · cases h
    obtain ⟨_, rfl, h1⟩ := hv.one
    obtain ⟨a, ws, rfl, q, r⟩ := h1.tup
    exact sem_cl call_list_of ⟨a, ws, rfl, .inr (Same.seqT st.rl.sub q), fun p hp => w.lst st r p hp⟩
  · split at h
    · rename_i xs0 t ws hs
      cases h
      obtain ⟨_, rfl, h1⟩ := hv.one
      obtain ⟨a, us, rfl, q, r⟩ := h1.lst st.rl.sub
      obtain ⟨rfl, gw⟩ := strs_rep0 r hs
      exact sem_cl (call_minS hcalm hun) ⟨a, t, ws, rfl, q, w.here st (.str (gw _ (leastS_mem ws t)))⟩
    · cases h
  · cases h

/-! ### join -/
theorem strs_rep {K : PySem.W.Frag} {HF : Hp} : ∀ {vs : List V} {ds : List D} {ws : List (List Nat)}, Reps K HF vs ds → strs? ds = some ws → vs = (ws.map fun w => (⟨w.toArray⟩ : Str)).map V.str ∧ ∀ w ∈ ws, strG w = true
  | _, _, ws, .nil, h => by
    have e : ws = [] := (Option.some.inj h).symm
    subst e
    exact ⟨rfl, fun _ hw => by simp at hw⟩
  | _, d :: ds, ws, .cons r rs, h => by
    cases d with
    | str s =>
      unfold strs? at h
      cases e : strs? ds with
      | none => rw [e] at h; cases h
      | some zs =>
        rw [e] at h
        have e2 : ws = s :: zs := (Option.some.inj h).symm
        subst e2
        obtain ⟨e3, e4⟩ := strs_rep rs e
        obtain ⟨ev, g⟩ := (Vw.rep (H := HF) r).str
        subst ev
        refine ⟨by rw [e3]; rfl, fun w hw => ?_⟩
        rcases List.mem_cons.mp hw with rfl | hw
        · exact g
        · exact e4 w hw
    | _ => simp [strs?] at h
theorem joinL_mem {s : List Nat} : ∀ {ws : List (List Nat)} {c : Nat}, c ∈ TL.joinL s ws → c ∈ s ∨ ∃ w ∈ ws, c ∈ w
  | [], _, h => by simp [TL.joinL] at h
  | [p], _, h => .inr ⟨p, by simp, h⟩
  | p :: q :: r, c, h => by
    simp only [TL.joinL, List.mem_append] at h
    rcases h with h | h | h
    · exact .inr ⟨p, by simp, h⟩
    · exact .inl h
    · rcases joinL_mem h with h | ⟨w, hw, h⟩
      · exact .inl h
      · exact .inr ⟨w, List.mem_cons_of_mem _ hw, h⟩
theorem joinL_len {s : List Nat} : ∀ {ws : List (List Nat)}, (TL.joinL s ws).length ≤ (ws.map (·.length)).sum + ws.length * s.length
  | [] => by simp [TL.joinL]
  | [p] => by simp [TL.joinL]
  | p :: q :: r => by
    have h := joinL_len (s := s) (ws := q :: r)
    simp only [TL.joinL, List.length_append, List.map_cons, List.sum_cons, List.length_cons] at h ⊢
    rw [Nat.succ_mul (r.length + 1) s.length]
    omega
theorem join_txt {s : List Nat} {ws : List (List Nat)} : Txt.join ⟨s.toArray⟩ (ws.map fun w => (⟨w.toArray⟩ : Str)) = ⟨(TL.joinL s ws).toArray⟩ := by
  have q : [Txt.join ⟨s.toArray⟩ (ws.map fun w => (⟨w.toArray⟩ : Str))] = [(⟨(TL.joinL s ws).toArray⟩ : Str)] := by
    refine TL.map_tl_inj ?_
    simp only [List.map_cons, List.map_nil, List.cons.injEq, and_true]
    rw [TL.join_eq, TL.tl_join, List.map_map]
    have e : (TL.tl ∘ fun w : List Nat => (⟨w.toArray⟩ : Str)) = id := by funext w; rfl
    rw [e, List.map_id]
  exact (List.cons.inj q).1
theorem join_ok {b : Bs} {ρ : Rho} {H HF : Hp} {m : Mth} {x y : D} {o : Bool × D} {u v : V} {Q : VK} (h : mthD m x y = some o) (st : StB X.K b ρ H HF) (hx : Vw X.K H HF u x) (hy : Vw X.K H HF v y) (w : Want X.K b ρ o Q) :
    ∃ a p, ∃ ys : List Str, u = .str a ∧ [v] = [V.ref p] ∧ (SqL X.K H p (ys.map V.str) ∨ SqT X.K H p (ys.map V.str)) ∧ (ys.map (·.length)).sum + ys.length * a.length ≤ 16777216 ∧ Q (.str (Txt.join a ys)) H := by
  have fin : ∀ {s : List Nat} {ws : List (List Nat)}, strG s = true → (∀ w ∈ ws, strG w = true) → (ws.map (·.length)).sum + ws.length * s.length ≤ big → Want X.K b ρ (false, .str (TL.joinL s ws)) Q →
      ((ws.map fun w => (⟨w.toArray⟩ : Str)).map (·.length)).sum + (ws.map fun w => (⟨w.toArray⟩ : Str)).length * (⟨s.toArray⟩ : Str).length ≤ 16777216 ∧ Q (.str (Txt.join ⟨s.toArray⟩ (ws.map fun w => (⟨w.toArray⟩ : Str)))) H := fun {s ws} g gw hl w => by
    refine ⟨?_, ?_⟩
    · have e : ((fun x : Str => x.length) ∘ fun w : List Nat => (⟨w.toArray⟩ : Str)) = (fun w : List Nat => w.length) := by funext w; exact str_len
      rw [List.map_map, e, List.length_map, str_len]
      exact hl
    · rw [join_txt]
      refine w.here st (.str (strG_all (fun c hc => ?_) (Nat.le_trans joinL_len hl)))
      rcases joinL_mem hc with hc | ⟨w', hw, hc⟩
      · exact strG_mem g c hc
      · exact strG_mem (gw w' hw) c hc
  unfold mthD at h
  split at h
  · rename_i s xs
    split at h
    · rename_i ws hs
      split at h
      · rename_i hl
        cases h
        obtain ⟨rfl, g⟩ := hx.str
        obtain ⟨a, vs, rfl, q, r⟩ := hy.lst st.rl.sub
        obtain ⟨rfl, gw⟩ := strs_rep r hs
        exact ⟨_, a, _, rfl, rfl, .inl q, fin g gw hl w⟩
      · cases h
    · cases h
  · rename_i s xs
    split at h
    · rename_i ws hs
      split at h
      · rename_i hl
        cases h
        obtain ⟨rfl, g⟩ := hx.str
        obtain ⟨a, vs, rfl, q, r⟩ := hy.tup
        obtain ⟨rfl, gw⟩ := strs_rep r hs
        exact ⟨_, a, _, rfl, rfl, .inr (Same.seqT st.rl.sub q), fin g gw hl w⟩
      · cases h
    · cases h
  · cases h

/-! ### isinstance -/
theorem isi_ok {H HF : Hp} {t : String} {d : D} {k : Bool} {v : V} (sub : Same HF H) (h : isiD t d = some k) (hv : Vw X.K H HF v d) : ∃ n, TyX X.K H v n ∧ PySem.W.kitOne X.K n (.type t) = some k := by
  unfold isiD at h
  cases d with
  | non => obtain rfl := hv.non; exact ⟨_, .base .non, kit_ty h⟩
  | bl b => obtain rfl := hv.bl; exact ⟨_, .base (.bl b), kit_ty h⟩
  | int i => obtain rfl := hv.int; exact ⟨_, .base (.int i), kit_ty h⟩
  | str s => obtain ⟨rfl, _⟩ := hv.str; exact ⟨_, .base (.str _), kit_ty h⟩
  | tup ds =>
    obtain ⟨a, vs, rfl, q, r⟩ := hv.tup
    rcases Same.seqT sub q with (q | ⟨o, q⟩) | ⟨o, its, n, q, c, _⟩
    · exact ⟨_, .base (.tup q), kit_ty h⟩
    · exact ⟨_, .fTuple q, kit_ty h⟩
    · exact ⟨_, .kTuple q c, kit_ty h⟩
  | lst ds =>
    obtain ⟨a, vs, rfl, q, r⟩ := hv.lst sub
    rcases q with (q | ⟨o, q⟩) | ⟨o, its, n, q, c, _⟩
    · exact ⟨_, .base (.lst q), kit_ty h⟩
    · exact ⟨_, .base (.frz q), kit_ty h⟩
    · exact ⟨_, .kList q c, kit_ty h⟩
  | dct kvs => cases h

/-! ### s[::-1] of a text or a list -/
theorem rev_pick (s : List Nat) : ((Builtin.Str.strSliceIndices none none (-1) s.length).filterMap (s.toArray[·]?)).toArray = s.reverse.toArray := by
  have e : Builtin.Str.strSliceIndices none none (-1) s.length = sliceRange ((s.length : Int) - 1) (-1) (-1) := by
    unfold Builtin.Str.strSliceIndices
    rfl
  rw [e, PySem.W.krv_sliceRange, PySem.W.krv_range, List.filterMap_reverse]
  have e2 := PySem.W.krv_all s.toArray
  rw [List.size_toArray] at e2
  rw [e2]
theorem pe_revU {e : Expr} {te : TE} {k : Nat} {p1 p2 p3 pos : Pos} (he : PE X e te) : PE X (.Subscript e (.Slice none none (some (.UnaryOp .USub (.Constant (.int 1) k p1) p2)) p3) pos)
    (fun σ H Q => te σ H fun x H1 => (∃ a xs, x = .ref a ∧ SqL X.K H1 a xs ∧ ∀ p, H1 p = none → Q (.ref p) (upd H1 p (.lst xs.reverse))) ∨ (∃ s : List Nat, x = .str ⟨s.toArray⟩ ∧ strG s = true ∧ Q (.str ⟨s.reverse.toArray⟩) H1)) := by
  refine ⟨fun pins s σ H Q I h => ?_⟩
  refine PyProof.Rows.Subscript_ (thn (he.run pins s σ H _ I h) fun v s1 ⟨x, H1, I1, r1, q1⟩ => ?_)
  have hst : PO X (some (.UnaryOp .USub (.Constant (.int 1) k p1) p2)) (tPart (tUn (rU fun i => .int (-i)) (tC (.int 1)))) := po_some (pe_un un_neg pe_int)
  refine wpAny_Slice (thn (po_none.run pins s1 σ H1 (fun o H2 => o = none ∧ H2 = H1) I1 ⟨rfl, rfl⟩) fun vl s2 ⟨l, H2, I2, pl, el, e2⟩ => ?_)
  subst el e2
  refine thn (po_none.run pins s2 σ H2 (fun o H3 => o = none ∧ H3 = H2) I2 ⟨rfl, rfl⟩) fun vu s3 ⟨u, H3, I3, pu, eu, e3⟩ => ?_
  subst eu e3
  refine thn (hst.run pins s3 σ H3 (fun o H4 => o = some (-1) ∧ H4 = H3) I3 ⟨1, rfl, -1, rfl, rfl, rfl⟩) fun vs s4 ⟨o, H4, I4, ps, eo, e4⟩ => ?_
  subst eo e4
  have I5 : Inv X pins σ H4 { s4 with heap := s4.heap.push { cls := .type "slice", data := .fields #[vl, vu, vs] } } := I4.kept (t' := s4.toks) fun b ob q => Heap.get?_push_of_some _ q
  rcases q1 with ⟨a, xs, rfl, hx, q⟩ | ⟨z, rfl, g, q⟩
  · cases r1
    obtain ⟨its, r, ht, hz⟩ := I5.list hx
    have hlen := r.length
    show wpAny (model X.prog X.w) X.A (PyProof.Rows.subscriptTail e (.Slice none none (some (.UnaryOp .USub (.Constant (.int 1) k p1) p2)) p3) (.ref a) (.ref s4.heap.objs.size)) (EP X pins σ Q) X.xe { s4 with heap := s4.heap.push { cls := .type "slice", data := .fields #[vl, vu, vs] } }
    refine PyProof.Rows.tail_any (ops := [.ref a, .ref s4.heap.objs.size]) ht.isList.typeIs (PySem.slot_list_getitem.lookup) ?_ (by with_unfolding_all rfl)
    refine wpAny_getItem_list_slice ht.isList (Heap.IsSliceOf.new _ vl vu vs) pl pu ps (by decide) ?_ (by rw [List.size_toArray]; omega)
    rw [PySem.W.krv_pick]
    refine ⟨.ref _, _, I5.laid (t' := s4.toks) (o := .lst xs.reverse) (fun b ob q => Heap.get?_push_of_some _ q) (Nat.le_refl _) ?_, rfl, q _ (I5.hok.fresh (Nat.le_refl _))⟩
    exact ⟨by rw [List.length_reverse]; exact hz, _, 0, r.reverse, Heap.get?_push_size _ rfl⟩
  · obtain ⟨t, rfl⟩ := r1
    obtain ⟨l, hl1, hl2⟩ := IsPart.raw pl
    obtain ⟨u, hu1, hu2⟩ := IsPart.raw pu
    obtain ⟨ss, hs1, hs2⟩ := IsPart.raw ps
    cases l with
    | some _ => cases hl2
    | none =>
    cases u with
    | some _ => cases hu2
    | none =>
    cases ss with
    | none => cases hs2
    | some ss =>
    obtain ⟨i, tk⟩ := ss
    have hi : i = -1 := by
      have z2 : some i = some (-1 : Int) := hs2
      exact Option.some.inj z2
    subst hi
    show wpAny (model X.prog X.w) X.A (PyProof.Rows.subscriptTail e (.Slice none none (some (.UnaryOp .USub (.Constant (.int 1) k p1) p2)) p3) (.str ⟨z.toArray⟩ t) (.ref s4.heap.objs.size)) (EP X pins σ Q) X.xe { s4 with heap := s4.heap.push { cls := .type "slice", data := .fields #[vl, vu, vs] } }
    refine PyProof.Rows.tail_any (ops := [.str ⟨z.toArray⟩ t, .ref s4.heap.objs.size]) (typeIs_str _ _ _) F.slot_str_getitem.lookup ?_ (by with_unfolding_all rfl)
    obtain ⟨os, hos, hcs, hds⟩ := Heap.IsSliceOf.new s4.heap vl vu vs
    rw [hl1, hu1, hs1] at hds
    refine wpAny_getItem_str_slice (l := none) (u := none) (st := some (-1, tk)) ⟨os, hos, hcs, hds⟩ rfl ?_
    unfold sliceMade slicePicked
    rw [if_neg (by simp)]
    have e9 : ((Builtin.Str.strSliceIndices (Option.map (·.1) (none : Option (Int × Tok))) (Option.map (·.1) (none : Option (Int × Tok))) ((Option.map (·.1) (some ((-1 : Int), tk))).getD 1) (⟨z.toArray⟩ : Str).length).filterMap ((⟨z.toArray⟩ : Str).cps[·]?)).toArray = z.reverse.toArray := by
      rw [str_len]
      exact rev_pick z
    rw [e9]
    refine ⟨?_, .str _, H4, I5.tok _, ⟨_, rfl⟩, q⟩
    show (⟨z.reverse.toArray⟩ : Str).length ≤ sizeLine
    have g2 := strG_len g
    rw [str_len] at g2 ⊢
    rw [List.length_reverse]
    exact g2
end
end Mi

/-! Mi: lists of values at hand, promises of defs, contexts -/
namespace Mi
open PySem PySem.Spec L2

/-- it is d, and stays so -/
def Fz (ρ : Rho) (p : Pl) (d : D) : Prop := p.get ρ = some d ∧ ∀ i, p = .at i → ρ[i]? = some (.sh d)
theorem Fz.live {ρ ρ' : Rho} {p : Pl} {d : D} (h : Fz ρ p d) (l : Live ρ ρ') : Fz ρ' p d := by
  obtain ⟨h1, h2⟩ := h
  cases p with
  | sh e => exact ⟨h1, fun i e => by cases e⟩
  | ow e => exact ⟨h1, fun i e => by cases e⟩
  | «at» i =>
    have q := l.2.1 i d (h2 i rfl)
    refine ⟨?_, fun j e => by cases e; exact q⟩
    unfold Pl.get
    dsimp only
    rw [q]
theorem frz_live {ρ ρ' : Rho} {p : Pl} {d : D} (h : p.frz ρ = some (d, ρ')) : Live ρ ρ' ∧ (∀ σ a, Owned ρ' σ a → Owned ρ σ a) ∧ Fz ρ' p d := by
  cases p with
  | sh e => cases h; exact ⟨Live.refl, fun _ _ q => q, rfl, fun i e => by cases e⟩
  | ow e => cases h; exact ⟨Live.refl, fun _ _ q => q, rfl, fun i e => by cases e⟩
  | «at» i =>
    unfold Pl.frz at h
    dsimp only at h
    cases e : ρ[i]? with
    | none => rw [e] at h; cases h
    | some s =>
      rw [e] at h
      cases s with
      | un => cases h
      | sh d' =>
        cases h
        refine ⟨Live.refl, fun _ _ q => q, ?_, fun j z => by cases z; exact e⟩
        unfold Pl.get
        dsimp only
        rw [e]
      | ow p d' =>
        cases p with
        | true => cases h
        | false =>
          cases h
          have hi : i < ρ.length := (List.getElem?_eq_some_iff.mp e).1
          refine ⟨⟨by rw [List.length_set], fun j d2 e2 => ?_, fun j p d2 e2 => ?_⟩, fun σ a ⟨j, p, d2, e2, e3⟩ => ?_, ?_, fun j z => by cases z; exact List.getElem?_set_self hi⟩
          · have hj : j ≠ i := fun z => by subst z; rw [e] at e2; cases e2
            rw [List.getElem?_set_ne (Ne.symm hj)]; exact e2
          · by_cases hj : j = i
            · subst hj; rw [e] at e2; cases e2
              exact ⟨_, .inl (List.getElem?_set_self hi)⟩
            · exact ⟨d2, .inr (by rw [List.getElem?_set_ne (Ne.symm hj)]; exact e2)⟩
          · by_cases hj : j = i
            · subst hj; rw [List.getElem?_set_self hi] at e2; cases e2
            · rw [List.getElem?_set_ne (Ne.symm hj)] at e2
              exact ⟨j, p, d2, e2, e3⟩
          · unfold Pl.get
            dsimp only
            rw [List.getElem?_set_self hi]

/-- several values at hand, the new lists among them apart -/
inductive RpBs (K : PySem.W.Frag) (b : Bs) (ρ : Rho) (H HF : Hp) : List V → List Pl → Prop
  | nil : RpBs K b ρ H HF [] []
  | cons {v : V} {vs : List V} {p : Pl} {ps : List Pl} : RpB K b ρ H HF v p → (∀ d, p = .ow d → ∀ w e, (w, Pl.ow e) ∈ vs.zip ps → w ≠ v) → RpBs K b ρ H HF vs ps → RpBs K b ρ H HF (v :: vs) (p :: ps)

section
variable {K : PySem.W.Frag} {b : Bs} {ρ ρ' : Rho} {H HF H' HF' : Hp}
theorem RpBs.length {vs : List V} {ps : List Pl} (h : RpBs K b ρ H HF vs ps) : vs.length = ps.length := by
  induction h with
  | nil => rfl
  | cons _ _ _ ih => simp [ih]
theorem RpBs.step {vs : List V} {ps : List Pl} (h : RpBs K b ρ H HF vs ps) (s : StE K ρ b.σ H HF ρ' H' HF') : RpBs K b ρ' H' HF' vs ps := by
  induction h with
  | nil => exact .nil
  | cons r d _ ih => exact .cons (r.step s) d ih
theorem RpBs.vws {vs : List V} {ps : List Pl} (h : RpBs K b ρ H HF vs ps) (st : StB K b ρ H HF) : ∀ {ds : List D}, getL ρ ps = some ds → Vws K H HF vs ds := by
  induction h with
  | nil => intro ds e; cases e; exact .nil
  | @cons v vs p ps r d _ ih =>
    intro ds e
    unfold getL at e
    cases e1 : p.get ρ with
    | none => rw [e1] at e; cases e
    | some x =>
      rw [e1] at e
      simp only [Option.bind_some] at e
      cases e2 : getL ρ ps with
      | none => rw [e2] at e; cases e
      | some xs =>
        rw [e2] at e
        cases e
        exact .cons (r.vw st.rl e1) (ih e2)
theorem RpBs.tail_frz {v : V} {vs : List V} {p : Pl} {ps : List Pl} {d : D} (h : RpBs K b ρ H HF (v :: vs) (p :: ps)) (st : StB K b ρ H HF) (e : p.frz ρ = some (d, ρ')) :
    ∃ HF1, StB K b ρ' H HF1 ∧ Rep K HF1 v d ∧ Same HF HF1 ∧ RpBs K b ρ' H HF1 vs ps ∧ Fz ρ' p d := by
  cases h with
  | cons r dis rest =>
    obtain ⟨HF1, s1, r1, le, nn⟩ := r.frz st e
    obtain ⟨lv, ol, gg⟩ := frz_live e
    refine ⟨HF1, s1, r1, le, ?_, gg⟩
    have ne : ∀ w e', (w, Pl.ow e') ∈ vs.zip ps → ∀ a, w = .ref a → ¬ Owned ρ b.σ a → HF a = none → HF1 a = none := fun w e' hm a ea no hn => by
      exact nn a no (fun x ep z => dis x ep w e' hm (ea.trans z.symm)) hn
    clear nn
    induction rest with
    | nil => exact .nil
    | @cons w ws q qs rq dq hq ih =>
      refine .cons ?_ dq (ih (fun d e w e' hm => dis d e w e' (List.mem_cons_of_mem _ hm)) fun w e' hm => ne w e' (List.mem_cons_of_mem _ hm))
      cases q with
      | sh x => exact Rep.mono le rq
      | ow x =>
        obtain ⟨a, ea, h1, h2, h3, h4⟩ := rq
        exact ⟨a, ea, ne w x (by simp) a ea h2 h1, fun z => h2 (ol _ _ z), h3.mono le rfl, h4⟩
      | «at» j =>
        obtain ⟨h1, sl, h2, h3⟩ := rq
        refine ⟨h1, ?_⟩
        cases sl with
        | un => exact (h3 rfl).elim
        | sh x => exact ⟨_, lv.2.1 j x h2, by intro z; cases z⟩
        | ow pp x =>
          obtain ⟨d', q | q⟩ := lv.2.2 j pp x h2
          · exact ⟨_, q, by intro z; cases z⟩
          · exact ⟨_, q, by intro z; cases z⟩

theorem RpBs.frzL : ∀ {ps : List Pl} {vs : List V} {ρ ρ' : Rho} {HF : Hp} {ds : List D}, RpBs K b ρ H HF vs ps → StB K b ρ H HF → frzL ps ρ = some (ds, ρ') →
    ∃ HF1, StB K b ρ' H HF1 ∧ Reps K HF1 vs ds ∧ Same HF HF1
  | [], _, ρ, _, HF, _, h, st, e => by
    cases h
    cases e
    exact ⟨HF, st, .nil, fun _ _ q => q⟩
  | p :: ps, vs, ρ, ρ', HF, ds, h, st, e => by
    unfold Mi.frzL at e
    cases e1 : p.frz ρ with
    | none => rw [e1] at e; cases e
    | some x =>
      obtain ⟨d, ρ1⟩ := x
      rw [e1] at e
      dsimp only at e
      cases e2 : Mi.frzL ps ρ1 with
      | none => rw [e2] at e; cases e
      | some y =>
        obtain ⟨xs, ρ2⟩ := y
        rw [e2] at e
        cases e
        cases vs with
        | nil => cases h
        | cons v vs =>
          obtain ⟨HF1, s1, r1, l1, h1, _⟩ := h.tail_frz st e1
          obtain ⟨HF2, s2, r2, l2⟩ := RpBs.frzL h1 s1 e2
          exact ⟨HF2, s2, .cons (r1.mono l2) r2, l1.trans l2⟩

/-- arguments that are ready: read ones fast, the others in their slots -/
def ArgZ (K : PySem.W.Frag) (σ : L2.St) (ρ : Rho) (HF : Hp) : List Bool → List V → List Pl → Prop
  | [], [], [] => True
  | false :: ms, v :: vs, p :: ps => (∃ d, Fz ρ p d ∧ Rep K HF v d) ∧ ArgZ K σ ρ HF ms vs ps
  | true :: ms, v :: vs, p :: ps => (∃ i, p = .at i ∧ σ[i]? = some (some v)) ∧ ArgZ K σ ρ HF ms vs ps
  | _, _, _ => False

theorem argF_ok : ∀ {ms : List Bool} {ps : List Pl} {vs : List V} {ρ ρ' : Rho} {HF : Hp}, RpBs K b ρ H HF vs ps → StB K b ρ H HF → argF ms ps ρ = some ρ' →
    ∃ HF1, StB K b ρ' H HF1 ∧ ArgZ K b.σ ρ' HF1 ms vs ps ∧ Same HF HF1 ∧ Live ρ ρ'
  | [], [], vs, ρ, _, HF, h, st, e => by
    cases h
    cases e
    exact ⟨HF, st, True.intro, fun _ _ q => q, Live.refl⟩
  | [], _ :: _, _, _, _, _, _, _, e => by simp [argF] at e
  | true :: _, [], _, _, _, _, _, _, e => by simp [argF] at e
  | false :: _, [], _, _, _, _, _, _, e => by simp [argF] at e
  | false :: ms, p :: ps, vs, ρ, ρ', HF, h, st, e => by
    unfold argF at e
    cases e1 : p.frz ρ with
    | none => rw [e1] at e; cases e
    | some x =>
      obtain ⟨d, ρ1⟩ := x
      rw [e1] at e
      dsimp only at e
      cases vs with
      | nil => cases h
      | cons v vs =>
        obtain ⟨HF1, s1, r1, l1, h1, g1⟩ := h.tail_frz st e1
        obtain ⟨HF2, s2, z2, l2, v2⟩ := argF_ok h1 s1 e
        exact ⟨HF2, s2, ⟨⟨d, g1.live v2, r1.mono l2⟩, z2⟩, l1.trans l2, (frz_live e1).1.trans v2⟩
  | true :: ms, p :: ps, vs, ρ, ρ', HF, h, st, e => by
    cases p with
    | sh d => simp [argF] at e
    | ow d => simp [argF] at e
    | «at» i =>
      unfold argF at e
      cases h with
      | cons r _ rest =>
        obtain ⟨HF2, s2, z2, l2, v2⟩ := argF_ok rest st e
        exact ⟨HF2, s2, ⟨⟨i, rfl, r.1⟩, z2⟩, l2, v2⟩

/-! ### promises -/
def ArgsOk (K : PySem.W.Frag) (H HF : Hp) : List Bool → List V → List D → Prop
  | [], [], [] => True
  | false :: ms, v :: vs, d :: ds => Rep K HF v d ∧ ArgsOk K H HF ms vs ds
  | true :: ms, v :: vs, d :: ds => (∃ a, v = .ref a ∧ HF a = none ∧ Own K H HF a d) ∧ ArgsOk K H HF ms vs ds
  | _, _, _ => False
def ioA : List Bool → List V → List Addr
  | true :: ms, .ref a :: vs => a :: ioA ms vs
  | _ :: ms, _ :: vs => ioA ms vs
  | _, _ => []
def OutsOk (K : PySem.W.Frag) (H HF : Hp) : List Bool → List V → List D → Prop
  | [], [], [] => True
  | false :: ms, _ :: vs, _ :: ds => OutsOk K H HF ms vs ds
  | true :: ms, v :: vs, d :: ds => (∃ a, v = .ref a ∧ HF a = none ∧ Own K H HF a d) ∧ OutsOk K H HF ms vs ds
  | _, _, _ => False
structure CStp (H HF H' HF' : Hp) (io : List Addr) : Prop where
  le : Same HF HF'
  sub : Same HF' H'
  fr : ∀ a o, H a = some o → a ∉ io → H' a = some o
  fsh : ∀ a o, HF' a = some o → HF a = some o ∨ H a = none
  dom : ∀ a, H' a = none → H a = none
def PostC (K : PySem.W.Frag) (XC : Nat → Value) (ms : List Bool) (vs : List V) (H HF : Hp) (r : CR) (Q : VK) (E : XK) : Prop :=
  match r with
  | .ok own d os => ∀ v H' HF', CStp H HF H' HF' (ioA ms vs) → OutsOk K H' HF' ms vs os →
      (if own = true then ∃ a, v = .ref a ∧ HF' a = none ∧ H a = none ∧ Own K H' HF' a d else Rep K HF' v d) → Q v H'
  | .ex c os => ∀ H' HF', CStp H HF H' HF' (ioA ms vs) → OutsOk K H' HF' ms vs os → E (XC c) none H'
  | .bad => False
def spF (K : PySem.W.Frag) (XC : Nat → Value) (ms : List Bool) (F : List D → CR) : Sp := fun vs H Q E =>
  ∃ HF ds, Same HF H ∧ ArgsOk K H HF ms vs ds ∧ (ioA ms vs).Nodup ∧ vs.length = ms.length ∧ PostC K XC ms vs H HF (F ds) Q E

/-! ### behind a call -/
theorem setD_get {ρ : Rho} {i j : Nat} {d : D} : (setD ρ i d)[j]? = if j = i then (match ρ[i]? with | some (.ow p _) => some (.ow p d) | s => s) else ρ[j]? := by
  unfold setD
  cases e : ρ[i]? with
  | none =>
    by_cases h : j = i
    · subst h; rw [if_pos rfl]; exact e
    · rw [if_neg h]
  | some s =>
    have hi := (List.getElem?_eq_some_iff.mp e).1
    cases s with
    | un =>
      by_cases h : j = i
      · subst h; rw [if_pos rfl]; exact e
      · rw [if_neg h]
    | sh x =>
      by_cases h : j = i
      · subst h; rw [if_pos rfl]; exact e
      · rw [if_neg h]
    | ow p x =>
      by_cases h : j = i
      · subst h
        rw [if_pos rfl]
        exact List.getElem?_set_self hi
      · rw [if_neg h]
        exact List.getElem?_set_ne (Ne.symm h)
theorem setD_len {ρ : Rho} {i : Nat} {d : D} : (setD ρ i d).length = ρ.length := by
  unfold setD
  split
  · rw [List.length_set]
  · rfl
theorem setD_ow {ρ : Rho} {i j : Nat} {d : D} {p : Bool} {x : D} (h : ρ[j]? = some (.ow p x)) : ∃ y, (setD ρ i d)[j]? = some (.ow p y) := by
  rw [setD_get]
  by_cases e : j = i
  · subst e; rw [if_pos rfl, h]; exact ⟨d, rfl⟩
  · rw [if_neg e]; exact ⟨x, h⟩
theorem setD_not {ρ : Rho} {i j : Nat} {d : D} (h : ∀ p x, ρ[j]? ≠ some (.ow p x)) : (setD ρ i d)[j]? = ρ[j]? := by
  rw [setD_get]
  by_cases e : j = i
  · subst e
    rw [if_pos rfl]
    cases q : ρ[j]? with
    | none => rfl
    | some s =>
      cases s with
      | ow p x => exact absurd q (h p x)
      | _ => rfl
  · rw [if_neg e]
theorem setD_back {ρ : Rho} {i j : Nat} {d : D} {p : Bool} {x : D} (h : (setD ρ i d)[j]? = some (.ow p x)) : ∃ y, ρ[j]? = some (.ow p y) := by
  rw [setD_get] at h
  by_cases e : j = i
  · subst e
    rw [if_pos rfl] at h
    cases q : ρ[j]? with
    | none => rw [q] at h; cases h
    | some s =>
      rw [q] at h
      cases s with
      | ow p' x' => cases h; exact ⟨x', rfl⟩
      | sh y => cases h
      | un => cases h
  · rw [if_neg e] at h; exact ⟨x, h⟩
theorem outs_len : ∀ {ms : List Bool} {ps : List Pl} {os : List D} {ρ : Rho}, (outs ms ps os ρ).length = ρ.length
  | [], _, _, _ => by simp [outs]
  | true :: ms, [], _, _ => by simp [outs]
  | false :: ms, [], _, _ => by simp [outs]
  | true :: ms, .at i :: ps, [], _ => by simp [outs]
  | true :: ms, .sh _ :: ps, [], _ => by simp [outs]
  | true :: ms, .ow _ :: ps, [], _ => by simp [outs]
  | false :: ms, _ :: ps, [], _ => by simp [outs]
  | true :: ms, .at i :: ps, d :: os, ρ => by simp only [outs]; rw [outs_len, setD_len]
  | true :: ms, .sh _ :: ps, d :: os, ρ => by simp only [outs]; rw [outs_len]
  | true :: ms, .ow _ :: ps, d :: os, ρ => by simp only [outs]; rw [outs_len]
  | false :: ms, _ :: ps, d :: os, ρ => by simp only [outs]; rw [outs_len]
theorem outs_ow : ∀ {ms : List Bool} {ps : List Pl} {os : List D} {ρ : Rho} {j : Nat} {p : Bool} {x : D}, ρ[j]? = some (.ow p x) → ∃ y, (outs ms ps os ρ)[j]? = some (.ow p y)
  | [], _, _, _, _, _, x, h => by simp only [outs]; exact ⟨x, h⟩
  | true :: ms, [], _, _, _, _, x, h => by simp only [outs]; exact ⟨x, h⟩
  | false :: ms, [], _, _, _, _, x, h => by simp only [outs]; exact ⟨x, h⟩
  | true :: ms, .at i :: ps, [], _, _, _, x, h => by simp only [outs]; exact ⟨x, h⟩
  | true :: ms, .sh _ :: ps, [], _, _, _, x, h => by simp only [outs]; exact ⟨x, h⟩
  | true :: ms, .ow _ :: ps, [], _, _, _, x, h => by simp only [outs]; exact ⟨x, h⟩
  | false :: ms, _ :: ps, [], _, _, _, x, h => by simp only [outs]; exact ⟨x, h⟩
  | true :: ms, .at i :: ps, d :: os, ρ, _, _, x, h => by
    simp only [outs]
    obtain ⟨y, hy⟩ := setD_ow (i := i) (d := d) h
    exact outs_ow hy
  | true :: ms, .sh _ :: ps, d :: os, ρ, _, _, x, h => by simp only [outs]; exact outs_ow h
  | true :: ms, .ow _ :: ps, d :: os, ρ, _, _, x, h => by simp only [outs]; exact outs_ow h
  | false :: ms, _ :: ps, d :: os, ρ, _, _, x, h => by simp only [outs]; exact outs_ow h
theorem outs_not : ∀ {ms : List Bool} {ps : List Pl} {os : List D} {ρ : Rho} {j : Nat}, (∀ p x, ρ[j]? ≠ some (.ow p x)) → (outs ms ps os ρ)[j]? = ρ[j]?
  | [], _, _, _, _, h => by simp only [outs]
  | true :: ms, [], _, _, _, h => by simp only [outs]
  | false :: ms, [], _, _, _, h => by simp only [outs]
  | true :: ms, .at i :: ps, [], _, _, h => by simp only [outs]
  | true :: ms, .sh _ :: ps, [], _, _, h => by simp only [outs]
  | true :: ms, .ow _ :: ps, [], _, _, h => by simp only [outs]
  | false :: ms, _ :: ps, [], _, _, h => by simp only [outs]
  | true :: ms, .at i :: ps, d :: os, ρ, _, h => by
    simp only [outs]
    have q := setD_not (i := i) (d := d) h
    rw [outs_not (by rw [q]; exact h), q]
  | true :: ms, .sh _ :: ps, d :: os, ρ, _, h => by simp only [outs]; exact outs_not h
  | true :: ms, .ow _ :: ps, d :: os, ρ, _, h => by simp only [outs]; exact outs_not h
  | false :: ms, _ :: ps, d :: os, ρ, _, h => by simp only [outs]; exact outs_not h
theorem outs_off : ∀ {ms : List Bool} {ps : List Pl} {os : List D} {ρ : Rho} {j : Nat}, j ∉ ios ms ps → (outs ms ps os ρ)[j]? = ρ[j]?
  | [], _, _, _, _, h => by simp only [outs]
  | true :: ms, [], _, _, _, h => by simp only [outs]
  | false :: ms, [], _, _, _, h => by simp only [outs]
  | true :: ms, .at i :: ps, [], _, _, h => by simp only [outs]
  | true :: ms, .sh _ :: ps, [], _, _, h => by simp only [outs]
  | true :: ms, .ow _ :: ps, [], _, _, h => by simp only [outs]
  | false :: ms, _ :: ps, [], _, _, h => by simp only [outs]
  | true :: ms, .at i :: ps, d :: os, ρ, j, h => by
    simp only [ios, List.mem_cons, not_or] at h
    simp only [outs]
    rw [outs_off h.2, setD_get, if_neg h.1]
  | true :: ms, .sh _ :: ps, d :: os, ρ, _, h => by simp only [outs]; simp only [ios] at h; exact outs_off h
  | true :: ms, .ow _ :: ps, d :: os, ρ, _, h => by simp only [outs]; simp only [ios] at h; exact outs_off h
  | false :: ms, _ :: ps, d :: os, ρ, _, h => by simp only [outs]; simp only [ios] at h; exact outs_off h
theorem outs_back {ms : List Bool} {ps : List Pl} {os : List D} {ρ : Rho} {j : Nat} {p : Bool} {x : D} (h : (outs ms ps os ρ)[j]? = some (.ow p x)) : ∃ y, ρ[j]? = some (.ow p y) := by
  cases e : ρ[j]? with
  | none =>
    rw [outs_not (by rw [e]; intro _ _ z; cases z), e] at h; cases h
  | some s =>
    cases s with
    | ow p' x' =>
      obtain ⟨y, hy⟩ := outs_ow (ms := ms) (ps := ps) (os := os) e
      rw [h] at hy; cases hy
      exact ⟨x', rfl⟩
    | un => rw [outs_not (by rw [e]; intro _ _ z; cases z), e] at h; cases h
    | sh y => rw [outs_not (by rw [e]; intro _ _ z; cases z), e] at h; cases h
theorem outs_at {σ : L2.St} : ∀ {ms : List Bool} {ps : List Pl} {vs : List V} {os : List D} {ρ ρz : Rho} {HFz : Hp} {j : Nat} {p : Bool} {x : D}, ArgZ K σ ρz HFz ms vs ps → OutsOk K H' HF' ms vs os → (ios ms ps).Nodup →
    j ∈ ios ms ps → (outs ms ps os ρ)[j]? = some (.ow p x) → ∃ a, σ[j]? = some (some (.ref a)) ∧ HF' a = none ∧ Own K H' HF' a x
  | [], _, _, _, _, _, _, _, _, _, _, _, _, hm, _ => by simp [ios] at hm
  | m :: ms, [], _, _, _, _, _, _, _, _, _, _, _, hm, _ => by cases m <;> simp [ios] at hm
  | m :: ms, q :: ps, [], _, _, _, _, _, _, _, z, _, _, _, _ => by cases m <;> exact z.elim
  | m :: ms, q :: ps, v :: vs, [], _, _, _, _, _, _, _, o, _, _, _ => by cases m <;> exact o.elim
  | false :: ms, q :: ps, v :: vs, d :: os, ρ, ρz, HFz, j, p, x, z, o, nd, hm, h => by
    simp only [outs] at h
    simp only [ios] at hm nd
    exact outs_at z.2 o nd hm h
  | true :: ms, q :: ps, v :: vs, d :: os, ρ, ρz, HFz, j, p, x, z, o, nd, hm, h => by
    obtain ⟨⟨i, rfl, hi⟩, z2⟩ := z
    obtain ⟨⟨a, rfl, ha, ho⟩, o2⟩ := o
    simp only [ios, List.nodup_cons] at nd
    simp only [outs] at h
    by_cases hj : j = i
    · subst hj
      rw [outs_off nd.1, setD_get, if_pos rfl] at h
      refine ⟨a, hi, ha, ?_⟩
      cases e : ρ[j]? with
      | none => rw [e] at h; cases h
      | some s =>
        rw [e] at h
        cases s with
        | ow p' x' => cases h; exact ho
        | un => cases h
        | sh y => cases h
    · have hm2 : j ∈ ios ms ps := by
        simp only [ios, List.mem_cons] at hm
        exact hm.resolve_left hj
      exact outs_at z2 o2 nd.2 hm2 h
/-- the slots' addresses -/
theorem io_slots {σ : L2.St} : ∀ {ms : List Bool} {ps : List Pl} {vs : List V} {ρ : Rho} {HF : Hp} {a : Addr}, ArgZ K σ ρ HF ms vs ps → a ∈ ioA ms vs → ∃ i, i ∈ ios ms ps ∧ σ[i]? = some (some (.ref a))
  | [], [], [], _, _, _, _, h => by simp [ioA] at h
  | [], _ :: _, _, _, _, _, z, _ => by cases ‹List V› <;> exact z.elim
  | [], [], _ :: _, _, _, _, z, _ => z.elim
  | m :: ms, [], vs, _, _, _, z, _ => by cases m <;> cases vs <;> exact z.elim
  | m :: ms, _ :: _, [], _, _, _, z, _ => by cases m <;> exact z.elim
  | false :: ms, p :: ps, v :: vs, ρ, HF, a, z, h => by
    have h' : a ∈ ioA ms vs := by cases v <;> exact h
    obtain ⟨i, h1, h2⟩ := io_slots z.2 h'
    exact ⟨i, by simp only [ios]; exact h1, h2⟩
  | true :: ms, p :: ps, v :: vs, ρ, HF, a, z, h => by
    obtain ⟨⟨i, rfl, hi⟩, z2⟩ := z
    cases v with
    | ref c =>
      simp only [ioA, List.mem_cons] at h
      rcases h with rfl | h
      · exact ⟨i, by simp [ios], hi⟩
      · obtain ⟨j, h1, h2⟩ := io_slots z2 h
        exact ⟨j, by simp only [ios, List.mem_cons]; exact .inr h1, h2⟩
    | _ =>
      obtain ⟨j, h1, h2⟩ := io_slots z2 h
      exact ⟨j, by simp only [ios, List.mem_cons]; exact .inr h1, h2⟩
theorem call_after {ms : List Bool} {ps : List Pl} {vs : List V} {os : List D} (st : StB K b ρ H HF) (z : ArgZ K b.σ ρ HF ms vs ps) (io : (ios ms ps).all (isOw ρ) = true) (nd : (ios ms ps).Nodup)
    (c : CStp H HF H' HF' (ioA ms vs)) (o : OutsOk K H' HF' ms vs os) : StB K b (outs ms ps os ρ) H' HF' := by
  have slot : ∀ a, a ∈ ioA ms vs → Owned ρ b.σ a := fun a ha => by
    obtain ⟨i, h1, h2⟩ := io_slots z ha
    have q := List.all_eq_true.mp io i h1
    unfold isOw at q
    split at q
    · rename_i p d e
      exact ⟨i, p, d, e, h2⟩
    · cases q
  have ownB : ∀ a, Owned (outs ms ps os ρ) b.σ a → Owned ρ b.σ a := fun a ⟨i, p, d, e1, e2⟩ => by
    obtain ⟨y, hy⟩ := outs_back e1
    exact ⟨i, p, y, hy, e2⟩
  refine ⟨⟨st.le.trans c.le, ⟨c.sub, by rw [outs_len]; exact st.rl.len, fun i d e => ?_, fun i p d e => ?_, fun i j p q d e a x y => ?_⟩, fun a u e n => ?_, fun a u e => ?_, fun a q => st.own a (ownB a q), fun a e => st.dom a (c.dom a e), fun i d e => ?_, fun i d e => ?_⟩, st.lv.trans ⟨outs_len, fun i d e => ?_, fun i p d e => ?_⟩⟩
  · cases q : ρ[i]? with
    | none => rw [outs_not (by rw [q]; intro _ _ z; cases z), q] at e; cases e
    | some s =>
      cases s with
      | ow p' x' => obtain ⟨y, hy⟩ := outs_ow (ms := ms) (ps := ps) (os := os) q; rw [e] at hy; cases hy
      | un => rw [outs_not (by rw [q]; intro _ _ z; cases z), q] at e; cases e
      | sh y =>
        rw [outs_not (by rw [q]; intro _ _ z; cases z), q] at e; cases e
        obtain ⟨v, h1, h2⟩ := st.rl.sh i _ q
        exact ⟨v, h1, h2.mono c.le⟩
  · by_cases hi : i ∈ ios ms ps
    · exact outs_at z o nd hi e
    · rw [outs_off hi] at e
      obtain ⟨a, h1, h2, h3⟩ := st.rl.ow i p d e
      obtain ⟨u, hu⟩ := h3.some
      have na : a ∉ ioA ms vs := fun ha => by
        obtain ⟨j, hj, h4⟩ := io_slots z ha
        have q := List.all_eq_true.mp io j hj
        unfold isOw at q
        split at q
        · rename_i p' d' e'
          have := st.rl.dis i j p p' d d' a ⟨e, h1⟩ ⟨e', h4⟩
          subst this
          exact hi hj
        · cases q
      refine ⟨a, h1, ?_, h3.mono c.le ?_⟩
      · cases q : HF' a with
        | none => rfl
        | some w =>
          rcases c.fsh a w q with q | q
          · rw [h2] at q; cases q
          · rw [hu] at q; cases q
      · rw [hu]; exact c.fr a u hu na
  · obtain ⟨d', x1⟩ := outs_back x.1
    obtain ⟨e', y1⟩ := outs_back y.1
    exact st.rl.dis i j p q d' e' a ⟨x1, x.2⟩ ⟨y1, y.2⟩
  · refine c.fr a u (st.fr a u e n) fun ha => ?_
    rcases st.own a (slot a ha) with q | q
    · exact n q
    · rw [e] at q; cases q
  · rcases c.fsh a u e with q | q
    · exact st.fsh a u q
    · exact .inr (.inl (st.dom a q))
  · obtain ⟨⟨d', h1⟩, h2⟩ := st.par i d e
    obtain ⟨y, hy⟩ := outs_ow (ms := ms) (ps := ps) (os := os) h1
    exact ⟨⟨y, hy⟩, h2⟩
  · obtain ⟨y, hy⟩ := outs_back e
    exact st.par' i y hy
  · rw [outs_not (by rw [e]; intro _ _ z; cases z)]; exact e
  · obtain ⟨y, hy⟩ := outs_ow (ms := ms) (ps := ps) (os := os) e
    exact ⟨y, .inr hy⟩
end
end Mi

/-! Mi: contexts; what an expression's small piece says of it -/
namespace Mi
open PySem PySem.Spec L2

structure Lib (X : Cx) (XC : Nat → Value) (g : G) (c : SC) : Prop where
  room : ∃ k, Room k X.A ∧ ∀ (f : Nat) (x : Str), c.fns[f]? = some x → ∃ fa fd ps, X.mg x = some (.ref fa) ∧ PySem.W.keepIn X.K (.ref fa) = true ∧ Binds X.K fd ps [] ∧
    FnOk X.prog X.w X.K X.mg X.base (L2.CX X.prog X.w) k fa fd ps (spF X.K XC (g.md f) (g.C f))
  bl : ∀ x, c.blt.contains x = true → X.mg x = none
  cn : ∀ x d, c.con.lookup x = some d → ∃ u v, X.mg x = some u ∧ RelV v u ∧ ∀ H, Rep X.K H v d
structure Good (X : Cx) (c : SC) : Prop where
  N : X.N = c.N
  nd : X.N.Nodup
  calm : X.calm = true
  sc : X.env.scope = c.sc
  fn : ∀ x, fnOk c x = true → X.fn x = true
  hp : PassesOwn (model X.prog X.w) X.A X.env X.xe

def JE (X : Cx) (XC : Nat → Value) (g : G) (m : E) (e : Expr) : Prop :=
  ∀ (b : Bs) (W : WX) (Q : VK), Takes X W → Rl X.K b.ρ b.σ b.H b.HF → Post X.K XC b W (evE g m b.ρ) (fun pl ρ H HF => ∀ v, RpB X.K b ρ H HF v pl → Q v H) → SemE X e b.σ b.H Q
def JT (X : Cx) (XC : Nat → Value) (g : G) (m : E) (e : Expr) : Prop :=
  ∀ (b : Bs) (W : WX) (Q : Bool → Hp → Prop), Takes X W → Rl X.K b.ρ b.σ b.H b.HF → Post X.K XC b W (evT g m b.ρ) (fun k ρ H HF => Q k H) → SemT X e b.σ b.H Q
def JA (X : Cx) (XC : Nat → Value) (g : G) (m : Es) (es : List Expr) : Prop :=
  ∀ (b : Bs) (W : WX) (Q : List V → Hp → Prop), Takes X W → Rl X.K b.ρ b.σ b.H b.HF → Post X.K XC b W (evEs g m b.ρ) (fun ps ρ H HF => ∀ vs, RpBs X.K b ρ H HF vs ps → vs.length = m.len → Q vs H) → SemA X es b.σ b.H Q

section
variable {X : Cx} {XC : Nat → Value} {g : G} {c : SC} {b : Bs} {W : WX} {ρ : Rho} {H HF : Hp} {α β : Type}
theorem Post.later {r : R α} {P P' : α → Rho → Hp → Hp → Prop} (h : Post X.K XC b W r P) (st : StB X.K b ρ H HF) (k : ∀ a ρ' H' HF', StE X.K ρ b.σ H HF ρ' H' HF' → P a ρ' H' HF' → P' a ρ' H' HF') : Post X.K XC ⟨ρ, b.σ, H, HF⟩ W r P' := by
  cases r with
  | ok a ρ' => exact fun H' HF' s' => k a ρ' H' HF' s' (h H' HF' (st.trans s'))
  | ex cc ρ' => exact fun H' HF' s' => h H' HF' (st.trans s')
  | bad => exact h
theorem post_bind {r : R α} {f : α → Rho → R β} {P : β → Rho → Hp → Hp → Prop} (h : Post X.K XC b W (r.bind f) P) : Post X.K XC b W r (fun a ρ H HF => Post X.K XC b W (f a ρ) P) := by
  cases r with
  | ok a ρ' => exact fun _ _ _ => h
  | ex cc ρ' => exact h
  | bad => exact h
/-- an expression, then the rest -/
theorem JE.seq {m : E} {e : Expr} (hJ : JE X XC g m e) (tk : Takes X W) (st : StB X.K b ρ H HF) {f : Pl → Rho → R β} {P : β → Rho → Hp → Hp → Prop} {Q : VK} (hP : Post X.K XC b W ((evE g m ρ).bind f) P)
    (k : ∀ pl ρ' v H' HF', StE X.K ρ b.σ H HF ρ' H' HF' → StB X.K b ρ' H' HF' → RpB X.K b ρ' H' HF' v pl → Post X.K XC b W (f pl ρ') P → Q v H') : SemE X e b.σ H Q :=
  hJ ⟨ρ, b.σ, H, HF⟩ W Q tk st.rl ((post_bind hP).later st fun pl ρ' H' HF' s' h v r => k pl ρ' v H' HF' s' (st.trans s') (RepP.base r st) h)
theorem JT.seq {m : E} {e : Expr} (hJ : JT X XC g m e) (tk : Takes X W) (st : StB X.K b ρ H HF) {f : Bool → Rho → R β} {P : β → Rho → Hp → Hp → Prop} {Q : Bool → Hp → Prop} (hP : Post X.K XC b W ((evT g m ρ).bind f) P)
    (k : ∀ t ρ' H' HF', StE X.K ρ b.σ H HF ρ' H' HF' → StB X.K b ρ' H' HF' → Post X.K XC b W (f t ρ') P → Q t H') : SemT X e b.σ H Q :=
  hJ ⟨ρ, b.σ, H, HF⟩ W Q tk st.rl ((post_bind hP).later st fun t ρ' H' HF' s' h => k t ρ' H' HF' s' (st.trans s') h)
/-- the temps of later ones are others -/
theorem RpBs.base {ρ1 ρ2 : Rho} {H1 HF1 H2 HF2 : Hp} {vs : List V} {ps : List Pl} (h : RpBs X.K ⟨ρ1, b.σ, H1, HF1⟩ ρ2 H2 HF2 vs ps) (st : StB X.K b ρ1 H1 HF1) : RpBs X.K b ρ2 H2 HF2 vs ps := by
  induction h with
  | nil => exact .nil
  | cons r d _ ih => exact .cons (RepP.base r st) d ih
theorem RpBs.others {ρ1 ρ2 : Rho} {H1 HF1 H2 HF2 : Hp} {vs : List V} {ps : List Pl} {v : V} {d : D} (h : RpBs X.K ⟨ρ1, b.σ, H1, HF1⟩ ρ2 H2 HF2 vs ps) (r : RpB X.K b ρ1 H1 HF1 v (.ow d)) : ∀ w e, (w, Pl.ow e) ∈ vs.zip ps → w ≠ v := by
  induction h with
  | nil => intro w e hm; simp at hm
  | @cons w0 ws p ps rq _ _ ih =>
    intro w e hm
    rcases List.mem_cons.mp (by simpa using hm : (w, Pl.ow e) ∈ (w0, p) :: ws.zip ps) with q | q
    · cases q
      obtain ⟨a, rfl, _, h2, h3, _⟩ := r
      obtain ⟨a2, rfl, _, _, _, h4⟩ := rq
      intro z
      cases z
      obtain ⟨u, hu⟩ := h3.some
      rcases h4 with z | z
      · have z' : H1 a = none := z
        rw [hu] at z'; cases z'
      · exact h2 z
    · exact ih w e q
theorem JA.seq {m : Es} {es : List Expr} (hJ : JA X XC g m es) (tk : Takes X W) (st : StB X.K b ρ H HF) {f : List Pl → Rho → R β} {P : β → Rho → Hp → Hp → Prop} {Q : List V → Hp → Prop} (hP : Post X.K XC b W ((evEs g m ρ).bind f) P)
    (k : ∀ ps ρ' vs H' HF', StE X.K ρ b.σ H HF ρ' H' HF' → StB X.K b ρ' H' HF' → RpBs X.K b ρ' H' HF' vs ps → vs.length = m.len → (∀ v d, RpB X.K b ρ H HF v (.ow d) → ∀ w e, (w, Pl.ow e) ∈ vs.zip ps → w ≠ v) → Post X.K XC b W (f ps ρ') P → Q vs H') : SemA X es b.σ H Q :=
  hJ ⟨ρ, b.σ, H, HF⟩ W Q tk st.rl ((post_bind hP).later st fun ps ρ' H' HF' s' h vs r hl => k ps ρ' vs H' HF' s' (st.trans s') (r.base st) hl (fun v d rv => r.others rv) h)
theorem rl_st (r : Rl X.K b.ρ b.σ b.H b.HF) : StB X.K b b.ρ b.H b.HF := StE.refl r

/-! ### names -/
theorem kindOf_sc (G : Good X c) (x : Str) : X.env.kindOf x = c.sc.names.lookup x := by
  show X.env.scope.names.lookup x = _
  rw [G.sc]
theorem vis_of (G : Good X c) {x : Str} (h : visB c x = true) : Vis X.env.scope x := by
  unfold visB at h
  unfold Vis
  rw [G.sc]
  split at h
  · exact .inl (by assumption)
  · exact .inr (.inl (by assumption))
  · exact .inr (.inr (by assumption))
  · cases h
theorem loc_of (G : Good X c) {x : Str} (h : locB c x = true) : L2.Loc X.env.scope x ∧ (X.fn x = true ∨ X.env.scope.names.lookup x = some .local) := by
  unfold locB at h
  unfold L2.Loc
  rw [G.sc]
  split at h
  · exact ⟨.inl (by assumption), .inr (by assumption)⟩
  · exact ⟨.inr (by assumption), .inl (G.fn x h)⟩
  · cases h
theorem okNm_of {x : Str} (h : okNm x = true) : (x == ("__debug__" : Str)) = false ∧ (x == ("__classdict__" : Str)) = false ∧ x ≠ "__name__" := by
  unfold okNm at h
  simp only [Bool.and_eq_true, Bool.not_eq_true', beq_eq_false_iff_ne, ne_eq] at h
  refine ⟨by simpa using h.1.1, by simpa using h.1.2, h.2⟩
theorem nm_of (G : Good X c) {i : Nat} {x : Str} (h : nmIs c i x = true) : X.N[i]? = some x ∧ okNm x = true := by
  unfold nmIs at h
  simp only [Bool.and_eq_true, beq_iff_eq] at h
  exact ⟨by rw [G.N]; exact h.1, h.2⟩
theorem gl_of (G : Good X c) {x : Str} (h : glbB c x = true) : Gl X x ∧ okNm x = true := by
  unfold glbB at h
  simp only [Bool.and_eq_true, beq_iff_eq] at h
  refine ⟨?_, h.2⟩
  show X.env.kindOf x = _
  rw [kindOf_sc G]; exact h.1
theorem je_var (G : Good X c) {i : Nat} {e : Expr} (h : chkE c (.var i) e = true) : JE X XC g (.var i) e := by
  intro b W Q tk rl hP
  unfold chkE at h
  split at h
  · rename_i x p
    simp only [Bool.and_eq_true] at h
    obtain ⟨h1, h2⟩ := nm_of G h.1
    obtain ⟨d1, d2, d3⟩ := okNm_of h2
    simp only [evE] at hP
    have fin : ∀ pl v, RpB X.K b b.ρ b.H b.HF v pl → b.σ[i]? = some (some v) → Post X.K XC b W (.ok pl b.ρ) (fun pl ρ H HF => ∀ v, RpB X.K b ρ H HF v pl → Q v H) → SemE X (.Name x p) b.σ b.H Q := fun pl v r hv hP =>
      sem_pe (pe_var h1 (vis_of G h.2) d1 d2) ⟨v, hv, hP b.H b.HF (rl_st rl) v r⟩
    cases hs : b.ρ[i]? with
    | none => rw [hs] at hP; exact hP.elim
    | some s =>
      rw [hs] at hP
      cases s with
      | un => exact hP.elim
      | sh d =>
        obtain ⟨v, hv, hr⟩ := rl.sh i d hs
        exact fin (.sh d) v hr hv hP
      | ow q d =>
        obtain ⟨a, ha, _, _⟩ := rl.ow i q d hs
        exact fin (.at i) (.ref a) ⟨ha, _, hs, by intro z; cases z⟩ ha hP
  · cases h

mutual
theorem conB_eq : ∀ {d e : D}, conB d e = true → d = e
  | .non, .non, _ => rfl
  | .bl a, .bl b, h => by simp [conB] at h; rw [h]
  | .int a, .int b, h => by simp [conB] at h; rw [h]
  | .str a, .str b, h => by simp [conB] at h; rw [h]
  | .tup a, .tup b, h => by
    simp only [conB] at h
    rw [conBs_eq h]
theorem conBs_eq : ∀ {d e : List D}, conBs d e = true → d = e
  | [], [], _ => rfl
  | x :: xs, y :: ys, h => by
    simp only [conBs, Bool.and_eq_true] at h
    rw [conB_eq h.1, conBs_eq h.2]
end
theorem je_con (G : Good X c) (L : Lib X XC g c) {d : D} {e : Expr} (h : chkE c (.con d) e = true) : JE X XC g (.con d) e := by
  intro b W Q tk rl hP
  unfold chkE at h
  simp only [evE] at hP
  have fin : ∀ v, Rep X.K b.HF v d → Q v b.H := fun v r => hP b.H b.HF (rl_st rl) v r
  split at h
  · rename_i k j p
    unfold constB at h
    split at h
    · exact sem_pe pe_non (fin _ .non)
    · rw [eq_of_beq h] at fin
      exact sem_pe pe_bl (fin _ (.bl _))
    · rw [eq_of_beq h] at fin
      exact sem_pe pe_int (fin _ (.int _))
    · rename_i s t
      simp only [Bool.and_eq_true, beq_iff_eq] at h
      have e : (⟨s.toArray⟩ : Str) = t := by
        rw [h.2]
      refine sem_pe pe_str ?_
      rw [← e]
      exact fin _ (.str h.1)
    · cases h
  · rename_i x p
    simp only [Bool.and_eq_true] at h
    obtain ⟨h1, h2⟩ := gl_of G h.1
    obtain ⟨d1, _, _⟩ := okNm_of h2
    unfold conIs at h
    split at h
    · rename_i e he
      obtain ⟨u, v, q1, q2, q3⟩ := L.cn x e he
      have := conB_eq h.2
      subst this
      exact sem_pe (pe_glob h1 q1 q2 d1) (fin v (q3 _))
    · cases h.2
  · cases h

theorem JE.run {m : E} {e : Expr} (hJ : JE X XC g m e) (tk : Takes X W) (st : StB X.K b ρ H HF) {Q : VK} (hP : Post X.K XC b W (evE g m ρ) (fun pl ρ H HF => ∀ v, RpB X.K b ρ H HF v pl → Q v H)) : SemE X e b.σ H Q :=
  hJ ⟨ρ, b.σ, H, HF⟩ W Q tk st.rl (hP.later st fun pl ρ' H' HF' s' h v r => h v (RepP.base r st))
theorem JT.run {m : E} {e : Expr} (hJ : JT X XC g m e) (tk : Takes X W) (st : StB X.K b ρ H HF) {Q : Bool → Hp → Prop} (hP : Post X.K XC b W (evT g m ρ) (fun k ρ H HF => Q k H)) : SemT X e b.σ H Q :=
  hJ ⟨ρ, b.σ, H, HF⟩ W Q tk st.rl (hP.later st fun k ρ' H' HF' s' h => h)
theorem bind_assoc {γ : Type} {r : R α} {f : α → Rho → R β} {k : β → Rho → R γ} : (r.bind f).bind k = r.bind fun a ρ => (f a ρ).bind k := by cases r <;> rfl
/-- a test of a value -/
theorem jt_of {m : E} {e : Expr} (hJ : JE X XC g m e) (he : ∀ whole, isTrue e X.env whole = (do let v ← whole; standAt e.pos; holding [v] (truthy v))) : JT X XC g m e := by
  intro b W Q tk rl hP
  refine sem_pt (pt_truth pe_sem he) (hJ.seq tk (rl_st rl) hP fun pl ρ' v H' HF' s st r hP' => ?_)
  obtain ⟨x, k, gx, t, hP2⟩ := post_tru' hP'
  exact ⟨k, tru_vw st.rl.sub (r.vw st.rl gx) t, hP2 H' HF' st⟩
theorem je_bin {o : BOp} {op : Operator} {a b' : E} {x y : Expr} {p : Pos} (ho : bopB o op = true) (ja : JE X XC g a x) (jb : JE X XC g b' y) : JE X XC g (.bin o a b') (.BinOp x op y p) := by
  intro b W Q tk rl hP
  simp only [evE] at hP
  refine sem_pe (pe_op op_sem pe_sem pe_sem) (ja.seq tk (rl_st rl) hP fun p1 ρ1 v H1 HF1 s1 st1 r1 hP1 => jb.seq tk st1 hP1 fun q ρ2 w H2 HF2 s2 st2 r2 hP2 => ?_)
  obtain ⟨dx, dy, o', gx, gy, e, hP3⟩ := post_get2 hP2
  exact bin_ok ho e st2 ((r1.step s2).vw st2.rl gx) (r2.vw st2.rl gy) (want_of hP3)
theorem je_neg {a : E} {x : Expr} {p : Pos} (ja : JE X XC g a x) : JE X XC g (.neg a) (.UnaryOp .USub x p) := by
  intro b W Q tk rl hP
  simp only [evE] at hP
  refine sem_pe (pe_un un_neg pe_sem) (ja.seq tk (rl_st rl) hP fun p1 ρ1 v H1 HF1 s1 st1 r1 hP1 => ?_)
  obtain ⟨dx, o', gx, e, hP3⟩ := post_get1 hP1
  split at e
  · cases e
    obtain rfl := (r1.vw st1.rl gx).int
    exact ⟨_, rfl, (want_of hP3).here st1 (.int _)⟩
  · cases e
theorem bo_some {k : Option Bool} {o : Bool × D} (h : bo k = some o) : ∃ t, k = some t ∧ o = (false, .bl t) := by
  cases k with
  | none => cases h
  | some t => exact ⟨t, rfl, (Option.some.inj h).symm⟩
theorem notSet_of {e : Expr} (h : notSet e = true) (op : CmpOp) : behindInMarks op e = false := by
  cases e <;> first | rfl | (simp [notSet] at h)
theorem Good.units (L : Lib X XC g c) : X.A.units + 101 < cLine := by
  obtain ⟨k, r, _⟩ := L.room
  have := r.un
  omega
theorem je_cmp (L : Lib X XC g c) {o : COp} {op : CmpOp} {a b' : E} {x y : Expr} {p : Pos} (ho : copB o op = true) (hs : notSet y = true) (ja : JE X XC g a x) (jb : JE X XC g b' y) : JE X XC g (.cmp o a b') (.Compare x [op] [y] p) := by
  intro b W Q tk rl hP
  simp only [evE] at hP
  refine sem_pe (pe_cmpR op_sem pe_sem pe_sem (notSet_of hs op)) (ja.seq tk (rl_st rl) hP fun p1 ρ1 v H1 HF1 s1 st1 r1 hP1 => jb.seq tk st1 hP1 fun q ρ2 w H2 HF2 s2 st2 r2 hP2 => ?_)
  obtain ⟨dx, dy, o', gx, gy, e, hP3⟩ := post_get2 hP2
  obtain ⟨t, e1, rfl⟩ := bo_some e
  exact cmp_ok ho e1 (Good.units L) st2 ((r1.step s2).vw st2.rl gx) (r2.vw st2.rl gy) ((want_of hP3).here st2 (.bl t))
theorem jt_cmp (L : Lib X XC g c) {o : COp} {op : CmpOp} {a b' : E} {x y : Expr} {p : Pos} (ho : copB o op = true) (hs : notSet y = true) (ja : JE X XC g a x) (jb : JE X XC g b' y) : JT X XC g (.cmp o a b') (.Compare x [op] [y] p) := by
  intro b W Q tk rl hP
  unfold evT at hP
  simp only [evE, bind_assoc] at hP
  refine sem_pt (pt_cmpR op_sem pe_sem pe_sem (notSet_of hs op)) (ja.seq tk (rl_st rl) hP fun p1 ρ1 v H1 HF1 s1 st1 r1 hP1 => jb.seq tk st1 hP1 fun q ρ2 w H2 HF2 s2 st2 r2 hP2 => ?_)
  obtain ⟨dx, dy, o', gx, gy, e, hP3⟩ := post_get2 (post_bind hP2)
  obtain ⟨t, e1, rfl⟩ := bo_some e
  refine cmp_ok ho e1 (Good.units L) st2 ((r1.step s2).vw st2.rl gx) (r2.vw st2.rl gy) ⟨t, rfl, ?_⟩
  exact hP3 H2 HF2 st2 H2 HF2 st2
end
end Mi

/-! Mi: the other expressions -/
namespace Mi
open PySem PySem.Spec L2
section
variable {X : Cx} {XC : Nat → Value} {g : G} {c : SC} {b : Bs} {W : WX} {ρ : Rho} {H HF : Hp} {α β : Type}

/-! ### and, or, not, if else -/
theorem evT_and {a b' : E} : evT g (.and a b') ρ = (evT g a ρ).bind fun k ρ1 => match k with | true => evT g b' ρ1 | false => .ok false ρ1 := by
  unfold evT
  simp only [evE, bind_assoc]
  cases evE g a ρ with
  | bad => rfl
  | ex _ _ => rfl
  | ok p ρ1 =>
    simp only [R.bind]
    cases e : tru ρ1 p with
    | bad => rfl
    | ex _ _ => rfl
    | ok k ρ2 =>
      have h2 : ρ2 = ρ1 := by
        unfold tru at e
        split at e
        · cases e; rfl
        · cases e
      subst h2
      simp only [R.bind]
      cases k with
      | true => rfl
      | false => exact e
theorem evT_or {a b' : E} : evT g (.or a b') ρ = (evT g a ρ).bind fun k ρ1 => match k with | true => .ok true ρ1 | false => evT g b' ρ1 := by
  unfold evT
  simp only [evE, bind_assoc]
  cases evE g a ρ with
  | bad => rfl
  | ex _ _ => rfl
  | ok p ρ1 =>
    simp only [R.bind]
    cases e : tru ρ1 p with
    | bad => rfl
    | ex _ _ => rfl
    | ok k ρ2 =>
      have h2 : ρ2 = ρ1 := by
        unfold tru at e
        split at e
        · cases e; rfl
        · cases e
      subst h2
      simp only [R.bind]
      cases k with
      | true => exact e
      | false => rfl
theorem evT_not {a : E} : evT g (.not a) ρ = (evT g a ρ).bind fun k ρ1 => .ok (!k) ρ1 := by
  unfold evT
  simp only [evE, bind_assoc]
  cases evE g a ρ with
  | bad => rfl
  | ex _ _ => rfl
  | ok p ρ1 =>
    simp only [R.bind]
    cases e : tru ρ1 p with
    | bad => rfl
    | ex _ _ => rfl
    | ok k ρ2 => rfl
theorem evE_ite {t a b' : E} : evE g (.ite t a b') ρ = (evT g t ρ).bind fun k ρ1 => match k with | true => evE g a ρ1 | false => evE g b' ρ1 := by
  unfold evT
  first | (simp only [evE, bind_assoc]; done) | (simp only [evE, bind_assoc]; rfl)
theorem evT_ite {t a b' : E} : evT g (.ite t a b') ρ = (evT g t ρ).bind fun k ρ1 => match k with | true => evT g a ρ1 | false => evT g b' ρ1 := by
  show (evE g (.ite t a b') ρ).bind _ = _
  rw [evE_ite, bind_assoc]
  congr 1
  funext k ρ1
  cases k <;> rfl
theorem evE_and {a b' : E} : evE g (.and a b') ρ = (evE g a ρ).bind fun p ρ1 => (tru ρ1 p).bind fun k ρ2 => match k with | true => evE g b' ρ2 | false => .ok p ρ2 := by
  first | (simp only [evE]; done) | (simp only [evE]; rfl)
theorem evE_or {a b' : E} : evE g (.or a b') ρ = (evE g a ρ).bind fun p ρ1 => (tru ρ1 p).bind fun k ρ2 => match k with | true => .ok p ρ2 | false => evE g b' ρ2 := by
  first | (simp only [evE]; done) | (simp only [evE]; rfl)

theorem je_and {a m : E} {x : Expr} {op : List Expr} {y : Expr} {p : Pos} {t : TE} (ja : JE X XC g a x) (jb : JE X XC g m y) (hb : PE X (.BoolOp .And op p) (SemE X y)) (hn : ∃ z r, op = z :: r) : JE X XC g (.and a m) (.BoolOp .And (x :: op) p) := by
  obtain ⟨z, r, rfl⟩ := hn
  intro b W Q tk rl hP
  rw [evE_and] at hP
  refine sem_pe (pe_andT pe_sem hb) (ja.seq tk (rl_st rl) hP fun p1 ρ1 v H1 HF1 s1 st1 r1 hP1 => ?_)
  obtain ⟨d, k, gx, e, hP2⟩ := post_tru hP1
  refine ⟨k, tru_vw st1.rl.sub (r1.vw st1.rl gx) e, ?_⟩
  cases k with
  | true => exact iteT (jb.run tk st1 hP2)
  | false => exact iteF (hP2 H1 HF1 st1 v r1)
theorem je_or {a m : E} {x : Expr} {op : List Expr} {y : Expr} {p : Pos} (ja : JE X XC g a x) (jb : JE X XC g m y) (hb : PE X (.BoolOp .Or op p) (SemE X y)) (hn : ∃ z r, op = z :: r) : JE X XC g (.or a m) (.BoolOp .Or (x :: op) p) := by
  obtain ⟨z, r, rfl⟩ := hn
  intro b W Q tk rl hP
  rw [evE_or] at hP
  refine sem_pe (pe_orT pe_sem hb) (ja.seq tk (rl_st rl) hP fun p1 ρ1 v H1 HF1 s1 st1 r1 hP1 => ?_)
  obtain ⟨d, k, gx, e, hP2⟩ := post_tru hP1
  refine ⟨k, tru_vw st1.rl.sub (r1.vw st1.rl gx) e, ?_⟩
  cases k with
  | true => exact iteT (hP2 H1 HF1 st1 v r1)
  | false => exact iteF (jb.run tk st1 hP2)
theorem pw_bool {op : BoolOp} {es : List Expr} {p : Pos} : PW X (.BoolOp op es p) (SemT X (.BoolOp op es p)) := ⟨fun wh pins s σ H Q I h => h pins s I⟩
theorem jt_and {a m : E} {x : Expr} {op : List Expr} {y : Expr} {p : Pos} (ja : JT X XC g a x) (jb : JT X XC g m y) (hb : PW X (.BoolOp .And op p) (SemT X y)) (hn : ∃ z r, op = z :: r) : JT X XC g (.and a m) (.BoolOp .And (x :: op) p) := by
  obtain ⟨z, r, rfl⟩ := hn
  intro b W Q tk rl hP
  rw [evT_and] at hP
  refine sem_pt (PW.pt (pw_and pt_sem hb)) (ja.seq tk (rl_st rl) hP fun k ρ1 H1 HF1 s1 st1 hP1 => ?_)
  cases k with
  | true => exact iteT (jb.run tk st1 hP1)
  | false => exact iteF (hP1 H1 HF1 st1)
theorem jt_or {a m : E} {x : Expr} {op : List Expr} {y : Expr} {p : Pos} (ja : JT X XC g a x) (jb : JT X XC g m y) (hb : PW X (.BoolOp .Or op p) (SemT X y)) (hn : ∃ z r, op = z :: r) : JT X XC g (.or a m) (.BoolOp .Or (x :: op) p) := by
  obtain ⟨z, r, rfl⟩ := hn
  intro b W Q tk rl hP
  rw [evT_or] at hP
  refine sem_pt (PW.pt (pw_or pt_sem hb)) (ja.seq tk (rl_st rl) hP fun k ρ1 H1 HF1 s1 st1 hP1 => ?_)
  cases k with
  | true => exact iteT (hP1 H1 HF1 st1)
  | false => exact iteF (jb.run tk st1 hP1)
theorem je_not {a : E} {x : Expr} {p : Pos} (ja : JE X XC g a x) : JE X XC g (.not a) (.UnaryOp .Not x p) := by
  intro b W Q tk rl hP
  simp only [evE] at hP
  refine sem_pe (pe_notT pe_sem) (ja.seq tk (rl_st rl) hP fun p1 ρ1 v H1 HF1 s1 st1 r1 hP1 => ?_)
  obtain ⟨d, k, gx, e, hP2⟩ := post_tru hP1
  exact ⟨k, tru_vw st1.rl.sub (r1.vw st1.rl gx) e, hP2 H1 HF1 st1 _ (.bl _)⟩
theorem jt_not {a : E} {x : Expr} {p : Pos} (ja : JT X XC g a x) : JT X XC g (.not a) (.UnaryOp .Not x p) := by
  intro b W Q tk rl hP
  rw [evT_not] at hP
  exact sem_pt (pt_not pt_sem) (ja.seq tk (rl_st rl) hP fun k ρ1 H1 HF1 s1 st1 hP1 => hP1 H1 HF1 st1)
theorem je_ite {t a m : E} {x y z : Expr} {p : Pos} (jt : JT X XC g t x) (ja : JE X XC g a y) (jb : JE X XC g m z) : JE X XC g (.ite t a m) (.IfExp x y z p) := by
  intro b W Q tk rl hP
  rw [evE_ite] at hP
  refine sem_pe (pe_ifExp pt_sem pe_sem pe_sem) (jt.seq tk (rl_st rl) hP fun k ρ1 H1 HF1 s1 st1 hP1 => ?_)
  cases k with
  | true => exact iteT (ja.run tk st1 hP1)
  | false => exact iteF (jb.run tk st1 hP1)
theorem pt_ife {t a d : Expr} {p : Pos} {tt : TT} {ta td : TT} (ht : PT X t tt) (ha : PT X a ta) (hd : PT X d td) : PT X (.IfExp t a d p) (fun σ H Q => tt σ H fun k H1 => if k = true then ta σ H1 Q else td σ H1 Q) := by
  refine ⟨fun pins s σ H Q I h => ?_⟩
  refine PyProof.Rows.isTrue_IfExp (thn (ht.run pins s σ H _ I h) fun k s1 ⟨H1, I1, q1⟩ => ?_)
  cases k with
  | true => exact ha.run pins s1 σ H1 Q I1 q1
  | false => exact hd.run pins s1 σ H1 Q I1 q1
theorem jt_ite {t a m : E} {x y z : Expr} {p : Pos} (jt : JT X XC g t x) (ja : JT X XC g a y) (jb : JT X XC g m z) : JT X XC g (.ite t a m) (.IfExp x y z p) := by
  intro b W Q tk rl hP
  rw [evT_ite] at hP
  refine sem_pt (pt_ife pt_sem pt_sem pt_sem) (jt.seq tk (rl_st rl) hP fun k ρ1 H1 HF1 s1 st1 hP1 => ?_)
  cases k with
  | true => exact iteT (ja.run tk st1 hP1)
  | false => exact iteF (jb.run tk st1 hP1)

/-! ### a op b op' c -/
theorem lm_of {op op' : CmpOp} {y z : Expr} (h : notSet z = true) : lastMarks [op, op'] [y, z] = false := notSet_of h op'
theorem je_chain (L : Lib X XC g c) {o o' : COp} {op op' : CmpOp} {a m d : E} {x y z : Expr} {p : Pos} (ho : copB o op = true) (ho' : copB o' op' = true) (hs : notSet z = true) (ja : JE X XC g a x) (jb : JE X XC g m y) (jd : JE X XC g d z) :
    JE X XC g (.chain o o' a m d) (.Compare x [op, op'] [y, z] p) := by
  intro b W Q tk rl hP
  simp only [evE] at hP
  refine sem_pe (pe_chain op_sem op_sem pe_sem pe_sem pe_sem (lm_of hs)) (ja.seq tk (rl_st rl) hP fun p1 ρ1 v H1 HF1 s1 st1 r1 hP1 => jb.seq tk st1 hP1 fun q ρ2 w H2 HF2 s2 st2 r2 hP2 => ?_)
  cases gx : p1.get ρ2 with
  | none => rw [gx] at hP2; exact hP2.elim
  | some dx =>
    cases gy : q.get ρ2 with
    | none => rw [gx, gy] at hP2; exact hP2.elim
    | some dy =>
      rw [gx, gy] at hP2
      simp only [Option.bind_some] at hP2
      cases e : cmpD o dx dy with
      | none => rw [e] at hP2; exact hP2.elim
      | some k =>
        rw [e] at hP2
        refine cmp_ok ho e (Good.units L) st2 ((r1.step s2).vw st2.rl gx) (r2.vw st2.rl gy) ⟨k, rfl, ?_⟩
        cases k with
        | false => exact iteF (hP2 H2 HF2 st2 _ (.bl _))
        | true =>
          refine iteT (jd.seq tk st2 hP2 fun r ρ3 u H3 HF3 s3 st3 r3 hP3 => ?_)
          obtain ⟨dx', dy', o2, gx', gy', e2, hP4⟩ := post_get2 hP3
          obtain ⟨t, e1, rfl⟩ := bo_some e2
          exact cmp_ok ho' e1 (Good.units L) st3 ((r2.step s3).vw st3.rl gx') (r3.vw st3.rl gy') ((want_of hP4).here st3 (.bl t))
theorem jt_chain (L : Lib X XC g c) {o o' : COp} {op op' : CmpOp} {a m d : E} {x y z : Expr} {p : Pos} (ho : copB o op = true) (ho' : copB o' op' = true) (hs : notSet z = true) (ja : JE X XC g a x) (jb : JE X XC g m y) (jd : JE X XC g d z) :
    JT X XC g (.chain o o' a m d) (.Compare x [op, op'] [y, z] p) := by
  intro b W Q tk rl hP
  unfold evT at hP
  simp only [evE, bind_assoc] at hP
  refine sem_pt (pt_chain op_sem op_sem pe_sem pe_sem pe_sem (lm_of hs)) (ja.seq tk (rl_st rl) hP fun p1 ρ1 v H1 HF1 s1 st1 r1 hP1 => jb.seq tk st1 hP1 fun q ρ2 w H2 HF2 s2 st2 r2 hP2 => ?_)
  cases gx : p1.get ρ2 with
  | none => rw [gx] at hP2; exact hP2.elim
  | some dx =>
    cases gy : q.get ρ2 with
    | none => rw [gx, gy] at hP2; exact hP2.elim
    | some dy =>
      rw [gx, gy] at hP2
      simp only [Option.bind_some] at hP2
      cases e : cmpD o dx dy with
      | none => rw [e] at hP2; exact hP2.elim
      | some k =>
        rw [e] at hP2
        refine cmp_ok ho e (Good.units L) st2 ((r1.step s2).vw st2.rl gx) (r2.vw st2.rl gy) ⟨k, rfl, ?_⟩
        cases k with
        | false => exact iteF ⟨false, rfl, hP2 H2 HF2 st2⟩
        | true =>
          simp only [bind_assoc] at hP2
          refine iteT (jd.seq tk st2 hP2 fun r ρ3 u H3 HF3 s3 st3 r3 hP3 => ?_)
          obtain ⟨dx', dy', o2, gx', gy', e2, hP4⟩ := post_get2 (post_bind hP3)
          obtain ⟨t, e1, rfl⟩ := bo_some e2
          exact cmp_ok ho' e1 (Good.units L) st3 ((r2.step s3).vw st3.rl gx') (r3.vw st3.rl gy') ⟨t, rfl, hP4 H3 HF3 st3 H3 HF3 st3⟩

/-! ### arguments, displays -/
theorem star_cons {e : Expr} {es : List Expr} {env : PySem.Env} (h : notStar e = true) : starEach (e :: es) env = (false, eval e env) :: starEach es env := by
  cases e <;> first | rfl | (simp [notStar] at h)
theorem ja_nil : JA X XC g .nil [] := by
  intro b W Q tk rl hP
  simp only [evEs] at hP
  exact sem_pa pa_nil (hP b.H b.HF (rl_st rl) [] .nil rfl)
theorem ja_cons {m : E} {ms : Es} {e : Expr} {es : List Expr} (hs : notStar e = true) (je : JE X XC g m e) (ja : JA X XC g ms es) : JA X XC g (.cons m ms) (e :: es) := by
  intro b W Q tk rl hP
  simp only [evEs] at hP
  refine sem_pa (pa_cons pe_sem pa_sem (star_cons hs)) (je.seq tk (rl_st rl) hP fun p1 ρ1 v H1 HF1 s1 st1 r1 hP1 => ja.seq tk st1 hP1 fun ps ρ2 vs H2 HF2 s2 st2 r2 hl dis hP2 => ?_)
  refine hP2 H2 HF2 st2 (v :: vs) (.cons (r1.step s2) (fun d e => ?_) r2) (by rw [List.length_cons, hl]; rfl)
  subst e
  exact dis v d r1
theorem len_small {n : Nat} (h : n ≤ 1000) : n ≤ sizeLine := Nat.le_trans h (by decide)
theorem je_tup {ms : Es} {es : List Expr} {k : Nat} {p : Pos} (hl : ms.len ≤ 1000) (ja : JA X XC g ms es) : JE X XC g (.tup ms) (.Tuple es k p) := by
  intro b W Q tk rl hP
  simp only [evE] at hP
  refine sem_pe (pe_tup pa_sem) (ja.seq tk (rl_st rl) hP fun ps ρ1 vs H1 HF1 s1 st1 r1 hn _ hP1 => ?_)
  cases e : frzL ps ρ1 with
  | none => rw [e] at hP1; exact hP1.elim
  | some y =>
    obtain ⟨ds, ρ2⟩ := y
    rw [e] at hP1
    obtain ⟨HF2, st2, r2, _⟩ := r1.frzL st1 e
    refine ⟨len_small (by rw [hn]; exact hl), fun q hq => ?_⟩
    exact (want_of (o := (false, .tup ds)) hP1).tup st2 r2 q hq
theorem je_lst {ms : Es} {es : List Expr} {p : Pos} (hl : ms.len ≤ 1000) (ja : JA X XC g ms es) : JE X XC g (.lst ms) (.List es p) := by
  intro b W Q tk rl hP
  simp only [evE] at hP
  refine sem_pe (pe_lst pa_sem) (ja.seq tk (rl_st rl) hP fun ps ρ1 vs H1 HF1 s1 st1 r1 hn _ hP1 => ?_)
  cases e : frzL ps ρ1 with
  | none => rw [e] at hP1; exact hP1.elim
  | some y =>
    obtain ⟨ds, ρ2⟩ := y
    rw [e] at hP1
    obtain ⟨HF2, st2, r2, _⟩ := r1.frzL st1 e
    refine ⟨len_small (by rw [hn]; exact hl), fun q hq => ?_⟩
    exact (want_of (o := (true, .lst ds)) hP1).lst st2 r2 q hq

/-! ### subscripts -/
theorem shD_some {k : Option D} {o : Bool × D} (h : shD k = some o) : ∃ t, k = some t ∧ o = (false, t) := by
  cases k with
  | none => cases h
  | some t => exact ⟨t, rfl, (Option.some.inj h).symm⟩
theorem plainIx_of {e : Expr} (h : notSlice e = true) : PlainIx e := by
  cases e <;> first | exact fun _ _ => rfl | (simp [notSlice] at h)
theorem je_idx {a m : E} {x y : Expr} {p : Pos} (hs : notSlice y = true) (ja : JE X XC g a x) (jb : JE X XC g m y) : JE X XC g (.idx a m) (.Subscript x y p) := by
  intro b W Q tk rl hP
  simp only [evE] at hP
  refine sem_pe (pe_ix ix_seq pe_sem pe_sem (plainIx_of hs)) (ja.seq tk (rl_st rl) hP fun p1 ρ1 v H1 HF1 s1 st1 r1 hP1 => jb.seq tk st1 hP1 fun q ρ2 w H2 HF2 s2 st2 r2 hP2 => ?_)
  obtain ⟨dx, dy, o', gx, gy, e, hP3⟩ := post_get2 hP2
  obtain ⟨t, e1, rfl⟩ := shD_some e
  exact idx_ok e1 st2 ((r1.step s2).vw st2.rl gx) (r2.vw st2.rl gy) (want_of hP3)
theorem asInt_of {p : Pl} {i : Int} (h : asInt ρ p = some i) : p.get ρ = some (.int i) := by
  unfold asInt at h
  split at h
  · cases h; assumption
  · cases h
theorem je_slL {a m : E} {x y : Expr} {p2 p : Pos} (ja : JE X XC g a x) (jb : JE X XC g m y) : JE X XC g (.slL a m) (.Subscript x (.Slice (some y) none none p2) p) := by
  intro b W Q tk rl hP
  simp only [evE] at hP
  refine sem_pe (pe_slice sl_u pe_sem (po_some pe_sem) po_none) (ja.seq tk (rl_st rl) hP fun p1 ρ1 v H1 HF1 s1 st1 r1 hP1 => jb.seq tk st1 hP1 fun q ρ2 w H2 HF2 s2 st2 r2 hP2 => ?_)
  cases e : asInt ρ2 q with
  | none => rw [e] at hP2; exact hP2.elim
  | some i =>
    rw [e] at hP2
    obtain rfl := (r2.vw st2.rl (asInt_of e)).int
    obtain ⟨dx, o', gx, e2, hP3⟩ := post_get1 hP2
    exact ⟨i, rfl, slc_ok e2 st2 ((r1.step s2).vw st2.rl gx) (want_of hP3)⟩
theorem je_slH {a m : E} {x y : Expr} {p2 p : Pos} (ja : JE X XC g a x) (jb : JE X XC g m y) : JE X XC g (.slH a m) (.Subscript x (.Slice none (some y) none p2) p) := by
  intro b W Q tk rl hP
  simp only [evE] at hP
  refine sem_pe (pe_slice sl_u pe_sem po_none (po_some pe_sem)) (ja.seq tk (rl_st rl) hP fun p1 ρ1 v H1 HF1 s1 st1 r1 hP1 => jb.seq tk st1 hP1 fun q ρ2 w H2 HF2 s2 st2 r2 hP2 => ?_)
  cases e : asInt ρ2 q with
  | none => rw [e] at hP2; exact hP2.elim
  | some i =>
    rw [e] at hP2
    obtain rfl := (r2.vw st2.rl (asInt_of e)).int
    obtain ⟨dx, o', gx, e2, hP3⟩ := post_get1 hP2
    exact ⟨i, rfl, slc_ok e2 st2 ((r1.step s2).vw st2.rl gx) (want_of hP3)⟩
theorem je_slB {a m d : E} {x y z : Expr} {p2 p : Pos} (ja : JE X XC g a x) (jb : JE X XC g m y) (jd : JE X XC g d z) : JE X XC g (.slB a m d) (.Subscript x (.Slice (some y) (some z) none p2) p) := by
  intro b W Q tk rl hP
  simp only [evE] at hP
  refine sem_pe (pe_slice sl_u pe_sem (po_some pe_sem) (po_some pe_sem)) (ja.seq tk (rl_st rl) hP fun p1 ρ1 v H1 HF1 s1 st1 r1 hP1 => jb.seq tk st1 hP1 fun q ρ2 w H2 HF2 s2 st2 r2 hP2 => ?_)
  cases e : asInt ρ2 q with
  | none => rw [e] at hP2; exact hP2.elim
  | some i =>
    rw [e] at hP2
    obtain rfl := (r2.vw st2.rl (asInt_of e)).int
    refine ⟨i, rfl, jd.seq tk st2 hP2 fun q3 ρ3 u H3 HF3 s3 st3 r3 hP3 => ?_⟩
    cases e3 : asInt ρ3 q3 with
    | none => rw [e3] at hP3; exact hP3.elim
    | some j =>
      rw [e3] at hP3
      obtain rfl := (r3.vw st3.rl (asInt_of e3)).int
      obtain ⟨dx, o', gx, e2, hP4⟩ := post_get1 hP3
      exact ⟨j, rfl, slc_ok e2 st3 (((r1.step s2).step s3).vw st3.rl gx) (want_of hP4)⟩
theorem je_rev {a : E} {x : Expr} {k : Nat} {p1 p2 p3 p : Pos} (ja : JE X XC g a x) : JE X XC g (.rev a) (.Subscript x (.Slice none none (some (.UnaryOp .USub (.Constant (.int 1) k p1) p2)) p3) p) := by
  intro b W Q tk rl hP
  simp only [evE] at hP
  refine sem_pe (pe_revU pe_sem) (ja.seq tk (rl_st rl) hP fun q1 ρ1 v H1 HF1 s1 st1 r1 hP1 => ?_)
  obtain ⟨dx, o', gx, e, hP2⟩ := post_get1 hP1
  have vw := r1.vw st1.rl gx
  unfold revD at e
  split at e
  · cases e
    obtain ⟨a, vs, rfl, h1, r⟩ := vw.lst st1.rl.sub
    exact .inl ⟨a, vs, rfl, h1, fun q hq => (want_of (o := (true, .lst _)) hP2).lst st1 r.reverse q hq⟩
  · cases e
    obtain ⟨rfl, g1⟩ := vw.str
    exact .inr ⟨_, rfl, g1, (want_of (o := (false, .str _)) hP2).here st1 (.str (strG_sub g1 (fun z hz => List.mem_reverse.mp hz) (by rw [List.length_reverse]; exact Nat.le_refl _)))⟩
  · cases e
end
end Mi

/-! Mi: calls -/
namespace Mi
open PySem PySem.Spec L2
section
variable {X : Cx} {XC : Nat → Value} {g : G} {c : SC} {b : Bs} {W : WX} {ρ : Rho} {H HF : Hp} {α β : Type}

theorem plain_args {es : List Expr} {env : PySem.Env} {p : Pos} (h : es.all notStar = true) : (backTo p (starEach es env)).any (·.1) = false := by
  induction es with
  | nil => rfl
  | cons e es ih =>
    simp only [List.all_cons, Bool.and_eq_true] at h
    rw [star_cons h.1]
    show (false || (backTo p (starEach es env)).any (·.1)) = false
    rw [ih h.2]
    rfl
theorem ArgZ.len {K : PySem.W.Frag} {σ : L2.St} : ∀ {ms : List Bool} {vs : List V} {ps : List Pl}, ArgZ K σ ρ HF ms vs ps → vs.length = ms.length
  | [], [], [], _ => rfl
  | [], _ :: _, _, h => by cases ‹List Pl› <;> exact h.elim
  | [], [], _ :: _, h => h.elim
  | false :: ms, v :: vs, p :: ps, h => by rw [List.length_cons, List.length_cons, ArgZ.len h.2]
  | true :: ms, v :: vs, p :: ps, h => by rw [List.length_cons, List.length_cons, ArgZ.len h.2]
  | m :: ms, [], _, h => by cases m <;> cases ‹List Pl› <;> exact h.elim
  | m :: ms, _ :: _, [], h => by cases m <;> exact h.elim
theorem ArgZ.args {K : PySem.W.Frag} {σ : L2.St} (rl : Rl K ρ σ H HF) : ∀ {ms : List Bool} {vs : List V} {ps : List Pl} {ds : List D}, ArgZ K σ ρ HF ms vs ps → getL ρ ps = some ds → (ios ms ps).all (isOw ρ) = true → ArgsOk K H HF ms vs ds
  | [], [], [], ds, _, e, _ => by cases e; trivial
  | [], _ :: _, _, _, h, _, _ => by cases ‹List Pl› <;> exact h.elim
  | [], [], _ :: _, _, h, _, _ => h.elim
  | m :: ms, [], _, _, h, _, _ => by cases m <;> cases ‹List Pl› <;> exact h.elim
  | m :: ms, _ :: _, [], _, h, _, _ => by cases m <;> exact h.elim
  | false :: ms, v :: vs, p :: ps, ds, h, e, io => by
    obtain ⟨⟨d, f, r⟩, h2⟩ := h
    unfold getL at e
    rw [f.1] at e
    simp only [Option.bind_some] at e
    cases e2 : getL ρ ps with
    | none => rw [e2] at e; cases e
    | some xs =>
      rw [e2] at e
      cases e
      exact ⟨r, ArgZ.args rl h2 e2 (by simpa only [ios] using io)⟩
  | true :: ms, v :: vs, p :: ps, ds, h, e, io => by
    obtain ⟨⟨i, rfl, hi⟩, h2⟩ := h
    simp only [ios, List.all_cons, Bool.and_eq_true] at io
    obtain ⟨q, d, hs⟩ : ∃ q d, ρ[i]? = some (.ow q d) := by
      have z := io.1
      unfold isOw at z
      split at z
      · exact ⟨_, _, by assumption⟩
      · cases z
    unfold getL at e
    have e1 : Pl.get ρ (.at i) = some d := by
      unfold Pl.get
      dsimp only
      rw [hs]
    rw [e1] at e
    simp only [Option.bind_some] at e
    cases e2 : getL ρ ps with
    | none => rw [e2] at e; cases e
    | some xs =>
      rw [e2] at e
      cases e
      obtain ⟨a, q1, q2, q3⟩ := rl.ow i q d hs
      rw [hi] at q1
      cases q1
      exact ⟨⟨a, rfl, q2, q3⟩, ArgZ.args rl h2 e2 io.2⟩
theorem ArgZ.nodup {K : PySem.W.Frag} {σ : L2.St} (rl : Rl K ρ σ H HF) : ∀ {ms : List Bool} {vs : List V} {ps : List Pl}, ArgZ K σ ρ HF ms vs ps → (ios ms ps).all (isOw ρ) = true → (ios ms ps).Nodup → (ioA ms vs).Nodup
  | [], _, _, _, _, _ => by simp [ioA]
  | m :: ms, [], _, _, _, _ => by cases m <;> simp [ioA]
  | m :: ms, _ :: _, [], h, _, _ => by cases m <;> exact h.elim
  | false :: ms, v :: vs, p :: ps, h, io, nd => by
    have q := ArgZ.nodup rl h.2 (by simpa only [ios] using io) (by simpa only [ios] using nd)
    cases v <;> exact q
  | true :: ms, v :: vs, p :: ps, h, io, nd => by
    obtain ⟨⟨i, rfl, hi⟩, h2⟩ := h
    simp only [ios, List.all_cons, Bool.and_eq_true, List.nodup_cons] at io nd
    have q := ArgZ.nodup rl h2 io.2 nd.2
    cases v with
    | ref a =>
      simp only [ioA, List.nodup_cons]
      refine ⟨fun hm => ?_, q⟩
      obtain ⟨j, h3, h4⟩ := io_slots h2 hm
      have gi : ∀ k, isOw ρ k = true → ∃ q d, ρ[k]? = some (.ow q d) := fun k z => by
        unfold isOw at z
        split at z
        · exact ⟨_, _, by assumption⟩
        · cases z
      obtain ⟨q1, d1, e1⟩ := gi i io.1
      obtain ⟨q2, d2, e2⟩ := gi j (List.all_eq_true.mp io.2 j h3)
      have := rl.dis i j q1 q2 d1 d2 a ⟨e1, hi⟩ ⟨e2, h4⟩
      subst this
      exact nd.1 h3
    | _ => exact q
theorem callR_ok {f : Nat} {ps : List Pl} {vs : List V} {Q : VK} (st : StB X.K b ρ H HF) (r : RpBs X.K b ρ H HF vs ps) (hP : Post X.K XC b W (callR g f ps ρ) (fun pl ρ H HF => ∀ v, RpB X.K b ρ H HF v pl → Q v H)) :
    spF X.K XC (g.md f) (g.C f) vs H Q (WE W b.σ) := by
  unfold callR at hP
  cases e : argF (g.md f) ps ρ with
  | none => rw [e] at hP; exact hP.elim
  | some ρ2 =>
    rw [e] at hP
    dsimp only at hP
    obtain ⟨HF2, st2, z, l2, _⟩ := argF_ok r st e
    split at hP
    · rename_i hc
      cases e2 : getL ρ2 ps with
      | none => rw [e2] at hP; exact hP.elim
      | some ds =>
        rw [e2] at hP
        dsimp only at hP
        refine ⟨HF2, ds, st2.rl.sub, z.args st2.rl e2 hc.2, z.nodup st2.rl hc.2 hc.1, z.len, ?_⟩
        cases e3 : g.C f ds with
        | bad => rw [e3] at hP; exact hP.elim
        | ex cc os =>
          rw [e3] at hP
          exact fun H' HF' cs oo => hP H' HF' (call_after st2 z hc.2 hc.1 cs oo)
        | ok own d os =>
          rw [e3] at hP
          intro v H' HF' cs oo hv
          have st3 := call_after st2 z hc.2 hc.1 cs oo
          cases own with
          | false => exact hP H' HF' st3 v hv
          | true =>
            obtain ⟨a, rfl, h1, h2, h3⟩ : ∃ a, v = .ref a ∧ HF' a = none ∧ H a = none ∧ Own X.K H' HF' a d := hv
            refine hP H' HF' st3 (.ref a) ⟨a, rfl, h1, fun ⟨i, p, x, q1, q2⟩ => ?_, h3, .inl (st2.dom a h2)⟩
            obtain ⟨y, hy⟩ := outs_back q1
            obtain ⟨a', q3, _, q4⟩ := st2.rl.ow i p y hy
            rw [q2] at q3
            cases q3
            obtain ⟨u, hu⟩ := q4.some
            rw [h2] at hu
            cases hu
    · exact hP.elim
theorem pe_callS0 {k : Nat} {f : Addr} {fd : FuncData} {ps : List Str} {sp : Sp} {E : L2.St → XK} {x : Str} {p pos : Pos} (F : FnOk X.prog X.w X.K X.mg X.base (L2.CX X.prog X.w) k f fd ps sp) (hr : Room k X.A) (hg : Gl X x) (hm : X.mg x = some (.ref f)) (hk : PySem.W.keepIn X.K (.ref f) = true) (hb : Binds X.K fd ps []) (hx : ∀ σ, PassesAt (L2.CX X.prog X.w) X σ (E σ))
    (hdb : (x == ("__debug__" : Str)) = false) : PE X (.Call (.Name x p) [] [] pos) (tCallS sp E tNil) := by
  refine ⟨fun pins s σ H Q I h => ?_⟩
  refine wpAny_Call_Name_kw (ld_glob I hg hm ?_ hdb)
  exact PySem.W.callWith_K0 I.kIn hk (run_fnS (us := []) F hr hb (hx σ) I .nil h)
theorem je_call (G : Good X c) (L : Lib X XC g c) {f : Nat} {ms : Es} {x : Str} {es : List Expr} {p pos : Pos} (hg : glbB c x = true) (hf : c.fns[f]? = some x) (hs : es.all notStar = true) (h0 : es = [] → ms = .nil) (ja : JA X XC g ms es) : JE X XC g (.call f ms) (.Call (.Name x p) es [] pos) := by
  intro b W Q tk rl hP
  simp only [evE] at hP
  obtain ⟨k, room, fn⟩ := L.room
  obtain ⟨fa, fd, ps, hm, hk, hb, F⟩ := fn f x hf
  obtain ⟨h1, h2⟩ := gl_of G hg
  obtain ⟨d1, _, _⟩ := okNm_of h2
  have go : SemA X es b.σ b.H fun vs H1 => spF X.K XC (g.md f) (g.C f) vs H1 Q (WE W b.σ) :=
    ja.seq tk (rl_st rl) hP fun ps ρ1 vs H1 HF1 s1 st1 r1 hn _ hP1 => callR_ok st1 r1 hP1
  cases es with
  | nil => exact sem_pe (pe_callS0 F room h1 hm hk hb (fun σ => passAt tk σ) d1) (show spF _ _ _ _ [] b.H Q _ from by
      have e0 := h0 rfl
      subst e0
      simp only [evEs] at hP
      exact callR_ok (rl_st rl) .nil hP)
  | cons e es =>
    simp only [List.all_cons, Bool.and_eq_true] at hs
    exact sem_pe (pe_callS F room h1 hm hk hb (fun σ => passAt tk σ) pa_sem d1 (star_cons hs.1) (plain_args hs.2)) go

/-! ### built-ins by name -/
theorem je_blt (G : Good X c) (L : Lib X XC g c) {t : Blt} {ms : Es} {x : Str} {e : Expr} {es : List Expr} {p pos : Pos} (hg : glbB c x = true) (hx : bltB t x = true) (hc : c.blt.contains x = true) (hs : (e :: es).all notStar = true) (ja : JA X XC g ms (e :: es)) :
    JE X XC g (.blt t ms) (.Call (.Name x p) (e :: es) [] pos) := by
  intro b W Q tk rl hP
  simp only [evE] at hP
  obtain ⟨h1, h2⟩ := gl_of G hg
  obtain ⟨d1, _, d3⟩ := okNm_of h2
  have hm := L.bl x hc
  simp only [List.all_cons, Bool.and_eq_true] at hs
  have go : SemA X (e :: es) b.σ b.H fun vs H1 => SemC X (bltVal t) vs H1 Q :=
    ja.seq tk (rl_st rl) hP fun ps ρ1 vs H1 HF1 s1 st1 r1 hn _ hP1 => by
      cases e1 : getL ρ1 ps with
      | none => rw [e1] at hP1; exact hP1.elim
      | some ds =>
        rw [e1] at hP1
        simp only [Option.bind_some] at hP1
        cases e2 : bltD t ds with
        | none => rw [e2] at hP1; exact hP1.elim
        | some o =>
          rw [e2] at hP1
          refine blt_ok G.calm (Good.units L) e2 st1 (r1.vws st1 e1) (want_of (XC := XC) (W := W) ?_)
          obtain ⟨w, d⟩ := o
          cases w <;> exact hP1
  cases t with
  | len => (have ex := eq_of_beq hx); subst ex; exact sem_pe (pe_callB cl_sem h1 hm PySem.boot_len pa_sem d3 d1 (star_cons hs.1) (plain_args hs.2)) go
  | abs => (have ex := eq_of_beq hx); subst ex; exact sem_pe (pe_callB cl_sem h1 hm PyProof.Rows.boot_abs pa_sem d3 d1 (star_cons hs.1) (plain_args hs.2)) go
  | min1 => (have ex := eq_of_beq hx); subst ex; exact sem_pe (pe_callB cl_sem h1 hm (by decide +kernel) pa_sem d3 d1 (star_cons hs.1) (plain_args hs.2)) go
  | int => (have ex := eq_of_beq hx); subst ex; exact sem_pe (pe_callTy cl_sem h1 hm PyProof.Rows.boot_int pa_sem d3 d1 (star_cons hs.1) (plain_args hs.2)) go
  | tuple => (have ex := eq_of_beq hx); subst ex; exact sem_pe (pe_callTy cl_sem h1 hm PyProof.Rows.boot_tuple pa_sem d3 d1 (star_cons hs.1) (plain_args hs.2)) go
  | list => (have ex := eq_of_beq hx); subst ex; exact sem_pe (pe_callTy cl_sem h1 hm PyProof.Rows.boot_list pa_sem d3 d1 (star_cons hs.1) (plain_args hs.2)) go
theorem attr_of' {e : Expr} {a : Str} {env : PySem.Env} {w : Sem Value} (h : plainB e = true) : attributeBase e a env w = w := by
  cases e <;> first | rfl | (simp [plainB] at h)
theorem je_join {a m : E} {x y : Expr} {p q : Pos} (hx : plainB x = true) (hy : notStar y = true) (hl : (p.endLine == q.line) = true) (ja : JE X XC g a x) (jb : JE X XC g m y) : JE X XC g (.mth .join a m) (.Call (.Attribute x "join" p) [y] [] q) := by
  intro b W Q tk rl hP
  simp only [evE] at hP
  refine sem_pe (pe_join pe_sem pe_sem (star_cons hy) (attr_of' hx) hl) (ja.seq tk (rl_st rl) hP fun p1 ρ1 v H1 HF1 s1 st1 r1 hP1 => ?_)
  split at hP1
  · rename_i s gs
    have vw := r1.vw st1.rl gs
    refine ⟨⟨_, vw.str.1⟩, jb.seq tk st1 hP1 fun p2 ρ2 w H2 HF2 s2 st2 r2 hP2 => ?_⟩
    obtain ⟨dy, o', gy, e, hP3⟩ := post_get1 hP2
    obtain ⟨e1, g1⟩ := vw.str
    subst e1
    exact join_ok e st2 (.rep (.str g1)) (r2.vw st2.rl gy) (want_of hP3)
  · exact hP1.elim

/-! ### isinstance -/
theorem je_isi (G : Good X c) (L : Lib X XC g c) {a : E} {t : String} {x z : Str} {y : Expr} {p q pos : Pos} (hg : glbB c x = true) (hx : (x == ("isinstance" : Str)) = true) (hc : c.blt.contains x = true) (hz : glbB c z = true) (hzc : c.blt.contains z = true)
    (hb : bootBuiltins z = some (.type t)) (hs : notStar y = true) (ja : JE X XC g a y) : JE X XC g (.isi a t) (.Call (.Name x p) [y, .Name z q] [] pos) := by
  intro b W Q tk rl hP
  simp only [evE] at hP
  obtain ⟨h1, h2⟩ := gl_of G hg
  obtain ⟨d1, _, d3⟩ := okNm_of h2
  obtain ⟨h3, h4⟩ := gl_of G hz
  obtain ⟨d4, _, d5⟩ := okNm_of h4
  have ex := eq_of_beq hx
  subst ex
  refine sem_pe (pe_callB (t := tCons (SemE X y) (tCons (tC (.ty t)) tNil)) call_isi h1 (L.bl _ hc) PyProof.Rows.boot_isinstance (pa_cons pe_sem (pa_cons (pe_bltn h3 (L.bl _ hzc) hb rfl d5 d4) pa_nil) (star_cons hs)) d3 d1 (star_cons hs) (plain_args (by simp [notStar]))) ?_
  refine ja.seq tk (rl_st rl) hP fun p1 ρ1 v H1 HF1 s1 st1 r1 hP1 => ?_
  obtain ⟨dx, o', gx, e, hP2⟩ := post_get1 hP1
  obtain ⟨k, e1, rfl⟩ := bo_some e
  obtain ⟨n, q1, q2⟩ := isi_ok st1.rl.sub e1 (r1.vw st1.rl gx)
  exact ⟨v, .ty t, n, .type t, k, rfl, .ty t, q1, q2, (want_of hP2).here st1 (.bl k)⟩

/-! ### an own list changed -/
theorem stp_mut {K : PySem.W.Frag} {ρ0 : Rho} {σ0 σ : L2.St} {H0 HF0 : Hp} {i : Nat} {p : Bool} {ds ds' : List D} {a : Addr} {vs' : List V} (s : Stp K ρ0 σ0 H0 HF0 ρ σ H HF) (hs : ρ[i]? = some (.ow p (.lst ds))) (ha : σ[i]? = some (some (.ref a)))
    (r : Reps K HF vs' ds') : Stp K ρ0 σ0 H0 HF0 (ρ.set i (.ow p (.lst ds'))) σ (upd H a (.lst vs')) HF := by
  have hi : i < ρ.length := (List.getElem?_eq_some_iff.mp hs).1
  have oa : Owned ρ σ a := ⟨i, p, _, hs, ha⟩
  obtain ⟨a2, q1, q2, q3⟩ := s.rl.ow i p _ hs
  rw [ha] at q1
  cases q1
  have back : ∀ (j : Nat) (q : Bool) (d : D), (ρ.set i (.ow p (.lst ds')))[j]? = some (.ow q d) → ∃ d', ρ[j]? = some (.ow q d') := fun j q d e => by
    by_cases hj : j = i
    · subst hj; rw [List.getElem?_set_self hi] at e; cases e; exact ⟨_, hs⟩
    · rw [List.getElem?_set_ne (Ne.symm hj)] at e; exact ⟨d, e⟩
  have nf : ∀ c o, HF c = some o → c ≠ a := fun c o e z => by subst z; rw [q2] at e; cases e
  refine ⟨s.le, ⟨fun c o e => by rw [upd_ne (nf c o e)]; exact s.rl.sub c o e, by rw [List.length_set]; exact s.rl.len, fun j d e => ?_, fun j q d e => ?_, fun j k q1 q2 d e c x y => ?_⟩, fun c o e n => ?_, s.fsh, fun c q => ?_, fun c e => ?_, fun j d e => ?_, fun j d e => ?_⟩
  · by_cases hj : j = i
    · subst hj; rw [List.getElem?_set_self hi] at e; cases e
    · rw [List.getElem?_set_ne (Ne.symm hj)] at e; exact s.rl.sh j d e
  · by_cases hj : j = i
    · subst hj
      rw [List.getElem?_set_self hi] at e; cases e
      exact ⟨a, ha, q2, vs', upd_same, r⟩
    · rw [List.getElem?_set_ne (Ne.symm hj)] at e
      obtain ⟨c, z1, z2, z3⟩ := s.rl.ow j q d e
      have hc : c ≠ a := fun z => by subst z; exact hj (s.rl.dis j i q p d _ c ⟨e, z1⟩ ⟨hs, ha⟩)
      exact ⟨c, z1, z2, z3.mono (fun _ _ z => z) (upd_ne hc)⟩
  · obtain ⟨d', x1⟩ := back _ _ _ x.1
    obtain ⟨e', y1⟩ := back _ _ _ y.1
    exact s.rl.dis j k _ _ d' e' c ⟨x1, x.2⟩ ⟨y1, y.2⟩
  · have hc : c ≠ a := fun z => by
      subst z
      rcases s.own c oa with z | z
      · exact n z
      · rw [e] at z; cases z
    rw [upd_ne hc]; exact s.fr c o e n
  · obtain ⟨j, q, d, x, y⟩ := q
    obtain ⟨d', x1⟩ := back _ _ _ x
    exact s.own c ⟨j, q, d', x1, y⟩
  · by_cases hc : c = a
    · subst hc; rw [upd_same] at e; cases e
    · rw [upd_ne hc] at e; exact s.dom c e
  · obtain ⟨⟨d', x⟩, y⟩ := s.par j d e
    refine ⟨?_, y⟩
    by_cases hj : j = i
    · subst hj
      rw [hs] at x; cases x
      exact ⟨_, List.getElem?_set_self hi⟩
    · exact ⟨d', by rw [List.getElem?_set_ne (Ne.symm hj)]; exact x⟩
  · obtain ⟨d', x⟩ := back _ _ _ e
    exact s.par' j d' x
theorem st_mut {i : Nat} {p : Bool} {ds ds' : List D} {a : Addr} {vs' : List V} {K : PySem.W.Frag} (s : StB K b ρ H HF) (hs : ρ[i]? = some (.ow p (.lst ds))) (ha : b.σ[i]? = some (some (.ref a)))
    (r : Reps K HF vs' ds') : StB K b (ρ.set i (.ow p (.lst ds'))) (upd H a (.lst vs')) HF := by
  have hi : i < ρ.length := (List.getElem?_eq_some_iff.mp hs).1
  refine ⟨stp_mut s.toStp hs ha r, s.lv.trans ⟨by rw [List.length_set], fun j d e => ?_, fun j q d e => ?_⟩⟩
  · have hj : j ≠ i := fun z => by subst z; rw [hs] at e; cases e
    rw [List.getElem?_set_ne (Ne.symm hj)]; exact e
  · by_cases hj : j = i
    · subst hj; rw [hs] at e; cases e
      exact ⟨_, .inr (List.getElem?_set_self hi)⟩
    · exact ⟨d, .inr (by rw [List.getElem?_set_ne (Ne.symm hj)]; exact e)⟩
theorem Reps.dropLast {K : PySem.W.Frag} : ∀ {vs : List V} {ds : List D}, Reps K HF vs ds → Reps K HF vs.dropLast ds.dropLast := fun {vs ds} r => by
  rw [List.dropLast_eq_take, List.dropLast_eq_take, r.length]
  exact r.take _
theorem je_pop (G : Good X c) {i : Nat} {x : Str} {p q r : Pos} (hn : nmIs c i x = true) (hv : visB c x = true) (hl : (q.endLine == r.line) = true) : JE X XC g (.pop i) (.Call (.Attribute (.Name x p) "pop" q) [] [] r) := by
  intro b W Q tk rl hP
  simp only [evE] at hP
  unfold popD at hP
  obtain ⟨h1, h2⟩ := nm_of G hn
  obtain ⟨d1, d2, d3⟩ := okNm_of h2
  split at hP
  · rename_i pp ds hs
    split at hP
    · rename_i d hd
      obtain ⟨a, ha, hf, vs, hH, rr⟩ := rl.ow i pp _ hs
      have e1 : ds[ds.length - 1]? = some d := by rw [← List.getLast?_eq_getElem?]; exact hd
      obtain ⟨v, hv1, hv2⟩ := rr.get e1
      refine sem_pe (pe_bm0 PySem.F.plainAttrs_list PySem.F.slot_list_pop PySem.F.type_list_pop mt_pop (pe_var h1 (vis_of G hv) d1 d2) (attr_of' rfl) hl) ⟨.ref a, ha, .inl ⟨rfl, vs, .inl (.inl hH)⟩, a, vs, v, rfl, rfl, hH, by rw [rr.length]; exact hv1, ?_⟩
      exact hP _ _ (st_mut (rl_st rl) hs ha rr.dropLast) v hv2
    · exact hP.elim
  · exact hP.elim
end
end Mi

/-! Mi: targets, walks, comprehensions -/
namespace Mi
open PySem PySem.Spec L2

section
variable {K : PySem.W.Frag} {ρ0 ρ : Rho} {σ0 σ : L2.St} {H0 HF0 H HF : Hp}
/-- a slot is set to a fast value -/
theorem stp_set {i : Nat} {d : D} {v : V} (s : Stp K ρ0 σ0 H0 HF0 ρ σ H HF) (hi : i < ρ.length) (hn : ∀ x, ρ[i]? ≠ some (.ow true x)) (r : Rep K HF v d) : Stp K ρ0 σ0 H0 HF0 (ρ.set i (.sh d)) (σ.set i (some v)) H HF := by
  have hiσ : i < σ.length := by rw [← s.rl.len]; exact hi
  have back : ∀ (j : Nat) (q : Bool) (e : D), (ρ.set i (.sh d))[j]? = some (.ow q e) → j ≠ i ∧ ρ[j]? = some (.ow q e) := fun j q e h => by
    by_cases hj : j = i
    · subst hj; rw [List.getElem?_set_self hi] at h; cases h
    · rw [List.getElem?_set_ne (Ne.symm hj)] at h; exact ⟨hj, h⟩
  have ownB : ∀ a, Owned (ρ.set i (.sh d)) (σ.set i (some v)) a → Owned ρ σ a := fun a ⟨j, q, e, x, y⟩ => by
    obtain ⟨hj, h⟩ := back j q e x
    rw [List.getElem?_set_ne (Ne.symm hj)] at y
    exact ⟨j, q, e, h, y⟩
  refine ⟨s.le, ⟨s.rl.sub, by rw [List.length_set, List.length_set]; exact s.rl.len, fun j e h => ?_, fun j q e h => ?_, fun j k p q e e' a x y => ?_⟩, s.fr, s.fsh, fun a q => s.own a (ownB a q), s.dom, fun j e h => ?_, fun j e h => s.par' j e (back j true e h).2⟩
  · by_cases hj : j = i
    · subst hj
      rw [List.getElem?_set_self hi] at h; cases h
      exact ⟨v, List.getElem?_set_self hiσ, r⟩
    · rw [List.getElem?_set_ne (Ne.symm hj)] at h ⊢; exact s.rl.sh j e h
  · obtain ⟨hj, h⟩ := back j q e h
    rw [List.getElem?_set_ne (Ne.symm hj)]
    exact s.rl.ow j q e h
  · obtain ⟨hj, h1⟩ := back _ _ _ x.1
    obtain ⟨hk, h2⟩ := back _ _ _ y.1
    have x2 := x.2
    have y2 := y.2
    rw [List.getElem?_set_ne (Ne.symm hj)] at x2
    rw [List.getElem?_set_ne (Ne.symm hk)] at y2
    exact s.rl.dis j k p q e e' a ⟨h1, x2⟩ ⟨h2, y2⟩
  · obtain ⟨⟨d', h1⟩, h2⟩ := s.par j e h
    have hj : j ≠ i := fun z => by subst z; exact hn _ h1
    exact ⟨⟨d', by rw [List.getElem?_set_ne (Ne.symm hj)]; exact h1⟩, by rw [List.getElem?_set_ne (Ne.symm hj)]; exact h2⟩
/-- a slot is given a new object of its own -/
theorem stp_own {i : Nat} {d : D} {a : Addr} (s : Stp K ρ0 σ0 H0 HF0 ρ σ H HF) (hi : i < ρ.length) (hn : ∀ x, ρ[i]? ≠ some (.ow true x)) (h1 : HF a = none) (h2 : ¬ Owned ρ σ a) (h3 : Own K H HF a d) (h4 : H0 a = none ∨ Owned ρ0 σ0 a) :
    Stp K ρ0 σ0 H0 HF0 (ρ.set i (.ow false d)) (σ.set i (some (.ref a))) H HF := by
  have hiσ : i < σ.length := by rw [← s.rl.len]; exact hi
  have back : ∀ (j : Nat) (q : Bool) (e : D) (c : Addr), OwnSl (ρ.set i (.ow false d)) (σ.set i (some (.ref a))) j q e c → (j = i ∧ c = a ∧ q = false) ∨ (j ≠ i ∧ OwnSl ρ σ j q e c) := fun j q e c h => by
    obtain ⟨x, y⟩ := h
    by_cases hj : j = i
    · subst hj
      rw [List.getElem?_set_self hi] at x
      rw [List.getElem?_set_self hiσ] at y
      cases x
      cases y
      exact .inl ⟨rfl, rfl, rfl⟩
    · rw [List.getElem?_set_ne (Ne.symm hj)] at x y
      exact .inr ⟨hj, x, y⟩
  refine ⟨s.le, ⟨s.rl.sub, by rw [List.length_set, List.length_set]; exact s.rl.len, fun j e h => ?_, fun j q e h => ?_, fun j k p q e e' c x y => ?_⟩, s.fr, s.fsh, fun c q => ?_, s.dom, fun j e h => ?_, fun j e h => ?_⟩
  · have hj : j ≠ i := fun z => by subst z; rw [List.getElem?_set_self hi] at h; cases h
    rw [List.getElem?_set_ne (Ne.symm hj)] at h ⊢
    exact s.rl.sh j e h
  · by_cases hj : j = i
    · subst hj
      rw [List.getElem?_set_self hi] at h; cases h
      exact ⟨a, List.getElem?_set_self hiσ, h1, h3⟩
    · rw [List.getElem?_set_ne (Ne.symm hj)] at h ⊢
      exact s.rl.ow j q e h
  · rcases back _ _ _ _ x with ⟨z1, z2, _⟩ | ⟨hj, x'⟩
    · rcases back _ _ _ _ y with ⟨z3, _, _⟩ | ⟨hk, y'⟩
      · exact z1.trans z3.symm
      · exact absurd ⟨_, _, _, z2 ▸ y'⟩ h2
    · rcases back _ _ _ _ y with ⟨z3, z4, _⟩ | ⟨hk, y'⟩
      · exact absurd ⟨_, _, _, z4 ▸ x'⟩ h2
      · exact s.rl.dis j k p q e e' c x' y'
  · obtain ⟨j, q, e, x⟩ := q
    rcases back _ _ _ _ x with ⟨_, rfl, _⟩ | ⟨_, x⟩
    · rcases h4 with z | z
      · exact .inr z
      · exact .inl z
    · exact s.own c ⟨j, q, e, x⟩
  · obtain ⟨⟨d', h1⟩, h2⟩ := s.par j e h
    have hj : j ≠ i := fun z => by subst z; exact hn _ h1
    exact ⟨⟨d', by rw [List.getElem?_set_ne (Ne.symm hj)]; exact h1⟩, by rw [List.getElem?_set_ne (Ne.symm hj)]; exact h2⟩
  · by_cases hj : j = i
    · subst hj; rw [List.getElem?_set_self hi] at h; cases h
    · rw [List.getElem?_set_ne (Ne.symm hj)] at h
      exact s.par' j e h
end

/-! ### targets -/
def SemG (X : Cx) (tg : Expr) : TG := fun v σ H Q => ∀ (pins : List (Addr × Obj)) (s : Shared) (u : Value), Inv X pins σ H s → RelV v u → wpAny (model X.prog X.w) X.A (assign tg X.env u) (fun _ s' => ∃ σ' H', Inv X pins σ' H' s' ∧ Q σ' H') X.xe s
theorem pg_sem {X : Cx} {tg : Expr} : PG X tg (SemG X tg) := ⟨fun pins s _ _ _ u _ I r h => h pins s u I r⟩
theorem sem_pg {X : Cx} {tg : Expr} {t : TG} {v : V} {σ : L2.St} {H : Hp} {Q : L2.St → Hp → Prop} (h : PG X tg t) (q : t v σ H Q) : SemG X tg v σ H Q := fun pins s u I r => h.run pins s σ H v u Q I r q
def SemGs (X : Cx) (ts : List Expr) : TGs := fun vs σ H Q => ∀ (pins : List (Addr × Obj)) (s : Shared) (us : List Value), Inv X pins σ H s → Vals vs us → wpAny (model X.prog X.w) X.A (assignInOrder ((assignEach ts X.env).map (·.2)) us) (fun _ s' => ∃ σ' H', Inv X pins σ' H' s' ∧ Q σ' H') X.xe s
theorem pgs_sem {X : Cx} {ts : List Expr} : PGs X ts (SemGs X ts) := ⟨fun pins s _ _ _ us _ I r h => h pins s us I r⟩
theorem sem_pgs {X : Cx} {ts : List Expr} {t : TGs} {vs : List V} {σ : L2.St} {H : Hp} {Q : L2.St → Hp → Prop} (h : PGs X ts t) (q : t vs σ H Q) : SemGs X ts vs σ H Q := fun pins s us I r => h.run pins s σ H vs us Q I r q
/-- what changes by a target: its own slots alone -/
def Off (own : List Nat) (σ σ' : L2.St) (ρ ρ' : Rho) : Prop := σ'.length = σ.length ∧ ρ'.length = ρ.length ∧ ∀ j, j ∉ own → σ'[j]? = σ[j]? ∧ ρ'[j]? = ρ[j]?
theorem Off.refl {own : List Nat} {σ : L2.St} {ρ : Rho} : Off own σ σ ρ ρ := ⟨rfl, rfl, fun _ _ => ⟨rfl, rfl⟩⟩
theorem Off.trans {own : List Nat} {σ σ1 σ2 : L2.St} {ρ ρ1 ρ2 : Rho} (a : Off own σ σ1 ρ ρ1) (b : Off own σ1 σ2 ρ1 ρ2) : Off own σ σ2 ρ ρ2 :=
  ⟨b.1.trans a.1, b.2.1.trans a.2.1, fun j h => ⟨(b.2.2 j h).1.trans (a.2.2 j h).1, (b.2.2 j h).2.trans (a.2.2 j h).2⟩⟩
theorem assignEach_plain {c : SC} : ∀ {ts : Ts} {es : List Expr} {env : PySem.Env}, chkTs c ts es = true → (assignEach es env).length = es.length ∧ (assignEach es env).findIdx? (·.1) = none
  | .nil, [], _, _ => ⟨rfl, rfl⟩
  | .nil, _ :: _, _, h => by simp [chkTs] at h
  | .cons t ts, [], _, h => by simp [chkTs] at h
  | .cons t ts, e :: es, env, h => by
    simp only [chkTs, Bool.and_eq_true] at h
    obtain ⟨h1, h2⟩ := assignEach_plain (env := env) h.2
    have e1 : assignEach (e :: es) env = (false, assign e env) :: assignEach es env := by
      cases t with
      | nm i => cases e <;> first | rfl | (simp [chkT] at h)
      | tu us => cases e <;> first | rfl | (simp [chkT] at h)
    rw [e1]
    refine ⟨by rw [List.length_cons, List.length_cons, h1], ?_⟩
    rw [List.findIdx?_cons, h2]
    rfl
theorem asgTs_len : ∀ {ts : Ts} {ds : List D} {ρ ρ' : Rho} {es : List Expr} {c : SC}, asgTs ts ds ρ = some ρ' → chkTs c ts es = true → ds.length = es.length
  | .nil, [], _, _, [], _, _, _ => rfl
  | .nil, [], _, _, _ :: _, _, _, h => by simp [chkTs] at h
  | .nil, _ :: _, _, _, _, _, e, _ => by simp [asgTs] at e
  | .cons t ts, [], _, _, _, _, e, _ => by simp [asgTs] at e
  | .cons t ts, d :: ds, ρ, ρ', [], c, e, h => by simp [chkTs] at h
  | .cons t ts, d :: ds, ρ, ρ', e1 :: es, c, e, h => by
    simp only [chkTs, Bool.and_eq_true] at h
    unfold asgTs at e
    cases q : asgT t d ρ with
    | none => rw [q] at e; cases e
    | some ρ1 =>
      rw [q] at e
      rw [List.length_cons, List.length_cons, asgTs_len e h.2]
mutual
theorem jg {X : Cx} {c : SC} (G : Good X c) {ρ0 : Rho} {σ0 : L2.St} {H0 HF0 : Hp} : ∀ {t : T} {tg : Expr} {d : D} {v : V} {ρ ρ' : Rho} {σ : L2.St} {H HF : Hp} {own : List Nat} {Q : L2.St → Hp → Prop}, chkT c t tg = true → asgT t d ρ = some ρ' →
    Stp X.K ρ0 σ0 H0 HF0 ρ σ H HF → Rep X.K HF v d → (∀ σ', Stp X.K ρ0 σ0 H0 HF0 ρ' σ' H HF → (t.within own = true → Off own σ σ' ρ ρ') → Q σ' H) → SemG X tg v σ H Q
  | .nm i, tg, d, v, ρ, ρ', σ, H, HF, own, Q, h, e, st, r, q => by
    unfold chkT at h
    split at h
    · simp only [Bool.and_eq_true] at h
      obtain ⟨h1, _⟩ := nm_of G h.1
      obtain ⟨h2, h3⟩ := loc_of G h.2
      refine sem_pg (pg_name G.nd h1 h2 h3) ?_
      unfold asgT at e
      cases es : ρ[i]? with
      | none => rw [es] at e; cases e
      | some s =>
        have hi := (List.getElem?_eq_some_iff.mp es).1
        have fin : (∀ x, ρ[i]? ≠ some (.ow true x)) → ρ' = ρ.set i (.sh d) → gName i v σ H Q := fun hn e => by
          subst e
          refine q _ (stp_set st hi hn r) fun hw => ⟨List.length_set .., List.length_set .., fun j hj => ?_⟩
          have hne : i ≠ j := fun z => by
            subst z
            exact hj (by simpa [T.within] using hw)
          exact ⟨List.getElem?_set_ne hne, List.getElem?_set_ne hne⟩
        rw [es] at e
        cases s with
        | un => exact fin (by rw [es]; intro x z; cases z) (Option.some.inj e).symm
        | sh x => exact fin (by rw [es]; intro x z; cases z) (Option.some.inj e).symm
        | ow p x =>
          cases p with
          | true => cases e
          | false => exact fin (by rw [es]; intro x z; cases z) (Option.some.inj e).symm
    · cases h
  | .tu ts, tg, d, v, ρ, ρ', σ, H, HF, own, Q, h, e, st, r, q => by
    unfold chkT at h
    split at h
    · rename_i es k p
      obtain ⟨n1, n2⟩ := assignEach_plain (env := X.env) h
      cases r with
      | @tup a vs ds h1 r =>
        have e' : asgTs ts ds ρ = some ρ' := by simpa only [asgT] using e
        refine sem_pg (pg_tup G.calm pgs_sem n1 n2) ⟨a, vs, rfl, Same.seqT st.rl.sub h1, by rw [r.length]; exact asgTs_len e' h, jgs G h e' st r fun σ' s' w => q σ' s' fun hw => w (by simpa only [T.within] using hw)⟩
      | @lst a vs ds h1 r =>
        have e' : asgTs ts ds ρ = some ρ' := by simpa only [asgT] using e
        refine sem_pg (pg_lst G.calm pgs_sem n1 n2) ⟨a, vs, rfl, Same.seqL st.rl.sub h1, by rw [r.length]; exact asgTs_len e' h, jgs G h e' st r fun σ' s' w => q σ' s' fun hw => w (by simpa only [T.within] using hw)⟩
      | _ => simp [asgT] at e
    · cases h
theorem jgs {X : Cx} {c : SC} (G : Good X c) {ρ0 : Rho} {σ0 : L2.St} {H0 HF0 : Hp} : ∀ {ts : Ts} {es : List Expr} {ds : List D} {vs : List V} {ρ ρ' : Rho} {σ : L2.St} {H HF : Hp} {own : List Nat} {Q : L2.St → Hp → Prop}, chkTs c ts es = true → asgTs ts ds ρ = some ρ' →
    Stp X.K ρ0 σ0 H0 HF0 ρ σ H HF → Reps X.K HF vs ds → (∀ σ', Stp X.K ρ0 σ0 H0 HF0 ρ' σ' H HF → (ts.within own = true → Off own σ σ' ρ ρ') → Q σ' H) → SemGs X es vs σ H Q
  | .nil, [], ds, vs, ρ, ρ', σ, H, HF, own, Q, h, e, st, r, q => by
    cases r with
    | nil =>
      cases e
      exact sem_pgs pgs_nil ⟨rfl, q σ st fun _ => Off.refl⟩
    | cons _ _ => simp [asgTs] at e
  | .nil, _ :: _, _, _, _, _, _, _, _, _, _, h, _, _, _, _ => by simp [chkTs] at h
  | .cons t ts, [], _, _, _, _, _, _, _, _, _, h, _, _, _, _ => by simp [chkTs] at h
  | .cons t ts, e1 :: es, ds, vs, ρ, ρ', σ, H, HF, own, Q, h, e, st, r, q => by
    simp only [chkTs, Bool.and_eq_true] at h
    cases r with
    | nil => simp [asgTs] at e
    | @cons v vs d ds r1 r2 =>
      unfold asgTs at e
      cases e2 : asgT t d ρ with
      | none => rw [e2] at e; cases e
      | some ρ1 =>
        rw [e2] at e
        have hs : (assignEach (e1 :: es) X.env).map (·.2) = assign e1 X.env :: (assignEach es X.env).map (·.2) := by
          cases t with
          | nm i => cases e1 <;> first | rfl | (simp [chkT] at h)
          | tu us => cases e1 <;> first | rfl | (simp [chkT] at h)
        refine sem_pgs (pgs_cons pg_sem pgs_sem hs) ⟨v, vs, rfl, jg G (own := own) h.1 e2 st r1 fun σ1 st1 w1 => jgs G (own := own) h.2 e st1 r2 fun σ2 st2 w2 => q σ2 st2 fun hw => ?_⟩
        simp only [Ts.within, Bool.and_eq_true] at hw
        exact (w1 hw.1).trans (w2 hw.2)
end
end Mi

/-! Mi: walks -/
namespace Mi
open PySem PySem.Spec L2

def SemI (X : Cx) (tg iter : Expr) : TI := fun σ H R => ∀ (pins : List (Addr × Obj)) (s : Shared), Inv X pins σ H s →
  wpAny (model X.prog X.w) X.A (eval iter X.env) (fun v s1 => wpAny (model X.prog X.w) X.A (pyIter v) (PIE X pins σ tg R) X.xe s1) X.xe s
theorem pi_sem {X : Cx} {tg iter : Expr} : PI X tg iter (SemI X tg iter) := ⟨fun pins s _ _ _ I h => h pins s I⟩
theorem sem_pi {X : Cx} {tg iter : Expr} {t : TI} {σ : L2.St} {H : Hp} {R : It → Hp → Prop} (h : PI X tg iter t) (q : t σ H R) : SemI X tg iter σ H R := fun pins s I => h.run pins s σ H R I q

/-- a walk over items that are fast -/
structure WalkD (K : PySem.W.Frag) (J : It) (items : List D) (HF : Hp) : Prop where
  ex : ∃ (G : Hp → Prop) (Y : Nat → Hp → V → Hp → Prop), Walk J items.length G Y ∧ (∀ H, Same HF H → G H) ∧
    ∀ i H x H', Y i H x H' → (H' = H ∧ ∃ d, items[i]? = some d ∧ Rep K HF x d) ∨ ∃ T vs ds, x = .ref T ∧ H T = none ∧ H' = upd H T (.tup vs) ∧ items[i]? = some (.tup ds) ∧ Reps K HF vs ds
section
variable {K : PySem.W.Frag} {HF : Hp}
theorem wd_list {a : Addr} {vs : List V} {ds : List D} (h : SqL K HF a vs) (r : Reps K HF vs ds) : WalkD K (Itl K a) ds HF := by
  refine ⟨fun H => SqL K H a vs, YAt vs, ?_, fun H s => Same.seqL s h, fun i H x H' y => .inl ⟨y.1, ?_⟩⟩
  · rw [← r.length]; exact walk_list
  · obtain ⟨d, h1, h2⟩ := r.get' y.2
    exact ⟨d, h1, h2⟩
theorem wd_tup {a : Addr} {vs : List V} {ds : List D} (h : SqT K HF a vs) (r : Reps K HF vs ds) : WalkD K (Itt K a) ds HF := by
  refine ⟨fun H => SqT K H a vs, YAt vs, ?_, fun H s => Same.seqT s h, fun i H x H' y => .inl ⟨y.1, ?_⟩⟩
  · rw [← r.length]; exact walk_tup
  · obtain ⟨d, h1, h2⟩ := r.get' y.2
    exact ⟨d, h1, h2⟩
theorem wd_str {s : List Nat} (g : strG s = true) : WalkD K (Its ⟨s.toArray⟩) (s.map fun c => .str [c]) HF := by
  refine ⟨fun _ => True, fun i H v H' => H' = H ∧ ∃ c, (⟨s.toArray⟩ : Str).cps[i]? = some c ∧ v = .str ⟨#[c]⟩, ?_, fun _ _ => trivial, fun i H x H' y => ?_⟩
  · have e : (s.map fun c => D.str [c]).length = (⟨s.toArray⟩ : Str).cps.size := by simp
    rw [e]; exact walk_str
  · obtain ⟨h1, cc, h2, h3⟩ := y
    have h4 : s[i]? = some cc := by simpa using h2
    refine .inl ⟨h1, .str [cc], by rw [List.getElem?_map, h4]; rfl, ?_⟩
    subst h3
    exact .str (s := [cc]) (strG_sub g (fun z hz => by
      have : z = cc := by simpa using hz
      subst this
      exact List.mem_of_getElem? h4) (by have := (List.getElem?_eq_some_iff.mp h4).1; show 1 ≤ s.length; omega))
theorem rng_get {lo : Int} {n i : Nat} (h : i < n) : (rngD lo n)[i]? = some (.int (lo + (i : Nat))) := by
  unfold rngD
  rw [List.getElem?_map, List.getElem?_range h]
  rfl
theorem rng_len {lo : Int} {n : Nat} : (rngD lo n).length = n := by simp [rngD]
theorem wd_rng {lo : Int} {n : Nat} : WalkD K (Itr lo n) (rngD lo n) HF := by
  refine ⟨fun _ => True, fun i H x H' => i < n ∧ H' = H ∧ x = .int (lo + i), ?_, fun _ _ => trivial, fun i H x H' y => .inl ⟨y.2.1, _, rng_get y.1, by rw [y.2.2]; exact .int _⟩⟩
  rw [rng_len]
  exact ⟨fun i H hi _ => hi, fun H _ => Nat.le_refl _, fun i H x H' hi _ y => ⟨hi, y.1, y.2⟩⟩
theorem enum_get : ∀ {k : Nat} {ds : List D} {i : Nat} {d : D}, ds[i]? = some d → (enumD k ds)[i]? = some (.tup [.int ((k + i : Nat) : Int), d])
  | _, [], _, _, h => by simp at h
  | k, x :: r, 0, d, h => by
    have e : x = d := by simpa using h
    subst e
    simp [enumD]
  | k, x :: r, i + 1, d, h => by
    have e := enum_get (k := k + 1) (ds := r) (i := i) (d := d) (by simpa using h)
    have e2 : k + 1 + i = k + (i + 1) := by omega
    rw [e2] at e
    simpa [enumD] using e
theorem enum_len : ∀ {k : Nat} {ds : List D}, (enumD k ds).length = ds.length
  | _, [] => rfl
  | k, x :: r => by simp [enumD, enum_len (k := k + 1) (ds := r)]
theorem wd_enum {a : Addr} {vs : List V} {ds : List D} (h : SqL K HF a vs) (r : Reps K HF vs ds) : WalkD K (Ite K a) (enumD 0 ds) HF := by
  refine ⟨fun H => SqL K H a vs, _, by rw [enum_len, ← r.length]; exact walk_enum, fun H s => Same.seqL s h, fun i H x H' y => ?_⟩
  obtain ⟨T, u, w, rfl, h1, h2, h3, h4⟩ := y
  obtain ⟨d, h5, h6⟩ := r.get' h4
  have e := enum_get (k := 0) h5
  rw [Nat.zero_add] at e
  have eu : u = .int (i : Nat) := (Option.some.inj h3).symm
  subst eu
  exact .inr ⟨T, _, _, rfl, h1, h2, e, .cons (.int _) (.one h6)⟩
theorem zip_get : ∀ {xs ys : List D} {i : Nat} {x y : D}, xs[i]? = some x → ys[i]? = some y → (zipD xs ys)[i]? = some (.tup [x, y])
  | [], _, _, _, _, h, _ => by simp at h
  | _ :: _, [], _, _, _, _, h => by simp at h
  | a :: r, b :: s, 0, x, y, h, h2 => by
    have e : a = x := by simpa using h
    have e2 : b = y := by simpa using h2
    subst e
    subst e2
    simp [zipD]
  | a :: r, b :: s, i + 1, x, y, h, h2 => by
    have e := zip_get (xs := r) (ys := s) (i := i) (by simpa using h) (by simpa using h2)
    simpa [zipD] using e
theorem zip_len : ∀ {xs ys : List D}, (zipD xs ys).length = min xs.length ys.length
  | [], _ => by simp [zipD]
  | _ :: _, [] => by simp [zipD]
  | a :: r, b :: s => by
    simp only [zipD, List.length_cons, zip_len (xs := r) (ys := s)]
    omega
theorem wd_zip {a a2 : Addr} {vs ws : List V} {ds es : List D} (h : SqL K HF a vs) (r : Reps K HF vs ds) (h2 : SqL K HF a2 ws) (r2 : Reps K HF ws es) : WalkD K (Itz K a a2) (zipD ds es) HF := by
  refine ⟨fun H => SqL K H a vs ∧ SqL K H a2 ws, _, by rw [zip_len, ← r.length, ← r2.length]; exact walk_zip rfl, fun H s => ⟨Same.seqL s h, Same.seqL s h2⟩, fun i H x H' y => ?_⟩
  obtain ⟨T, u, w, rfl, h3, h4, h5, h6⟩ := y
  obtain ⟨d, g1, g2⟩ := r.get' h5
  obtain ⟨e, g3, g4⟩ := r2.get' h6
  exact .inr ⟨T, _, _, rfl, h3, h4, zip_get g1 g3, .cons g2 (.one g4)⟩
end

section
variable {X : Cx} {tg : Expr}
def iAny (K : PySem.W.Frag) (te : TE) : TI := fun σ H R => te σ H fun x H1 =>
  (∃ a xs, x = .ref a ∧ SqL K H1 a xs ∧ R (Itl K a) H1) ∨ (∃ a xs, x = .ref a ∧ SqT K H1 a xs ∧ R (Itt K a) H1) ∨ ∃ z, x = .str z ∧ R (Its z) H1
theorem pi_any {l : Expr} {tl : TE} (hl : PE X l tl) : PI X tg l (iAny X.K tl) := by
  refine ⟨fun pins s σ H R I h => ?_⟩
  refine thn (hl.run pins s σ H _ I h) fun v s1 ⟨x, H1, I1, r1, q1⟩ => ?_
  rcases q1 with ⟨a, xs, rfl, hq, q⟩ | ⟨a, xs, rfl, hq, q⟩ | ⟨z, rfl, q⟩
  · cases r1
    obtain ⟨its, rv, p, hz⟩ := I1.list hq
    refine wpAny_pyIter_list p.isList ?_
    refine ⟨s1.heap.objs.size, [s1.heap.objs.size], _, _, H1, rfl, I1.kept (t' := s1.toks) fun b o e => Heap.get?_push_of_some _ e, turn_list a _, ⟨_, Heap.get?_push_size _ rfl, rfl, rfl⟩, fun b hb => ?_, q⟩
    have e : b = s1.heap.objs.size := by simpa using hb
    subst e
    exact I1.fpOk (Nat.le_refl _) (I1.hok.fresh (Nat.le_refl _))
  · cases r1
    obtain ⟨its, rv, p, hz⟩ := I1.tuple hq
    refine wpAny_pyIter_tuple (show s1.heap.IsTuple a its.toArray from p) ?_
    refine ⟨s1.heap.objs.size, [s1.heap.objs.size], _, _, H1, rfl, I1.kept (t' := s1.toks) fun b o e => Heap.get?_push_of_some _ e, turn_tuple a _, ⟨_, Heap.get?_push_size _ rfl, rfl, rfl⟩, fun b hb => ?_, q⟩
    have e : b = s1.heap.objs.size := by simpa using hb
    subst e
    exact I1.fpOk (Nat.le_refl _) (I1.hok.fresh (Nat.le_refl _))
  · obtain ⟨t, rfl⟩ := r1
    cases ha : z.cps.all (· < 128)
    · exact wpAny_pyIter_wide ha (pi_one (tk := s1.toks) I1 _ (turn_str _ z t "str_iterator" (.inr rfl)) ⟨_, Heap.get?_push_size _ rfl, rfl, rfl⟩ q)
    · exact wpAny_pyIter_ascii ha (pi_one (tk := s1.toks) I1 _ (turn_str _ z t "str_ascii_iterator" (.inl rfl)) ⟨_, Heap.get?_push_size _ rfl, rfl, rfl⟩ q)
end

def JI (X : Cx) (XC : Nat → Value) (g : G) (m : I) (tg e : Expr) : Prop :=
  ∀ (b : Bs) (W : WX) (R : It → Hp → Prop), Takes X W → Rl X.K b.ρ b.σ b.H b.HF → Post X.K XC b W (evI g m b.ρ) (fun items ρ H HF => ∀ J, WalkD X.K J items HF → R J H) → SemI X tg e b.σ b.H R
section
variable {X : Cx} {XC : Nat → Value} {g : G} {c : SC} {b : Bs} {W : WX} {ρ : Rho} {H HF : Hp} {tg : Expr}
theorem post_outR {α β : Type} {o : Option α} {P : α → Rho → Hp → Hp → Prop} (h : Post X.K XC b W (outR ρ o) P) : ∃ a, o = some a ∧ Post X.K XC b W (.ok a ρ) P := by
  cases o with
  | none => exact h.elim
  | some a => exact ⟨a, rfl, h⟩
theorem post_frzI {f : D → Option (List D)} {p : Pl} {v : V} {P : List D → Rho → Hp → Hp → Prop} (h : Post X.K XC b W (frzI f p ρ) P) (st : StB X.K b ρ H HF) (r : RpB X.K b ρ H HF v p) :
    ∃ d ρ' HF' xs, StB X.K b ρ' H HF' ∧ Rep X.K HF' v d ∧ f d = some xs ∧ P xs ρ' H HF' ∧ Same HF HF' := by
  unfold frzI at h
  cases e : p.frz ρ with
  | none => rw [e] at h; exact h.elim
  | some y =>
    obtain ⟨d, ρ'⟩ := y
    rw [e] at h
    obtain ⟨HF', st', r', le, _⟩ := r.frz st e
    obtain ⟨xs, e2, h2⟩ := post_outR (β := Unit) h
    exact ⟨d, ρ', HF', xs, st', r', e2, h2 H HF' st', le⟩
theorem JE.seqD {β : Type} {m : E} {e : Expr} (hJ : JE X XC g m e) (tk : Takes X W) (st : StB X.K b ρ H HF) {f : Pl → Rho → R β} {P : β → Rho → Hp → Hp → Prop} {Q : VK} (hP : Post X.K XC b W ((evE g m ρ).bind f) P)
    (k : ∀ pl ρ' v H' HF', StE X.K ρ b.σ H HF ρ' H' HF' → StB X.K b ρ' H' HF' → RpB X.K b ρ' H' HF' v pl → (∀ v' d, RpB X.K b ρ H HF v' (.ow d) → ∀ e, pl = .ow e → v ≠ v') → Post X.K XC b W (f pl ρ') P → Q v H') : SemE X e b.σ H Q :=
  hJ ⟨ρ, b.σ, H, HF⟩ W Q tk st.rl ((post_bind hP).later st fun pl ρ' H' HF' s' h v r => k pl ρ' v H' HF' s' (st.trans s') (RepP.base r st) (fun v' d r' e he => by
    subst he
    obtain ⟨a, rfl, _, h2, h3, _⟩ := r'
    obtain ⟨a2, rfl, _, _, _, h4⟩ := r
    intro z
    cases z
    obtain ⟨u, hu⟩ := h3.some
    rcases h4 with z | z
    · have z' : H a = none := z
      rw [hu] at z'; cases z'
    · exact h2 z) h)
theorem ji_of {a : E} {x : Expr} (ja : JE X XC g a x) : JI X XC g (.of a) tg x := by
  intro b W R tk rl hP
  simp only [evI] at hP
  refine sem_pi (pi_any pe_sem) (ja.seq tk (rl_st rl) hP fun p1 ρ1 v H1 HF1 s1 st1 r1 hP1 => ?_)
  obtain ⟨d, ρ2, HF2, xs, st2, r2, e, hR, _⟩ := post_frzI hP1 st1 r1
  unfold itemsD at e
  split at e
  · cases e
    cases r2 with
    | lst h r => exact .inl ⟨_, _, rfl, Same.seqL st2.rl.sub h, hR _ (wd_list h r)⟩
  · cases e
    cases r2 with
    | tup h r => exact .inr (.inl ⟨_, _, rfl, Same.seqT st2.rl.sub h, hR _ (wd_tup h r)⟩)
  · cases e
    cases r2 with
    | str g1 => exact .inr (.inr ⟨_, rfl, hR _ (wd_str g1)⟩)
  · cases e
theorem ji_rng1 (G : Good X c) (L : Lib X XC g c) {a : E} {x : Str} {y : Expr} {p pos : Pos} (hg : glbB c x = true) (hx : (x == ("range" : Str)) = true) (hc : c.blt.contains x = true) (hs : notStar y = true) (ja : JE X XC g a y) :
    JI X XC g (.rng1 a) tg (.Call (.Name x p) [y] [] pos) := by
  intro b W R tk rl hP
  simp only [evI] at hP
  have ex := eq_of_beq hx
  subst ex
  refine sem_pi (pi_range1 (gl_of G hg).1 (L.bl _ hc) (pa_cons pe_sem pa_nil (star_cons hs)) (star_cons hs)) (ja.seq tk (rl_st rl) hP fun p1 ρ1 v H1 HF1 s1 st1 r1 hP1 => ?_)
  obtain ⟨xs, e, hP2⟩ := post_outR (β := Unit) hP1
  unfold rng1D at e
  split at e
  · rename_i j e1
    split at e
    · rename_i hj
      cases e
      obtain rfl := (r1.vw st1.rl e1).int
      unfold smallI at hj
      simp only [Bool.and_eq_true, decide_eq_true_eq] at hj
      exact ⟨j, rfl, by omega, by omega, hP2 H1 HF1 st1 _ wd_rng⟩
    · cases e
  · cases e
theorem ji_rng2 (G : Good X c) (L : Lib X XC g c) {a m : E} {x : Str} {y z : Expr} {p pos : Pos} (hg : glbB c x = true) (hx : (x == ("range" : Str)) = true) (hc : c.blt.contains x = true) (hs : notStar y = true) (hz : notStar z = true) (ja : JE X XC g a y) (jb : JE X XC g m z) :
    JI X XC g (.rng2 a m) tg (.Call (.Name x p) [y, z] [] pos) := by
  intro b W R tk rl hP
  simp only [evI] at hP
  have ex := eq_of_beq hx
  subst ex
  refine sem_pi (pi_range2 (gl_of G hg).1 (L.bl _ hc) (pa_cons pe_sem (pa_cons pe_sem pa_nil (star_cons hz)) (star_cons hs)) (by rw [star_cons hs, star_cons hz]; rfl) (star_cons hz))
    (ja.seq tk (rl_st rl) hP fun p1 ρ1 v H1 HF1 s1 st1 r1 hP1 => jb.seq tk st1 hP1 fun p2 ρ2 w H2 HF2 s2 st2 r2 hP2 => ?_)
  obtain ⟨xs, e, hP3⟩ := post_outR (β := Unit) hP2
  unfold rng2D at e
  split at e
  · rename_i i j e1 e2
    split at e
    · rename_i hj
      cases e
      obtain rfl := ((r1.step s2).vw st2.rl e1).int
      obtain rfl := (r2.vw st2.rl e2).int
      unfold smallI at hj
      simp only [Bool.and_eq_true, decide_eq_true_eq] at hj
      exact ⟨i, j, rfl, ⟨by omega, by omega, by omega, by omega⟩, hP3 H2 HF2 st2 _ wd_rng⟩
    · cases e
  · cases e
theorem seqD_lst {d : D} {xs : List D} (h : seqD d = some xs) : d = .lst xs := by
  cases d with
  | lst ys => cases h; rfl
  | _ => cases h
theorem ji_enum (G : Good X c) (L : Lib X XC g c) {a : E} {x : Str} {y : Expr} {p pos tp : Pos} {elts : List Expr} {kk : Nat} (hg : glbB c x = true) (hx : (x == ("enumerate" : Str)) = true) (hc : c.blt.contains x = true) (hs : notStar y = true) (ja : JE X XC g a y) :
    JI X XC g (.enum a) (.Tuple elts kk tp) (.Call (.Name x p) [y] [] pos) := by
  intro b W R tk rl hP
  simp only [evI] at hP
  have ex := eq_of_beq hx
  subst ex
  refine sem_pi (pi_enum (gl_of G hg).1 (L.bl _ hc) (pa_cons pe_sem pa_nil (star_cons hs)) (star_cons hs)) (ja.seq tk (rl_st rl) hP fun p1 ρ1 v H1 HF1 s1 st1 r1 hP1 => ?_)
  obtain ⟨d, ρ2, HF2, xs, st2, r2, e, hR, _⟩ := post_frzI hP1 st1 r1
  cases e1 : seqD d with
  | none => rw [e1] at e; cases e
  | some ys =>
    rw [e1] at e
    cases e
    obtain rfl := seqD_lst e1
    cases r2 with
    | lst h r => exact ⟨_, _, rfl, Same.seqL st2.rl.sub h, hR _ (wd_enum h r)⟩
theorem ji_zip (G : Good X c) (L : Lib X XC g c) {a m : E} {x : Str} {y z : Expr} {p pos tp : Pos} {elts : List Expr} {kk : Nat} (hg : glbB c x = true) (hx : (x == ("zip" : Str)) = true) (hc : c.blt.contains x = true) (hs : notStar y = true) (hz : notStar z = true) (ja : JE X XC g a y) (jb : JE X XC g m z) :
    JI X XC g (.zip a m) (.Tuple elts kk tp) (.Call (.Name x p) [y, z] [] pos) := by
  intro b W R tk rl hP
  simp only [evI] at hP
  have ex := eq_of_beq hx
  subst ex
  refine sem_pi (pi_zip (gl_of G hg).1 (L.bl _ hc) (pa_cons pe_sem (pa_cons pe_sem pa_nil (star_cons hz)) (star_cons hs)) (star_cons hs) (plain_args (by simp [hz])))
    (ja.seq tk (rl_st rl) hP fun p1 ρ1 v H1 HF1 s1 st1 r1 hP1 => ?_)
  refine jb.seqD tk st1 hP1 fun p2 ρ2 w H2 HF2 s2 st2 r2 dis hP2 => ?_
  have two : RpBs X.K b ρ2 H2 HF2 [v, w] [p1, p2] := .cons (r1.step s2) (fun d e w' e' hm => by
    subst e
    have q : w' = w ∧ Pl.ow e' = p2 := by simpa using hm
    obtain ⟨rfl, q2⟩ := q
    exact dis v d r1 e' q2.symm) (.cons r2 (fun d e w' e' hm => by simp at hm) .nil)
  split at hP2
  · rename_i d ρ3 e1
    obtain ⟨HF3, st3, r3, le3, two3, _⟩ := two.tail_frz st2 e1
    cases two3 with
    | cons r4 _ _ =>
      obtain ⟨e, ρ4, HF4, xs, st4, r5, e2, hR, le4⟩ := post_frzI hP2 st3 r4
      cases e3 : seqD d with
      | none => rw [e3] at e2; cases e2
      | some ys =>
        cases e4 : seqD e with
        | none => rw [e3, e4] at e2; cases e2
        | some zs =>
          rw [e3, e4] at e2
          cases e2
          obtain rfl := seqD_lst e3
          obtain rfl := seqD_lst e4
          cases r3 with
          | lst g1 g2 =>
            cases r5 with
            | lst g3 g4 => exact ⟨_, _, _, _, rfl, Same.seqL (le4.trans st4.rl.sub) g1, Same.seqL st4.rl.sub g3, hR _ (wd_zip (Same.seqL le4 g1) (g2.mono le4) g3 g4)⟩
  · exact hP2.elim
end
end Mi

/-! Mi: comprehensions; every expression -/
namespace Mi
open PySem PySem.Spec L2

/-! ### wiping slots -/
theorem wipeR_len {ρ : Rho} : ∀ {vs : List Nat}, (wipeR ρ vs).length = ρ.length
  | [] => rfl
  | v :: vs => by unfold wipeR; rw [List.length_set, wipeR_len]
theorem wipeR_off {ρ : Rho} {i : Nat} : ∀ {vs : List Nat}, i ∉ vs → (wipeR ρ vs)[i]? = ρ[i]?
  | [], _ => rfl
  | v :: vs, h => by
    simp only [List.mem_cons, not_or] at h
    unfold wipeR
    rw [List.getElem?_set_ne (Ne.symm h.1), wipeR_off h.2]
theorem wipeR_on {ρ : Rho} {i : Nat} (hi : i < ρ.length) : ∀ {vs : List Nat}, i ∈ vs → (wipeR ρ vs)[i]? = some .un
  | [], h => by simp at h
  | v :: vs, h => by
    unfold wipeR
    by_cases e : v = i
    · subst e; exact List.getElem?_set_self (by rw [wipeR_len]; exact hi)
    · rw [List.getElem?_set_ne e]
      rcases List.mem_cons.mp h with z | z
      · exact absurd z.symm e
      · exact wipeR_on hi z
theorem wipe_eq {σ σ' : L2.St} {vs : List Nat} (h : σ'.length = σ.length) (hj : ∀ j, j ∉ vs → σ'[j]? = σ[j]?) : wipe σ' vs = wipe σ vs := by
  have key : ∀ (us : List Nat) (τ : L2.St) (j : Nat), j ∈ us → j < τ.length → (wipe τ us)[j]? = some none := by
    intro us
    induction us with
    | nil => intro τ j hm; simp at hm
    | cons u us ih =>
      intro τ j hm hl
      unfold wipe
      by_cases e : u = j
      · subst e; exact List.getElem?_set_self (by rw [wipe_length]; exact hl)
      · rw [List.getElem?_set_ne e]
        rcases List.mem_cons.mp hm with z | z
        · exact absurd z.symm e
        · exact ih τ j z hl
  apply List.ext_getElem?
  intro j
  by_cases hm : j ∈ vs
  · by_cases hl : j < σ.length
    · rw [key vs σ' j hm (by omega), key vs σ j hm hl]
    · rw [List.getElem?_eq_none (by rw [wipe_length]; omega), List.getElem?_eq_none (by rw [wipe_length]; omega)]
  · rw [wipe_out hm, wipe_out hm, hj j hm]
theorem back_len {ρ0 ρ : Rho} : ∀ {vs : List Nat}, (back ρ0 vs ρ).length = ρ.length
  | [] => rfl
  | v :: vs => by unfold back; rw [List.length_set, back_len]
theorem back_off {ρ0 ρ : Rho} {i : Nat} : ∀ {vs : List Nat}, i ∉ vs → (back ρ0 vs ρ)[i]? = ρ[i]?
  | [], _ => rfl
  | v :: vs, h => by
    simp only [List.mem_cons, not_or] at h
    unfold back
    rw [List.getElem?_set_ne (Ne.symm h.1), back_off h.2]
theorem back_on {ρ0 ρ : Rho} {i : Nat} (hi : i < ρ.length) (hl : i < ρ0.length) : ∀ {vs : List Nat}, i ∈ vs → (back ρ0 vs ρ)[i]? = ρ0[i]?
  | [], h => by simp at h
  | v :: vs, h => by
    unfold back
    by_cases e : v = i
    · subst e
      rw [List.getElem?_set_self (by rw [back_len]; exact hi), List.getD_eq_getElem?_getD, List.getElem?_eq_getElem hl]
      rfl
    · rw [List.getElem?_set_ne e]
      rcases List.mem_cons.mp h with z | z
      · exact absurd z.symm e
      · exact back_on hi hl z
theorem okW_of {own : List Nat} {ρ : Rho} (h : okW own ρ = true) : ∀ i ∈ own, i < ρ.length ∧ ∀ p d, ρ[i]? ≠ some (.ow p d) := fun i hi => by
  unfold okW at h
  have q := List.all_eq_true.mp h i hi
  cases e : ρ[i]? with
  | none => rw [e] at q; cases q
  | some s =>
    refine ⟨(List.getElem?_eq_some_iff.mp e).1, fun p d z => ?_⟩
    rw [e] at q
    cases z
    cases q
section
variable {K : PySem.W.Frag} {ρ0 ρ : Rho} {σ0 σ : L2.St} {H0 HF0 H HF : Hp} {own : List Nat}
theorem wipe_own (h : okW own ρ = true) (i : Nat) (p : Bool) (d : D) : (wipeR ρ own)[i]? = some (.ow p d) ↔ ρ[i]? = some (.ow p d) := by
  by_cases hi : i ∈ own
  · obtain ⟨h1, h2⟩ := okW_of h i hi
    rw [wipeR_on h1 hi]
    exact ⟨fun z => (by cases z), fun z => absurd z (h2 p d)⟩
  · rw [wipeR_off hi]
/-- the block's own slots are forgotten -/
theorem stp_wipe (s : Stp K ρ0 σ0 H0 HF0 ρ σ H HF) (h : okW own ρ = true) (σ' : L2.St) (hl : σ'.length = σ.length) (hj : ∀ j, j ∉ own → σ'[j]? = σ[j]?) : Stp K ρ0 σ0 H0 HF0 (wipeR ρ own) σ' H HF := by
  have off : ∀ i p d, ρ[i]? = some (.ow p d) → i ∉ own := fun i p d e hi => (okW_of h i hi).2 p d e
  have ownB : ∀ a, Owned (wipeR ρ own) σ' a → Owned ρ σ a := fun a ⟨i, p, d, x, y⟩ => by
    have e := (wipe_own h i p d).mp x
    exact ⟨i, p, d, e, by rw [← hj i (off i p d e)]; exact y⟩
  refine ⟨s.le, ⟨s.rl.sub, by rw [wipeR_len, hl]; exact s.rl.len, fun i d e => ?_, fun i p d e => ?_, fun i j p q d e a x y => ?_⟩, s.fr, s.fsh, fun a q => s.own a (ownB a q), s.dom, fun i d e => ?_, fun i d e => s.par' i d ((wipe_own h i true d).mp e)⟩
  · by_cases hi : i ∈ own
    · rw [wipeR_on (okW_of h i hi).1 hi] at e; cases e
    · rw [wipeR_off hi] at e; rw [hj i hi]; exact s.rl.sh i d e
  · have e' := (wipe_own h i p d).mp e
    rw [hj i (off i p d e')]
    exact s.rl.ow i p d e'
  · have x1 := (wipe_own h i p d).mp x.1
    have y1 := (wipe_own h j q e).mp y.1
    have x2 := x.2
    have y2 := y.2
    rw [hj i (off i p d x1)] at x2
    rw [hj j (off j q e y1)] at y2
    exact s.rl.dis i j p q d e a ⟨x1, x2⟩ ⟨y1, y2⟩
  · obtain ⟨⟨d', h1⟩, h2⟩ := s.par i d e
    exact ⟨⟨d', (wipe_own h i true d').mpr h1⟩, by rw [hj i (off i true d' h1)]; exact h2⟩
/-- live but for the block's own slots -/
def LiveO (own : List Nat) (ρ ρ' : Rho) : Prop := ρ'.length = ρ.length ∧ ∀ i, i ∉ own → (∀ d, ρ[i]? = some (.sh d) → ρ'[i]? = some (.sh d)) ∧ (∀ p d, ρ[i]? = some (.ow p d) → ∃ d', ρ'[i]? = some (.sh d') ∨ ρ'[i]? = some (.ow p d'))
theorem LiveO.refl {ρ : Rho} : LiveO own ρ ρ := ⟨rfl, fun _ _ => ⟨fun _ h => h, fun _ d h => ⟨d, .inr h⟩⟩⟩
theorem LiveO.trans {ρ1 ρ2 : Rho} (a : LiveO own ρ ρ1) (b : LiveO own ρ1 ρ2) : LiveO own ρ ρ2 := by
  refine ⟨b.1.trans a.1, fun i hi => ⟨fun d h => (b.2 i hi).1 d ((a.2 i hi).1 d h), fun p d h => ?_⟩⟩
  obtain ⟨d1, h1 | h1⟩ := (a.2 i hi).2 p d h
  · exact ⟨d1, .inl ((b.2 i hi).1 d1 h1)⟩
  · exact (b.2 i hi).2 p d1 h1
theorem LiveO.of {ρ1 : Rho} (h : Live ρ ρ1) : LiveO own ρ ρ1 := ⟨h.1, fun i _ => ⟨h.2.1 i, h.2.2 i⟩⟩
theorem LiveO.off {ρ1 : Rho} {σ1 : L2.St} (h : Off own σ σ1 ρ ρ1) : LiveO own ρ ρ1 :=
  ⟨h.2.1, fun i hi => ⟨fun d e => by rw [(h.2.2 i hi).2]; exact e, fun p d e => ⟨d, .inr (by rw [(h.2.2 i hi).2]; exact e)⟩⟩⟩
theorem LiveO.wipe : LiveO own ρ (wipeR ρ own) :=
  ⟨wipeR_len, fun i hi => ⟨fun d e => by rw [wipeR_off hi]; exact e, fun p d e => ⟨d, .inr (by rw [wipeR_off hi]; exact e)⟩⟩⟩
/-- behind the block -/
theorem st_back {ρ1 ρb : Rho} {H1 HF1 : Hp} (h1 : okW own ρ1 = true) (r1 : Rl K ρ1 σ H1 HF1) (s : Stp K (wipeR ρ1 own) (wipe σ own) H1 HF1 ρb (wipe σ own) H HF) (lo : LiveO own ρ1 ρb) (hw : okW own ρb = true) :
    StE K ρ1 σ H1 HF1 (back ρ1 own ρb) H HF := by
  have off1 : ∀ i p d, ρ1[i]? = some (.ow p d) → i ∉ own := fun i p d e hi => (okW_of h1 i hi).2 p d e
  have own1 : ∀ a, Owned (wipeR ρ1 own) (wipe σ own) a ↔ Owned ρ1 σ a := fun a => by
    constructor
    · rintro ⟨i, p, d, x, y⟩
      have e := (wipe_own h1 i p d).mp x
      exact ⟨i, p, d, e, by rw [← wipe_out (off1 i p d e)]; exact y⟩
    · rintro ⟨i, p, d, x, y⟩
      exact ⟨i, p, d, (wipe_own h1 i p d).mpr x, by rw [wipe_out (off1 i p d x)]; exact y⟩
  have gb : ∀ i p d, (back ρ1 own ρb)[i]? = some (.ow p d) → i ∉ own ∧ ρb[i]? = some (.ow p d) := fun i p d e => by
    by_cases hi : i ∈ own
    · rw [back_on (okW_of hw i hi).1 (okW_of h1 i hi).1 hi] at e
      exact absurd e ((okW_of h1 i hi).2 p d)
    · rw [back_off hi] at e; exact ⟨hi, e⟩
  refine ⟨⟨s.le, ⟨s.rl.sub, by rw [back_len, lo.1]; exact r1.len, fun i d e => ?_, fun i p d e => ?_, fun i j p q d e a x y => ?_⟩, fun a o e n => s.fr a o e fun z => n ((own1 a).mp z), fun a o e => ?_, fun a q => ?_, s.dom, fun i d e => ?_, fun i d e => ?_⟩, ⟨by rw [back_len, lo.1], fun i d e => ?_, fun i p d e => ?_⟩⟩
  · by_cases hi : i ∈ own
    · rw [back_on (okW_of hw i hi).1 (okW_of h1 i hi).1 hi] at e
      obtain ⟨v, q1, q2⟩ := r1.sh i d e
      exact ⟨v, q1, q2.mono s.le⟩
    · rw [back_off hi] at e
      obtain ⟨v, q1, q2⟩ := s.rl.sh i d e
      rw [wipe_out hi] at q1
      exact ⟨v, q1, q2⟩
  · obtain ⟨hi, e'⟩ := gb i p d e
    obtain ⟨a, q1, q2, q3⟩ := s.rl.ow i p d e'
    rw [wipe_out hi] at q1
    exact ⟨a, q1, q2, q3⟩
  · obtain ⟨hi, x1⟩ := gb i p d x.1
    obtain ⟨hj, y1⟩ := gb j q e y.1
    exact s.rl.dis i j p q d e a ⟨x1, by rw [wipe_out hi]; exact x.2⟩ ⟨y1, by rw [wipe_out hj]; exact y.2⟩
  · rcases s.fsh a o e with q | q | q
    · exact .inl q
    · exact .inr (.inl q)
    · exact .inr (.inr ((own1 a).mp q))
  · obtain ⟨i, p, d, x, y⟩ := q
    obtain ⟨hi, x1⟩ := gb i p d x
    rcases s.own a ⟨i, p, d, x1, by rw [wipe_out hi]; exact y⟩ with q | q
    · exact .inl ((own1 a).mp q)
    · exact .inr q
  · have hi := off1 i true d e
    obtain ⟨⟨d', q1⟩, q2⟩ := s.par i d ((wipe_own h1 i true d).mpr e)
    exact ⟨⟨d', by rw [back_off hi]; exact q1⟩, rfl⟩
  · obtain ⟨hi, e'⟩ := gb i true d e
    obtain ⟨d', q⟩ := s.par' i d e'
    exact ⟨d', (wipe_own h1 i true d').mp q⟩
  · by_cases hi : i ∈ own
    · rw [back_on (okW_of hw i hi).1 (okW_of h1 i hi).1 hi]; exact e
    · rw [back_off hi]; exact (lo.2 i hi).1 d e
  · have hi := off1 i p d e
    rw [back_off hi]
    exact (lo.2 i hi).2 p d e
theorem back_owned {ρ1 ρb : Rho} (h1 : okW own ρ1 = true) (hw : okW own ρb = true) {a : Addr} (q : Owned (back ρ1 own ρb) σ a) : Owned ρb (wipe σ own) a := by
  obtain ⟨i, p, d, x, y⟩ := q
  by_cases hi : i ∈ own
  · rw [back_on (okW_of hw i hi).1 (okW_of h1 i hi).1 hi] at x
    exact absurd x ((okW_of h1 i hi).2 p d)
  · rw [back_off hi] at x
    exact ⟨i, p, d, x, by rw [wipe_out hi]; exact y⟩
theorem wipe_owned (h : okW own ρ = true) {σ' : L2.St} (hj : ∀ j, j ∉ own → σ'[j]? = σ[j]?) {a : Addr} (q : Owned (wipeR ρ own) σ' a) : Owned ρ σ a := by
  obtain ⟨i, p, d, x, y⟩ := q
  have e := (wipe_own h i p d).mp x
  exact ⟨i, p, d, e, by rw [← hj i fun hi => (okW_of h i hi).2 p d e]; exact y⟩
theorem okW_wipe {own : List Nat} (h : ∀ i ∈ own, i < ρ.length) : okW own (wipeR ρ own) = true := by
  unfold okW
  refine List.all_eq_true.mpr fun i hi => ?_
  rw [wipeR_on (h i hi) hi]
/-- a new object of nobody's is changed -/
theorem stp_fresh {p : Addr} {o : HO} (s : Stp K ρ0 σ0 H0 HF0 ρ σ H HF) (h0 : H0 p = none) (hf : HF p = none) (ho : ¬ Owned ρ σ p) : Stp K ρ0 σ0 H0 HF0 ρ σ (upd H p o) HF := by
  refine ⟨s.le, ⟨fun a u e => ?_, s.rl.len, s.rl.sh, fun i q d e => ?_, s.rl.dis⟩, fun a u e n => ?_, s.fsh, s.own, fun a e => ?_, s.par, s.par'⟩
  · rw [upd_ne (ne_of_none e hf)]; exact s.rl.sub a u e
  · obtain ⟨a, h1, h2, h3⟩ := s.rl.ow i q d e
    have ha : a ≠ p := fun z => ho (z ▸ ⟨i, q, d, e, h1⟩)
    exact ⟨a, h1, h2, h3.mono (fun _ _ z => z) (upd_ne ha)⟩
  · rw [upd_ne (ne_of_none e h0)]; exact s.fr a u e n
  · by_cases ha : a = p
    · subst ha; rw [upd_same] at e; cases e
    · rw [upd_ne ha] at e; exact s.dom a e
/-- a new object, fast -/
theorem stp_new {p : Addr} {o : HO} (s : Stp K ρ0 σ0 H0 HF0 ρ σ H HF) (hp : H p = none) : Stp K ρ0 σ0 H0 HF0 ρ σ (upd H p o) (upd HF p o) := by
  have e := st_alloc_f (b := ⟨ρ, σ, H, HF⟩) (o := o) (StE.refl s.rl) hp
  exact s.trans e.toStp
end

/-! ### the block's context -/
section
variable {X : Cx} {XC : Nat → Value} {g : G} {c : SC}
theorem good_blk (G : Good X c) (s : Shared) (H : Hp) (scope : Scope) (cl : List (Str × Addr)) (C : Addr) (fp : List Addr) : Good (X.blk s H scope (compEnvC scope cl C X.env) fp) (c.blk scope) := by
  refine ⟨G.N, G.nd, G.calm, ?_, fun x h => h, PassesOwn.never⟩
  show relabel scope X.env = relS scope c.sc
  rw [← G.sc]
  rfl
theorem lib_blk (L : Lib X XC g c) (s : Shared) (H : Hp) (scope : Scope) (cenv : PySem.Env) (fp : List Addr) : Lib (X.blk s H scope cenv fp) XC g (c.blk scope) := ⟨L.room, L.bl, L.cn⟩
def SemTs (X : Cx) (ifs : List Expr) : TT := fun σ H Q => ∀ (pins : List (Addr × Obj)) (s : Shared), Inv X pins σ H s →
  wpAny (model X.prog X.w) X.A (forIn ifs true fun c r => if r = true then do let ok ← isTrue c X.env (eval c X.env); pure (ForInStep.yield ok) else pure (ForInStep.yield r)) (TP X pins σ Q) X.xe s
def JC (X : Cx) (XC : Nat → Value) (g : G) (m : Es) (ifs : List Expr) : Prop :=
  ∀ (b : Bs) (W : WX) (Q : Bool → Hp → Prop), Takes X W → Rl X.K b.ρ b.σ b.H b.HF → Post X.K XC b W (evC g m b.ρ) (fun k ρ H HF => Q k H) → SemTs X ifs b.σ b.H Q
theorem jc_nil : JC X XC g .nil [] := by
  intro b W Q tk rl hP
  simp only [evC] at hP
  exact fun pins s I => (pts_nil (X := X)).run pins s b.σ b.H Q I (hP b.H b.HF (rl_st rl))
theorem jc_one {m : E} {e : Expr} (jt : JT X XC g m e) : JC X XC g (.cons m .nil) [e] := by
  intro b W Q tk rl hP
  have hP' : Post X.K XC b W (evT g m b.ρ) (fun k ρ H HF => Q k H) := by
    simp only [evC] at hP
    exact hP
  exact fun pins s I => (pts_one (pt_sem (X := X) (e := e))).run pins s b.σ b.H Q I (jt b W Q tk rl hP')
theorem Post.mono {α : Type} {b : Bs} {W : WX} {r : R α} {P P' : α → Rho → Hp → Hp → Prop} (h : Post X.K XC b W r P) (k : ∀ a ρ H HF, StB X.K b ρ H HF → P a ρ H HF → P' a ρ H HF) : Post X.K XC b W r P' := by
  cases r with
  | ok a ρ => exact fun H HF st => k a ρ H HF st (h H HF st)
  | ex cc ρ => exact h
  | bad => exact h
theorem bind_ok {α β : Type} {r : R α} {f : α → Rho → R β} {y : β} {ρ' : Rho} (h : r.bind f = .ok y ρ') : ∃ a ρ, r = .ok a ρ ∧ f a ρ = .ok y ρ' := by
  cases r with
  | ok a ρ => exact ⟨a, ρ, rfl, h⟩
  | ex _ _ => cases h
  | bad => cases h
theorem own_map (N : List Str) (own : List Nat) : (ownOf N own).map (·.2) = own := by
  unfold ownOf
  rw [List.map_map]
  exact List.map_id own
/-- readings within any such block -/
def gB (X : Cx) (scope : Scope) (tg : Expr) : TG := fun v σ H Q => ∀ (s : Shared) (H0 : Hp) (C : Addr) (cl : List (Str × Addr)) (fp : List Addr), SemG (X.blk s H0 scope (compEnvC scope cl C X.env) fp) tg v σ H Q
def ttB (X : Cx) (scope : Scope) (ifs : List Expr) : TT := fun σ H Q => ∀ (s : Shared) (H0 : Hp) (C : Addr) (cl : List (Str × Addr)) (fp : List Addr), SemTs (X.blk s H0 scope (compEnvC scope cl C X.env) fp) ifs σ H Q
def teB (X : Cx) (scope : Scope) (elt : Expr) : TE := fun σ H Q => ∀ (s : Shared) (H0 : Hp) (C : Addr) (cl : List (Str × Addr)) (fp : List Addr), SemE (X.blk s H0 scope (compEnvC scope cl C X.env) fp) elt σ H Q
theorem comp_read {own : List Nat} {t : T} {cs : Es} {a : E} {tg elt : Expr} {ifs : List Expr} {scope : Scope} {b : Bs} {W : WX} {ρ1 ρ2 : Rho} {H1 HF1 : Hp} {J : It} {xs ds : List D} {Q : VK} (G : Good X c)
    (ht : chkT (c.blk scope) t tg = true) (hc : ∀ (s : Shared) (H : Hp) (C : Addr) (cl : List (Str × Addr)) (fp : List Addr), JC (X.blk s H scope (compEnvC scope cl C X.env) fp) XC g cs ifs)
    (he : ∀ (s : Shared) (H : Hp) (C : Addr) (cl : List (Str × Addr)) (fp : List Addr), JE (X.blk s H scope (compEnvC scope cl C X.env) fp) XC g a elt)
    (st1 : StB X.K b ρ1 H1 HF1) (wd : WalkD X.K J xs HF1) (hok : okW own ρ1 = true) (hw : t.within own = true) (hl : xs.length ≤ big)
    (hcomp : compL own (asgT t) (fun r => evC g cs r) (fun r => evE g a r) xs [] (wipeR ρ1 own) = .ok ds ρ2)
    (hP : Post X.K XC b W (.ok (.ow (.lst ds)) (back ρ1 own ρ2)) (fun pl ρ H HF => ∀ v, RpB X.K b ρ H HF v pl → Q v H)) (D0 : Addr) (hD : H1 D0 = none) :
    ∃ W : Nat → Nat → Hp → Prop, (∃ m, W 0 m (upd H1 D0 (.lst []))) ∧ ∀ i m H, W i m H →
      (J.stop i H ∧ Q (.ref D0) H) ∨ (J.go i H ∧ ∃ Nx : Hp → Prop, (∀ H', Nx H' → ∃ m', m' < m ∧ W (i + 1) m' H') ∧ ∀ x H', J.yld i H x H' →
        gB X scope tg x (wipe b.σ own) H' fun σ2 H2 => wipe σ2 own = wipe b.σ own ∧
          ttB X scope ifs σ2 H2 fun k H3 =>
            if k = true then teB X scope elt σ2 H3 fun y H4 =>
              ∃ acc, H4 D0 = some (.lst acc) ∧ acc.length < sizeLine ∧ Nx (upd H4 D0 (.lst (acc ++ [y]))) else Nx H3) := by
  obtain ⟨Gw, Y, w, wG, wY⟩ := wd.ex
  have hbig : big = sizeLine := by decide
  have rl1 : Rl X.K (wipeR ρ1 own) (wipe b.σ own) H1 HF1 := (stp_wipe st1.toStp hok (wipe b.σ own) (wipe_length _ _) fun j hj => wipe_out hj).rl
  have hlen : ∀ i ∈ own, i < ρ1.length := fun i hi => (okW_of hok i hi).1
  refine lc_it w (fun i H' => ∃ ρb HFb vs acc, Stp X.K (wipeR ρ1 own) (wipe b.σ own) H1 HF1 ρb (wipe b.σ own) H' HFb ∧ LiveO own ρ1 ρb ∧ okW own ρb = true ∧ H' D0 = some (.lst vs) ∧ Reps X.K HFb vs acc ∧ HFb D0 = none ∧ ¬ Owned ρb (wipe b.σ own) D0 ∧ vs.length ≤ i ∧
      compL own (asgT t) (fun r => evC g cs r) (fun r => evE g a r) (xs.drop i) acc ρb = .ok ds ρ2) ?_ ?_ ?_ ?_
  · have hf : HF1 D0 = none := by
      cases e : HF1 D0 with
      | none => rfl
      | some u => rw [st1.rl.sub D0 u e] at hD; cases hD
    refine ⟨wipeR ρ1 own, HF1, [], [], (st_alloc (b := ⟨wipeR ρ1 own, wipe b.σ own, H1, HF1⟩) (StE.refl rl1) hD).toStp, LiveO.wipe, okW_wipe hlen, upd_same, .nil, hf, fun ⟨i, p, d, x, y⟩ => ?_, Nat.le_refl _, hcomp⟩
    obtain ⟨a', q1, _, q3⟩ := rl1.ow i p d x
    rw [y] at q1
    cases q1
    obtain ⟨u, hu⟩ := q3.some
    rw [hD] at hu
    cases hu
  · rintro i H' _ ⟨ρb, HFb, vs, acc, s, _⟩
    exact wG H' (s.le.trans s.rl.sub)
  · rintro i x H' H'' hi ⟨ρb, HFb, vs, acc, s, lo, okb, hv, rv, hfD, noD, hvl, hcl⟩ y
    obtain ⟨d, rest, hdr, hxd⟩ : ∃ d rest, xs.drop i = d :: rest ∧ xs[i]? = some d := ⟨xs[i], xs.drop (i + 1), List.drop_eq_getElem_cons hi, List.getElem?_eq_getElem hi⟩
    have hrest : xs.drop (i + 1) = rest := by
      have q : xs.drop (i + 1) = (xs.drop i).drop 1 := by rw [List.drop_drop]
      rw [q, hdr]
      rfl
    rw [hdr] at hcl
    -- the item at hand
    obtain ⟨HFc, sc, rx, lec, hfc, hvc⟩ : ∃ HFc, Stp X.K (wipeR ρ1 own) (wipe b.σ own) H1 HF1 ρb (wipe b.σ own) H'' HFc ∧ Rep X.K HFc x d ∧ Same HFb HFc ∧ HFc D0 = none ∧ H'' D0 = some (.lst vs) := by
      rcases wY i H' x H'' y with ⟨rfl, d', h1, h2⟩ | ⟨T, us, es, rfl, h1, rfl, h2, h3⟩
      · rw [hxd] at h1
        cases h1
        exact ⟨HFb, s, h2.mono s.le, fun _ _ q => q, hfD, hv⟩
      · rw [hxd] at h2
        cases h2
        have hT : HFb T = none := by
          cases e : HFb T with
          | none => rfl
          | some u => rw [s.rl.sub T u e] at h1; cases h1
        have hne : D0 ≠ T := ne_of_none hv h1
        exact ⟨upd HFb T (.tup us), stp_new s h1, .tup (SqT.of upd_same) ((h3.mono s.le).mono (upd_le hT)), upd_le hT, by rw [upd_ne hne]; exact hfD, by rw [upd_ne hne]; exact hv⟩
    simp only [compL] at hcl
    cases e1 : asgT t d ρb with
    | none => rw [e1] at hcl; cases hcl
    | some ρ3 =>
      rw [e1] at hcl
      dsimp only at hcl
      intro s0 H0 C cl fp
      refine jg (good_blk G s0 H0 scope cl C fp) (own := own) (ρ0 := ρb) (σ0 := wipe b.σ own) (H0 := H'') (HF0 := HFc) ht e1 (Stp.refl sc.rl) rx fun σ3 s3 off3 => ?_
      have off := off3 hw
      have wi : wipe σ3 own = wipe b.σ own := by
        rw [wipe_eq off.1 fun j hj => (off.2.2 j hj).1]
        exact wipe_eq (wipe_length _ _) fun j hj => wipe_out hj
      refine ⟨wi, ?_⟩
      intro s0 H0 C cl fp
      obtain ⟨k, ρ4, e2, hcl2⟩ := bind_ok hcl
      have no3 : ¬ Owned ρ3 σ3 D0 := fun q => by
        rcases s3.own D0 q with z | z
        · exact noD z
        · rw [hvc] at z; cases z
      refine hc s0 H0 C cl fp ⟨ρ3, σ3, H'', HFc⟩ (fun _ _ _ _ => False) _ takes0 s3.rl ?_
      show Post X.K XC _ _ (evC g cs ρ3) _
      rw [e2]
      intro H3 HF3 s4
      have keepD : ∀ {ρa ρz : Rho} {Ha HFa Hz HFz : Hp} {us : List V}, StE X.K ρa σ3 Ha HFa ρz Hz HFz → Ha D0 = some (.lst us) → HFa D0 = none → ¬ Owned ρa σ3 D0 → Hz D0 = some (.lst us) ∧ HFz D0 = none ∧ ¬ Owned ρz σ3 D0 := fun {ρa ρz Ha HFa Hz HFz us} z h1 h2 h3 => by
        refine ⟨z.fr D0 _ h1 h3, ?_, fun q => ?_⟩
        · cases e : HFz D0 with
          | none => rfl
          | some u =>
            rcases z.fsh D0 u e with q | q | q
            · rw [h2] at q; cases q
            · rw [h1] at q; cases q
            · exact (h3 q).elim
        · rcases z.own D0 q with q | q
          · exact h3 q
          · rw [h1] at q; cases q
      obtain ⟨d1, d2, d3⟩ := keepD s4 hvc hfc no3
      have sofar : Stp X.K (wipeR ρ1 own) (wipe b.σ own) H1 HF1 ρ4 σ3 H3 HF3 := (sc.trans s3).trans s4.toStp
      have lofar : LiveO own ρ1 ρ4 := (lo.trans (LiveO.off off)).trans (LiveO.of s4.lv)
      have hwl : (wipe b.σ own).length = σ3.length := by rw [← wi, wipe_length]
      have hwj : ∀ j, j ∉ own → (wipe b.σ own)[j]? = σ3[j]? := fun j hj => by rw [← wi]; exact wipe_out hj
      cases k with
      | false =>
        simp only [Bool.false_eq_true, if_false]
        dsimp only at hcl2
        split at hcl2
        · rename_i ok4
          refine ⟨wipeR ρ4 own, HF3, vs, acc, stp_wipe sofar ok4 _ hwl hwj, lofar.trans LiveO.wipe, okW_wipe fun i hi => (okW_of ok4 i hi).1, d1, rv.mono (lec.trans s4.le), d2, fun q => d3 (wipe_owned ok4 hwj q), Nat.le_succ_of_le hvl, ?_⟩
          rw [hrest]
          exact hcl2
        · cases hcl2
      | true =>
        simp only [if_true]
        intro s0 H0 C cl fp
        dsimp only at hcl2
        obtain ⟨p, ρ5, e3, hcl3⟩ := bind_ok hcl2
        refine he s0 H0 C cl fp ⟨ρ4, σ3, H3, HF3⟩ (fun _ _ _ _ => False) _ takes0 s4.rl ?_
        show Post X.K XC _ _ (evE g a ρ4) _
        rw [e3]
        intro H4 HF4 s5 v rp
        obtain ⟨f1, f2, f3⟩ := keepD s5 d1 d2 d3
        cases e4 : p.frz ρ5 with
        | none => rw [e4] at hcl3; cases hcl3
        | some z =>
          obtain ⟨dn, ρ6⟩ := z
          rw [e4] at hcl3
          dsimp only at hcl3
          split at hcl3
          · rename_i ok6
            obtain ⟨HF6, s6, r6, le6, n6⟩ := RepP.frz s5 rp e4
            have hf6 : HF6 D0 = none := n6 D0 f3 (fun e5 e6 z => by
              subst e6
              obtain ⟨a', ea, _, _, _, h4⟩ := rp
              rw [z] at ea
              cases ea
              rcases h4 with q | q
              · have q' : H3 D0 = none := q
                rw [d1] at q'; cases q'
              · exact d3 q) f2
            have no6 : ¬ Owned ρ6 σ3 D0 := fun q => f3 ((frz_live e4).2.1 _ _ q)
            refine ⟨vs, f1, by omega, wipeR ρ6 own, HF6, vs ++ [v], acc ++ [dn], stp_fresh (stp_wipe (sofar.trans s6.toStp) ok6 _ hwl hwj) hD hf6 (fun q => no6 (wipe_owned ok6 hwj q)), (lofar.trans (LiveO.of s6.lv)).trans LiveO.wipe, okW_wipe fun i hi => (okW_of ok6 i hi).1, upd_same,
              (rv.mono ((lec.trans s4.le).trans s6.le)).append (.one r6), hf6, fun q => no6 (wipe_owned ok6 hwj q), by rw [List.length_append]; exact Nat.succ_le_succ hvl, ?_⟩
            rw [hrest]
            exact hcl3
          · cases hcl3
  · rintro H' ⟨ρb, HFb, vs, acc, s, lo, okb, hv, rv, hfD, noD, hvl, hcl⟩
    rw [List.drop_length] at hcl
    simp only [compL] at hcl
    cases hcl
    have sb := st_back hok st1.rl s lo okb
    exact hP H' HFb (st1.trans sb) _ ⟨D0, rfl, hfD, fun q => noD (back_owned hok okb q), ⟨vs, hv, rv⟩, .inl (st1.dom D0 hD)⟩
end
end Mi

/-! Mi: every expression -/
namespace Mi
open PySem PySem.Spec L2

section
variable {X : Cx} {XC : Nat → Value} {g : G} {c : SC} {b : Bs} {W : WX} {ρ : Rho} {H HF : Hp} {α β : Type}
theorem lc_sem (G : Good X c) {own : List Nat} {t : T} {it : I} {cs : Es} {a : E} {tg elt iter : Expr} {ifs : List Expr} {scope : Scope} {Q : VK} (tk : Takes X W) (rl : Rl X.K b.ρ b.σ b.H b.HF)
    (ht : chkT (c.blk scope) t tg = true) (ji : JI X XC g it tg iter) (hc : ∀ (s : Shared) (H : Hp) (C : Addr) (cl : List (Str × Addr)) (fp : List Addr), JC (X.blk s H scope (compEnvC scope cl C X.env) fp) XC g cs ifs)
    (he : ∀ (s : Shared) (H : Hp) (C : Addr) (cl : List (Str × Addr)) (fp : List Addr), JE (X.blk s H scope (compEnvC scope cl C X.env) fp) XC g a elt)
    (hP : Post X.K XC b W (evE g (.comp own t it cs a) b.ρ) (fun pl ρ H HF => ∀ v, RpB X.K b ρ H HF v pl → Q v H)) :
    tLc (SemI X tg iter) (gB X scope tg) (ttB X scope ifs) (teB X scope elt) own b.σ b.H Q := by
  simp only [evE] at hP
  refine ji b W _ tk rl ((post_bind hP).mono fun xs ρ1 H1 HF1 st1 hP1 J wd => ?_)
  intro D0 hD
  split at hP1
  · rename_i hk
    simp only [Bool.and_eq_true, decide_eq_true_eq] at hk
    split at hP1
    · rename_i ds ρ2 hcomp
      exact comp_read G ht hc he st1 wd hk.1.1 hk.1.2 hk.2 hcomp hP1 D0 hD
    · exact hP1.elim
  · exact hP1.elim
theorem fsi {e : Expr} {env : PySem.Env} (h : notSet e = true) : ∀ x, foldedSetIterable e env x = pure x := by
  intro x
  cases e <;> first | rfl | (simp [notSet] at h)
theorem gB_pg {scope : Scope} {tg : Expr} (s : Shared) (H : Hp) (C : Addr) (cl : List (Str × Addr)) (fp : List Addr) : PG (X.blk s H scope (compEnvC scope cl C X.env) fp) tg (gB X scope tg) :=
  ⟨fun pins s' σ' H' v u Q I r h => h s H C cl fp pins s' u I r⟩
theorem ttB_pt {scope : Scope} {ifs : List Expr} (s : Shared) (H : Hp) (C : Addr) (cl : List (Str × Addr)) (fp : List Addr) : PTs (X.blk s H scope (compEnvC scope cl C X.env) fp) ifs (ttB X scope ifs) :=
  ⟨fun pins s' σ' H' Q I h => h s H C cl fp pins s' I⟩
theorem teB_pe {scope : Scope} {e : Expr} (s : Shared) (H : Hp) (C : Addr) (cl : List (Str × Addr)) (fp : List Addr) : PE (X.blk s H scope (compEnvC scope cl C X.env) fp) e (teB X scope e) :=
  ⟨fun pins s' σ' H' Q I h => h s H C cl fp pins s' I⟩
theorem blk_of (G : Good X c) {scope : Scope} {own : List (Str × Nat)} (h : blkC c.N c.sc scope own = true) : BlkOk X.N X.env.scope scope own := by
  rw [G.N, G.sc]
  exact blkOk_by h
theorem je_comp (G : Good X c) {own : List Nat} {t : T} {it : I} {cs : Es} {a : E} {tg elt iter : Expr} {ifs : List Expr} {scope : Scope} {pos : Pos} (hb : blkC c.N c.sc scope (ownOf c.N own) = true) (hn : notSet iter = true)
    (ht : chkT (c.blk scope) t tg = true) (ji : JI X XC g it tg iter) (hc : ∀ (s : Shared) (H : Hp) (C : Addr) (cl : List (Str × Addr)) (fp : List Addr), JC (X.blk s H scope (compEnvC scope cl C X.env) fp) XC g cs ifs)
    (he : ∀ (s : Shared) (H : Hp) (C : Addr) (cl : List (Str × Addr)) (fp : List Addr), JE (X.blk s H scope (compEnvC scope cl C X.env) fp) XC g a elt) : JE X XC g (.comp own t it cs a) (.ListComp elt [⟨tg, iter, ifs, 0⟩] scope pos) := by
  intro b W Q tk rl hP
  refine sem_pe (pe_lc G.calm G.nd pi_sem (blk_of G hb) gB_pg ttB_pt teB_pe (fsi hn)) ?_
  rw [own_map]
  exact lc_sem G tk rl ht ji hc he hP
theorem both {m : E} {e : Expr} (h : JE X XC g m e) (he : ∀ whole, isTrue e X.env whole = (do let v ← whole; standAt e.pos; holding [v] (truthy v))) : JE X XC g m e ∧ JT X XC g m e := ⟨h, jt_of h he⟩
theorem and2 {a b : Bool} (h : (a && b) = true) : a = true ∧ b = true := by simpa using h
end

theorem chkEs_len {c : SC} : ∀ {ms : Es} {es : List Expr}, chkEs c ms es = true → ms.len = es.length ∧ es.all notStar = true ∧ (es = [] → ms = .nil)
  | .nil, es, h => by
    unfold chkEs at h
    split at h
    · exact ⟨rfl, rfl, fun _ => rfl⟩
    · cases h
  | .cons m ms, es, h => by
    unfold chkEs at h
    split at h
    · rename_i e r
      obtain ⟨h1, h3⟩ := and2 h
      obtain ⟨h1, h2⟩ := and2 h1
      obtain ⟨q1, q2, _⟩ := chkEs_len h3
      exact ⟨by simp [Es.len, q1], by simp only [List.all_cons, h1, q2, Bool.and_self], fun z => by cases z⟩
    · cases h
section
variable {XC : Nat → Value} {g : G}
mutual
theorem sndE : ∀ (m : E) {X : Cx} {c : SC} {e : Expr}, Good X c → Lib X XC g c → chkE c m e = true → JE X XC g m e ∧ JT X XC g m e
  | .var i, X, c, e, G, L, h => by
    have j := je_var (g := g) (XC := XC) G h
    unfold chkE at h
    split at h
    · exact both j fun _ => rfl
    · cases h
  | .con d, X, c, e, G, L, h => by
    have j := je_con G L h
    unfold chkE at h
    split at h
    · exact both j fun _ => rfl
    · exact both j fun _ => rfl
    · cases h
  | .bin o a b, X, c, e, G, L, h => by
    unfold chkE at h
    split at h
    · obtain ⟨h1, h3⟩ := and2 h
      obtain ⟨h1, h2⟩ := and2 h1
      exact both (je_bin h1 (sndE a G L h2).1 (sndE b G L h3).1) fun _ => rfl
    · cases h
  | .neg a, X, c, e, G, L, h => by
    unfold chkE at h
    split at h
    · exact both (je_neg (sndE a G L h).1) fun _ => rfl
    · cases h
  | .cmp o a b, X, c, e, G, L, h => by
    unfold chkE at h
    split at h
    · obtain ⟨h1, h4⟩ := and2 h
      obtain ⟨h1, h3⟩ := and2 h1
      obtain ⟨h1, h2⟩ := and2 h1
      exact ⟨je_cmp L h1 h2 (sndE a G L h3).1 (sndE b G L h4).1, jt_cmp L h1 h2 (sndE a G L h3).1 (sndE b G L h4).1⟩
    · cases h
  | .chain o o' a b d, X, c, e, G, L, h => by
    unfold chkE at h
    split at h
    · obtain ⟨h1, h6⟩ := and2 h
      obtain ⟨h1, h5⟩ := and2 h1
      obtain ⟨h1, h4⟩ := and2 h1
      obtain ⟨h1, h3⟩ := and2 h1
      obtain ⟨h1, h2⟩ := and2 h1
      exact ⟨je_chain L h1 h2 h3 (sndE a G L h4).1 (sndE b G L h5).1 (sndE d G L h6).1, jt_chain L h1 h2 h3 (sndE a G L h4).1 (sndE b G L h5).1 (sndE d G L h6).1⟩
    · cases h
  | .and a b, X, c, e, G, L, h => by
    unfold chkE at h
    split at h
    · obtain ⟨h1, h2⟩ := and2 h
      exact ⟨je_and (t := fun _ _ _ => True) (sndE a G L h1).1 (sndE b G L h2).1 (pe_one pe_sem) ⟨_, _, rfl⟩, jt_and (sndE a G L h1).2 (sndE b G L h2).2 (pw_and1 pt_sem) ⟨_, _, rfl⟩⟩
    · obtain ⟨h1, h2⟩ := and2 h
      exact ⟨je_and (t := fun _ _ _ => True) (sndE a G L h1).1 (sndE b G L h2).1 pe_sem ⟨_, _, rfl⟩, jt_and (sndE a G L h1).2 (sndE b G L h2).2 pw_bool ⟨_, _, rfl⟩⟩
    · cases h
  | .or a b, X, c, e, G, L, h => by
    unfold chkE at h
    split at h
    · obtain ⟨h1, h2⟩ := and2 h
      exact ⟨je_or (sndE a G L h1).1 (sndE b G L h2).1 (pe_one pe_sem) ⟨_, _, rfl⟩, jt_or (sndE a G L h1).2 (sndE b G L h2).2 (pw_or1 pt_sem) ⟨_, _, rfl⟩⟩
    · obtain ⟨h1, h2⟩ := and2 h
      exact ⟨je_or (sndE a G L h1).1 (sndE b G L h2).1 pe_sem ⟨_, _, rfl⟩, jt_or (sndE a G L h1).2 (sndE b G L h2).2 pw_bool ⟨_, _, rfl⟩⟩
    · cases h
  | .not a, X, c, e, G, L, h => by
    unfold chkE at h
    split at h
    · exact ⟨je_not (sndE a G L h).1, jt_not (sndE a G L h).2⟩
    · cases h
  | .ite t a b, X, c, e, G, L, h => by
    unfold chkE at h
    split at h
    · obtain ⟨h1, h3⟩ := and2 h
      obtain ⟨h1, h2⟩ := and2 h1
      exact ⟨je_ite (sndE t G L h1).2 (sndE a G L h2).1 (sndE b G L h3).1, jt_ite (sndE t G L h1).2 (sndE a G L h2).2 (sndE b G L h3).2⟩
    · cases h
  | .tup es, X, c, e, G, L, h => by
    unfold chkE at h
    split at h
    · obtain ⟨h1, h2⟩ := and2 h
      exact both (je_tup (by rw [(chkEs_len h2).1]; simpa using h1) (sndA es G L h2)) fun _ => rfl
    · cases h
  | .lst es, X, c, e, G, L, h => by
    unfold chkE at h
    split at h
    · obtain ⟨h1, h2⟩ := and2 h
      exact both (je_lst (by rw [(chkEs_len h2).1]; simpa using h1) (sndA es G L h2)) fun _ => rfl
    · cases h
  | .idx a b, X, c, e, G, L, h => by
    unfold chkE at h
    split at h
    · obtain ⟨h1, h3⟩ := and2 h
      obtain ⟨h1, h2⟩ := and2 h1
      exact both (je_idx h1 (sndE a G L h2).1 (sndE b G L h3).1) fun _ => rfl
    · cases h
  | .slL a b, X, c, e, G, L, h => by
    unfold chkE at h
    split at h
    · obtain ⟨h1, h2⟩ := and2 h
      exact both (je_slL (sndE a G L h1).1 (sndE b G L h2).1) fun _ => rfl
    · cases h
  | .slH a b, X, c, e, G, L, h => by
    unfold chkE at h
    split at h
    · obtain ⟨h1, h2⟩ := and2 h
      exact both (je_slH (sndE a G L h1).1 (sndE b G L h2).1) fun _ => rfl
    · cases h
  | .slB a b d, X, c, e, G, L, h => by
    unfold chkE at h
    split at h
    · obtain ⟨h1, h3⟩ := and2 h
      obtain ⟨h1, h2⟩ := and2 h1
      exact both (je_slB (sndE a G L h1).1 (sndE b G L h2).1 (sndE d G L h3).1) fun _ => rfl
    · cases h
  | .rev a, X, c, e, G, L, h => by
    unfold chkE at h
    split at h
    · exact both (je_rev (sndE a G L h).1) fun _ => rfl
    · cases h
  | .call f es, X, c, e, G, L, h => by
    unfold chkE at h
    split at h
    · obtain ⟨h1, h3⟩ := and2 h
      obtain ⟨h1, h2⟩ := and2 h1
      obtain ⟨_, q2, q3⟩ := chkEs_len h3
      exact both (je_call G L h1 (by simpa using h2) q2 q3 (sndA es G L h3)) fun _ => rfl
    · cases h
  | .blt t es, X, c, e, G, L, h => by
    unfold chkE at h
    split at h
    · obtain ⟨h1, h4⟩ := and2 h
      obtain ⟨h1, h3⟩ := and2 h1
      obtain ⟨h1, h2⟩ := and2 h1
      exact both (je_blt G L h1 h2 h3 (chkEs_len h4).2.1 (sndA es G L h4)) fun _ => rfl
    · cases h
  | .mth t a b, X, c, e, G, L, h => by
    unfold chkE at h
    split at h
    · obtain ⟨q5, h6⟩ := and2 h
      obtain ⟨q4, h5⟩ := and2 q5
      obtain ⟨q3, h4⟩ := and2 q4
      obtain ⟨q2, h3⟩ := and2 q3
      obtain ⟨h1, h2⟩ := and2 q2
      cases t with
      | join =>
        have e := eq_of_beq h2
        subst e
        exact both (je_join h1 h4 h3 (sndE a G L h5).1 (sndE b G L h6).1) fun _ => rfl
    · cases h
  | .pop i, X, c, e, G, L, h => by
    unfold chkE at h
    split at h
    · obtain ⟨q3, h4⟩ := and2 h
      obtain ⟨q2, h3⟩ := and2 q3
      obtain ⟨h1, h2⟩ := and2 q2
      have e := eq_of_beq h3
      subst e
      exact both (je_pop G h1 h2 h4) fun _ => rfl
    · cases h
  | .isi a t, X, c, e, G, L, h => by
    unfold chkE at h
    split at h
    · obtain ⟨h1, h8⟩ := and2 h
      obtain ⟨h1, h7⟩ := and2 h1
      obtain ⟨h1, h6⟩ := and2 h1
      obtain ⟨h1, h5⟩ := and2 h1
      obtain ⟨h1, h4⟩ := and2 h1
      obtain ⟨h1, h3⟩ := and2 h1
      obtain ⟨h1, h2⟩ := and2 h1
      exact both (je_isi G L h1 h2 h3 h4 h5 (by simpa using h6) h7 (sndE a G L h8).1) fun _ => rfl
    · cases h
  | .comp own t it cs a, X, c, e, G, L, h => by
    unfold chkE at h
    split at h
    · obtain ⟨h1, h8⟩ := and2 h
      obtain ⟨h1, h7⟩ := and2 h1
      obtain ⟨h1, h6⟩ := and2 h1
      obtain ⟨h1, h5⟩ := and2 h1
      obtain ⟨h1, h4⟩ := and2 h1
      obtain ⟨h1, h3⟩ := and2 h1
      obtain ⟨h1, h2⟩ := and2 h1
      exact both (je_comp G h1 h3 h6 (sndI it G L h2 h5) (fun s H C cl fp => sndC cs (good_blk G s H _ cl C fp) (lib_blk L s H _ _ fp) h4 h7) fun s H C cl fp => (sndE a (good_blk G s H _ cl C fp) (lib_blk L s H _ _ fp) h8).1) fun _ => rfl
    · cases h
theorem sndA : ∀ (ms : Es) {X : Cx} {c : SC} {es : List Expr}, Good X c → Lib X XC g c → chkEs c ms es = true → JA X XC g ms es
  | .nil, X, c, es, G, L, h => by
    unfold chkEs at h
    split at h
    · exact ja_nil
    · cases h
  | .cons m ms, X, c, es, G, L, h => by
    unfold chkEs at h
    split at h
    · obtain ⟨h1, h3⟩ := and2 h
      obtain ⟨h1, h2⟩ := and2 h1
      exact ja_cons h1 (sndE m G L h2).1 (sndA ms G L h3)
    · cases h
theorem sndC : ∀ (ms : Es) {X : Cx} {c : SC} {es : List Expr}, Good X c → Lib X XC g c → oneB ms = true → chkEs c ms es = true → JC X XC g ms es
  | .nil, X, c, es, G, L, h1, h => by
    unfold chkEs at h
    split at h
    · exact jc_nil
    · cases h
  | .cons m ms, X, c, es, G, L, h1, h => by
    unfold chkEs at h
    split at h
    · obtain ⟨h2, h3⟩ := and2 h
      obtain ⟨h4, h5⟩ := and2 h2
      cases ms with
      | nil =>
        unfold chkEs at h3
        split at h3
        · exact jc_one (sndE m G L h5).2
        · cases h3
      | cons _ _ => cases h1
    · cases h
theorem sndI : ∀ (m : I) {X : Cx} {c : SC} {tg e : Expr}, Good X c → Lib X XC g c → tgB m tg = true → chkI c m e = true → JI X XC g m tg e
  | .of a, X, c, tg, e, G, L, ht, h => by
    unfold chkI at h
    exact ji_of (sndE a G L (and2 h).2).1
  | .rng1 a, X, c, tg, e, G, L, ht, h => by
    unfold chkI at h
    split at h
    · obtain ⟨h1, h5⟩ := and2 h
      obtain ⟨h1, h4⟩ := and2 h1
      obtain ⟨h1, h3⟩ := and2 h1
      obtain ⟨h1, h2⟩ := and2 h1
      exact ji_rng1 G L h1 h2 h3 h4 (sndE a G L h5).1
    · cases h
  | .rng2 a b, X, c, tg, e, G, L, ht, h => by
    unfold chkI at h
    split at h
    · obtain ⟨h1, h7⟩ := and2 h
      obtain ⟨h1, h6⟩ := and2 h1
      obtain ⟨h1, h5⟩ := and2 h1
      obtain ⟨h1, h4⟩ := and2 h1
      obtain ⟨h1, h3⟩ := and2 h1
      obtain ⟨h1, h2⟩ := and2 h1
      exact ji_rng2 G L h1 h2 h3 h4 h5 (sndE a G L h6).1 (sndE b G L h7).1
    · cases h
  | .enum a, X, c, tg, e, G, L, ht, h => by
    unfold chkI at h
    split at h
    · obtain ⟨h1, h5⟩ := and2 h
      obtain ⟨h1, h4⟩ := and2 h1
      obtain ⟨h1, h3⟩ := and2 h1
      obtain ⟨h1, h2⟩ := and2 h1
      cases tg with
      | Tuple es k p => exact ji_enum G L h1 h2 h3 h4 (sndE a G L h5).1
      | _ => cases ht
    · cases h
  | .zip a b, X, c, tg, e, G, L, ht, h => by
    unfold chkI at h
    split at h
    · obtain ⟨h1, h7⟩ := and2 h
      obtain ⟨h1, h6⟩ := and2 h1
      obtain ⟨h1, h5⟩ := and2 h1
      obtain ⟨h1, h4⟩ := and2 h1
      obtain ⟨h1, h3⟩ := and2 h1
      obtain ⟨h1, h2⟩ := and2 h1
      cases tg with
      | Tuple es k p => exact ji_zip G L h1 h2 h3 h4 h5 (sndE a G L h6).1 (sndE b G L h7).1
      | _ => cases ht
    · cases h
end
end
end Mi

/-! Mi: statements, one by one -/
namespace Mi
open PySem PySem.Spec L2

section
variable {X : Cx}
def SemS (X : Cx) (st : Stmt) : TS := fun D σ H => ∀ (pins : List (Addr × Obj)) (s : Shared), Inv X pins σ H s → wpAny (model X.prog X.w) X.A (exec st X.env) (SP X pins D) X.xe s
def SemSs (X : Cx) (st : List Stmt) : TS := fun D σ H => ∀ (pins : List (Addr × Obj)) (s : Shared), Inv X pins σ H s → wpAny (model X.prog X.w) X.A (execs st X.env) (SP X pins D) X.xe s
theorem ps_sem {st : Stmt} : PS X st (SemS X st) := ⟨fun pins s _ _ _ I h => h pins s I⟩
theorem pss_sem {st : List Stmt} : PSs X st (SemSs X st) := ⟨fun pins s _ _ _ I h => h pins s I⟩
theorem sem_ps {st : Stmt} {t : TS} {D : Ends} {σ : L2.St} {H : Hp} (h : PS X st t) (q : t D σ H) : SemS X st D σ H := fun pins s I => h.run pins s σ H D I q
theorem sem_pss {st : List Stmt} {t : TS} {D : Ends} {σ : L2.St} {H : Hp} (h : PSs X st t) (q : t D σ H) : SemSs X st D σ H := fun pins s I => h.run pins s σ H D I q
end

abbrev StS (K : PySem.W.Frag) (b : Bs) (ρ : Rho) (σ : L2.St) (H HF : Hp) : Prop := Stp K b.ρ b.σ b.H b.HF ρ σ H HF
def PostS {α : Type} (K : PySem.W.Frag) (XC : Nat → Value) (b : Bs) (W : WX) (r : R α) (P : α → Rho → L2.St → Hp → Hp → Prop) : Prop :=
  match r with
  | .ok a ρ => ∀ σ H HF, StS K b ρ σ H HF → P a ρ σ H HF
  | .ex c ρ => ∀ σ H HF, StS K b ρ σ H HF → W (XC c) none σ H
  | .bad => False
def EndsAt (K : PySem.W.Frag) (b : Bs) (D : Ends) : Fl → Rho → L2.St → Hp → Hp → Prop
  | .nx, _, σ, H, _ => D.nx σ H
  | .br, _, σ, H, _ => D.bk σ H
  | .ct, _, σ, H, _ => D.ct σ H
  | .rt p, ρ, σ, H, HF => ∀ v, RepP K b.ρ b.σ b.H ρ σ H HF v p → D.rt v H
def JS (X : Cx) (XC : Nat → Value) (g : G) (m : S) (st : Stmt) : Prop :=
  ∀ (b : Bs) (W : WX) (D : Ends), Takes X W → Rl X.K b.ρ b.σ b.H b.HF → PostS X.K XC b W (evS g m b.ρ) (EndsAt X.K b D) → SemS X st D b.σ b.H
def JSs (X : Cx) (XC : Nat → Value) (g : G) (m : Ss) (st : List Stmt) : Prop :=
  ∀ (b : Bs) (W : WX) (D : Ends), Takes X W → Rl X.K b.ρ b.σ b.H b.HF → PostS X.K XC b W (evSs g m b.ρ) (EndsAt X.K b D) → SemSs X st D b.σ b.H

section
variable {X : Cx} {XC : Nat → Value} {g : G} {c : SC} {b : Bs} {W : WX} {ρ : Rho} {σ : L2.St} {H HF : Hp} {α β : Type}
theorem PostS.mono {r : R α} {P P' : α → Rho → L2.St → Hp → Hp → Prop} (h : PostS X.K XC b W r P) (k : ∀ a ρ σ H HF, StS X.K b ρ σ H HF → P a ρ σ H HF → P' a ρ σ H HF) : PostS X.K XC b W r P' := by
  cases r with
  | ok a ρ => exact fun σ H HF st => k a ρ σ H HF st (h σ H HF st)
  | ex cc ρ => exact h
  | bad => exact h
theorem PostS.later {r : R α} {P P' : α → Rho → L2.St → Hp → Hp → Prop} (h : PostS X.K XC b W r P) (st : StS X.K b ρ σ H HF) (k : ∀ a ρ' σ' H' HF', Stp X.K ρ σ H HF ρ' σ' H' HF' → P a ρ' σ' H' HF' → P' a ρ' σ' H' HF') : PostS X.K XC ⟨ρ, σ, H, HF⟩ W r P' := by
  cases r with
  | ok a ρ' => exact fun σ' H' HF' s' => k a ρ' σ' H' HF' s' (h σ' H' HF' (st.trans s'))
  | ex cc ρ' => exact fun σ' H' HF' s' => h σ' H' HF' (st.trans s')
  | bad => exact h
theorem postS_bind {r : R α} {f : α → Rho → R β} {P : β → Rho → L2.St → Hp → Hp → Prop} (h : PostS X.K XC b W (r.bind f) P) : Post X.K XC b W r (fun a ρ H HF => PostS X.K XC b W (f a ρ) P) := by
  cases r with
  | ok a ρ' => exact fun _ _ _ => h
  | ex cc ρ' => exact fun H HF st => h b.σ H HF st.toStp
  | bad => exact h
theorem postS_bind2 {r : R α} {f : α → Rho → R β} {P : β → Rho → L2.St → Hp → Hp → Prop} (h : PostS X.K XC b W (r.bind f) P) : PostS X.K XC b W r (fun a ρ σ H HF => PostS X.K XC b W (f a ρ) P) := by
  cases r with
  | ok a ρ' => exact fun _ _ _ _ => h
  | ex cc ρ' => exact h
  | bad => exact h
theorem RepP.baseS {ρ1 ρ2 : Rho} {σ1 σ2 : L2.St} {H1 H2 HF1 HF2 : Hp} {v : V} {pl : Pl} (h : RepP X.K ρ1 σ1 H1 ρ2 σ2 H2 HF2 v pl) (s : StS X.K b ρ1 σ1 H1 HF1) : RepP X.K b.ρ b.σ b.H ρ2 σ2 H2 HF2 v pl := by
  cases pl with
  | sh d => exact h
  | ow d =>
    obtain ⟨a, rfl, h1, h2, h3, h4⟩ := h
    refine ⟨a, rfl, h1, h2, h3, ?_⟩
    rcases h4 with q | q
    · exact .inl (s.dom a q)
    · rcases s.own a q with z | z
      · exact .inr z
      · exact .inl z
  | «at» i => exact h
theorem EndsAt.later {D : Ends} {f : Fl} {ρ' : Rho} {σ' : L2.St} {H' HF' : Hp} (st : StS X.K b ρ σ H HF) (h : EndsAt X.K b D f ρ' σ' H' HF') : EndsAt X.K ⟨ρ, σ, H, HF⟩ D f ρ' σ' H' HF' := by
  cases f with
  | rt p => exact fun v r => h v (RepP.baseS r st)
  | _ => exact h
theorem JE.seqS {m : E} {e : Expr} (hJ : JE X XC g m e) (tk : Takes X W) (st : StB X.K b ρ H HF) {f : Pl → Rho → R β} {P : β → Rho → L2.St → Hp → Hp → Prop} {Q : VK} (hP : PostS X.K XC b W ((evE g m ρ).bind f) P)
    (k : ∀ pl ρ' v H' HF', StE X.K ρ b.σ H HF ρ' H' HF' → StB X.K b ρ' H' HF' → RpB X.K b ρ' H' HF' v pl → PostS X.K XC b W (f pl ρ') P → Q v H') : SemE X e b.σ H Q :=
  hJ ⟨ρ, b.σ, H, HF⟩ W Q tk st.rl ((postS_bind hP).later st fun pl ρ' H' HF' s' h v r => k pl ρ' v H' HF' s' (st.trans s') (RepP.base r st) h)
theorem JT.seqS {m : E} {e : Expr} (hJ : JT X XC g m e) (tk : Takes X W) (st : StB X.K b ρ H HF) {f : Bool → Rho → R β} {P : β → Rho → L2.St → Hp → Hp → Prop} {Q : Bool → Hp → Prop} (hP : PostS X.K XC b W ((evT g m ρ).bind f) P)
    (k : ∀ t ρ' H' HF', StE X.K ρ b.σ H HF ρ' H' HF' → StB X.K b ρ' H' HF' → PostS X.K XC b W (f t ρ') P → Q t H') : SemT X e b.σ H Q :=
  hJ ⟨ρ, b.σ, H, HF⟩ W Q tk st.rl ((postS_bind hP).later st fun t ρ' H' HF' s' h => k t ρ' H' HF' s' (st.trans s') h)
/-- a block from a later place -/
theorem JSs.runS {m : Ss} {ss : List Stmt} (hJ : JSs X XC g m ss) (tk : Takes X W) (st : StS X.K b ρ σ H HF) {D : Ends} (hP : PostS X.K XC b W (evSs g m ρ) (EndsAt X.K b D)) : SemSs X ss D σ H :=
  hJ ⟨ρ, σ, H, HF⟩ W D tk st.rl (hP.later st fun f ρ' σ' H' HF' s' h => h.later st)

theorem frz_len {p : Pl} {d : D} {ρ' : Rho} (h : p.frz ρ = some (d, ρ')) : ρ'.length = ρ.length := (frz_live h).1.1
theorem frz_ow {p : Pl} {d : D} {ρ' : Rho} {j : Nat} {q : Bool} {x : D} (h : p.frz ρ = some (d, ρ')) (e : ρ'[j]? = some (.ow q x)) : ρ[j]? = some (.ow q x) := by
  cases p with
  | sh _ => cases h; exact e
  | ow _ => cases h; exact e
  | «at» i =>
    simp only [Pl.frz] at h
    split at h
    · cases h; exact e
    · rename_i d' hi
      cases h
      by_cases hj : i = j
      · subst hj
        rw [List.getElem?_set_self (List.getElem?_eq_some_iff.mp hi).1] at e
        cases e
      · rw [List.getElem?_set_ne hj] at e; exact e
    · cases h
/-- a name set -/
theorem setSl_ok {i : Nat} {p : Pl} {ρ' : Rho} {v : V} (st : StB X.K b ρ H HF) (r : RpB X.K b ρ H HF v p) (e : setSl i p ρ = some ρ') : ∃ HF', StS X.K b ρ' (b.σ.set i (some v)) H HF' := by
  have key : ∀ (hi : i < ρ.length) (hn : ∀ x, ρ[i]? ≠ some (.ow true x)), putSl i p ρ = some ρ' → ∃ HF', StS X.K b ρ' (b.σ.set i (some v)) H HF' := by
    intro hi hn e
    have fz : ∀ q : Pl, RpB X.K b ρ H HF v q → (match q.frz ρ with | some (d, ρ1) => some (ρ1.set i (.sh d)) | none => none) = some ρ' → ∃ HF', StS X.K b ρ' (b.σ.set i (some v)) H HF' := by
      intro q r e
      cases e1 : q.frz ρ with
      | none => rw [e1] at e; cases e
      | some z =>
        obtain ⟨d, ρ1⟩ := z
        rw [e1] at e
        cases e
        obtain ⟨HF', s, r', _, _⟩ := RepP.frz st r e1
        exact ⟨HF', stp_set s.toStp (by rw [frz_len e1]; exact hi) (fun x z => hn x (frz_ow e1 z)) r'⟩
    cases p with
    | sh d => exact fz _ r e
    | «at» j => exact fz _ r e
    | ow d =>
      cases e
      obtain ⟨a, rfl, h1, h2, h3, h4⟩ := r
      exact ⟨HF, stp_own st.toStp hi hn h1 h2 h3 h4⟩
  unfold setSl at e
  cases hs : ρ[i]? with
  | none => rw [hs] at e; cases e
  | some s =>
    have hi := (List.getElem?_eq_some_iff.mp hs).1
    rw [hs] at e
    cases s with
    | un => exact key hi (by rw [hs]; intro x z; cases z) e
    | sh x => exact key hi (by rw [hs]; intro x z; cases z) e
    | ow q x =>
      cases q with
      | true => cases e
      | false => exact key hi (by rw [hs]; intro x z; cases z) e

theorem isOw_of {ρ : Rho} {i : Nat} (h : isOw ρ i = true) : ∃ p d, ρ[i]? = some (.ow p d) := by
  unfold isOw at h
  split at h
  · exact ⟨_, _, by assumption⟩
  · cases h
theorem postS_out {o : Option Rho} {D : Ends} (h : PostS X.K XC b W (evS.outR' o) (EndsAt X.K b D)) : ∃ ρ', o = some ρ' ∧ ∀ σ H HF, StS X.K b ρ' σ H HF → D.nx σ H := by
  cases o with
  | none => exact h.elim
  | some ρ' => exact ⟨ρ', rfl, h⟩
theorem swaps_of {e : Expr} (h : notComp e = true) {t : Option Expr} {n : Nat} {env : PySem.Env} : swapsWith e t n env = pure false := by
  cases e <;> first | rfl | (simp [notComp] at h)
theorem swaps1_of {e tg : Expr} (h : notComp e = true) {n : Nat} {env : PySem.Env} : swapsWithSole [tg] e n env = pure false := swaps_of h
theorem js_set (G : Good X c) {i : Nat} {m : E} {x : Str} {e : Expr} {px p : Pos} (hn : nmIs c i x = true) (hl : locB c x = true) (hs : swapsWith e (some (.Name x px)) p.line X.env = pure false) (je : JE X XC g m e) :
    JS X XC g (.asg (.nm i) m) (.Assign [.Name x px] e p) := by
  intro b W D tk rl hP
  simp only [evS] at hP
  obtain ⟨h1, _⟩ := nm_of G hn
  obtain ⟨h2, h3⟩ := loc_of G hl
  refine sem_ps (ps_set G.nd h1 h2 pe_sem hs h3) (je.seqS tk (rl_st rl) hP fun pl ρ1 v H1 HF1 s1 st1 r1 hP1 => ?_)
  obtain ⟨ρ', e1, hD⟩ := postS_out hP1
  obtain ⟨HF', s⟩ := setSl_ok st1 r1 e1
  exact hD _ _ _ s
theorem js_tup (G : Good X c) {ts : Ts} {m : E} {es : List Expr} {e : Expr} {k : Nat} {pt p : Pos} (ht : chkTs c ts es = true) (hs : notComp e = true) (hv : notTup e = true) (je : JE X XC g m e) :
    JS X XC g (.asg (.tu ts) m) (.Assign [.Tuple es k pt] e p) := by
  intro b W D tk rl hP
  simp only [evS] at hP
  refine sem_ps (ps_asg pe_sem pg_sem (swaps1_of hs) (by cases e <;> first | rfl | (simp [notTup] at hv))) (je.seqS tk (rl_st rl) hP fun pl ρ1 v H1 HF1 s1 st1 r1 hP1 => ?_)
  split at hP1
  · rename_i d gd
    obtain ⟨ρ', e2, hD⟩ := postS_out hP1
    have vw := r1.vw st1.rl gd
    obtain ⟨n1, n2⟩ := assignEach_plain (env := X.env) ht
    cases d with
    | tup ds =>
      have e' : asgTs ts ds ρ1 = some ρ' := by simpa only [asgT] using e2
      obtain ⟨a, vs, rfl, h1, r⟩ := vw.tup
      exact sem_pg (pg_tup G.calm pgs_sem n1 n2) ⟨a, vs, rfl, Same.seqT st1.rl.sub h1, by rw [r.length]; exact asgTs_len e' ht, jgs G (own := []) ht e' st1.toStp r fun σ' s' _ => hD _ _ _ s'⟩
    | lst ds =>
      have e' : asgTs ts ds ρ1 = some ρ' := by simpa only [asgT] using e2
      obtain ⟨a, vs, rfl, h1, r⟩ := vw.lst st1.rl.sub
      exact sem_pg (pg_lst G.calm pgs_sem n1 n2) ⟨a, vs, rfl, h1, by rw [r.length]; exact asgTs_len e' ht, jgs G (own := []) ht e' st1.toStp r fun σ' s' _ => hD _ _ _ s'⟩
    | _ => simp [asgT] at e2
  · exact hP1.elim
theorem js_lc (G : Good X c) {i : Nat} {own : List Nat} {t : T} {it : I} {cs : Es} {a : E} {x : Str} {px p pos : Pos} {tg elt iter : Expr} {ifs : List Expr} {scope : Scope} (hn : nmIs c i x = true) (hl : c.sc.names.lookup x = some .local) (hk : X.env.scope.kind = .function)
    (hp : (px.line == pos.line) = true) (hx : (scope.names.any fun (n, k) => n == x && (k == .local || k == .cell)) = false) (hb : blkC c.N c.sc scope (ownOf c.N own) = true) (hns : notSet iter = true)
    (ht : chkT (c.blk scope) t tg = true) (ji : JI X XC g it tg iter) (hc : ∀ (s : Shared) (H : Hp) (C : Addr) (cl : List (Str × Addr)) (fp : List Addr), JC (X.blk s H scope (compEnvC scope cl C X.env) fp) XC g cs ifs)
    (he : ∀ (s : Shared) (H : Hp) (C : Addr) (cl : List (Str × Addr)) (fp : List Addr), JE (X.blk s H scope (compEnvC scope cl C X.env) fp) XC g a elt) : JS X XC g (.asg (.nm i) (.comp own t it cs a)) (.Assign [.Name x px] (.ListComp elt [⟨tg, iter, ifs, 0⟩] scope pos) p) := by
  intro b W D tk rl hP
  have e1 : evS g (.asg (.nm i) (.comp own t it cs a)) b.ρ = (evE g (.comp own t it cs a) b.ρ).bind fun p ρ1 => evS.outR' (setSl i p ρ1) := by simp only [evS]
  rw [e1] at hP
  obtain ⟨h1, _⟩ := nm_of G hn
  have hy : X.env.scope.names.lookup x = some .local := by rw [G.sc]; exact hl
  refine sem_ps (ps_setLc G.calm G.nd h1 hy (sw_true hk hy hp hx) pi_sem (blk_of G hb) gB_pg ttB_pt teB_pe (fsi hns)) ?_
  rw [own_map]
  refine lc_sem (b := b) (W := W) G tk rl ht ji hc he ((postS_bind hP).mono fun pl ρ1 H1 HF1 st1 hP1 v r1 => ?_)
  obtain ⟨ρ', e2, hD⟩ := postS_out hP1
  obtain ⟨HF', s⟩ := setSl_ok st1 r1 e2
  exact hD _ _ _ s
theorem js_expr {m : E} {e : Expr} {p : Pos} (hs : notComp e = true) (je : JE X XC g m e) : JS X XC g (.expr m) (.Expr e p) := by
  intro b W D tk rl hP
  simp only [evS] at hP
  refine sem_ps (ps_expr pe_sem (swaps_of hs)) (je.seqS tk (rl_st rl) hP fun pl ρ1 v H1 HF1 s1 st1 r1 hP1 => ?_)
  exact hP1 _ _ _ st1.toStp
theorem js_ret {m : E} {e : Expr} {p : Pos} (je : JE X XC g m e) : JS X XC g (.ret m) (.Return (some e) p) := by
  intro b W D tk rl hP
  simp only [evS] at hP
  refine sem_ps (ps_ret pe_sem) (je.seqS tk (rl_st rl) hP fun pl ρ1 v H1 HF1 s1 st1 r1 hP1 => ?_)
  exact hP1 _ _ _ st1.toStp v r1
theorem js_retN {p : Pos} : JS X XC g .retN (.Return none p) := by
  intro b W D tk rl hP
  simp only [evS] at hP
  exact sem_ps ps_retN (hP _ _ _ (Stp.refl rl) .non .non)
theorem js_brk {p : Pos} : JS X XC g .brk (.Break p) := by
  intro b W D tk rl hP
  simp only [evS] at hP
  exact sem_ps ps_break (hP _ _ _ (Stp.refl rl))
theorem js_cnt {p : Pos} : JS X XC g .cnt (.Continue p) := by
  intro b W D tk rl hP
  simp only [evS] at hP
  exact sem_ps ps_continue (hP _ _ _ (Stp.refl rl))
theorem js_pas {p : Pos} : JS X XC g .pas (.Pass p) := by
  intro b W D tk rl hP
  simp only [evS] at hP
  exact sem_ps ps_pass (hP _ _ _ (Stp.refl rl))
theorem js_ifs {t : E} {a d : Ss} {e : Expr} {p q : List Stmt} {pos : Pos} (jt : JT X XC g t e) (ja : JSs X XC g a p) (jd : JSs X XC g d q) : JS X XC g (.ifs t a d) (.If e p q pos) := by
  intro b W D tk rl hP
  simp only [evS] at hP
  refine sem_ps (ps_if pt_sem pss_sem pss_sem) (jt.seqS tk (rl_st rl) hP fun k ρ1 H1 HF1 s1 st1 hP1 => ?_)
  cases k with
  | true => exact iteT (ja.runS tk st1.toStp hP1)
  | false => exact iteF (jd.runS tk st1.toStp hP1)
theorem js_aug (G : Good X c) {i : Nat} {m : E} {x : Str} {e : Expr} {px p : Pos} (hn : nmIs c i x = true) (hl : locB c x = true) (je : JE X XC g m e) : JS X XC g (.aug i m) (.AugAssign (.Name x px) .Add e p) := by
  intro b W D tk rl hP
  simp only [evS] at hP
  obtain ⟨h1, _⟩ := nm_of G hn
  obtain ⟨h2, h3⟩ := loc_of G hl
  split at hP
  · rename_i k hs
    obtain ⟨v, hv, hr⟩ := rl.sh i _ hs
    cases hr
    refine sem_ps (ps_aug G.nd h1 h2 pe_sem ip_add h3) ⟨_, hv, je.seqS tk (rl_st rl) hP fun pl ρ1 w H1 HF1 s1 st1 r1 hP1 => ?_⟩
    split at hP1
    · rename_i y gy
      obtain rfl := (r1.vw st1.rl gy).int
      have hs1 := s1.lv.2.1 i _ hs
      exact ⟨k, y, rfl, rfl, hP1 _ _ _ (stp_set st1.toStp (List.getElem?_eq_some_iff.mp hs1).1 (fun x z => by rw [hs1] at z; cases z) (.int _))⟩
    · exact hP1.elim
  · exact hP.elim
theorem js_setix (G : Good X c) {i : Nat} {mk mv : E} {x : Str} {k e : Expr} {px ps p : Pos} (hn : nmIs c i x = true) (hv : visB c x = true) (hk : notSlice k = true) (he : notComp e = true) (jk : JE X XC g mk k) (jv : JE X XC g mv e) :
    JS X XC g (.setix i mk mv) (.Assign [.Subscript (.Name x px) k ps] e p) := by
  intro b W D tk rl hP
  simp only [evS] at hP
  obtain ⟨h1, h2⟩ := nm_of G hn
  obtain ⟨d1, d2, d3⟩ := okNm_of h2
  refine sem_ps (ps_asg pe_sem (pg_sub (pe_var h1 (vis_of G hv) d1 d2) pe_sem set_list (by cases k <;> first | (intro _; rfl) | (simp [notSlice] at hk))) (swaps1_of he) (by cases e <;> rfl)) (jv.seqS tk (rl_st rl) hP fun pl ρ1 v H1 HF1 s1 st1 r1 hP1 => ?_)
  split at hP1
  · rename_i d ρ2 e1
    obtain ⟨HF2, st2, r2, _, _⟩ := RepP.frz st1 r1 e1
    split at hP1
    · rename_i io
      obtain ⟨pp, dd, hs0⟩ := isOw_of io
      obtain ⟨a0, ha0, _, _⟩ := st2.rl.ow i _ _ hs0
      refine ⟨.ref a0, ha0, ?_⟩
      refine jk.seqS tk st2 hP1 fun q ρ3 w H3 HF3 s3 st3 r3 hP2 => ?_
      split at hP2
      · rename_i j gj
        obtain rfl := (r3.vw st3.rl (asInt_of gj)).int
        split at hP2
        · rename_i bb ds hs
          split at hP2
          · rename_i n hn2
            obtain ⟨a, ha, hf, vs, hH, rr⟩ := st3.rl.ow i bb _ hs
            rw [ha0] at ha
            cases ha
            refine ⟨_, vs, j, n, rfl, rfl, hH, by rw [rr.length]; exact hn2, ?_⟩
            exact hP2 _ _ _ (stp_mut st3.toStp hs ha0 (rr.set (r2.mono s3.le) n))
          · exact hP2.elim
        · exact hP2.elim
      · exact hP2.elim
    · exact hP1.elim
  · exact hP1.elim
theorem few_one {e : Expr} {env : PySem.Env} {p : Pos} (h : notStar e = true) : ((backTo p (starEach [e] env)).all (fun x => !x.1) && (backToKw p (keywordEach [] env)).all (fun x => x.1.isSome)
      && decide (([e] : List Expr).length + ([] : List Keyword).length + (if ([] : List Keyword).isEmpty then 0 else 1) < 30)) = true := by
  rw [star_cons h]
  rfl
theorem js_app (G : Good X c) {i : Nat} {m : E} {x : Str} {e : Expr} {p1 p2 p3 p : Pos} (hn : nmIs c i x = true) (hv : visB c x = true) (hl : (p2.endLine == p3.line) = true) (hs : notStar e = true) (je : JE X XC g m e) :
    JS X XC g (.app i m) (.Expr (.Call (.Attribute (.Name x p1) "append" p2) [e] [] p3) p) := by
  intro b W D tk rl hP
  simp only [evS] at hP
  obtain ⟨h1, h2⟩ := nm_of G hn
  obtain ⟨d1, d2, d3⟩ := okNm_of h2
  split at hP
  · rename_i io
    obtain ⟨pp, dd, hs0⟩ := isOw_of io
    obtain ⟨a0, ha0, _, o0⟩ := rl.ow i _ _ hs0
    obtain ⟨ds0, rfl⟩ : ∃ ds0, dd = .lst ds0 := by
      cases dd with
      | lst ds0 => exact ⟨ds0, rfl⟩
      | _ => exact o0.elim
    obtain ⟨vs0, hH0, _⟩ := o0
    refine sem_ps (ps_expr (pe_bm PySem.F.plainAttrs_list PySem.F.slot_list_append PySem.F.type_list_append mt_append (pe_var h1 (vis_of G hv) d1 d2) (pa_cons pe_sem pa_nil (star_cons hs)) (attr_of' rfl) (few_one hs) hl (star_cons hs))) ?_
    refine ⟨.ref a0, ha0, .inl ⟨rfl, vs0, .inl (.inl hH0)⟩, ?_⟩
    refine je.seqS tk (rl_st rl) hP fun pl ρ1 v H1 HF1 s1 st1 r1 hP1 => ?_
    split at hP1
    · rename_i d ρ2 e1
      obtain ⟨HF2, st2, r2, _, _⟩ := RepP.frz st1 r1 e1
      split at hP1
      · rename_i bb ds hs
        split at hP1
        · rename_i hlt
          obtain ⟨a, ha, hf, vs, hH, rr⟩ := st2.rl.ow i bb _ hs
          rw [ha0] at ha
          cases ha
          refine ⟨_, vs, v, rfl, rfl, hH, by rw [rr.length]; exact hlt, ?_⟩
          exact hP1 _ _ _ (stp_mut st2.toStp hs ha0 (rr.append (.one r2)))
        · exact hP1.elim
      · exact hP1.elim
    · exact hP1.elim
  · exact hP.elim
theorem fnKind_of (G : Good X c) (h : fnKind c = true) : X.env.scope.kind = .function := by
  rw [G.sc]
  unfold fnKind at h
  split at h
  · assumption
  · cases h
theorem JA.seqS {m : Es} {es : List Expr} (hJ : JA X XC g m es) (tk : Takes X W) (st : StB X.K b ρ H HF) {f : List Pl → Rho → R β} {P : β → Rho → L2.St → Hp → Hp → Prop} {Q : List V → Hp → Prop} (hP : PostS X.K XC b W ((evEs g m ρ).bind f) P)
    (k : ∀ ps ρ' vs H' HF', StE X.K ρ b.σ H HF ρ' H' HF' → StB X.K b ρ' H' HF' → RpBs X.K b ρ' H' HF' vs ps → vs.length = m.len → PostS X.K XC b W (f ps ρ') P → Q vs H') : SemA X es b.σ H Q :=
  hJ ⟨ρ, b.σ, H, HF⟩ W Q tk st.rl ((postS_bind hP).later st fun ps ρ' H' HF' s' h vs r hl => k ps ρ' vs H' HF' s' (st.trans s') (r.base st) hl h)
theorem sw_par {x y : Str} {px py p1 p2 : Pos} {a d : Expr} {k1 k2 : Nat} {env : PySem.Env} (hk : env.scope.kind = .function) (hx : env.scope.names.lookup x = some .local) (hy : env.scope.names.lookup y = some .local) (h : parB x y px py a d = true) :
    swappedStores [.Tuple [.Name x px, .Name y py] k1 p1] (.Tuple [a, d] k2 p2) env = pure (some [x, y]) := by
  unfold parB at h
  obtain ⟨q5, h6⟩ := and2 h
  obtain ⟨q4, h5⟩ := and2 q5
  obtain ⟨q3, h4⟩ := and2 q4
  obtain ⟨q2, h3⟩ := and2 q3
  obtain ⟨h1, h2⟩ := and2 q2
  have kx : env.kindOf x = some .local := hx
  have ky : env.kindOf y = some .local := hy
  have hb : env.blockKind = .function := by unfold Env.blockKind; rw [hk]; rfl
  have e1 : px.line = py.line := by simpa using h1
  have e2 : x ≠ y := by simpa using h2
  have sa : ∀ {e : Expr}, notStar e = true → (match e with | .Starred .. => true | _ => false) = false := fun {e} q => by cases e <;> first | rfl | (simp [notStar] at q)
  unfold swappedStores
  simp only [hb, List.length_cons, List.length_nil, List.any_cons, List.any_nil, sa h3, sa h4, List.all_cons, List.all_nil, List.filterMap_cons, List.filterMap_nil, List.head?_cons, kx, ky]
  have f1 : (foldedForSure 8 a && (foldedForSure 8 d && true)) = false := by revert h5; cases foldedForSure 8 a <;> cases foldedForSure 8 d <;> simp
  have f2 : (constantsAlone 8 a && (constantsAlone 8 d && true)) = false := by revert h6; cases constantsAlone 8 a <;> cases constantsAlone 8 d <;> simp
  rw [f1, f2]
  have e3 : ([x, y] : List Str).eraseDups = [x, y] := by
    have : (y == x) = false := by simpa using Ne.symm e2
    simp [List.eraseDups, List.eraseDupsBy, List.eraseDupsBy.loop, this]
  simp [Expr.pos, e1, e3]
  intro hh
  rcases hh with z | z
  · cases a <;> first | (simp [notStar] at h3; done) | cases z
  · cases d <;> first | (simp [notStar] at h4; done) | cases z
theorem asg_split {i j : Nat} {x y : D} {ρ' : Rho} (h : ((asgT (.nm i) x ρ).bind fun ρ4 => asgT (.nm j) y ρ4) = some ρ') : ∃ ρ1, asgT (.nm i) x ρ = some ρ1 ∧ asgT (.nm j) y ρ1 = some ρ' := by
  cases e : asgT (.nm i) x ρ with
  | none => rw [e] at h; cases h
  | some ρ1 => rw [e] at h; exact ⟨ρ1, rfl, h⟩
theorem asg_nm {i : Nat} {d : D} {ρ' : Rho} (h : asgT (.nm i) d ρ = some ρ') : i < ρ.length ∧ (∀ x, ρ[i]? ≠ some (.ow true x)) ∧ ρ' = ρ.set i (.sh d) := by
  unfold asgT at h
  cases es : ρ[i]? with
  | none => rw [es] at h; cases h
  | some s =>
    have hi := (List.getElem?_eq_some_iff.mp es).1
    rw [es] at h
    cases s with
    | un => exact ⟨hi, (fun x z => by cases z), (Option.some.inj h).symm⟩
    | sh x => exact ⟨hi, (fun x z => by cases z), (Option.some.inj h).symm⟩
    | ow p x =>
      cases p with
      | true => cases h
      | false => exact ⟨hi, (fun x z => by cases z), (Option.some.inj h).symm⟩
theorem js_par (G : Good X c) {i j : Nat} {ma mb : E} {x y : Str} {a d : Expr} {px py p1 p2 p : Pos} {k1 k2 : Nat} (hk : fnKind c = true) (hi : nmIs c i x = true) (hj : nmIs c j y = true) (hx : c.sc.names.lookup x = some .local) (hy : c.sc.names.lookup y = some .local)
    (hp : parB x y px py a d = true) (hij : i ≠ j) (ja : JE X XC g ma a) (jd : JE X XC g mb d) : JS X XC g (.par i j ma mb) (.Assign [.Tuple [.Name x px, .Name y py] k1 p1] (.Tuple [a, d] k2 p2) p) := by
  intro b W D tk rl hP
  have e0 : evS g (.par i j ma mb) b.ρ = (evEs g (.cons ma (.cons mb .nil)) b.ρ).bind fun ps ρ2 => match frzL ps ρ2 with
      | some ([x, y], ρ3) => evS.outR' ((asgT (.nm i) x ρ3).bind fun ρ4 => asgT (.nm j) y ρ4)
      | _ => .bad := by
    simp only [evS, evEs]
    cases evE g ma b.ρ with
    | ok pa ρ1 =>
      show (evE g mb ρ1).bind _ = R.bind (R.bind (R.bind (evE g mb ρ1) _) _) _
      cases evE g mb ρ1 <;> rfl
    | ex _ _ => rfl
    | bad => rfl
  rw [e0] at hP
  obtain ⟨h1, _⟩ := nm_of G hi
  obtain ⟨h2, _⟩ := nm_of G hj
  have hx' : X.env.scope.names.lookup x = some .local := by rw [G.sc]; exact hx
  have hy' : X.env.scope.names.lookup y = some .local := by rw [G.sc]; exact hy
  have hs : notStar a = true ∧ notStar d = true := by
    unfold parB at hp
    simp only [Bool.and_eq_true] at hp
    exact ⟨hp.1.1.1.2, hp.1.1.2⟩
  refine sem_ps (ps_par G.calm G.nd h1 h2 hij hx' hy' pa_sem (sw_par (fnKind_of G hk) hx' hy' hp)) ((ja_cons hs.1 ja (ja_cons hs.2 jd ja_nil)).seqS tk (rl_st rl) hP fun ps ρ1 vs H1 HF1 s1 st1 r1 hl hP1 => ?_)
  split at hP1
  · rename_i dx dy ρ3 e1
    obtain ⟨HF3, st3, r3, _⟩ := r1.frzL st1 e1
    obtain ⟨ρ', e2, hD⟩ := postS_out hP1
    obtain ⟨ρ4, e3, e4⟩ := asg_split e2
    obtain ⟨a1, a2, rfl⟩ := asg_nm e3
    obtain ⟨b1, b2, rfl⟩ := asg_nm e4
    cases r3 with
    | cons rv r4 =>
      cases r4 with
      | cons rw r5 =>
        cases r5
        exact ⟨_, _, rfl, hD _ _ _ (stp_set (stp_set st3.toStp a1 a2 rv) b1 b2 rw)⟩
  · exact hP1.elim
/-! ### loops -/
theorem PostS.at {r : R Fl} {D : Ends} (h : PostS X.K XC b W r (EndsAt X.K b D)) (st : StS X.K b ρ σ H HF) : PostS X.K XC ⟨ρ, σ, H, HF⟩ W r (EndsAt X.K ⟨ρ, σ, H, HF⟩ D) :=
  h.later st fun _ _ _ _ _ _ q => q.later st
theorem js_whl (G : Good X c) {t : E} {m : Ss} {e : Expr} {body : List Stmt} {p : Pos} (jt : JT X XC g t e) (jb : JSs X XC g m body) : JS X XC g (.whl t m) (.While e body [] p) := by
  intro b W D tk rl hP
  simp only [evS] at hP
  refine sem_ps (ps_while G.hp pt_sem pss_sem) ⟨fun n σ H => ∃ ρ HF, Rl X.K ρ σ H HF ∧ PostS X.K XC ⟨ρ, σ, H, HF⟩ W (loopW (evT g t) (fun r => evSs g m r) n ρ) (EndsAt X.K ⟨ρ, σ, H, HF⟩ D), ⟨g.n, b.ρ, b.HF, rl, hP⟩, ?_⟩
  rintro n σ H ⟨ρ, HF, rl1, h⟩
  cases n with
  | zero => exact h.elim
  | succ n =>
    have h' : PostS X.K XC ⟨ρ, σ, H, HF⟩ W ((evT g t ρ).bind fun k ρ1 => match k with
      | false => .ok .nx ρ1
      | true => (evSs g m ρ1).bind fun f ρ2 => match f with
        | .nx => loopW (evT g t) (fun r => evSs g m r) n ρ2
        | .ct => loopW (evT g t) (fun r => evSs g m r) n ρ2
        | .br => .ok .nx ρ2
        | .rt p => .ok (.rt p) ρ2) (EndsAt X.K ⟨ρ, σ, H, HF⟩ D) := h
    refine jt.seqS (b := ⟨ρ, σ, H, HF⟩) tk (StE.refl rl1) h' fun k ρ1 H1 HF1 s1 st1 hP1 => ?_
    cases k with
    | false => exact iteF (hP1 _ _ _ st1.toStp)
    | true =>
      refine iteT ⟨fun σ' H' => ∃ ρ' HF', Rl X.K ρ' σ' H' HF' ∧ PostS X.K XC ⟨ρ', σ', H', HF'⟩ W (loopW (evT g t) (fun r => evSs g m r) n ρ') (EndsAt X.K ⟨ρ', σ', H', HF'⟩ D), fun σ' H' q => ⟨n, Nat.lt_succ_self n, q⟩, ?_⟩
      refine jb.runS (b := ⟨ρ, σ, H, HF⟩) tk st1.toStp ((postS_bind2 hP1).mono fun f ρ2 σ2 H2 HF2 st2 hq => ?_)
      cases f with
      | nx => exact ⟨ρ2, HF2, st2.rl, hq.at st2⟩
      | ct => exact ⟨ρ2, HF2, st2.rl, hq.at st2⟩
      | br => exact hq σ2 H2 HF2 st2
      | rt p => exact hq σ2 H2 HF2 st2
theorem js_fors (G : Good X c) {t : T} {it : I} {m : Ss} {tg iter : Expr} {body : List Stmt} {p : Pos} (ht : chkT c t tg = true) (hn : notSet iter = true) (ji : JI X XC g it tg iter) (jb : JSs X XC g m body) : JS X XC g (.fors t it m) (.For tg iter body [] p) := by
  intro b W D tk rl hP
  simp only [evS] at hP
  refine sem_ps (ps_for G.hp G.calm pi_sem pg_sem pss_sem (fsi hn)) (ji b W _ tk rl ((postS_bind hP).mono fun xs ρ1 H1 HF1 st1 hP1 J wd => ?_))
  obtain ⟨Gw, Y, w, wG, wY⟩ := wd.ex
  refine for_it w (fun i σ' H' => ∃ ρ' HF', Rl X.K ρ' σ' H' HF' ∧ Same HF1 HF' ∧ PostS X.K XC ⟨ρ', σ', H', HF'⟩ W (loopF (fun x r => match asgT t x r with
    | some r1 => evSs g m r1
    | none => .bad) (xs.drop i) ρ') (EndsAt X.K ⟨ρ', σ', H', HF'⟩ D)) ?_ ?_ ?_ ?_
  · exact ⟨ρ1, HF1, st1.rl, fun _ _ q => q, by rw [List.drop_zero]; exact hP1.at st1.toStp⟩
  · rintro i σ' H' _ ⟨ρ', HF', r', s', _⟩
    exact wG H' (s'.trans r'.sub)
  · rintro i x σ' H' H'' hi ⟨ρ', HF', r', s', h'⟩ y
    obtain ⟨d, rest, hdr, hxd⟩ : ∃ d rest, xs.drop i = d :: rest ∧ xs[i]? = some d := ⟨xs[i], xs.drop (i + 1), List.drop_eq_getElem_cons hi, List.getElem?_eq_getElem hi⟩
    have hrest : xs.drop (i + 1) = rest := by
      have q : xs.drop (i + 1) = (xs.drop i).drop 1 := by rw [List.drop_drop]
      rw [q, hdr]
      rfl
    rw [hdr] at h'
    obtain ⟨HFc, sc, rx, lec⟩ : ∃ HFc, Stp X.K ρ' σ' H' HF' ρ' σ' H'' HFc ∧ Rep X.K HFc x d ∧ Same HF1 HFc := by
      rcases wY i H' x H'' y with ⟨rfl, d', h1, h2⟩ | ⟨T, us, es, rfl, h1, rfl, h2, h3⟩
      · rw [hxd] at h1
        cases h1
        exact ⟨HF', Stp.refl r', h2.mono s', s'⟩
      · rw [hxd] at h2
        cases h2
        have hT : HF' T = none := by
          cases e : HF' T with
          | none => rfl
          | some u => rw [r'.sub T u e] at h1; cases h1
        exact ⟨upd HF' T (.tup us), stp_new (Stp.refl r') h1, .tup (SqT.of upd_same) ((h3.mono s').mono (upd_le hT)), s'.trans (upd_le hT)⟩
    have h2 := h'.at sc
    have h3 : PostS X.K XC ⟨ρ', σ', H'', HFc⟩ W ((match asgT t d ρ' with
      | some r1 => evSs g m r1
      | none => .bad : R Fl).bind fun f ρ1 => match f with
      | .nx => loopF (fun x r => match asgT t x r with | some r1 => evSs g m r1 | none => .bad) rest ρ1
      | .ct => loopF (fun x r => match asgT t x r with | some r1 => evSs g m r1 | none => .bad) rest ρ1
      | .br => .ok .nx ρ1
      | .rt p => .ok (.rt p) ρ1) (EndsAt X.K ⟨ρ', σ', H'', HFc⟩ D) := h2
    cases e1 : asgT t d ρ' with
    | none => rw [e1] at h3; exact h3.elim
    | some ρ3 =>
      rw [e1] at h3
      dsimp only at h3
      refine jg G (own := []) ht e1 (Stp.refl sc.rl) rx fun σ3 s3 _ => ?_
      refine jb.runS (b := ⟨ρ', σ', H'', HFc⟩) tk s3 ((postS_bind2 h3).mono fun f ρ4 σ4 H4 HF4 st4 hq => ?_)
      cases f with
      | nx => exact ⟨ρ4, HF4, st4.rl, lec.trans st4.le, by rw [hrest]; exact hq.at st4⟩
      | ct => exact ⟨ρ4, HF4, st4.rl, lec.trans st4.le, by rw [hrest]; exact hq.at st4⟩
      | br => exact hq σ4 H4 HF4 st4
      | rt p => exact hq σ4 H4 HF4 st4
  · rintro σ' H' ⟨ρ', HF', r', s', h'⟩
    rw [List.drop_length] at h'
    exact h' _ _ _ (Stp.refl r')
end
end Mi

/-! Mi: every statement; every def -/
namespace Mi
open PySem PySem.Spec L2

section
variable {X : Cx} {XC : Nat → Value} {g : G} {c : SC}
theorem js_asgc (G : Good X c) (L : Lib X XC g c) {i : Nat} {m : E} {x : Str} {v : Expr} {px p : Pos} (hn : nmIs c i x = true) (h : chkE c m v = true) (hs : swapB c v (.Name x px) p.line = true) :
    JS X XC g (.asg (.nm i) m) (.Assign [.Name x px] v p) := by
  unfold swapB at hs
  split at hs
  · rename_i elt gs scope pos
    obtain ⟨hs, s4⟩ := and2 hs
    obtain ⟨hs, s3⟩ := and2 hs
    obtain ⟨s1, s2⟩ := and2 hs
    cases m with
    | comp own t it cs a =>
      unfold chkE at h
      split at h
      · rename_i e0 x0 tg iter ifs sc0 p0 he
        cases he
        obtain ⟨h1, h8⟩ := and2 h
        obtain ⟨h1, h7⟩ := and2 h1
        obtain ⟨h1, h6⟩ := and2 h1
        obtain ⟨h1, h5⟩ := and2 h1
        obtain ⟨h1, h4⟩ := and2 h1
        obtain ⟨h1, h3⟩ := and2 h1
        obtain ⟨h1, h2⟩ := and2 h1
        exact js_lc G hn (eq_of_beq s2) (fnKind_of G s1) s3 (by simpa using s4) h1 h3 h6 (sndI it G L h2 h5) (fun s H C cl fp => sndC cs (good_blk G s H _ cl C fp) (lib_blk L s H _ _ fp) h4 h7)
          fun s H C cl fp => (sndE a (good_blk G s H _ cl C fp) (lib_blk L s H _ _ fp) h8).1
      · cases h
    | _ => simp [chkE] at h
  · cases hs
end

section
variable {XC : Nat → Value} {g : G}
theorem or2 {a b : Bool} (h : (a || b) = true) : a = true ∨ b = true := by simpa using h
mutual
theorem sndS : ∀ (m : S) {X : Cx} {c : SC} {st : Stmt}, Good X c → Lib X XC g c → chkS c m st = true → JS X XC g m st
  | .asg t e, X, c, st, G, L, h => by
    unfold chkS at h
    split at h
    · rename_i tg v p
      obtain ⟨h1, h4⟩ := and2 h
      obtain ⟨h1, h3⟩ := and2 h1
      obtain ⟨h1, h2⟩ := and2 h1
      cases t with
      | nm i =>
        unfold chkT at h1
        split at h1
        · obtain ⟨n1, n2⟩ := and2 h1
          rcases or2 h4 with q | q
          · exact js_set G n1 n2 (swaps_of q) (sndE e G L h2).1
          · exact js_asgc G L n1 h2 q
        · cases h1
      | tu ts =>
        unfold chkT at h1
        split at h1
        · have q : notComp v = true := by
            rcases or2 h4 with q | q
            · exact q
            · unfold swapB at q
              split at q
              · cases q
              · cases q
          have q2 : notTup v = true := by
            rcases or2 h3 with z | z
            · cases z
            · exact z
          exact js_tup G h1 q q2 (sndE e G L h2).1
        · cases h1
    · cases h
  | .par i j a b, X, c, st, G, L, h => by
    unfold chkS at h
    split at h
    · obtain ⟨h1, h9⟩ := and2 h
      obtain ⟨h1, h8⟩ := and2 h1
      obtain ⟨h1, h7⟩ := and2 h1
      obtain ⟨h1, h6⟩ := and2 h1
      obtain ⟨h1, h5⟩ := and2 h1
      obtain ⟨h1, h4⟩ := and2 h1
      obtain ⟨h1, h3⟩ := and2 h1
      obtain ⟨h1, h2⟩ := and2 h1
      exact js_par G h1 h2 h3 (eq_of_beq h4) (eq_of_beq h5) h6 (by simpa using h7) (sndE a G L h8).1 (sndE b G L h9).1
    · cases h
  | .aug i e, X, c, st, G, L, h => by
    unfold chkS at h
    split at h
    · obtain ⟨h1, h3⟩ := and2 h
      obtain ⟨h1, h2⟩ := and2 h1
      exact js_aug G h1 h2 (sndE e G L h3).1
    · cases h
  | .setix i k v, X, c, st, G, L, h => by
    unfold chkS at h
    split at h
    · obtain ⟨h1, h6⟩ := and2 h
      obtain ⟨h1, h5⟩ := and2 h1
      obtain ⟨h1, h4⟩ := and2 h1
      obtain ⟨h1, h3⟩ := and2 h1
      obtain ⟨h1, h2⟩ := and2 h1
      exact js_setix G h1 h2 h3 h4 (sndE k G L h5).1 (sndE v G L h6).1
    · cases h
  | .app i e, X, c, st, G, L, h => by
    unfold chkS at h
    split at h
    · obtain ⟨q5, h6⟩ := and2 h
      obtain ⟨q4, h5⟩ := and2 q5
      obtain ⟨q3, h4⟩ := and2 q4
      obtain ⟨q2, h3⟩ := and2 q3
      obtain ⟨h1, h2⟩ := and2 q2
      have e := eq_of_beq h3
      subst e
      exact js_app G h1 h2 h4 h5 (sndE _ G L h6).1
    · cases h
  | .ext i e, X, c, st, G, L, h => by
    unfold chkS at h
    cases h
  | .expr e, X, c, st, G, L, h => by
    unfold chkS at h
    split at h
    · obtain ⟨h1, h2⟩ := and2 h
      exact js_expr h1 (sndE e G L h2).1
    · cases h
  | .ret e, X, c, st, G, L, h => by
    unfold chkS at h
    split at h
    · exact js_ret (sndE e G L h).1
    · cases h
  | .retN, X, c, st, G, L, h => by
    unfold chkS at h
    split at h
    · exact js_retN
    · cases h
  | .ifs t a b, X, c, st, G, L, h => by
    unfold chkS at h
    split at h
    · obtain ⟨h1, h3⟩ := and2 h
      obtain ⟨h1, h2⟩ := and2 h1
      exact js_ifs (sndE t G L h1).2 (sndSs a G L h2) (sndSs b G L h3)
    · cases h
  | .whl t b, X, c, st, G, L, h => by
    unfold chkS at h
    split at h
    · obtain ⟨h1, h2⟩ := and2 h
      exact js_whl G (sndE t G L h1).2 (sndSs b G L h2)
    · cases h
  | .fors t it b, X, c, st, G, L, h => by
    unfold chkS at h
    split at h
    · obtain ⟨h1, h5⟩ := and2 h
      obtain ⟨h1, h4⟩ := and2 h1
      obtain ⟨h1, h3⟩ := and2 h1
      obtain ⟨h1, h2⟩ := and2 h1
      exact js_fors G h1 h2 (sndI it G L h3 h4) (sndSs b G L h5)
    · cases h
  | .brk, X, c, st, G, L, h => by
    unfold chkS at h
    split at h
    · exact js_brk
    · cases h
  | .cnt, X, c, st, G, L, h => by
    unfold chkS at h
    split at h
    · exact js_cnt
    · cases h
  | .pas, X, c, st, G, L, h => by
    unfold chkS at h
    split at h
    · exact js_pas
    · cases h
theorem sndSs : ∀ (m : Ss) {X : Cx} {c : SC} {st : List Stmt}, Good X c → Lib X XC g c → chkSs c m st = true → JSs X XC g m st
  | .nil, X, c, st, G, L, h => by
    unfold chkSs at h
    split at h
    · intro b W D tk rl hP
      simp only [evSs] at hP
      exact sem_pss pss_nil (hP _ _ _ (Stp.refl rl))
    · cases h
  | .cons s ss, X, c, st, G, L, h => by
    unfold chkSs at h
    split at h
    · obtain ⟨h1, h2⟩ := and2 h
      have j1 := sndS s G L h1
      have j2 := sndSs ss G L h2
      intro b W D tk rl hP
      simp only [evSs] at hP
      refine sem_pss (pss_cons ps_sem pss_sem) (j1 b W _ tk rl ((postS_bind2 hP).mono fun f ρ1 σ1 H1 HF1 st1 h1 => ?_))
      cases f with
      | nx => exact j2.runS tk st1 h1
      | br => exact h1 σ1 H1 HF1 st1
      | ct => exact h1 σ1 H1 HF1 st1
      | rt p => exact h1 σ1 H1 HF1 st1
    · cases h
end
end

/-! ### defs -/
section
variable {K : PySem.W.Frag} {H HF H' HF' : Hp}
theorem ArgsOk.len : ∀ {ms : List Bool} {vs : List V} {ds : List D}, ArgsOk K H HF ms vs ds → vs.length = ms.length ∧ ds.length = ms.length
  | [], [], [], _ => ⟨rfl, rfl⟩
  | false :: ms, v :: vs, d :: ds, h => by
    have q := ArgsOk.len h.2
    exact ⟨by simp [q.1], by simp [q.2]⟩
  | true :: ms, v :: vs, d :: ds, h => by
    have q := ArgsOk.len h.2
    exact ⟨by simp [q.1], by simp [q.2]⟩
  | [], _ :: _, _, h => by cases h
  | [], [], _ :: _, h => by cases h
  | false :: _, [], _, h => by cases h
  | true :: _, [], _, h => by cases h
  | false :: _, _ :: _, [], h => by cases h
  | true :: _, _ :: _, [], h => by cases h
theorem argR_len : ∀ {ms : List Bool} {ds : List D}, ds.length = ms.length → (argR ms ds).length = ms.length
  | [], [], _ => rfl
  | true :: ms, d :: ds, h => by simp only [argR, List.length_cons]; rw [argR_len (by simpa using h)]
  | false :: ms, d :: ds, h => by simp only [argR, List.length_cons]; rw [argR_len (by simpa using h)]
  | [], _ :: _, h => by simp at h
  | _ :: _, [], h => by simp at h
theorem argR_sh : ∀ {ms : List Bool} {vs : List V} {ds : List D} {i : Nat} {d : D}, ArgsOk K H HF ms vs ds → (argR ms ds)[i]? = some (Sl.sh d) → ∃ v, vs[i]? = some v ∧ Rep K HF v d
  | false :: ms, v :: vs, d :: ds, 0, e, h, q => by
    simp [argR] at q
    subst q
    exact ⟨v, rfl, h.1⟩
  | true :: ms, v :: vs, d :: ds, 0, e, h, q => by simp [argR] at q
  | false :: ms, v :: vs, d :: ds, i + 1, e, h, q => by
    simp [argR] at q
    obtain ⟨w, h1, h2⟩ := argR_sh h.2 q
    exact ⟨w, by simpa using h1, h2⟩
  | true :: ms, v :: vs, d :: ds, i + 1, e, h, q => by
    simp [argR] at q
    obtain ⟨w, h1, h2⟩ := argR_sh h.2 q
    exact ⟨w, by simpa using h1, h2⟩
  | [], _, _, _, _, _, q => by simp [argR] at q
  | false :: _, [], _, _, _, h, _ => by cases h
  | true :: _, [], _, _, _, h, _ => by cases h
  | false :: _, _ :: _, [], _, _, h, _ => by cases h
  | true :: _, _ :: _, [], _, _, h, _ => by cases h
theorem argR_ow : ∀ {ms : List Bool} {vs : List V} {ds : List D} {i : Nat} {p : Bool} {d : D}, ArgsOk K H HF ms vs ds → (argR ms ds)[i]? = some (Sl.ow p d) → p = true ∧ ∃ a, vs[i]? = some (V.ref a) ∧ HF a = none ∧ Own K H HF a d ∧ a ∈ ioA ms vs
  | false :: ms, v :: vs, d :: ds, 0, p, e, h, q => by simp [argR] at q
  | true :: ms, v :: vs, d :: ds, 0, p, e, h, q => by
    simp [argR] at q
    obtain ⟨rfl, rfl⟩ := q
    obtain ⟨⟨a, rfl, h1, h2⟩, _⟩ := h
    exact ⟨rfl, a, rfl, h1, h2, by simp [ioA]⟩
  | false :: ms, v :: vs, d :: ds, i + 1, p, e, h, q => by
    simp [argR] at q
    obtain ⟨hp, a, h1, h2, h3, h4⟩ := argR_ow h.2 q
    exact ⟨hp, a, by simpa using h1, h2, h3, by cases v <;> exact h4⟩
  | true :: ms, v :: vs, d :: ds, i + 1, p, e, h, q => by
    simp [argR] at q
    obtain ⟨hp, a, h1, h2, h3, h4⟩ := argR_ow h.2 q
    obtain ⟨⟨a', rfl, _⟩, _⟩ := h
    exact ⟨hp, a, by simpa using h1, h2, h3, List.mem_cons_of_mem _ h4⟩
  | [], _, _, _, _, _, _, q => by simp [argR] at q
  | false :: _, [], _, _, _, _, h, _ => by cases h
  | true :: _, [], _, _, _, _, h, _ => by cases h
  | false :: _, _ :: _, [], _, _, _, h, _ => by cases h
  | true :: _, _ :: _, [], _, _, _, h, _ => by cases h
theorem argR_dis : ∀ {ms : List Bool} {vs : List V} {ds : List D} {i j : Nat} {p q : Bool} {d e : D} {a : Addr}, ArgsOk K H HF ms vs ds → (ioA ms vs).Nodup → (argR ms ds)[i]? = some (Sl.ow p d) → vs[i]? = some (V.ref a) → (argR ms ds)[j]? = some (Sl.ow q e) → vs[j]? = some (V.ref a) → i = j
  | [], _, _, _, _, _, _, _, _, _, _, _, q, _, _, _ => by simp [argR] at q
  | false :: _, [], _, _, _, _, _, _, _, _, h, _, _, _, _, _ => by cases h
  | true :: _, [], _, _, _, _, _, _, _, _, h, _, _, _, _, _ => by cases h
  | false :: _, _ :: _, [], _, _, _, _, _, _, _, h, _, _, _, _, _ => by cases h
  | true :: _, _ :: _, [], _, _, _, _, _, _, _, h, _, _, _, _, _ => by cases h
  | false :: ms, v :: vs, d :: ds, i, j, p, q, x, y, a, h, nd, h1, h2, h3, h4 => by
    cases i with
    | zero => simp [argR] at h1
    | succ i =>
      cases j with
      | zero => simp [argR] at h3
      | succ j =>
        have nd' : (ioA ms vs).Nodup := by cases v <;> exact nd
        exact congrArg (· + 1) (argR_dis h.2 nd' (by simpa [argR] using h1) (by simpa using h2) (by simpa [argR] using h3) (by simpa using h4))
  | true :: ms, v :: vs, d :: ds, i, j, p, q, x, y, a, h, nd, h1, h2, h3, h4 => by
    obtain ⟨⟨a', rfl, _⟩, h'⟩ := h
    have nd2 : a' ∉ ioA ms vs ∧ (ioA ms vs).Nodup := List.nodup_cons.mp nd
    cases i with
    | zero =>
      have e : a' = a := by simpa using h2
      subst e
      cases j with
      | zero => rfl
      | succ j =>
        obtain ⟨_, b, b1, _, _, b4⟩ := argR_ow (i := j) h' (by simpa [argR] using h3)
        have b2 : vs[j]? = some (V.ref a') := by simpa using h4
        rw [b1] at b2
        cases b2
        exact absurd b4 nd2.1
    | succ i =>
      cases j with
      | zero =>
        have e : a' = a := by simpa using h4
        subst e
        obtain ⟨_, b, b1, _, _, b4⟩ := argR_ow (i := i) h' (by simpa [argR] using h1)
        have b2 : vs[i]? = some (V.ref a') := by simpa using h2
        rw [b1] at b2
        cases b2
        exact absurd b4 nd2.1
      | succ j => exact congrArg (· + 1) (argR_dis h' nd2.2 (by simpa [argR] using h1) (by simpa using h2) (by simpa [argR] using h3) (by simpa using h4))
theorem ioA_mem : ∀ {ms : List Bool} {vs : List V} {ds : List D} {a : Addr}, ArgsOk K H HF ms vs ds → a ∈ ioA ms vs → ∃ (i : Nat) (d : D), (argR ms ds)[i]? = some (Sl.ow true d) ∧ vs[i]? = some (V.ref a)
  | [], _, _, _, _, q => by simp [ioA] at q
  | false :: _, [], _, _, h, _ => by cases h
  | true :: _, [], _, _, h, _ => by cases h
  | false :: _, _ :: _, [], _, h, _ => by cases h
  | true :: _, _ :: _, [], _, h, _ => by cases h
  | false :: ms, v :: vs, d :: ds, a, h, q => by
    have q' : a ∈ ioA ms vs := by cases v <;> exact q
    obtain ⟨i, x, h1, h2⟩ := ioA_mem h.2 q'
    exact ⟨i + 1, x, by simpa [argR] using h1, by simpa using h2⟩
  | true :: ms, v :: vs, d :: ds, a, h, q => by
    obtain ⟨⟨a', rfl, _⟩, h'⟩ := h
    rcases List.mem_cons.mp q with z | z
    · subst z
      exact ⟨0, d, rfl, rfl⟩
    · obtain ⟨i, x, h1, h2⟩ := ioA_mem h' z
      exact ⟨i + 1, x, by simpa [argR] using h1, by simpa using h2⟩
/-- the start -/
theorem start_get {f : Df} {ds : List D} (hl : ds.length = f.md.length) {i : Nat} {s : Sl} (h : (Mi.start f ds)[i]? = some s) : ((argR f.md ds)[i]? = some s ∧ i < f.md.length) ∨ s = .un := by
  unfold Mi.start at h
  by_cases hi : i < (argR f.md ds).length
  · rw [List.getElem?_append_left hi] at h
    exact .inl ⟨h, by rw [argR_len hl] at hi; exact hi⟩
  · rw [List.getElem?_append_right (by omega)] at h
    rw [List.getElem?_replicate] at h
    split at h
    · exact .inr (Option.some.inj h).symm
    · cases h
theorem start_σ {N : List Str} {vs : List V} {i : Nat} {v : V} (h : vs[i]? = some v) : (L2.start N vs)[i]? = some (some v) := by
  unfold L2.start
  have hi := (List.getElem?_eq_some_iff.mp h).1
  rw [List.getElem?_append_left (by simpa using hi), List.getElem?_map, h]
  rfl
theorem start_rl {f : Df} {N : List Str} {vs : List V} {ds : List D} (hN : N.length = f.N) (hm : f.md.length ≤ f.N) (sub : Same HF H) (a : ArgsOk K H HF f.md vs ds) (nd : (ioA f.md vs).Nodup) : Rl K (Mi.start f ds) (L2.start N vs) H HF := by
  obtain ⟨l1, l2⟩ := ArgsOk.len a
  refine ⟨sub, ?_, fun i d e => ?_, fun i p d e => ?_, fun i j p q d e b x y => ?_⟩
  · unfold Mi.start L2.start
    simp only [List.length_append, List.length_replicate, List.length_map, argR_len l2]
    omega
  · rcases start_get l2 e with ⟨z, _⟩ | z
    · obtain ⟨v, h1, h2⟩ := argR_sh a z
      exact ⟨v, start_σ h1, h2⟩
    · cases z
  · rcases start_get l2 e with ⟨z, _⟩ | z
    · obtain ⟨_, b, h1, h2, h3, _⟩ := argR_ow a z
      exact ⟨b, start_σ h1, h2, h3⟩
    · cases z
  · rcases start_get l2 x.1 with ⟨z, _⟩ | z
    · rcases start_get l2 y.1 with ⟨z2, _⟩ | z2
      · obtain ⟨_, b1, h1, _⟩ := argR_ow a z
        obtain ⟨_, b2, h2, _⟩ := argR_ow a z2
        have e1 := start_σ (N := N) h1
        have e2 := start_σ (N := N) h2
        rw [x.2] at e1
        rw [y.2] at e2
        cases e1
        cases e2
        exact argR_dis a nd z h1 z2 h2
      · cases z2
    · cases z
theorem start_own {f : Df} {N : List Str} {vs : List V} {ds : List D} {b : Addr} (a : ArgsOk K H HF f.md vs ds) (h : Owned (Mi.start f ds) (L2.start N vs) b) : b ∈ ioA f.md vs ∧ ∃ (i : Nat) (d : D), (Mi.start f ds)[i]? = some (Sl.ow true d) ∧ (L2.start N vs)[i]? = some (some (V.ref b)) := by
  obtain ⟨l1, l2⟩ := ArgsOk.len a
  obtain ⟨i, p, d, x, y⟩ := h
  rcases start_get l2 x with ⟨z, _⟩ | z
  · obtain ⟨hp, c, h1, _, _, h4⟩ := argR_ow a z
    have e1 := start_σ (N := N) h1
    rw [y] at e1
    cases e1
    subst hp
    exact ⟨h4, i, d, x, y⟩
  · cases z
end
end Mi

/-! Mi: defs, all at once -/
namespace Mi
open PySem PySem.Spec L2

section
variable {K : PySem.W.Frag} {H HF H' HF' : Hp} {f : Df} {N : List Str} {vs : List V} {ds : List D} {ρ : Rho} {σ : L2.St}
theorem outsOf_ok : ∀ {ms : List Bool} {vs : List V} {i : Nat}, (∀ k, ms[k]? = some true → ∃ (a : Addr) (d : D), vs[k]? = some (V.ref a) ∧ ρ[i + k]? = some (Sl.ow true d) ∧ HF' a = none ∧ Own K H' HF' a d) → vs.length = ms.length → OutsOk K H' HF' ms vs (outsOf ms ρ i)
  | [], [], _, _, _ => by simp only [outsOf]; exact True.intro
  | [], _ :: _, _, _, h => by simp at h
  | _ :: _, [], _, _, h => by simp at h
  | true :: ms, v :: vs, i, h, l => by
    simp only [outsOf]
    refine ⟨?_, outsOf_ok (i := i + 1) (fun k hk => ?_) (by simpa using l)⟩
    · obtain ⟨a, d, h1, h2, h3, h4⟩ := h 0 rfl
      have e : v = .ref a := by simpa using h1
      subst e
      rw [Nat.add_zero] at h2
      rw [h2]
      exact ⟨a, rfl, h3, h4⟩
    · obtain ⟨a, d, h1, h2, h3, h4⟩ := h (k + 1) (by simpa using hk)
      exact ⟨a, d, by simpa using h1, by rw [Nat.add_assoc, Nat.add_comm 1 k]; exact h2, h3, h4⟩
  | false :: ms, v :: vs, i, h, l => by
    simp only [outsOf]
    refine outsOf_ok (i := i + 1) (fun k hk => ?_) (by simpa using l)
    obtain ⟨a, d, h1, h2, h3, h4⟩ := h (k + 1) (by simpa using hk)
    exact ⟨a, d, by simpa using h1, by rw [Nat.add_assoc, Nat.add_comm 1 k]; exact h2, h3, h4⟩
theorem argR_true : ∀ {ms : List Bool} {vs : List V} {ds : List D} {k : Nat}, ArgsOk K H HF ms vs ds → ms[k]? = some true → ∃ (a : Addr) (d : D), vs[k]? = some (V.ref a) ∧ (argR ms ds)[k]? = some (Sl.ow true d)
  | [], _, _, _, _, q => by simp at q
  | false :: _, [], _, _, h, _ => by cases h
  | true :: _, [], _, _, h, _ => by cases h
  | false :: _, _ :: _, [], _, h, _ => by cases h
  | true :: _, _ :: _, [], _, h, _ => by cases h
  | false :: ms, v :: vs, d :: ds, k, h, q => by
    cases k with
    | zero => simp at q
    | succ k =>
      obtain ⟨a, x, h1, h2⟩ := argR_true h.2 (by simpa using q)
      exact ⟨a, x, by simpa using h1, by simpa [argR] using h2⟩
  | true :: ms, v :: vs, d :: ds, k, h, q => by
    cases k with
    | zero =>
      obtain ⟨⟨a, rfl, _⟩, _⟩ := h
      exact ⟨a, d, rfl, rfl⟩
    | succ k =>
      obtain ⟨a, x, h1, h2⟩ := argR_true h.2 (by simpa using q)
      exact ⟨a, x, by simpa using h1, by simpa [argR] using h2⟩
/-- from a body's steps: what the caller sees -/
theorem body_end (a : ArgsOk K H HF f.md vs ds) (s : Stp K (Mi.start f ds) (L2.start N vs) H HF ρ σ H' HF') : CStp H HF H' HF' (ioA f.md vs) ∧ OutsOk K H' HF' f.md vs (outsOf f.md ρ 0) ∧ (∀ b, Owned (Mi.start f ds) (L2.start N vs) b → ∃ (i : Nat) (d : D), ρ[i]? = some (Sl.ow true d) ∧ σ[i]? = some (some (V.ref b))) := by
  obtain ⟨l1, l2⟩ := ArgsOk.len a
  have keep : ∀ b, Owned (Mi.start f ds) (L2.start N vs) b → ∃ (i : Nat) (d : D), ρ[i]? = some (Sl.ow true d) ∧ σ[i]? = some (some (V.ref b)) := fun b q => by
    obtain ⟨_, i, d, h1, h2⟩ := start_own a q
    obtain ⟨⟨d', e1⟩, e2⟩ := s.par i d h1
    exact ⟨i, d', e1, by rw [e2]; exact h2⟩
  refine ⟨⟨s.le, s.rl.sub, fun b o e n => s.fr b o e fun q => n (start_own a q).1, fun b o e => ?_, s.dom⟩, outsOf_ok (fun k hk => ?_) l1, keep⟩
  · rcases s.fsh b o e with q | q | q
    · exact .inl q
    · exact .inr q
    · obtain ⟨i, d, h1, h2⟩ := keep b q
      obtain ⟨b', q1, q2, _⟩ := s.rl.ow i true d h1
      rw [h2] at q1
      cases q1
      rw [q2] at e
      cases e
  · obtain ⟨b, d, h1, h2⟩ := argR_true a hk
    have hk2 : k < (argR f.md ds).length := (List.getElem?_eq_some_iff.mp h2).1
    have h3 : (Mi.start f ds)[k]? = some (Sl.ow true d) := by
      unfold Mi.start
      rw [List.getElem?_append_left hk2]
      exact h2
    obtain ⟨⟨d', e1⟩, e2⟩ := s.par k d h3
    obtain ⟨b', q1, q2, q3⟩ := s.rl.ow k true d' e1
    rw [e2, start_σ h1] at q1
    cases q1
    exact ⟨b, d', h1, by rw [Nat.zero_add]; exact e1, q2, q3⟩
end

/-! ### a def's promise from its body -/
section
variable {P : Program} {w : World} {K : PySem.W.Frag} {mg : Str → Option Value} {base : Heap}
structure Dfi where
  x : Str
  st : Stmt
  N : List Str
  ps : List Str
  d : Df
def okDf (fns blt : List Str) (con : List (Str × D)) (i : Dfi) : Bool :=
  C8.scC i.N i.ps (defScope i.st) && (i.N.length == i.d.N) && (i.ps.length == i.d.md.length) && chkSs ⟨i.N, defScope i.st, fns, blt, con, none⟩ i.d.body (defBody i.st)
structure Has (K : PySem.W.Frag) (mg : Str → Option Value) (i : Dfi) (fa : Addr) (fd : FuncData) : Prop where
  F : Fun K i.x i.x i.st fa fd
  m : mg i.x = some (.ref fa)
  b : Binds K fd i.ps []
theorem start_len {N : List Str} {vs : List V} (h : vs.length ≤ N.length) : (L2.start N vs).length = N.length := by
  unfold L2.start
  simp
  omega
theorem fn_ok {i : Dfi} {fns blt : List Str} {con : List (Str × D)} {XC : Nat → Value} {g : G} {k : Nat} {fa : Addr} {fd : FuncData} (ok : okDf fns blt con i = true) (F : Fun K i.x i.x i.st fa fd)
    (hL : ∀ (A : Around) (X : Cx), X.prog = P → X.w = w → X.K = K → X.mg = mg → X.base = base → Room k X.A → Lib X XC g ⟨i.N, defScope i.st, fns, blt, con, none⟩) :
    FnOk P w K mg base (L2.CX P w) (k + 1) fa fd i.ps (spF K XC i.d.md (runD g i.d)) := by
  unfold okDf at ok
  obtain ⟨ok, h4⟩ := and2 ok
  obtain ⟨ok, h3⟩ := and2 ok
  obtain ⟨h1, h2⟩ := and2 ok
  have h3 : i.ps.length = i.d.md.length := eq_of_beq h3
  have h2 : i.N.length = i.d.N := eq_of_beq h2
  have S := C8.fnScope_by h1
  refine F.okX S (fun vs H Q E h => ?_) (fun cdv A outer s H vs Q E hr h => ⟨_, pss_sem, ?_⟩)
  · obtain ⟨HF, ds, _, _, _, hl, _⟩ := h
    rw [h3]; exact hl
  · obtain ⟨HF, ds, sub, a, nd, hl, hP⟩ := h
    have L := hL A (cxOf (L2.CX P w) P w K mg base i.N i.x (defScope i.st) fa cdv A outer s H E) rfl rfl rfl rfl rfl hr
    have Gd : Good (cxOf (L2.CX P w) P w K mg base i.N i.x (defScope i.st) fa cdv A outer s H E) ⟨i.N, defScope i.st, fns, blt, con, none⟩ :=
      ⟨rfl, S.nd, rfl, rfl, fun _ _ => rfl, passes_of (X := cxOf (L2.CX P w) P w K mg base i.N i.x (defScope i.st) fa cdv A outer s H E) (K := fun e s'' => L2.CX P w outer H s E e s'') (E₁ := fun e' s'' => L2.CX P w outer H s E e' s'') rfl⟩
    have tk : Takes (cxOf (L2.CX P w) P w K mg base i.N i.x (defScope i.st) fa cdv A outer s H E) (fun cls d _ H' => E cls d H') := takes_of rfl rfl rfl rfl
    unfold runD at hP
    split at hP
    · rename_i hc
      have rl := start_rl (N := i.N) h2 hc.2 sub a nd
      refine sndSs i.d.body Gd L h4 ⟨Mi.start i.d ds, L2.start i.N vs, H, HF⟩ _ _ tk rl ?_
      cases e : evSs g i.d.body (Mi.start i.d ds) with
      | bad => rw [e] at hP; exact hP.elim
      | ex cc ρ =>
        rw [e] at hP
        intro σ' H' HF' st
        obtain ⟨c1, c2, _⟩ := body_end a st
        exact hP H' HF' c1 c2
      | ok fl ρ =>
        rw [e] at hP
        intro σ' H' HF' st
        obtain ⟨c1, c2, keep⟩ := body_end a st
        cases fl with
        | nx => exact hP .non H' HF' c1 c2 .non
        | br => exact hP.elim
        | ct => exact hP.elim
        | rt p =>
          intro v r
          have ownCase : ∀ (b : Addr) (j : Nat) (d : D), ρ[j]? = some (Sl.ow false d) → σ'[j]? = some (some (V.ref b)) → H b = none := fun b j d h5 h6 => by
            rcases st.own b ⟨j, false, d, h5, h6⟩ with q | q
            · obtain ⟨i', d', h7, h8⟩ := keep b q
              have e9 := st.rl.dis j i' false true d d' b ⟨h5, h6⟩ ⟨h7, h8⟩
              subst e9
              rw [h5] at h7
              cases h7
            · exact q
          cases p with
          | sh d => exact hP v H' HF' c1 c2 r
          | ow d =>
            obtain ⟨b, rfl, q1, q2, q3, q4⟩ := r
            refine hP (.ref b) H' HF' c1 c2 ⟨b, rfl, q1, ?_, q3⟩
            rcases q4 with z | z
            · exact z
            · obtain ⟨i', d', h7, h8⟩ := keep b z
              exact (q2 ⟨i', true, d', h7, h8⟩).elim
          | «at» j =>
            obtain ⟨r1, sl, r2, r3⟩ := r
            have hP' : PostC K XC i.d.md vs H HF (match ρ[j]? with | some (.sh d) => .ok false d (outsOf i.d.md ρ 0) | some (.ow false d) => .ok true d (outsOf i.d.md ρ 0) | _ => .bad) Q E := hP
            rw [r2] at hP'
            cases sl with
            | un => exact hP'.elim
            | sh d =>
              obtain ⟨u, h5, h6⟩ := st.rl.sh j d r2
              rw [r1] at h5
              cases h5
              exact hP' v H' HF' c1 c2 h6
            | ow pp d =>
              cases pp with
              | true => exact hP'.elim
              | false =>
                obtain ⟨b, h5, h6, h7⟩ := st.rl.ow j false d r2
                rw [r1] at h5
                cases h5
                exact hP' (.ref b) H' HF' c1 c2 ⟨b, rfl, h6, ownCase b j d r2 r1, h7⟩
    · exact hP.elim

/-- all the defs -/
theorem all_ok {tab : List Dfi} {blt : List Str} {con : List (Str × D)} {XC : Nat → Value} {n : Nat} (ok : tab.all (okDf (tab.map (·.x)) blt con) = true) (has : ∀ i ∈ tab, ∃ fa fd, Has K mg i fa fd) (kp : ∀ i ∈ tab, ∀ fa, mg i.x = some (.ref fa) → PySem.W.keepIn K (.ref fa) = true)
    (hb : ∀ x, blt.contains x = true → mg x = none) (hc : ∀ x d, con.lookup x = some d → ∃ u v, mg x = some u ∧ RelV v u ∧ ∀ H, Rep K H v d) :
    ∀ (k f : Nat) (i : Dfi), tab[f]? = some i → ∀ fa fd, Has K mg i fa fd → FnOk P w K mg base (L2.CX P w) k fa fd i.ps (spF K XC i.d.md (call (tab.map (·.d)) n k f)) := by
  intro k
  induction k with
  | zero =>
    intro f i hi fa fd h
    have no : ∀ vs H Q E, ¬ spF K XC i.d.md (call (tab.map (·.d)) n 0 f) vs H Q E := fun vs H Q E q => by
      obtain ⟨_, _, _, _, _, _, z⟩ := q
      exact z
    exact ⟨fun vs H Q E q => (no _ _ _ _ q).elim, fun A outer s H args us vs Q E _ _ _ _ q => (no _ _ _ _ q).elim⟩
  | succ k ih =>
    intro f i hi fa fd h
    have e : call (tab.map (·.d)) n (k + 1) f = runD ⟨call (tab.map (·.d)) n k, mdOf (tab.map (·.d)), n⟩ i.d := by
      funext ds
      have e1 : (tab.map (·.d))[f]? = some i.d := by rw [List.getElem?_map, hi]; rfl
      simp only [call, e1]
    rw [e]
    refine fn_ok (fns := tab.map (·.x)) (blt := blt) (con := con) (List.all_eq_true.mp ok i (List.mem_of_getElem? hi)) h.F fun A X e1 e2 e3 e4 e5 hr => ?_
    subst e1; subst e2; subst e3; subst e4; subst e5
    refine ⟨⟨k, hr, fun f' x hx => ?_⟩, hb, hc⟩
    rw [List.getElem?_map] at hx
    cases hj : tab[f']? with
    | none => rw [hj] at hx; cases hx
    | some j =>
      rw [hj] at hx
      cases hx
      have hm := List.mem_of_getElem? hj
      obtain ⟨ga, gd, hg⟩ := has j hm
      have e3 : mdOf (tab.map (·.d)) f' = j.d.md := by
        unfold mdOf
        rw [List.getElem?_map, hj]
        rfl
      refine ⟨ga, gd, j.ps, hg.m, kp j hm ga hg.m, hg.b, ?_⟩
      show FnOk _ _ _ _ _ _ _ _ _ _ (spF _ XC (mdOf (tab.map (·.d)) f') (call (tab.map (·.d)) n k f'))
      rw [e3]
      exact ih f' j hj ga gd hg
end
end Mi

/-! Mi: a law's end -/
namespace Mi
open PySem PySem.Spec L2

theorem reps_ints {K : PySem.W.Frag} {H : Hp} : ∀ ns : List Int, Reps K H (ns.map V.int) (ns.map D.int)
  | [] => .nil
  | n :: r => .cons (.int n) (reps_ints r)
def Keeps (n : Nat) (F : List D → CR) : Prop := ∀ ns : List Int, ns.length ≤ n → ∃ os, F [.lst (ns.map .int)] = .ok false (.bl true) os
def spLaw (XC : Nat → Value) (F : List D → CR) (K : PySem.W.Frag) : Sp := fun vs H Q _ => spF K XC [false] F vs H Q fun _ _ _ => False
theorem law_sp {K : PySem.W.Frag} {XC : Nat → Value} {n : Nat} {F : List D → CR} (h : Keeps n F) (H : Hp) (a : Addr) (ns : List Int) (hn : ns.length ≤ n) (_ : Only H) (hS : SqL K H a (ns.map V.int)) :
    spLaw XC F K [.ref a] H (fun v _ => v = .bl true) fun _ _ _ => False := by
  obtain ⟨os, e⟩ := h ns hn
  refine ⟨H, [.lst (ns.map .int)], fun _ _ q => q, ⟨.lst hS (reps_ints ns), trivial⟩, List.nodup_nil, rfl, ?_⟩
  rw [e]
  intro v H' HF' _ _ r
  have r' : Rep K HF' v (.bl true) := r
  cases r'
  rfl
theorem fn_cx0 {P : Program} {w : World} {K : PySem.W.Frag} {mg : Str → Option Value} {base : Heap} {k : Nat} {f : Addr} {fd : FuncData} {ps : List Str} {sp : Sp} (F : FnOk P w K mg base (L2.CX P w) k f fd ps sp) :
    FnOk P w K mg base CX0 k f fd ps (fun vs H Q _ => sp vs H Q fun _ _ _ => False) := by
  refine ⟨fun vs H Q E q => F.len vs H Q _ q, fun A outer s H args us vs Q E hr he hb hv hs => ?_⟩
  refine codeAny_mono (F.run A outer s H args us vs Q (fun _ _ _ => False) hr he hb hv hs) fun r s' h => ?_
  cases r with
  | ok fl => cases fl <;> exact h
  | error e =>
    obtain ⟨_, _, _, _, _, _, _, _, _, _, _, _, z⟩ := h
    exact z
theorem keep_of {K : PySem.W.Frag} {mg : Str → Option Value} {x : Str} {f fa : Addr} (h : mg x = some (.ref f)) (h2 : mg x = some (.ref fa)) (k : PySem.W.keepIn K (.ref f) = true) : PySem.W.keepIn K (.ref fa) = true := by
  rw [h] at h2
  cases h2
  exact k
end Mi

namespace Law
open PySem PySem.Spec L2 Mi
def fuel : Nat := 64
def XC : Nat → Value := fun _ => .none
def topS (i : Nat) : Stmt := PySem.Challenge.pw_solvedandshown_k60_whole_leading_parts.main.body.getD i (.Pass ⟨0, 0, 0, 0⟩)
def d0 : Df := ⟨[false, false], 2, (.cons (.ret (.and (.cmp .eq (.blt .len (.cons (.var 0) .nil)) (.blt .len (.cons (.var 1) .nil))) (.cmp .mem (.var 1) (.bin .add (.var 0) (.var 0))))) .nil)⟩
def d1 : Df := ⟨[false], 6, (.cons (.asg (.nm 1) (.lst .nil)) (.cons (.asg (.nm 2) (.con (.int 0))) (.cons (.whl (.cmp .lt (.var 2) (.blt .len (.cons (.var 0) .nil))) (.cons (.par 4 5 (.bin .add (.var 2) (.con (.int 1))) (.var 2)) (.cons (.whl (.and (.cmp .lt (.var 4) (.blt .len (.cons (.var 0) .nil))) (.cmp .le (.idx (.var 0) (.var 5)) (.idx (.var 0) (.var 4)))) (.cons (.asg (.nm 5) (.ite (.cmp .lt (.idx (.var 0) (.var 5)) (.idx (.var 0) (.var 4))) (.var 2) (.bin .add (.var 5) (.con (.int 1))))) (.cons (.asg (.nm 4) (.bin .add (.var 4) (.con (.int 1)))) .nil))) (.cons (.asg (.nm 3) (.bin .sub (.var 4) (.var 5))) (.cons (.whl (.cmp .le (.var 2) (.var 5)) (.cons (.app 1 (.slB (.var 0) (.var 2) (.bin .add (.var 2) (.var 3)))) (.cons (.asg (.nm 2) (.bin .add (.var 2) (.var 3))) .nil))) .nil))))) (.cons (.ret (.blt .tuple (.cons (.var 1) .nil))) .nil))))⟩
def d2 : Df := ⟨[false], 3, (.cons (.asg (.nm 1) (.comp [2] (.nm 2) (.of (.slH (.var 0) (.con (.int 63)))) .nil (.blt .abs (.cons (.blt .int (.cons (.var 2) .nil)) .nil)))) (.cons (.ret (.lst (.cons (.con (.int 0)) (.cons (.con (.int 0)) (.cons (.bin .add (.var 1) (.lst (.cons (.con (.int 0)) .nil))) .nil))))) .nil))⟩
def d3 : Df := ⟨[false, false], 3, (.cons (.asg (.nm 2) (.bin .mod (.bin .add (.bin .add (.bin .mul (.bin .mod (.var 0) (.bin .sub (.bin .pow (.con (.int 2)) (.con (.int 61))) (.con (.int 1)))) (.con (.int 6364136223846793005))) (.bin .mul (.var 1) (.con (.int 1442695040888963407)))) (.con (.int 97))) (.bin .pow (.con (.int 2)) (.con (.int 61))))) (.cons (.asg (.nm 2) (.bin .mod (.bin .mul (.bin .xor (.var 2) (.bin .shr (.var 2) (.con (.int 29)))) (.con (.int 3935559000370003845))) (.bin .pow (.con (.int 2)) (.con (.int 61))))) (.cons (.ret (.bin .mod (.bin .mul (.bin .xor (.var 2) (.bin .shr (.var 2) (.con (.int 31)))) (.con (.int 2862933555777941757))) (.bin .pow (.con (.int 2)) (.con (.int 61))))) .nil)))⟩
def d4 : Df := ⟨[true, false], 6, (.cons (.asg (.tu (.cons (.nm 2) (.cons (.nm 3) (.cons (.nm 4) .nil)))) (.var 0)) (.cons (.ifs (.cmp .lt (.var 3) (.var 1)) (.cons (.asg (.nm 5) (.idx (.var 4) (.bin .mod (.var 2) (.blt .len (.cons (.var 4) .nil))))) (.cons (.asg (.nm 3) (.ite (.and (.cmp .lt (.var 2) (.blt .len (.cons (.var 4) .nil))) (.cmp .ge (.var 5) (.bin .pow (.con (.int 10)) (.con (.int 18))))) (.var 5) (.call 3 (.cons (.var 5) (.cons (.var 2) .nil))))) (.cons (.asg (.nm 2) (.bin .add (.var 2) (.con (.int 1)))) .nil))) .nil) (.cons (.setix 0 (.con (.int 0)) (.var 2)) (.cons (.setix 0 (.con (.int 1)) (.bin .fdiv (.var 3) (.var 1))) (.cons (.ret (.bin .mod (.var 3) (.var 1))) .nil)))))⟩
def d5 : Df := ⟨[false], 2, (.cons (.ret (.and (.cmp .ne (.var 0) (.con (.str []))) (.cmp .eq (.comp [1] (.nm 1) (.rng2 (.con (.int 1)) (.blt .len (.cons (.var 0) .nil))) (.cons (.not (.cmp .lt (.var 0) (.bin .add (.slL (.var 0) (.var 1)) (.slH (.var 0) (.var 1))))) .nil) (.var 1)) (.lst .nil)))) .nil)⟩
def d6 : Df := ⟨[false], 4, (.cons (.ifs (.cmp .eq (.var 0) (.con (.str []))) (.cons (.ret (.lst (.cons (.tup .nil) .nil))) .nil) .nil) (.cons (.asg (.nm 1) (.lst .nil)) (.cons (.fors (.nm 2) (.rng2 (.con (.int 1)) (.bin .add (.blt .len (.cons (.var 0) .nil)) (.con (.int 1)))) (.cons (.ifs (.call 5 (.cons (.slH (.var 0) (.var 2)) .nil)) (.cons (.asg (.nm 1) (.bin .add (.var 1) (.comp [3] (.nm 3) (.of (.call 6 (.cons (.slL (.var 0) (.var 2)) .nil))) (.cons (.or (.cmp .eq (.var 3) (.tup .nil)) (.not (.cmp .lt (.slH (.var 0) (.var 2)) (.idx (.var 3) (.con (.int 0)))))) .nil) (.bin .add (.tup (.cons (.slH (.var 0) (.var 2)) .nil)) (.var 3))))) .nil) .nil) .nil)) (.cons (.ret (.var 1)) .nil))))⟩
def d7 : Df := ⟨[false], 7, (.cons (.asg (.nm 1) (.call 2 (.cons (.var 0) .nil))) (.cons (.asg (.nm 2) (.mth .join (.con (.str [])) (.comp [5] (.nm 5) (.rng1 (.call 4 (.cons (.var 1) (.cons (.con (.int 9)) .nil)))) .nil (.idx (.con (.str [97, 98, 99])) (.call 4 (.cons (.var 1) (.cons (.idx (.lst (.cons (.con (.int 2)) (.cons (.con (.int 3)) .nil))) (.call 4 (.cons (.var 1) (.cons (.con (.int 2)) .nil)))) .nil))))))) (.cons (.fors (.nm 3) (.of (.lst (.cons (.var 2) (.cons (.bin .add (.var 2) (.con (.str [97]))) (.cons (.bin .add (.var 2) (.slH (.var 2) (.con (.int 3)))) (.cons (.rev (.var 2)) (.cons (.bin .mul (.or (.slH (.var 2) (.con (.int 4))) (.con (.str [98]))) (.con (.int 2))) (.cons (.con (.str [])) .nil)))))))) (.cons (.asg (.nm 4) (.call 1 (.cons (.var 3) .nil))) (.cons (.ifs (.or (.not (.isi (.var 4) "tuple")) (.or (.cmp .ne (.mth .join (.con (.str [])) (.var 4)) (.var 3)) (.cmp .ne (.comp [6] (.nm 6) (.of (.var 4)) (.cons (.not (.call 5 (.cons (.var 6) .nil))) .nil) (.var 6)) (.lst .nil)))) (.cons (.ret (.con (.bl false))) .nil) .nil) (.cons (.ifs (.or (.cmp .ne (.comp [5] (.nm 5) (.rng2 (.con (.int 1)) (.blt .len (.cons (.var 4) .nil))) (.cons (.cmp .lt (.idx (.var 4) (.bin .sub (.var 5) (.con (.int 1)))) (.idx (.var 4) (.var 5))) .nil) (.var 5)) (.lst .nil)) (.cmp .ne (.call 6 (.cons (.var 3) .nil)) (.lst (.cons (.var 4) .nil)))) (.cons (.ret (.con (.bl false))) .nil) .nil) (.cons (.ifs (.and (.cmp .ne (.var 3) (.con (.str []))) (.cmp .ne (.idx (.var 4) (.neg (.con (.int 1)))) (.blt .min1 (.cons (.comp [5] (.nm 5) (.rng1 (.blt .len (.cons (.var 3) .nil))) .nil (.slL (.var 3) (.var 5))) .nil)))) (.cons (.ret (.con (.bl false))) .nil) .nil) (.cons (.ifs (.cmp .ne (.comp [6] (.nm 6) (.of (.var 4)) (.cons (.cmp .ne (.comp [5] (.nm 5) (.rng2 (.con (.int 1)) (.blt .len (.cons (.var 6) .nil))) (.cons (.cmp .nis (.call 0 (.cons (.var 6) (.cons (.bin .add (.slL (.var 6) (.var 5)) (.slH (.var 6) (.var 5))) .nil))) (.con (.bl true))) .nil) (.var 5)) (.lst .nil)) .nil) (.var 6)) (.lst .nil)) (.cons (.ret (.con (.bl false))) .nil) .nil) .nil)))))) (.cons (.ret (.con (.bl true))) .nil))))⟩
def tab : List Dfi := [⟨"are_turned", topS 1, ["word", "other"], ["word", "other"], d0⟩,
  ⟨"leading_parts", topS 2, ["word", "told", "at", "size", "place", "back"], ["word"], d1⟩,
  ⟨"_law_open", topS 4, ["script", "cells", "cell"], ["script"], d2⟩,
  ⟨"_law_mixed", topS 5, ["cell", "turn", "number"], ["cell", "turn"], d3⟩,
  ⟨"_law_draw", topS 6, ["draws", "size", "turn", "left", "cells", "cell"], ["draws", "size"], d4⟩,
  ⟨"_law_leading", topS 7, ["word", "k"], ["word"], d5⟩,
  ⟨"_law_ways", topS 8, ["word", "told", "size", "rest"], ["word"], d6⟩,
  ⟨"law", topS 9, ["script", "draws", "word", "text", "told", "k", "part"], ["script"], d7⟩]
def Γ : List Df := [d0, d1, d2, d3, d4, d5, d6, d7]
def blt : List Str := ["abs", "int", "isinstance", "len", "min", "range", "tuple"]
def cns : List (Str × D) := []
theorem tab_ok : tab.all (okDf (tab.map (·.x)) blt cns) = true := by decide +kernel
theorem tab_d : tab.map (·.d) = Γ := rfl
theorem all_mk {l : PySem.W.OpenLaw} {w : World} {K : PySem.W.Frag} {h : Heap} {mg : Str → Option Value} {fa f0 f1 f2 f3 f4 f5 f6 f7 : Addr} (X : K.In h) (G : h.Ns mainGlobals mg) (hfa : mg "law" = some (.ref fa))
    {od0 an0 od1 an1 od2 an2 od3 an3 od4 an4 od5 an5 od6 an6 od7 an7 : Option Addr} {sl0 sl1 sl2 sl3 sl4 sl5 sl6 sl7 : Array (Option Value)} {oc0 kV0 dc0 pm0 cd0 ct0 oc1 kV1 dc1 pm1 cd1 ct1 oc2 kV2 dc2 pm2 cd2 ct2 oc3 kV3 dc3 pm3 cd3 ct3 oc4 kV4 dc4 pm4 cd4 ct4 oc5 kV5 dc5 pm5 cd5 ct5 oc6 kV6 dc6 pm6 cd6 ct6 oc7 kV7 dc7 pm7 cd7 ct7 : Value}
    (a0 : PySem.W.nsIn K mainGlobals "are_turned" = some (some (.ref f0))) (l0 : K.lookup f0 = some ⟨oc0, od0, .func (PySem.W.fnOf "are_turned" "are_turned" (defArgs (topS 1)) (defBody (topS 1)) (defScope (topS 1)) .none kV0 dc0 pm0 an0 cd0 ct0), sl0⟩) (c0 : PySem.W.codeIn K cd0 "are_turned" = true) (k0 : PySem.W.keepIn K (.ref f0) = true)
    (a1 : PySem.W.nsIn K mainGlobals "leading_parts" = some (some (.ref f1))) (l1 : K.lookup f1 = some ⟨oc1, od1, .func (PySem.W.fnOf "leading_parts" "leading_parts" (defArgs (topS 2)) (defBody (topS 2)) (defScope (topS 2)) .none kV1 dc1 pm1 an1 cd1 ct1), sl1⟩) (c1 : PySem.W.codeIn K cd1 "leading_parts" = true) (k1 : PySem.W.keepIn K (.ref f1) = true)
    (a2 : PySem.W.nsIn K mainGlobals "_law_open" = some (some (.ref f2))) (l2 : K.lookup f2 = some ⟨oc2, od2, .func (PySem.W.fnOf "_law_open" "_law_open" (defArgs (topS 4)) (defBody (topS 4)) (defScope (topS 4)) .none kV2 dc2 pm2 an2 cd2 ct2), sl2⟩) (c2 : PySem.W.codeIn K cd2 "_law_open" = true) (k2 : PySem.W.keepIn K (.ref f2) = true)
    (a3 : PySem.W.nsIn K mainGlobals "_law_mixed" = some (some (.ref f3))) (l3 : K.lookup f3 = some ⟨oc3, od3, .func (PySem.W.fnOf "_law_mixed" "_law_mixed" (defArgs (topS 5)) (defBody (topS 5)) (defScope (topS 5)) .none kV3 dc3 pm3 an3 cd3 ct3), sl3⟩) (c3 : PySem.W.codeIn K cd3 "_law_mixed" = true) (k3 : PySem.W.keepIn K (.ref f3) = true)
    (a4 : PySem.W.nsIn K mainGlobals "_law_draw" = some (some (.ref f4))) (l4 : K.lookup f4 = some ⟨oc4, od4, .func (PySem.W.fnOf "_law_draw" "_law_draw" (defArgs (topS 6)) (defBody (topS 6)) (defScope (topS 6)) .none kV4 dc4 pm4 an4 cd4 ct4), sl4⟩) (c4 : PySem.W.codeIn K cd4 "_law_draw" = true) (k4 : PySem.W.keepIn K (.ref f4) = true)
    (a5 : PySem.W.nsIn K mainGlobals "_law_leading" = some (some (.ref f5))) (l5 : K.lookup f5 = some ⟨oc5, od5, .func (PySem.W.fnOf "_law_leading" "_law_leading" (defArgs (topS 7)) (defBody (topS 7)) (defScope (topS 7)) .none kV5 dc5 pm5 an5 cd5 ct5), sl5⟩) (c5 : PySem.W.codeIn K cd5 "_law_leading" = true) (k5 : PySem.W.keepIn K (.ref f5) = true)
    (a6 : PySem.W.nsIn K mainGlobals "_law_ways" = some (some (.ref f6))) (l6 : K.lookup f6 = some ⟨oc6, od6, .func (PySem.W.fnOf "_law_ways" "_law_ways" (defArgs (topS 8)) (defBody (topS 8)) (defScope (topS 8)) .none kV6 dc6 pm6 an6 cd6 ct6), sl6⟩) (c6 : PySem.W.codeIn K cd6 "_law_ways" = true) (k6 : PySem.W.keepIn K (.ref f6) = true)
    (a7 : PySem.W.nsIn K mainGlobals "law" = some (some (.ref f7))) (l7 : K.lookup f7 = some ⟨oc7, od7, .func (PySem.W.fnOf "law" "law" (defArgs (topS 9)) (defBody (topS 9)) (defScope (topS 9)) .none kV7 dc7 pm7 an7 cd7 ct7), sl7⟩) (c7 : PySem.W.codeIn K cd7 "law" = true) (k7 : PySem.W.keepIn K (.ref f7) = true)
    (z0 : PySem.W.nsIn K mainGlobals "abs" = some none)
    (z1 : PySem.W.nsIn K mainGlobals "int" = some none)
    (z2 : PySem.W.nsIn K mainGlobals "isinstance" = some none)
    (z3 : PySem.W.nsIn K mainGlobals "len" = some none)
    (z4 : PySem.W.nsIn K mainGlobals "min" = some none)
    (z5 : PySem.W.nsIn K mainGlobals "range" = some none)
    (z6 : PySem.W.nsIn K mainGlobals "tuple" = some none)
    : ∃ fd : FuncData, (∀ (s : Shared) (v : Value), BindsTo s fd ⟨[v], []⟩ [("script", v)]) ∧ ∀ base : Heap, K.In base → base.Ns mainGlobals mg → FnOk l.prog w K mg base CX0 80 fa fd ["script"] (spLaw XC (call Γ fuel 80 7) K) := by
  have e := hfa.symm.trans (PySem.W.mg_of X G a7)
  cases e
  have F0 : Has K mg ⟨"are_turned", topS 1, ["word", "other"], ["word", "other"], d0⟩ _ _ := ⟨fun_mk (st := topS 1) l0 c0 k0, PySem.W.mg_of X G a0, (fun_mk (st := topS 1) l0 c0 k0).binds fun _ _ _ _ _ _ us hl => match us, hl with | [_, _], _ => rfl⟩
  have F1 : Has K mg ⟨"leading_parts", topS 2, ["word", "told", "at", "size", "place", "back"], ["word"], d1⟩ _ _ := ⟨fun_mk (st := topS 2) l1 c1 k1, PySem.W.mg_of X G a1, (fun_mk (st := topS 2) l1 c1 k1).binds fun _ _ _ _ _ _ us hl => match us, hl with | [_], _ => rfl⟩
  have F2 : Has K mg ⟨"_law_open", topS 4, ["script", "cells", "cell"], ["script"], d2⟩ _ _ := ⟨fun_mk (st := topS 4) l2 c2 k2, PySem.W.mg_of X G a2, (fun_mk (st := topS 4) l2 c2 k2).binds fun _ _ _ _ _ _ us hl => match us, hl with | [_], _ => rfl⟩
  have F3 : Has K mg ⟨"_law_mixed", topS 5, ["cell", "turn", "number"], ["cell", "turn"], d3⟩ _ _ := ⟨fun_mk (st := topS 5) l3 c3 k3, PySem.W.mg_of X G a3, (fun_mk (st := topS 5) l3 c3 k3).binds fun _ _ _ _ _ _ us hl => match us, hl with | [_, _], _ => rfl⟩
  have F4 : Has K mg ⟨"_law_draw", topS 6, ["draws", "size", "turn", "left", "cells", "cell"], ["draws", "size"], d4⟩ _ _ := ⟨fun_mk (st := topS 6) l4 c4 k4, PySem.W.mg_of X G a4, (fun_mk (st := topS 6) l4 c4 k4).binds fun _ _ _ _ _ _ us hl => match us, hl with | [_, _], _ => rfl⟩
  have F5 : Has K mg ⟨"_law_leading", topS 7, ["word", "k"], ["word"], d5⟩ _ _ := ⟨fun_mk (st := topS 7) l5 c5 k5, PySem.W.mg_of X G a5, (fun_mk (st := topS 7) l5 c5 k5).binds fun _ _ _ _ _ _ us hl => match us, hl with | [_], _ => rfl⟩
  have F6 : Has K mg ⟨"_law_ways", topS 8, ["word", "told", "size", "rest"], ["word"], d6⟩ _ _ := ⟨fun_mk (st := topS 8) l6 c6 k6, PySem.W.mg_of X G a6, (fun_mk (st := topS 8) l6 c6 k6).binds fun _ _ _ _ _ _ us hl => match us, hl with | [_], _ => rfl⟩
  have F7 : Has K mg ⟨"law", topS 9, ["script", "draws", "word", "text", "told", "k", "part"], ["script"], d7⟩ _ _ := ⟨fun_mk (st := topS 9) l7 c7 k7, PySem.W.mg_of X G a7, (fun_mk (st := topS 9) l7 c7 k7).binds fun _ _ _ _ _ _ us hl => match us, hl with | [_], _ => rfl⟩
  refine ⟨PySem.W.fnOf "law" "law" (defArgs (topS 9)) (defBody (topS 9)) (defScope (topS 9)) .none kV7 dc7 pm7 an7 cd7 ct7, fun s v => .of_eq rfl, fun base _ _ => ?_⟩
  refine fn_cx0 (all_ok (tab := tab) (blt := blt) (con := cns) tab_ok (fun i hi => ?_) (fun i hi fa hm => ?_) (fun x hx => ?_) (fun x d hx => ?_) 80 7 _ rfl _ _ F7)
  · simp only [tab, List.mem_cons, List.not_mem_nil, or_false] at hi
    rcases hi with rfl | rfl | rfl | rfl | rfl | rfl | rfl | rfl
    · exact ⟨_, _, F0⟩
    · exact ⟨_, _, F1⟩
    · exact ⟨_, _, F2⟩
    · exact ⟨_, _, F3⟩
    · exact ⟨_, _, F4⟩
    · exact ⟨_, _, F5⟩
    · exact ⟨_, _, F6⟩
    · exact ⟨_, _, F7⟩
  · simp only [tab, List.mem_cons, List.not_mem_nil, or_false] at hi
    rcases hi with rfl | rfl | rfl | rfl | rfl | rfl | rfl | rfl
    · exact keep_of F0.m hm k0
    · exact keep_of F1.m hm k1
    · exact keep_of F2.m hm k2
    · exact keep_of F3.m hm k3
    · exact keep_of F4.m hm k4
    · exact keep_of F5.m hm k5
    · exact keep_of F6.m hm k6
    · exact keep_of F7.m hm k7
  · simp only [blt, List.contains_cons, List.contains_nil, Bool.or_false, Bool.or_eq_true, beq_iff_eq] at hx
    rcases hx with rfl | rfl | rfl | rfl | rfl | rfl | rfl
    · exact PySem.W.mg_none_of X G z0
    · exact PySem.W.mg_none_of X G z1
    · exact PySem.W.mg_none_of X G z2
    · exact PySem.W.mg_none_of X G z3
    · exact PySem.W.mg_none_of X G z4
    · exact PySem.W.mg_none_of X G z5
    · exact PySem.W.mg_none_of X G z6
  · cases hx
end Law

/-! Mi: helps for the plain side; the laws' own draws -/
namespace Mi
open PySem PySem.Spec L2

/-- a comprehension whose turns change nothing -/
theorem compL_pure {own : List Nat} {asg : D → Rho → Option Rho} {c : Rho → R Bool} {e : Rho → R Pl} {ρ0 : Rho} (g : D → Option D) : ∀ (xs acc : List D), (∀ x ∈ xs, ∃ ρ1, asg x ρ0 = some ρ1 ∧ okW own ρ1 = true ∧ wipeR ρ1 own = ρ0 ∧
    ((c ρ1 = .ok false ρ1 ∧ g x = none) ∨ (c ρ1 = .ok true ρ1 ∧ ∃ p d, e ρ1 = .ok p ρ1 ∧ p.frz ρ1 = some (d, ρ1) ∧ g x = some d))) → compL own asg c e xs acc ρ0 = .ok (acc ++ xs.filterMap g) ρ0
  | [], acc, _ => by simp [compL]
  | x :: xs, acc, h => by
    obtain ⟨ρ1, h1, h2, h3, h4⟩ := h x List.mem_cons_self
    have ih := fun acc => compL_pure g xs acc fun y hy => h y (List.mem_cons_of_mem _ hy)
    unfold compL
    rw [h1]
    dsimp only
    rcases h4 with ⟨q1, q2⟩ | ⟨q1, p, d, q2, q3, q4⟩
    · rw [q1]
      simp only [R.bind, h2, if_true, h3]
      rw [ih, List.filterMap_cons, q2]
    · rw [q1]
      simp only [R.bind]
      rw [q2]
      simp only [R.bind]
      rw [q3]
      simp only [h2, if_true, h3]
      rw [ih, List.filterMap_cons, q4, List.append_assoc]
      rfl
theorem evE_comp {g : G} {own : List Nat} {t : T} {it : I} {c : Es} {e : E} {ρ ρ1 ρ2 : Rho} {xs ds : List D} (h1 : evI g it ρ = .ok xs ρ1) (h2 : okW own ρ1 = true) (h3 : t.within own = true) (h4 : xs.length ≤ big)
    (h5 : compL own (asgT t) (fun r => evC g c r) (fun r => evE g e r) xs [] (wipeR ρ1 own) = .ok ds ρ2) : evE g (.comp own t it c e) ρ = .ok (.ow (.lst ds)) (back ρ1 own ρ2) := by
  simp only [evE, h1, R.bind, h2, h3, h4, decide_true, Bool.and_self, if_true, h5]
theorem big_ge {n : Nat} (h : n ≤ 100000) : n ≤ big := Nat.le_trans h (by decide)

section
variable {g : G} {ρ ρ1 ρ2 ρ3 : Rho} {s : S} {ss : Ss} {e a b : E} {p q : Pl} {i : Nat}
theorem ss_nx (h : evS g s ρ = .ok .nx ρ1) : evSs g (.cons s ss) ρ = evSs g ss ρ1 := by simp only [evSs, h, R.bind]
theorem ss_rt (h : evS g s ρ = .ok (.rt p) ρ1) : evSs g (.cons s ss) ρ = .ok (.rt p) ρ1 := by simp only [evSs, h, R.bind]
theorem s_asg (h : evE g e ρ = .ok p ρ1) (h2 : setSl i p ρ1 = some ρ2) : evS g (.asg (.nm i) e) ρ = .ok .nx ρ2 := by simp only [evS, h, R.bind, h2, evS.outR']
theorem s_ret (h : evE g e ρ = .ok p ρ1) : evS g (.ret e) ρ = .ok (.rt p) ρ1 := by simp only [evS, h, R.bind]
theorem s_ifT {x y : Ss} (h : evT g e ρ = .ok true ρ1) : evS g (.ifs e x y) ρ = evSs g x ρ1 := by simp only [evS, h, R.bind]
theorem s_ifF {x y : Ss} (h : evT g e ρ = .ok false ρ1) : evS g (.ifs e x y) ρ = evSs g y ρ1 := by simp only [evS, h, R.bind]
theorem run_rt {f : Df} {ds : List D} (hl : ds.length = f.md.length ∧ f.md.length ≤ f.N) (h : evSs g f.body (start f ds) = .ok (.rt p) ρ) : runD g f ds = retR f.md ρ p := by simp only [runD, hl, and_self, if_true, h]
theorem e_cmp {o : COp} {x y : D} {k : Bool} (h1 : evE g a ρ = .ok p ρ1) (h2 : evE g b ρ1 = .ok q ρ2) (h3 : p.get ρ2 = some x) (h4 : q.get ρ2 = some y) (h5 : cmpD o x y = some k) : evE g (.cmp o a b) ρ = .ok (.sh (.bl k)) ρ2 := by
  simp only [evE, h1, R.bind, h2, get2, h3, h4, Option.bind_some, h5, bo, Option.map_some, res]
theorem e_cmp0 {o : COp} {x y : D} {k : Bool} (h1 : evE g a ρ = .ok p ρ) (h2 : evE g b ρ = .ok q ρ) (h3 : p.get ρ = some x) (h4 : q.get ρ = some y) (h5 : cmpD o x y = some k) : evE g (.cmp o a b) ρ = .ok (.sh (.bl k)) ρ := e_cmp h1 h2 h3 h4 h5
theorem i_rng2 {i j : Int} {L : List D} (h1 : evE g a ρ = .ok p ρ1) (h2 : evE g b ρ1 = .ok q ρ2) (h3 : p.get ρ2 = some (.int i)) (h4 : q.get ρ2 = some (.int j)) (h5 : rng2D (some (.int i)) (some (.int j)) = some L) : evI g (.rng2 a b) ρ = .ok L ρ2 := by
  have e0 : evI g (.rng2 a b) ρ = (evE g a ρ).bind fun p ρ1 => (evE g b ρ1).bind fun q ρ2 => outR ρ2 (rng2D (p.get ρ2) (q.get ρ2)) := by simp only [evI]
  rw [e0, h1]
  simp only [R.bind]
  rw [h2]
  simp only [R.bind]
  rw [h3, h4, h5]
  rfl
theorem i_rng1 {j : Int} {L : List D} (h1 : evE g a ρ = .ok p ρ1) (h3 : p.get ρ1 = some (.int j)) (h5 : rng1D (some (.int j)) = some L) : evI g (.rng1 a) ρ = .ok L ρ1 := by
  have e0 : evI g (.rng1 a) ρ = (evE g a ρ).bind fun p ρ1 => outR ρ1 (rng1D (p.get ρ1)) := by simp only [evI]
  rw [e0, h1]
  simp only [R.bind]
  rw [h3, h5]
  rfl
theorem e_len {i : Nat} {s : List Nat} (h : ρ[i]? = some (.sh (.str s))) : evE g (.blt .len (.cons (.var i) .nil)) ρ = .ok (.sh (.int (s.length : Int))) ρ := by
  simp only [evE, evEs, R.bind, h, getL, Pl.get, Option.bind_some, Option.map_some, bltD, res]
theorem e_andF {x : D} (h1 : evE g a ρ = .ok p ρ1) (h2 : p.get ρ1 = some x) (h3 : truD x = some false) : evE g (.and a b) ρ = .ok p ρ1 := by
  rw [evE_and, h1]
  simp only [R.bind, tru, h2, Option.bind_some, h3]
theorem e_andT {x : D} (h1 : evE g a ρ = .ok p ρ1) (h2 : p.get ρ1 = some x) (h3 : truD x = some true) : evE g (.and a b) ρ = evE g b ρ1 := by
  rw [evE_and, h1]
  simp only [R.bind, tru, h2, Option.bind_some, h3]
theorem e_orT {x : D} (h1 : evE g a ρ = .ok p ρ1) (h2 : p.get ρ1 = some x) (h3 : truD x = some true) : evE g (.or a b) ρ = .ok p ρ1 := by
  rw [evE_or, h1]
  simp only [R.bind, tru, h2, Option.bind_some, h3]
theorem e_orF {x : D} (h1 : evE g a ρ = .ok p ρ1) (h2 : p.get ρ1 = some x) (h3 : truD x = some false) : evE g (.or a b) ρ = evE g b ρ1 := by
  rw [evE_or, h1]
  simp only [R.bind, tru, h2, Option.bind_some, h3]
theorem t_andT (h : evT g a ρ = .ok true ρ1) : evT g (.and a b) ρ = evT g b ρ1 := by rw [evT_and, h]; rfl
theorem t_andF (h : evT g a ρ = .ok false ρ1) : evT g (.and a b) ρ = .ok false ρ1 := by rw [evT_and, h]; rfl
theorem t_orT (h : evT g a ρ = .ok true ρ1) : evT g (.or a b) ρ = .ok true ρ1 := by rw [evT_or, h]; rfl
theorem t_orF (h : evT g a ρ = .ok false ρ1) : evT g (.or a b) ρ = evT g b ρ1 := by rw [evT_or, h]; rfl
theorem t_not {k : Bool} (h : evT g a ρ = .ok k ρ1) : evT g (.not a) ρ = .ok (!k) ρ1 := by rw [evT_not, h]; rfl
theorem e_not {x : D} {k : Bool} (h1 : evE g a ρ = .ok p ρ1) (h2 : p.get ρ1 = some x) (h3 : truD x = some k) : evE g (.not a) ρ = .ok (.sh (.bl (!k))) ρ1 := by
  simp only [evE, h1, R.bind, tru, h2, Option.bind_some, h3]
theorem e_iteT {t : E} (h : evT g t ρ = .ok true ρ1) : evE g (.ite t a b) ρ = evE g a ρ1 := by rw [evE_ite, h]; rfl
theorem e_iteF {t : E} (h : evT g t ρ = .ok false ρ1) : evE g (.ite t a b) ρ = evE g b ρ1 := by rw [evE_ite, h]; rfl
theorem e_bin {o : BOp} {x y d : D} (h1 : evE g a ρ = .ok p ρ1) (h2 : evE g b ρ1 = .ok q ρ2) (h3 : p.get ρ2 = some x) (h4 : q.get ρ2 = some y) (h5 : binD o x y = some (false, d)) : evE g (.bin o a b) ρ = .ok (.sh d) ρ2 := by
  simp only [evE, h1, R.bind, h2, get2, h3, h4, Option.bind_some, h5, res]
theorem e_binO {o : BOp} {x y d : D} (h1 : evE g a ρ = .ok p ρ1) (h2 : evE g b ρ1 = .ok q ρ2) (h3 : p.get ρ2 = some x) (h4 : q.get ρ2 = some y) (h5 : binD o x y = some (true, d)) : evE g (.bin o a b) ρ = .ok (.ow d) ρ2 := by
  simp only [evE, h1, R.bind, h2, get2, h3, h4, Option.bind_some, h5, res]
theorem e_idx {x y d : D} (h1 : evE g a ρ = .ok p ρ1) (h2 : evE g b ρ1 = .ok q ρ2) (h3 : p.get ρ2 = some x) (h4 : q.get ρ2 = some y) (h5 : idxD x y = some d) : evE g (.idx a b) ρ = .ok (.sh d) ρ2 := by
  simp only [evE, h1, R.bind, h2, get2, h3, h4, Option.bind_some, h5, shD, Option.map_some, res]
theorem e_var {i : Nat} {d : D} (h : ρ[i]? = some (.sh d)) : evE g (.var i) ρ = .ok (.sh d) ρ := by simp only [evE, h]
theorem e_at {i : Nat} {o : Bool} {d : D} (h : ρ[i]? = some (.ow o d)) : evE g (.var i) ρ = .ok (.at i) ρ := by simp only [evE, h]
theorem e_con {d : D} : evE g (.con d) ρ = .ok (.sh d) ρ := by simp only [evE]
theorem t_of {x : D} {k : Bool} (h1 : evE g e ρ = .ok p ρ1) (h2 : p.get ρ1 = some x) (h3 : truD x = some k) : evT g e ρ = .ok k ρ1 := by
  simp only [evT, h1, R.bind, tru, h2, Option.bind_some, h3]
end

/-! ### the laws' draws -/
def dOpen : Df := ⟨[false], 3, (.cons (.asg (.nm 1) (.comp [2] (.nm 2) (.of (.slH (.var 0) (.con (.int 63)))) .nil (.blt .abs (.cons (.blt .int (.cons (.var 2) .nil)) .nil)))) (.cons (.ret (.lst (.cons (.con (.int 0)) (.cons (.con (.int 0)) (.cons (.bin .add (.var 1) (.lst (.cons (.con (.int 0)) .nil))) .nil))))) .nil))⟩
theorem cut63 {α : Type} (xs : List α) (h : xs.length ≤ 63) : cut xs none (some 63) = xs := by
  unfold cut
  have e1 : HT.sIx xs.length 0 none = 0 := HT.sIx_none ..
  have e2 : HT.sIx xs.length xs.length (some 63) = min 63 xs.length := HT.sIx_nat xs.length xs.length 63
  rw [e1, e2, List.drop_zero, Nat.sub_zero, Nat.min_eq_right h, List.take_length]
theorem open_ok (g : G) (ns : List Int) (h : ns.length ≤ 63) : runD g dOpen [.lst (ns.map .int)] = .ok true (.lst [.int 0, .int 0, .lst (ns.map (fun n => D.int (if n < 0 then -n else n)) ++ [.int 0])]) [.non] := by
  have hc : evE g (.comp [2] (.nm 2) (.of (.slH (.var 0) (.con (.int 63)))) .nil (.blt .abs (.cons (.blt .int (.cons (.var 2) .nil)) .nil))) [.sh (.lst (ns.map .int)), .un, .un] =
      .ok (.ow (.lst (ns.map (fun n => D.int (if n < 0 then -n else n))))) [.sh (.lst (ns.map .int)), .un, .un] := by
    refine evE_comp (ρ1 := [.sh (.lst (ns.map .int)), .un, .un]) (ρ2 := [.sh (.lst (ns.map .int)), .un, .un]) (xs := ns.map .int) ?_ rfl rfl ?_ ?_
    · simp [evE, evEs, evI, evC, evT, evS, evSs, evS.outR', R.bind, get1, get2, res, Pl.get, Pl.frz, binD, cmpD, truD, idxD, slcD, revD, bltD, mthD, isiD, tyD, bo, shD, tru, getL, frzL, asgT, asgTs, setSl, putSl, itemsD, frzI, outR, asInt, isOw, D.isNon, cut63 (ns.map D.int) (by simpa using h)]
    · simp; exact big_ge (by omega)
    · have q := compL_pure (own := [2]) (asg := asgT (.nm 2)) (c := fun r => evC g .nil r) (e := fun r => evE g (.blt .abs (.cons (.blt .int (.cons (.var 2) .nil)) .nil)) r) (ρ0 := [.sh (.lst (ns.map .int)), .un, .un]) (fun | .int n => some (.int (if n < 0 then -n else n)) | _ => none) (ns.map .int) [] (fun x hx => ?_)
      · refine Eq.trans q ?_
        rw [List.nil_append, List.filterMap_map]
        exact congrArg (fun z => R.ok z _) (congrFun (List.filterMap_eq_map (f := fun n : Int => D.int (if n < 0 then -n else n))) ns)
      · obtain ⟨n, _, rfl⟩ := List.mem_map.mp hx
        refine ⟨[.sh (.lst (ns.map .int)), .un, .sh (.int n)], by simp [evE, evEs, evI, evC, evT, evS, evSs, evS.outR', R.bind, get1, get2, res, Pl.get, Pl.frz, binD, cmpD, truD, idxD, slcD, revD, bltD, mthD, isiD, tyD, bo, shD, tru, getL, frzL, asgT, asgTs, setSl, putSl, itemsD, frzI, outR, asInt, isOw, D.isNon], by simp [okW], by simp [wipeR], .inr ⟨by simp [evE, evEs, evI, evC, evT, evS, evSs, evS.outR', R.bind, get1, get2, res, Pl.get, Pl.frz, binD, cmpD, truD, idxD, slcD, revD, bltD, mthD, isiD, tyD, bo, shD, tru, getL, frzL, asgT, asgTs, setSl, putSl, itemsD, frzI, outR, asInt, isOw, D.isNon], .sh (.int (if n < 0 then -n else n)), _, by simp [evE, evEs, evI, evC, evT, evS, evSs, evS.outR', R.bind, get1, get2, res, Pl.get, Pl.frz, binD, cmpD, truD, idxD, slcD, revD, bltD, mthD, isiD, tyD, bo, shD, tru, getL, frzL, asgT, asgTs, setSl, putSl, itemsD, frzI, outR, asInt, isOw, D.isNon], rfl, rfl⟩⟩
  refine (run_rt (p := .ow (.lst [.int 0, .int 0, .lst (ns.map (fun n => D.int (if n < 0 then -n else n)) ++ [.int 0])])) (ρ := [.sh (.lst (ns.map .int)), .ow false (.lst (ns.map (fun n => D.int (if n < 0 then -n else n)))), .un]) ⟨rfl, by decide⟩ ?_).trans rfl
  refine (ss_nx (s_asg hc rfl)).trans (ss_rt (s_ret ?_))
  have hb : ns.length + 1 ≤ big := big_ge (by omega)
  simp [evE, evEs, evI, evC, evT, evS, evSs, evS.outR', R.bind, get1, get2, res, Pl.get, Pl.frz, binD, cmpD, truD, idxD, slcD, revD, bltD, mthD, isiD, tyD, bo, shD, tru, getL, frzL, asgT, asgTs, setSl, putSl, itemsD, frzI, outR, asInt, isOw, D.isNon, hb]
end Mi

namespace Mi
open PySem PySem.Spec L2
def dMixed : Df := ⟨[false, false], 3, (.cons (.asg (.nm 2) (.bin .mod (.bin .add (.bin .add (.bin .mul (.bin .mod (.var 0) (.bin .sub (.bin .pow (.con (.int 2)) (.con (.int 61))) (.con (.int 1)))) (.con (.int 6364136223846793005))) (.bin .mul (.var 1) (.con (.int 1442695040888963407)))) (.con (.int 97))) (.bin .pow (.con (.int 2)) (.con (.int 61))))) (.cons (.asg (.nm 2) (.bin .mod (.bin .mul (.bin .xor (.var 2) (.bin .shr (.var 2) (.con (.int 29)))) (.con (.int 3935559000370003845))) (.bin .pow (.con (.int 2)) (.con (.int 61))))) (.cons (.ret (.bin .mod (.bin .mul (.bin .xor (.var 2) (.bin .shr (.var 2) (.con (.int 31)))) (.con (.int 2862933555777941757))) (.bin .pow (.con (.int 2)) (.con (.int 61))))) .nil)))⟩
theorem mul_r {i j : Int} (h1 : -18446744073709551616 < j) (h2 : j < 18446744073709551616) : mulOk i j = true := by
  unfold mulOk
  simp only [h1, h2, decide_true, Bool.and_self, Bool.or_true]
def IsI (g : G) (e : E) (ρ : Rho) : Prop := ∃ i : Int, evE g e ρ = .ok (.sh (.int i)) ρ
section
variable {g : G} {ρ : Rho} {a b : E}
theorem ii_add (h1 : IsI g a ρ) (h2 : IsI g b ρ) : IsI g (.bin .add a b) ρ := by
  obtain ⟨i, e1⟩ := h1
  obtain ⟨j, e2⟩ := h2
  exact ⟨i + j, by simp only [evE, e1, e2, R.bind, get2, Pl.get, Option.bind_some, binD, res]⟩
theorem ii_sub (h1 : IsI g a ρ) (h2 : IsI g b ρ) : IsI g (.bin .sub a b) ρ := by
  obtain ⟨i, e1⟩ := h1
  obtain ⟨j, e2⟩ := h2
  exact ⟨i - j, by simp only [evE, e1, e2, R.bind, get2, Pl.get, Option.bind_some, binD, res]⟩
theorem ii_xor (h1 : IsI g a ρ) (h2 : IsI g b ρ) : IsI g (.bin .xor a b) ρ := by
  obtain ⟨i, e1⟩ := h1
  obtain ⟨j, e2⟩ := h2
  exact ⟨Builtin.bitXor i j, by simp only [evE, e1, e2, R.bind, get2, Pl.get, Option.bind_some, binD, res]⟩
theorem ii_mul {j : Int} (h1 : IsI g a ρ) (h2 : -18446744073709551616 < j) (h3 : j < 18446744073709551616) : IsI g (.bin .mul a (.con (.int j))) ρ := by
  obtain ⟨i, e1⟩ := h1
  exact ⟨i * j, by simp only [evE, e1, R.bind, get2, Pl.get, Option.bind_some, binD, res, mul_r h2 h3, if_true]⟩
theorem ii_shr {j : Int} (h1 : IsI g a ρ) (h2 : 0 ≤ j) : IsI g (.bin .shr a (.con (.int j))) ρ := by
  obtain ⟨i, e1⟩ := h1
  exact ⟨i / 2 ^ j.toNat, by simp only [evE, e1, R.bind, get2, Pl.get, Option.bind_some, binD, res, h2, if_true]⟩
theorem ii_mod {j : Int} (h1 : IsI g a ρ) (h2 : evE g b ρ = .ok (.sh (.int j)) ρ) (h3 : 0 < j) : IsI g (.bin .mod a b) ρ := by
  obtain ⟨i, e1⟩ := h1
  exact ⟨i % j, by simp only [evE, e1, h2, R.bind, get2, Pl.get, Option.bind_some, binD, res, h3, if_true]⟩
theorem ii_con {j : Int} : IsI g (.con (.int j)) ρ := ⟨j, by simp only [evE]⟩
theorem ii_var {i : Nat} {j : Int} (h : ρ[i]? = some (.sh (.int j))) : IsI g (.var i) ρ := ⟨j, by simp only [evE, h]⟩
theorem e61 : evE g (.bin .pow (.con (.int 2)) (.con (.int 61))) ρ = .ok (.sh (.int (2 ^ 61))) ρ := by
  simp [evE, R.bind, get2, Pl.get, binD, res]
end
theorem mixed_ok (g : G) (c t : Int) : ∃ r : Int, runD g dMixed [.int c, .int t] = .ok false (.int r) [.non, .non] := by
  have p : (0 : Int) < 2 ^ 61 := by decide
  have em : evE g (.bin .sub (.bin .pow (.con (.int 2)) (.con (.int 61))) (.con (.int 1))) [.sh (.int c), .sh (.int t), .un] = .ok (.sh (.int (2 ^ 61 - 1))) [.sh (.int c), .sh (.int t), .un] := by
    simp only [evE, evE, R.bind, get2, Pl.get, binD, res]
    simp
  obtain ⟨n1, h1⟩ : IsI g (.bin .mod (.bin .add (.bin .add (.bin .mul (.bin .mod (.var 0) (.bin .sub (.bin .pow (.con (.int 2)) (.con (.int 61))) (.con (.int 1)))) (.con (.int 6364136223846793005))) (.bin .mul (.var 1) (.con (.int 1442695040888963407)))) (.con (.int 97))) (.bin .pow (.con (.int 2)) (.con (.int 61)))) [.sh (.int c), .sh (.int t), .un] :=
    ii_mod (ii_add (ii_add (ii_mul (ii_mod (ii_var rfl) em (by decide)) (by decide) (by decide)) (ii_mul (ii_var rfl) (by decide) (by decide))) ii_con) e61 p
  obtain ⟨n2, h2⟩ : IsI g (.bin .mod (.bin .mul (.bin .xor (.var 2) (.bin .shr (.var 2) (.con (.int 29)))) (.con (.int 3935559000370003845))) (.bin .pow (.con (.int 2)) (.con (.int 61)))) [.sh (.int c), .sh (.int t), .sh (.int n1)] :=
    ii_mod (ii_mul (ii_xor (ii_var rfl) (ii_shr (ii_var rfl) (by decide))) (by decide) (by decide)) e61 p
  obtain ⟨n3, h3⟩ : IsI g (.bin .mod (.bin .mul (.bin .xor (.var 2) (.bin .shr (.var 2) (.con (.int 31)))) (.con (.int 2862933555777941757))) (.bin .pow (.con (.int 2)) (.con (.int 61)))) [.sh (.int c), .sh (.int t), .sh (.int n2)] :=
    ii_mod (ii_mul (ii_xor (ii_var rfl) (ii_shr (ii_var rfl) (by decide))) (by decide) (by decide)) e61 p
  exact ⟨n3, (run_rt (ρ := [.sh (.int c), .sh (.int t), .sh (.int n2)]) ⟨rfl, by decide⟩ ((ss_nx (s_asg h1 rfl)).trans ((ss_nx (s_asg h2 rfl)).trans (ss_rt (s_ret h3))))).trans rfl⟩

/-- _law_draw, _law_mixed the m-th def -/
def dDraw (m : Nat) : Df := ⟨[true, false], 6, (.cons (.asg (.tu (.cons (.nm 2) (.cons (.nm 3) (.cons (.nm 4) .nil)))) (.var 0)) (.cons (.ifs (.cmp .lt (.var 3) (.var 1)) (.cons (.asg (.nm 5) (.idx (.var 4) (.bin .mod (.var 2) (.blt .len (.cons (.var 4) .nil))))) (.cons (.asg (.nm 3) (.ite (.and (.cmp .lt (.var 2) (.blt .len (.cons (.var 4) .nil))) (.cmp .ge (.var 5) (.bin .pow (.con (.int 10)) (.con (.int 18))))) (.var 5) (.call m (.cons (.var 5) (.cons (.var 2) .nil))))) (.cons (.asg (.nm 2) (.bin .add (.var 2) (.con (.int 1)))) .nil))) .nil) (.cons (.setix 0 (.con (.int 0)) (.var 2)) (.cons (.setix 0 (.con (.int 1)) (.bin .fdiv (.var 3) (.var 1))) (.cons (.ret (.bin .mod (.var 3) (.var 1))) .nil)))))⟩
/-- the draws' list -/
def Drw (cs : List Int) (d : D) : Prop := ∃ t l : Int, d = .lst [.int t, .int l, .lst (cs.map .int)]
theorem draw_tail (g : G) (t l z : Int) (t0 l0 : Int) (C : D) (s5 : Sl) (hz : 0 < z) (hb : z < 1073741824) : ∃ r t' l' : Int, 0 ≤ r ∧ r < z ∧ ∃ ρ, evSs g (.cons (.setix 0 (.con (.int 0)) (.var 2)) (.cons (.setix 0 (.con (.int 1)) (.bin .fdiv (.var 3) (.var 1))) (.cons (.ret (.bin .mod (.var 3) (.var 1))) .nil)))
    [.ow true (.lst [.int t0, .int l0, C]), .sh (.int z), .sh (.int t), .sh (.int l), .sh C, s5] = .ok (.rt (.sh (.int r))) ρ ∧ ρ[0]? = some (.ow true (.lst [.int t', .int l', C])) := by
  refine ⟨l % z, t, l / z, Int.emod_nonneg _ (by omega), Int.emod_lt_of_pos _ hz, [.ow true (.lst [.int t, .int (l / z), C]), .sh (.int z), .sh (.int t), .sh (.int l), .sh C, s5], ?_, rfl⟩
  simp [evE, evEs, evI, evC, evT, evS, evSs, evS.outR', R.bind, get1, get2, res, Pl.get, Pl.frz, binD, cmpD, truD, idxD, slcD, revD, bltD, mthD, isiD, tyD, bo, shD, tru, getL, frzL, asgT, asgTs, setSl, putSl, itemsD, frzI, outR, asInt, isOw, D.isNon, ixN, hz, hb]
theorem draw_ok (g : G) (m : Nat) (hm : g.md m = [false, false]) (hC : ∀ c t : Int, ∃ r : Int, g.C m [.int c, .int t] = .ok false (.int r) [.non, .non]) {cs : List Int} (hcs : cs ≠ []) {d : D} (h : Drw cs d) {z : Int} (hz : 0 < z) (hb : z < 1073741824) :
    ∃ (r : Int) (d' : D), 0 ≤ r ∧ r < z ∧ Drw cs d' ∧ runD g (dDraw m) [d, .int z] = .ok false (.int r) [d', .non] := by
  obtain ⟨t, l, rfl⟩ := h
  have fin : ∀ {l1 t1 : Int} {s5 : Sl}, (∀ r ρ, evSs g (.cons (.setix 0 (.con (.int 0)) (.var 2)) (.cons (.setix 0 (.con (.int 1)) (.bin .fdiv (.var 3) (.var 1))) (.cons (.ret (.bin .mod (.var 3) (.var 1))) .nil)))
      [.ow true (.lst [.int t, .int l, .lst (cs.map .int)]), .sh (.int z), .sh (.int t1), .sh (.int l1), .sh (.lst (cs.map .int)), s5] = .ok (.rt r) ρ → evSs g (dDraw m).body [.ow true (.lst [.int t, .int l, .lst (cs.map .int)]), .sh (.int z), .un, .un, .un, .un] = .ok (.rt r) ρ) →
      ∃ (r : Int) (d' : D), 0 ≤ r ∧ r < z ∧ Drw cs d' ∧ runD g (dDraw m) [.lst [.int t, .int l, .lst (cs.map .int)], .int z] = .ok false (.int r) [d', .non] := by
    intro l1 t1 s5 hh
    obtain ⟨r, t', l', h1, h2, ρ, h3, h4⟩ := draw_tail g t1 l1 z t l (.lst (cs.map .int)) s5 hz hb
    refine ⟨r, .lst [.int t', .int l', .lst (cs.map .int)], h1, h2, ⟨t', l', rfl⟩, ?_⟩
    refine (run_rt ⟨rfl, by show 2 ≤ 6; decide⟩ (hh _ ρ h3)).trans ?_
    simp [retR, dDraw, outsOf, h4]
  have s0 : evS g (.asg (.tu (.cons (.nm 2) (.cons (.nm 3) (.cons (.nm 4) .nil)))) (.var 0)) [.ow true (.lst [.int t, .int l, .lst (cs.map .int)]), .sh (.int z), .un, .un, .un, .un] =
      .ok .nx [.ow true (.lst [.int t, .int l, .lst (cs.map .int)]), .sh (.int z), .sh (.int t), .sh (.int l), .sh (.lst (cs.map .int)), .un] := by
    simp [evE, evEs, evI, evC, evT, evS, evSs, evS.outR', R.bind, get1, get2, res, Pl.get, Pl.frz, binD, cmpD, truD, idxD, slcD, revD, bltD, mthD, isiD, tyD, bo, shD, tru, getL, frzL, asgT, asgTs, setSl, putSl, itemsD, frzI, outR, asInt, isOw, D.isNon]
  by_cases hl : l < z
  · have hlen : (0 : Int) < (cs.length : Int) := by
      cases cs with
      | nil => exact absurd rfl hcs
      | cons _ _ => simp
    have hix : ∃ c : Int, evE g (.idx (.var 4) (.bin .mod (.var 2) (.blt .len (.cons (.var 4) .nil)))) [.ow true (.lst [.int t, .int l, .lst (cs.map .int)]), .sh (.int z), .sh (.int t), .sh (.int l), .sh (.lst (cs.map .int)), .un] =
        .ok (.sh (.int c)) [.ow true (.lst [.int t, .int l, .lst (cs.map .int)]), .sh (.int z), .sh (.int t), .sh (.int l), .sh (.lst (cs.map .int)), .un] := by
      have q1 := Int.emod_nonneg t (b := (cs.length : Int)) (by omega)
      have q2 := Int.emod_lt_of_pos t hlen
      have q3 : (t % (cs.length : Int)).toNat < cs.length := by omega
      have q4 : atI (cs.map D.int) (t % (cs.length : Int)) = some (.int cs[(t % (cs.length : Int)).toNat]) := by
        unfold atI ixN
        rw [if_pos q1, if_pos (by rw [List.length_map]; exact q2)]
        simp [q3]
      have hn : 0 < cs.length := by omega
      refine ⟨cs[(t % (cs.length : Int)).toNat], ?_⟩
      simp [evE, evEs, evI, evC, evT, evS, evSs, evS.outR', R.bind, get1, get2, res, Pl.get, Pl.frz, binD, cmpD, truD, idxD, slcD, revD, bltD, mthD, isiD, tyD, bo, shD, tru, getL, frzL, asgT, asgTs, setSl, putSl, itemsD, frzI, outR, asInt, isOw, D.isNon, hn, q4]
    obtain ⟨c, hc⟩ := hix
    have hle : ∃ l1 : Int, evE g (.ite (.and (.cmp .lt (.var 2) (.blt .len (.cons (.var 4) .nil))) (.cmp .ge (.var 5) (.bin .pow (.con (.int 10)) (.con (.int 18))))) (.var 5) (.call m (.cons (.var 5) (.cons (.var 2) .nil))))
        [.ow true (.lst [.int t, .int l, .lst (cs.map .int)]), .sh (.int z), .sh (.int t), .sh (.int l), .sh (.lst (cs.map .int)), .sh (.int c)] = .ok (.sh (.int l1)) [.ow true (.lst [.int t, .int l, .lst (cs.map .int)]), .sh (.int z), .sh (.int t), .sh (.int l), .sh (.lst (cs.map .int)), .sh (.int c)] := by
      obtain ⟨r, hr⟩ := hC c t
      by_cases k1 : t < (cs.length : Int)
      · by_cases k2 : (1000000000000000000 : Int) ≤ c
        · exact ⟨c, by simp [evE, evEs, evI, evC, evT, evS, evSs, evS.outR', R.bind, get1, get2, res, Pl.get, Pl.frz, binD, cmpD, truD, idxD, slcD, revD, bltD, mthD, isiD, tyD, bo, shD, tru, getL, frzL, asgT, asgTs, setSl, putSl, itemsD, frzI, outR, asInt, isOw, D.isNon, k1, k2]⟩
        · exact ⟨r, by simp [evE, evEs, evI, evC, evT, evS, evSs, evS.outR', R.bind, get1, get2, res, Pl.get, Pl.frz, binD, cmpD, truD, idxD, slcD, revD, bltD, mthD, isiD, tyD, bo, shD, tru, getL, frzL, asgT, asgTs, setSl, putSl, itemsD, frzI, outR, asInt, isOw, D.isNon, k1, k2, callR, hm, argF, ios, hr, outs]⟩
      · exact ⟨r, by simp [evE, evEs, evI, evC, evT, evS, evSs, evS.outR', R.bind, get1, get2, res, Pl.get, Pl.frz, binD, cmpD, truD, idxD, slcD, revD, bltD, mthD, isiD, tyD, bo, shD, tru, getL, frzL, asgT, asgTs, setSl, putSl, itemsD, frzI, outR, asInt, isOw, D.isNon, k1, callR, hm, argF, ios, hr, outs]⟩
    obtain ⟨l1, hl1⟩ := hle
    have s3 : evS g (.asg (.nm 2) (.bin .add (.var 2) (.con (.int 1)))) [.ow true (.lst [.int t, .int l, .lst (cs.map .int)]), .sh (.int z), .sh (.int t), .sh (.int l1), .sh (.lst (cs.map .int)), .sh (.int c)] =
        .ok .nx [.ow true (.lst [.int t, .int l, .lst (cs.map .int)]), .sh (.int z), .sh (.int (t + 1)), .sh (.int l1), .sh (.lst (cs.map .int)), .sh (.int c)] := by simp [evE, evEs, evI, evC, evT, evS, evSs, evS.outR', R.bind, get1, get2, res, Pl.get, Pl.frz, binD, cmpD, truD, idxD, slcD, revD, bltD, mthD, isiD, tyD, bo, shD, tru, getL, frzL, asgT, asgTs, setSl, putSl, itemsD, frzI, outR, asInt, isOw, D.isNon]
    refine fin (l1 := l1) (t1 := t + 1) (s5 := .sh (.int c)) fun r ρ hr => ?_
    refine (ss_nx s0).trans (Eq.trans ?_ hr)
    refine ss_nx (Eq.trans (s_ifT (ρ1 := [.ow true (.lst [.int t, .int l, .lst (cs.map .int)]), .sh (.int z), .sh (.int t), .sh (.int l), .sh (.lst (cs.map .int)), .un]) ?_) ?_)
    · exact t_of (e_cmp0 (p := .sh (.int l)) (q := .sh (.int z)) (by simp [evE]) (by simp [evE]) rfl rfl rfl) rfl (by simp [truD, hl])
    · refine (ss_nx (s_asg hc rfl)).trans ((ss_nx (s_asg hl1 rfl)).trans ((ss_nx s3).trans (by simp only [evSs])))
  · refine fin (l1 := l) (t1 := t) (s5 := .un) fun r ρ hr => ?_
    refine (ss_nx s0).trans (Eq.trans ?_ hr)
    refine ss_nx (Eq.trans (s_ifF (ρ1 := [.ow true (.lst [.int t, .int l, .lst (cs.map .int)]), .sh (.int z), .sh (.int t), .sh (.int l), .sh (.lst (cs.map .int)), .un]) ?_) (by simp only [evSs]))
    exact t_of (e_cmp0 (p := .sh (.int l)) (q := .sh (.int z)) (by simp [evE]) (by simp [evE]) rfl rfl rfl) rfl (by simp [truD, hl])
end Mi

/-! words that lead: plain -/
namespace Wd

theorem lt_of_diff : ∀ {a b : List Nat} {j x y : Nat}, a[j]? = some x → b[j]? = some y → x < y → (∀ i : Nat, i < j → a[i]? = b[i]?) → a < b
  | [], _, _, _, _, h, _, _, _ => by simp at h
  | _ :: _, [], _, _, _, _, h, _, _ => by simp at h
  | u :: a, v :: b, 0, x, y, h1, h2, h3, _ => by
    simp at h1 h2
    subst h1; subst h2
    exact List.cons_lt_cons_iff.mpr (.inl h3)
  | u :: a, v :: b, j + 1, x, y, h1, h2, h3, h4 => by
    have e : u = v := by simpa using h4 0 (by omega)
    subst e
    exact List.cons_lt_cons_iff.mpr (.inr ⟨rfl, lt_of_diff (j := j) (by simpa using h1) (by simpa using h2) h3 fun i hi => by simpa using h4 (i + 1) (by omega)⟩)
theorem diff_of_lt : ∀ {a b : List Nat}, a < b → (∃ c, c ≠ [] ∧ b = a ++ c) ∨ ∃ (j x y : Nat), a[j]? = some x ∧ b[j]? = some y ∧ x < y ∧ ∀ i : Nat, i < j → a[i]? = b[i]?
  | [], [], h => absurd h (List.lt_irrefl _)
  | [], v :: b, _ => .inl ⟨v :: b, by simp, rfl⟩
  | u :: a, [], h => absurd h (List.not_lt_nil _)
  | u :: a, v :: b, h => by
    rcases List.cons_lt_cons_iff.mp h with k | ⟨k0, k⟩
    · exact .inr ⟨0, u, v, rfl, rfl, k, fun i hi => by omega⟩
    · subst k0
      rcases diff_of_lt k with ⟨c, h1, h2⟩ | ⟨j, x, y, h1, h2, h3, h4⟩
      · exact .inl ⟨c, h1, by rw [h2]; rfl⟩
      · refine .inr ⟨j + 1, x, y, by simpa using h1, by simpa using h2, h3, fun i hi => ?_⟩
        cases i with
        | zero => rfl
        | succ i => simpa using h4 i (by omega)
theorem lt_pre {a c : List Nat} (h : c ≠ []) : a < a ++ c := by
  induction a with
  | nil => cases c with
    | nil => exact absurd rfl h
    | cons x r => exact List.nil_lt_cons ..
  | cons x a ih => exact List.cons_lt_cons_iff.mpr (.inr ⟨rfl, ih⟩)
theorem tri (a b : List Nat) : a < b ∨ a = b ∨ b < a := by
  by_cases h : a < b
  · exact .inl h
  · by_cases h2 : b < a
    · exact .inr (.inr h2)
    · exact .inr (.inl (List.le_antisymm (List.not_lt.mp h2) (List.not_lt.mp h)))
theorem app_lt {v a b : List Nat} : v ++ a < v ++ b ↔ a < b := by
  induction v with
  | nil => rfl
  | cons x v ih => rw [List.cons_append, List.cons_append, List.cons_lt_cons_iff]; simp [ih]

/-- less than all its proper ends -/
def Lyn (w : List Nat) : Prop := w ≠ [] ∧ ∀ i, 0 < i → i < w.length → w < w.drop i
/-- less than all that it is turned into -/
def Rot (w : List Nat) : Prop := w ≠ [] ∧ ∀ i, 0 < i → i < w.length → w < w.drop i ++ w.take i
theorem Lyn.rot {w : List Nat} (h : Lyn w) : Rot w := by
  refine ⟨h.1, fun i h0 hi => ?_⟩
  rcases diff_of_lt (h.2 i h0 hi) with ⟨c, _, e⟩ | ⟨j, x, y, h1, h2, h3, h4⟩
  · have := congrArg List.length e
    simp at this
    omega
  · have hj : j < (w.drop i).length := (List.getElem?_eq_some_iff.mp h2).1
    refine lt_of_diff (j := j) h1 (by rw [List.getElem?_append_left hj]; exact h2) h3 fun k hk => ?_
    rw [List.getElem?_append_left (by omega)]
    exact h4 k hk
theorem Rot.lyn {w : List Nat} (h : Rot w) : Lyn w := by
  refine ⟨h.1, fun i h0 hi => ?_⟩
  have hr := h.2 i h0 hi
  rcases tri w (w.drop i) with q | q | q
  · exact q
  · have := congrArg List.length q
    simp at this
    omega
  · exfalso
    rcases diff_of_lt q with ⟨c, hc, e⟩ | ⟨j, x, y, h1, h2, h3, h4⟩
    · have hl := congrArg List.length e
      simp at hl
      have e2 : w.drop i ++ c < w.drop i ++ w.take i := by rw [← e]; exact hr
      have e3 := app_lt.mp e2
      have hcl : c.length = i := by omega
      have d1 : w.drop (w.length - i) = c := by
        conv => lhs; rw [e]
        rw [List.drop_append_of_le_length (by simp; omega)]
        rw [List.drop_of_length_le (by simp; omega)]
        rfl
      have d2 : w.take (w.length - i) = w.drop i := by
        conv => lhs; rw [e]
        rw [List.take_append_of_le_length (by simp; omega)]
        rw [List.take_of_length_le (by simp; omega)]
      have hr2 := h.2 (w.length - i) (by omega) (by omega)
      rw [d1, d2] at hr2
      -- c < take i, of one length
      rcases diff_of_lt e3 with ⟨c2, hc2, e4⟩ | ⟨j, x, y, h1, h2, h3, h4⟩
      · have := congrArg List.length e4
        simp at this
        have : c2.length = 0 := by omega
        exact hc2 (List.eq_nil_of_length_eq_zero this)
      · have hj1 : j < c.length := (List.getElem?_eq_some_iff.mp h1).1
        have hj2 : j < (w.take i).length := (List.getElem?_eq_some_iff.mp h2).1
        have lt2 : c ++ w.drop i < w.take i ++ w.drop i := by
          refine lt_of_diff (j := j) (by rw [List.getElem?_append_left hj1]; exact h1) (by rw [List.getElem?_append_left hj2]; exact h2) h3 fun k hk => ?_
          rw [List.getElem?_append_left (by omega), List.getElem?_append_left (by omega)]
          exact h4 k hk
        rw [List.take_append_drop] at lt2
        exact List.lt_irrefl _ (List.lt_trans hr2 lt2)
    · have hj : j < (w.drop i).length := (List.getElem?_eq_some_iff.mp h1).1
      have lt2 : w.drop i ++ w.take i < w := by
        refine lt_of_diff (j := j) (by rw [List.getElem?_append_left hj]; exact h1) h2 h3 fun k hk => ?_
        rw [List.getElem?_append_left (by omega)]
        exact h4 k hk
      exact List.lt_irrefl _ (List.lt_trans hr lt2)

/-- parts that lead, none less than one behind it -/
def Parts (ls : List (List Nat)) : Prop := (∀ l ∈ ls, Lyn l) ∧ ls.Pairwise fun a b => ¬ a < b
theorem end_of {B : List Nat} : ∀ {ls : List (List Nat)} {q r : List Nat}, (∀ l ∈ ls, ¬ B < l) → q ≠ [] → ls.flatten = q ++ r → ∃ i, i < q.length ∧ ¬ B < q.drop i
  | [], q, r, _, hq, e => by
    simp at e
    exact absurd e.1 hq
  | l :: ls, q, r, h, hq, e => by
    rw [List.flatten_cons] at e
    have hql : 0 < q.length := by
      cases q with
      | nil => exact absurd rfl hq
      | cons _ _ => simp
    rcases Nat.lt_or_ge l.length q.length with hl | hl
    · rcases List.append_eq_append_iff.mp e with ⟨a, e1, e2⟩ | ⟨a, e1, e2⟩
      · have ha : a ≠ [] := fun z => by
          subst z
          have := congrArg List.length e1
          simp at this
          omega
        obtain ⟨i, h1, h2⟩ := end_of (B := B) (ls := ls) (q := a) (r := r) (fun m hm => h m (List.mem_cons_of_mem _ hm)) ha e2
        refine ⟨l.length + i, by rw [e1]; simp; omega, ?_⟩
        rw [e1, ← List.drop_drop, List.drop_left]
        exact h2
      · have := congrArg List.length e1
        simp at this
        omega
    · refine ⟨0, hql, ?_⟩
      rw [List.drop_zero]
      intro hB
      rcases List.append_eq_append_iff.mp e with ⟨a, e1, e2⟩ | ⟨a, e1, e2⟩
      · have := congrArg List.length e1
        simp at this
        have ha : a = [] := List.eq_nil_of_length_eq_zero (by omega)
        subst ha
        rw [List.append_nil] at e1
        rw [e1] at hB
        exact h l List.mem_cons_self hB
      · by_cases ha : a = []
        · subst ha
          rw [List.append_nil] at e1
          rw [← e1] at hB
          exact h l List.mem_cons_self hB
        · refine h l List.mem_cons_self (List.lt_trans hB ?_)
          rw [e1]
          exact lt_pre ha
theorem first_le {p l : List Nat} {ls : List (List Nat)} {r : List Nat} (hp : Lyn p) (h : Parts (l :: ls)) (e : (l :: ls).flatten = p ++ r) : p.length ≤ l.length := by
  rcases Nat.lt_or_ge l.length p.length with hl | hl
  · exfalso
    rw [List.flatten_cons] at e
    have hln : 0 < l.length := by
      have := (h.1 l List.mem_cons_self).1
      cases l with
      | nil => exact absurd rfl this
      | cons _ _ => simp
    rcases List.append_eq_append_iff.mp e with ⟨a, e1, e2⟩ | ⟨a, e1, e2⟩
    · have ha : a ≠ [] := fun z => by
        subst z
        have := congrArg List.length e1
        simp at this
        omega
      obtain ⟨i, h1, h2⟩ := end_of (B := l) (fun m hm => (List.pairwise_cons.mp h.2).1 m hm) ha e2
      have hs := hp.2 (l.length + i) (by omega) (by rw [e1]; simp; omega)
      rw [e1, ← List.drop_drop, List.drop_left] at hs
      exact h2 (List.lt_trans (lt_pre ha) hs)
    · have := congrArg List.length e1
      simp at this
      omega
  · exact hl
theorem uniq : ∀ {ls ms : List (List Nat)}, Parts ls → Parts ms → ls.flatten = ms.flatten → ls = ms
  | [], [], _, _, _ => rfl
  | [], m :: ms, _, h, e => by
    have := (h.1 m List.mem_cons_self).1
    simp at e
    exact absurd e.1 this
  | l :: ls, [], h, _, e => by
    have := (h.1 l List.mem_cons_self).1
    simp at e
    exact absurd e.1 this
  | l :: ls, m :: ms, h, h', e => by
    have a1 := first_le (r := ms.flatten) (h'.1 m List.mem_cons_self) h (by rw [e, List.flatten_cons])
    have a2 := first_le (r := ls.flatten) (h.1 l List.mem_cons_self) h' (by rw [← e, List.flatten_cons])
    rw [List.flatten_cons, List.flatten_cons] at e
    obtain ⟨e1, e2⟩ := List.append_inj e (by omega)
    rw [e1, uniq ⟨fun x hx => h.1 x (List.mem_cons_of_mem _ hx), (List.pairwise_cons.mp h.2).2⟩ ⟨fun x hx => h'.1 x (List.mem_cons_of_mem _ hx), (List.pairwise_cons.mp h'.2).2⟩ e2]
/-- the last part is the least end -/
theorem last_least : ∀ {ls : List (List Nat)} {z : List Nat}, Parts ls → ls.getLast? = some z → ∀ i, i < ls.flatten.length → ¬ ls.flatten.drop i < z
  | [], z, _, h, _, hi => by simp at h
  | [l], z, h, e, i, hi => by
    simp at e
    subst e
    simp at hi
    simp only [List.flatten_cons, List.flatten_nil, List.append_nil]
    intro hlt
    by_cases h0 : i = 0
    · subst h0
      exact List.lt_irrefl _ hlt
    · exact List.lt_irrefl _ (List.lt_trans hlt ((h.1 l List.mem_cons_self).2 i (by omega) hi))
  | l :: m :: ls, z, h, e, i, hi => by
    have e' : (m :: ls).getLast? = some z := by simpa [List.getLast?_cons_cons] using e
    have h' : Parts (m :: ls) := ⟨fun x hx => h.1 x (List.mem_cons_of_mem _ hx), (List.pairwise_cons.mp h.2).2⟩
    rw [List.flatten_cons]
    by_cases hl : i < l.length
    · rw [List.drop_append_of_le_length (by omega)]
      intro hlt
      have hz : z ∈ m :: ls := List.mem_of_getLast? e'
      have nz := (List.pairwise_cons.mp h.2).1 z hz
      -- l ≤ drop i l ≤ .. < z
      have ne : (m :: ls).flatten ≠ [] := by
        have := (h'.1 m List.mem_cons_self).1
        simp [this]
      have s1 : l.drop i < z := List.lt_trans (lt_pre ne) hlt
      by_cases h0 : i = 0
      · subst h0
        exact nz (by simpa using s1)
      · exact nz (List.lt_trans ((h.1 l List.mem_cons_self).2 i (by omega) hl) s1)
    · have e2 : i = l.length + (i - l.length) := by omega
      rw [e2, ← List.drop_drop, List.drop_left]
      refine last_least h' e' (i - l.length) ?_
      rw [List.flatten_cons, List.length_append] at hi
      omega
end Wd

/-! the walk that finds the leading parts: plain -/
namespace Wd

section
variable {z : List Nat} {P n : Nat}
/-- z comes again after n, up to P -/
def Per (z : List Nat) (n P : Nat) : Prop := ∀ i, i + n < P → z[i]? = z[i + n]?
theorem Per.mul (h : Per z n P) : ∀ (q k : Nat), k + n * q < P → z[k + n * q]? = z[k]?
  | 0, k, _ => by simp
  | q + 1, k, hk => by
    rw [Nat.mul_succ] at hk ⊢
    rw [← Nat.add_assoc, ← h (k + n * q) (by omega)]
    exact Per.mul h q k (by omega)
theorem Per.back (h : Per z n P) (hn : 0 < n) (m : Nat) (hm : 1 ≤ m) (hm2 : n * m ≤ P) : z[P - n * m]? = z[P - n]? := by
  have e : n * m = n * (m - 1) + n := by
    obtain ⟨k, rfl⟩ : ∃ k, m = k + 1 := ⟨m - 1, by omega⟩
    rw [Nat.mul_succ]
    simp
  have e2 : P - n = (P - n * m) + n * (m - 1) := by omega
  rw [e2]
  exact (h.mul (m - 1) (P - n * m) (by omega)).symm
theorem take_get {t : List Nat} {a b : Nat} (h : b < a) : (t.take a)[b]? = t[b]? := by
  rw [List.getElem?_take]
  simp [h]
theorem duval_step (hn : 0 < n) (hnP : n ≤ P) (hP : P < z.length) (hu : Lyn (z.take n)) (per : Per z n P) {x y : Nat} (hx : z[P - n]? = some x) (hy : z[P]? = some y) (hlt : x < y) : Lyn (z.take (P + 1)) := by
  have hlen : (z.take (P + 1)).length = P + 1 := by simp; omega
  have hun : (z.take n).length = n := by simp; omega
  refine ⟨fun e => by rw [e] at hlen; simp at hlen, fun i h0 hi => ?_⟩
  rw [hlen] at hi
  have hdr : ∀ k, i + k ≤ P → ((z.take (P + 1)).drop i)[k]? = z[i + k]? := fun k hk => by
    rw [List.getElem?_drop, take_get (by omega)]
  have hir : i = i % n + n * (i / n) := (Nat.mod_add_div i n).symm
  generalize hr : i % n = r at hir
  generalize hq : i / n = q at hir
  have hrn : r < n := by rw [← hr]; exact Nat.mod_lt _ hn
  by_cases r0 : r = 0
  · have q1 : 1 ≤ q := by
      rcases Nat.eq_zero_or_pos q with z0 | z0
      · subst z0; simp at hir; omega
      · exact z0
    refine lt_of_diff (j := P - i) (x := x) (y := y) ?_ ?_ hlt fun k hk => ?_
    · rw [take_get (by omega)]
      have e : P - i = P - n * q := by omega
      rw [e, per.back hn q q1 (by omega)]
      exact hx
    · rw [hdr _ (by omega)]
      have e : i + (P - i) = P := by omega
      rw [e]
      exact hy
    · rw [take_get (by omega), hdr _ (by omega)]
      have e : i + k = k + n * q := by omega
      rw [e, per.mul q k (by omega)]
  · rcases diff_of_lt (hu.2 r (by omega) (by rw [hun]; exact hrn)) with ⟨c, _, e⟩ | ⟨j, x', y', h1, h2, h3, h4⟩
    · have := congrArg List.length e
      rw [List.length_drop, hun, List.length_append, hun] at this
      omega
    · have hj : j < n - r := by
        have q1 := (List.getElem?_eq_some_iff.mp h2).1
        rw [List.length_drop, hun] at q1
        exact q1
      rw [take_get (by omega)] at h1
      rw [List.getElem?_drop, take_get (by omega)] at h2
      have h4' : ∀ k : Nat, k < j → z[k]? = z[r + k]? := fun k hk => by
        have q1 := h4 k hk
        rw [take_get (by omega), List.getElem?_drop, take_get (by omega)] at q1
        exact q1
      by_cases hij : i + j < P
      · refine lt_of_diff (j := j) (x := x') (y := y') ?_ ?_ h3 fun k hk => ?_
        · rw [take_get (by omega)]; exact h1
        · rw [hdr _ (by omega)]
          have e : i + j = (r + j) + n * q := by omega
          rw [e, per.mul q (r + j) (by omega)]
          exact h2
        · rw [take_get (by omega), hdr _ (by omega)]
          have e : i + k = (r + k) + n * q := by omega
          rw [e, per.mul q (r + k) (by omega)]
          exact h4' k hk
      · have q1 : 1 ≤ q := by
          rcases Nat.eq_zero_or_pos q with z0 | z0
          · subst z0; simp at hir; omega
          · exact z0
        have hrx : z[r + (P - i)]? = some x := by
          have e : r + (P - i) = P - n * q := by omega
          rw [e, per.back hn q q1 (by omega)]
          exact hx
        have hw : ∃ w, z[P - i]? = some w ∧ w < y := by
          rcases Nat.lt_or_ge (P - i) j with hlt2 | hge
          · exact ⟨x, by rw [h4' _ hlt2]; exact hrx, hlt⟩
          · have e : P - i = j := by omega
            rw [e] at hrx ⊢
            rw [h2] at hrx
            cases hrx
            exact ⟨x', h1, by omega⟩
        obtain ⟨w, w1, w2⟩ := hw
        refine lt_of_diff (j := P - i) (x := w) (y := y) ?_ ?_ w2 fun k hk => ?_
        · rw [take_get (by omega)]; exact w1
        · rw [hdr _ (by omega)]
          have e : i + (P - i) = P := by omega
          rw [e]
          exact hy
        · rw [take_get (by omega), hdr _ (by omega)]
          have e : i + k = (r + k) + n * q := by omega
          rw [e, per.mul q (r + k) (by omega)]
          exact h4' k (by omega)
/-- the part again -/
theorem part_again (hn : 0 < n) (hP : P ≤ z.length) (per : Per z n P) {m : Nat} (hm : n * m + n ≤ P) : (z.drop (n * m)).take n = z.take n := by
  apply List.ext_getElem?
  intro k
  by_cases hk : k < n
  · rw [take_get hk, take_get hk, List.getElem?_drop, Nat.add_comm, per.mul m k (by omega)]
  · rw [List.getElem?_eq_none (by simp; omega), List.getElem?_eq_none (by simp; omega)]
/-- behind the walk: what is left begins with nothing greater -/
theorem link_new (hn : 0 < n) (hP : P ≤ z.length) (per : Per z n P) {m : Nat} (h1 : 1 ≤ m) (hm : n * m ≤ P) (hm2 : P < n * m + n) (stop : P = z.length ∨ ∃ x y, z[P - n]? = some x ∧ z[P]? = some y ∧ y < x) (k : Nat) :
    ¬ z.take n < (z.drop (n * m)).take k := by
  have hnz : n ≤ z.length := by
    have : n * 1 ≤ n * m := Nat.mul_le_mul_left n h1
    omega
  have ht : P - n * m < n := by omega
  have eqs : ∀ i, i < P - n * m → (z.drop (n * m))[i]? = z[i]? := fun i hi => by
    rw [List.getElem?_drop, Nat.add_comm, per.mul m i (by omega)]
  have e1 : z[P - n * m]? = z[P - n]? := per.back hn m h1 hm
  -- at t the rest is less, or at its end
  have at_t : ∀ v, (z.drop (n * m))[P - n * m]? = some v → ∃ x, (z.take n)[P - n * m]? = some x ∧ v < x := fun v hv => by
    rw [List.getElem?_drop] at hv
    have e : n * m + (P - n * m) = P := by omega
    rw [e] at hv
    rcases stop with s | ⟨x, y, s1, s2, s3⟩
    · subst s
      rw [List.getElem?_eq_none (Nat.le_refl _)] at hv
      cases hv
    · rw [s2] at hv
      cases hv
      exact ⟨x, by rw [take_get ht, e1]; exact s1, s3⟩
  have tk : ∀ {i v : Nat}, ((z.drop (n * m)).take k)[i]? = some v → (z.drop (n * m))[i]? = some v := fun {i v} h => by
    rw [List.getElem?_take] at h
    split at h
    · exact h
    · cases h
  have hun : (z.take n).length = n := by simp; omega
  intro hlt
  rcases diff_of_lt hlt with ⟨c, hc, e⟩ | ⟨j, x, y, d1, d2, d3, d4⟩
  · have q1 : ((z.drop (n * m)).take k)[P - n * m]? = (z.take n)[P - n * m]? := by
      rw [e, List.getElem?_append_left (by rw [hun]; exact ht)]
    have q2 : (z.take n)[P - n * m]? = some (z[P - n * m]'(by omega)) := by
      rw [take_get ht]
      exact List.getElem?_eq_getElem _
    rw [q2] at q1
    obtain ⟨x, q3, q4⟩ := at_t _ (tk q1)
    rw [q2] at q3
    cases q3
    exact Nat.lt_irrefl _ q4
  · rcases Nat.lt_trichotomy j (P - n * m) with hj | hj | hj
    · have q1 := tk d2
      rw [eqs j hj] at q1
      rw [take_get (by omega)] at d1
      rw [d1] at q1
      cases q1
      exact Nat.lt_irrefl _ d3
    · subst hj
      obtain ⟨w, q3, q4⟩ := at_t _ (tk d2)
      rw [d1] at q3
      cases q3
      omega
    · have q2 : (z.take n)[P - n * m]? = some (z[P - n * m]'(by omega)) := by
        rw [take_get ht]
        exact List.getElem?_eq_getElem _
      have q1 := d4 _ hj
      rw [q2] at q1
      obtain ⟨w, q3, q4⟩ := at_t _ (tk q1.symm)
      rw [q2] at q3
      cases q3
      exact Nat.lt_irrefl _ q4
end
end Wd

namespace Law
open PySem PySem.Spec L2 Mi
def gk (k : Nat) : G := ⟨call Γ fuel k, mdOf Γ, fuel⟩

theorem cut_lo {α : Type} (xs : List α) (k : Nat) : cut xs (some (k : Int)) none = xs.drop k := by
  unfold cut
  have e1 : HT.sIx xs.length 0 (some (k : Int)) = min k xs.length := HT.sIx_nat ..
  have e2 : HT.sIx xs.length xs.length none = xs.length := HT.sIx_none ..
  rw [e1, e2]
  rcases Nat.le_total k xs.length with h | h
  · rw [Nat.min_eq_left h, List.take_of_length_le (by simp)]
  · rw [Nat.min_eq_right h, List.drop_of_length_le (Nat.le_refl _), List.drop_of_length_le h, List.take_nil]
theorem cut_hi {α : Type} (xs : List α) (k : Nat) : cut xs none (some (k : Int)) = xs.take k := by
  unfold cut
  have e1 : HT.sIx xs.length 0 none = 0 := HT.sIx_none ..
  have e2 : HT.sIx xs.length xs.length (some (k : Int)) = min k xs.length := HT.sIx_nat ..
  rw [e1, e2, List.drop_zero, Nat.sub_zero]
  rcases Nat.le_total k xs.length with h | h
  · rw [Nat.min_eq_left h]
  · rw [Nat.min_eq_right h, List.take_of_length_le (Nat.le_refl _), List.take_of_length_le h]
theorem cut_both {α : Type} (xs : List α) (a k : Nat) (h : a + k ≤ xs.length) : cut xs (some (a : Int)) (some ((a + k : Nat) : Int)) = (xs.drop a).take k := by
  unfold cut
  have e1 : HT.sIx xs.length 0 (some (a : Int)) = min a xs.length := HT.sIx_nat ..
  have e2 : HT.sIx xs.length xs.length (some ((a + k : Nat) : Int)) = min (a + k) xs.length := HT.sIx_nat ..
  have m1 : min a xs.length = a := Nat.min_eq_left (by omega)
  have m2 : min (a + k) xs.length = a + k := Nat.min_eq_left h
  rw [e1, e2, m1, m2, Nat.add_sub_cancel_left]
theorem rng2_ok (n : Nat) (h : n ≤ 100000) : rng2D (some (.int 1)) (some (.int (n : Int))) = some (rngD 1 (n - 1)) := by
  have h1 : smallI 1 = true := by
    unfold smallI
    simp only [Bool.and_eq_true, decide_eq_true_eq]
    omega
  have h2 : smallI (n : Int) = true := by
    unfold smallI
    simp only [Bool.and_eq_true, decide_eq_true_eq]
    omega
  have e : ((n : Int) - 1).toNat = n - 1 := by omega
  simp only [rng2D, h1, h2, Bool.and_self, if_true, e]
theorem flats_ints : ∀ {ds : List D}, (∀ d ∈ ds, ∃ i, d = .int i) → flats ds = true
  | [], _ => by simp [flats]
  | d :: ds, h => by
    obtain ⟨i, rfl⟩ := h d List.mem_cons_self
    simp only [flats, D.flat, flats_ints fun x hx => h x (List.mem_cons_of_mem _ hx), Bool.and_self]
theorem eq_nil {ds : List D} (h : flats ds = true) : cmpD .eq (.lst ds) (.lst []) = some ds.isEmpty := by
  have h2 : min (D.lst ds).depth (D.lst []).depth ≤ 100 := by
    have : (D.lst []).depth = 1 := by simp [D.depth, depths]
    omega
  have h3 : (D.lst ds).flat = true := by simp only [D.flat, h]
  have h4 : (D.lst []).flat = true := by simp [D.flat, flats]
  simp only [cmpD, h2, h3, h4, Bool.and_self, decide_true, if_true]
  cases ds <;> simp [eqD, eqDs]
theorem ne_nil {ds : List D} (h : flats ds = true) : cmpD .ne (.lst ds) (.lst []) = some (!ds.isEmpty) := by
  have q := eq_nil h
  simp only [cmpD] at q ⊢
  split at q
  · rename_i c
    rw [if_pos c]
    simpa using q
  · cases q
theorem ne_str (s t : List Nat) : cmpD .ne (.str s) (.str t) = some (!(s == t)) := by
  simp [cmpD, D.flat, D.depth, eqD]
theorem eq_str (s t : List Nat) : cmpD .eq (.str s) (.str t) = some (s == t) := by
  simp [cmpD, D.flat, D.depth, eqD]

/-! ### does a word lead? -/
def badK (w : List Nat) : D → Option D
  | .int i => if (!decide (w < cut w (some i) none ++ cut w none (some i))) = true then some (.int i) else none
  | _ => none
theorem lead_comp (g : G) (w : List Nat) (h : w.length ≤ 1000) : evE g (.comp [1] (.nm 1) (.rng2 (.con (.int 1)) (.blt .len (.cons (.var 0) .nil))) (.cons (.not (.cmp .lt (.var 0) (.bin .add (.slL (.var 0) (.var 1)) (.slH (.var 0) (.var 1))))) .nil) (.var 1)) [.sh (.str w), .un] =
    .ok (.ow (.lst ((rngD 1 (w.length - 1)).filterMap (badK w)))) [.sh (.str w), .un] := by
  have hi : evI g (.rng2 (.con (.int 1)) (.blt .len (.cons (.var 0) .nil))) [.sh (.str w), .un] = .ok (rngD 1 (w.length - 1)) [.sh (.str w), .un] := by
    exact i_rng2 (p := .sh (.int 1)) (by simp only [evE]) (e_len rfl) rfl rfl (rng2_ok w.length (by omega))
  refine evE_comp (ρ1 := [.sh (.str w), .un]) (ρ2 := [.sh (.str w), .un]) (xs := rngD 1 (w.length - 1)) hi rfl rfl ?_ ?_
  · rw [rng_len]; exact big_ge (by omega)
  · have q := compL_pure (own := [1]) (asg := asgT (.nm 1)) (c := fun r => evC g (.cons (.not (.cmp .lt (.var 0) (.bin .add (.slL (.var 0) (.var 1)) (.slH (.var 0) (.var 1))))) .nil) r) (e := fun r => evE g (.var 1) r) (ρ0 := [.sh (.str w), .un]) (badK w) (rngD 1 (w.length - 1)) [] (fun x hx => ?_)
    · rw [List.nil_append] at q
      exact q
    · obtain ⟨k, hk, rfl⟩ : ∃ k : Nat, k < w.length - 1 ∧ x = .int (1 + (k : Nat)) := by
        unfold rngD at hx
        obtain ⟨k, h1, h2⟩ := List.mem_map.mp hx
        exact ⟨k, List.mem_range.mp h1, h2.symm⟩
      have e1 : (1 + (k : Int)) = ((1 + k : Nat) : Int) := by omega
      have hl : (cut w (some (1 + (k : Int))) none).length + (cut w none (some (1 + (k : Int)))).length ≤ big := by
        rw [e1, cut_lo, cut_hi, List.length_drop, List.length_take]
        exact big_ge (by omega)
      have w1 : asgT (.nm 1) (.int (1 + (k : Nat))) [.sh (.str w), .un] = some [.sh (.str w), .sh (.int (1 + (k : Nat)))] := by simp only [asgT, List.getElem?_cons_succ, List.getElem?_cons_zero, List.set_cons_succ, List.set_cons_zero]
      refine ⟨[.sh (.str w), .sh (.int (1 + (k : Nat)))], w1, by simp [okW], by simp [wipeR], ?_⟩
      by_cases hlt : w < cut w (some (1 + (k : Int))) none ++ cut w none (some (1 + (k : Int)))
      · refine .inl ⟨?_, by simp [badK, hlt]⟩
        simp [evE, evEs, evI, evC, evT, evS, evSs, evS.outR', R.bind, get1, get2, res, Pl.get, Pl.frz, binD, cmpD, truD, idxD, slcD, revD, bltD, mthD, isiD, tyD, bo, shD, tru, getL, frzL, asgT, asgTs, setSl, putSl, itemsD, frzI, outR, asInt, isOw, D.isNon, hl, hlt]
      · refine .inr ⟨?_, .sh (.int (1 + (k : Int))), .int (1 + (k : Int)), by simp [evE, evEs, evI, evC, evT, evS, evSs, evS.outR', R.bind, get1, get2, res, Pl.get, Pl.frz, binD, cmpD, truD, idxD, slcD, revD, bltD, mthD, isiD, tyD, bo, shD, tru, getL, frzL, asgT, asgTs, setSl, putSl, itemsD, frzI, outR, asInt, isOw, D.isNon], rfl, by simp [badK, hlt]⟩
        simp [evE, evEs, evI, evC, evT, evS, evSs, evS.outR', R.bind, get1, get2, res, Pl.get, Pl.frz, binD, cmpD, truD, idxD, slcD, revD, bltD, mthD, isiD, tyD, bo, shD, tru, getL, frzL, asgT, asgTs, setSl, putSl, itemsD, frzI, outR, asInt, isOw, D.isNon, hl, hlt]
theorem badK_int {w : List Nat} {xs : List D} : ∀ d ∈ xs.filterMap (badK w), ∃ i, d = .int i := fun d hd => by
  obtain ⟨x, _, h⟩ := List.mem_filterMap.mp hd
  unfold badK at h
  split at h
  · split at h
    · exact ⟨_, (Option.some.inj h).symm⟩
    · cases h
  · cases h
theorem bad_none {w : List Nat} : ((rngD 1 (w.length - 1)).filterMap (badK w)).isEmpty = true ↔ ∀ i, 0 < i → i < w.length → w < w.drop i ++ w.take i := by
  rw [List.isEmpty_iff]
  constructor
  · intro h i h0 hi
    have q := List.filterMap_eq_nil_iff.mp h (.int ((i : Nat) : Int)) (by
      unfold rngD
      refine List.mem_map.mpr ⟨i - 1, List.mem_range.mpr (by omega), ?_⟩
      congr 1
      omega)
    dsimp only [badK] at q
    rw [cut_lo, cut_hi] at q
    by_cases hlt : w < w.drop i ++ w.take i
    · exact hlt
    · simp [hlt] at q
  · intro h
    refine List.filterMap_eq_nil_iff.mpr fun x hx => ?_
    unfold rngD at hx
    obtain ⟨k, h1, rfl⟩ := List.mem_map.mp hx
    have hk := List.mem_range.mp h1
    have e1 : (1 + (k : Int)) = ((1 + k : Nat) : Int) := by omega
    have q := h (1 + k) (by omega) (by omega)
    show (if (!decide (w < cut w (some (1 + (k : Int))) none ++ cut w none (some (1 + (k : Int))))) = true then some (D.int (1 + (k : Int))) else none) = none
    rw [e1, cut_lo, cut_hi]
    simp [q]
theorem lead_run (g : G) (w : List Nat) (h : w.length ≤ 1000) : ∃ b, runD g d5 [.str w] = .ok false (.bl b) [.non] ∧ (b = true ↔ Wd.Rot w) := by
  have st : start d5 [.str w] = [.sh (.str w), .un] := rfl
  have fl := flats_ints (badK_int (w := w) (xs := rngD 1 (w.length - 1)))
  have hc : evE g (.cmp .eq (.comp [1] (.nm 1) (.rng2 (.con (.int 1)) (.blt .len (.cons (.var 0) .nil))) (.cons (.not (.cmp .lt (.var 0) (.bin .add (.slL (.var 0) (.var 1)) (.slH (.var 0) (.var 1))))) .nil) (.var 1)) (.lst .nil)) [.sh (.str w), .un] =
      .ok (.sh (.bl ((rngD 1 (w.length - 1)).filterMap (badK w)).isEmpty)) [.sh (.str w), .un] :=
    e_cmp0 (lead_comp g w h) (q := .ow (.lst [])) (by simp [evE, evEs, R.bind, frzL]) rfl rfl (eq_nil fl)
  by_cases he : w = []
  · subst he
    refine ⟨false, (run_rt (p := .sh (.bl false)) (ρ := [.sh (.str []), .un]) ⟨rfl, by decide⟩ (ss_rt (s_ret ?_))).trans rfl, ⟨fun z => (by cases z), fun z => absurd rfl z.1⟩⟩
    rw [st]
    have h1 : evE g (.cmp .ne (.var 0) (.con (.str []))) [.sh (.str []), .un] = .ok (.sh (.bl false)) [.sh (.str []), .un] := by
      refine e_cmp0 (p := .sh (.str [])) (q := .sh (.str [])) (by simp [evE]) (by simp [evE]) rfl rfl ?_
      rw [ne_str]
      rfl
    exact e_andF h1 rfl rfl
  · refine ⟨((rngD 1 (w.length - 1)).filterMap (badK w)).isEmpty, (run_rt (p := .sh (.bl ((rngD 1 (w.length - 1)).filterMap (badK w)).isEmpty)) (ρ := [.sh (.str w), .un]) ⟨rfl, by decide⟩ (ss_rt (s_ret ?_))).trans rfl, ?_⟩
    · rw [st]
      have h1 : evE g (.cmp .ne (.var 0) (.con (.str []))) [.sh (.str w), .un] = .ok (.sh (.bl true)) [.sh (.str w), .un] := by
        refine e_cmp0 (p := .sh (.str w)) (q := .sh (.str [])) (by simp [evE]) (by simp [evE]) rfl rfl ?_
        rw [ne_str]
        simp [he]
      rw [e_andT h1 rfl rfl]
      exact hc
    · rw [bad_none]
      exact ⟨fun q => ⟨he, q⟩, fun q => q.2⟩
end Law

namespace Law
open PySem PySem.Spec L2 Mi
/-- a while by an invariant and a measure -/
theorem loopW_inv {c : Rho → R Bool} {b : Rho → R Fl} (Pv : Nat → Rho → Prop) (Done : Rho → Prop) (h : ∀ m ρ, Pv m ρ → (c ρ = .ok false ρ ∧ Done ρ) ∨ (c ρ = .ok true ρ ∧ ∃ m' ρ', m' < m ∧ b ρ = .ok .nx ρ' ∧ Pv m' ρ')) :
    ∀ (n m : Nat) (ρ : Rho), Pv m ρ → m < n → ∃ ρ', loopW c b n ρ = .ok .nx ρ' ∧ Done ρ'
  | 0, m, ρ, _, hm => by omega
  | n + 1, m, ρ, hp, hm => by
    rcases h m ρ hp with ⟨h1, h2⟩ | ⟨h1, m', ρ', h2, h3, h4⟩
    · exact ⟨ρ, by simp only [loopW, h1, R.bind], h2⟩
    · obtain ⟨ρ2, q1, q2⟩ := loopW_inv Pv Done h n m' ρ' h4 (by omega)
      exact ⟨ρ2, by simp only [loopW, h1, R.bind, h3]; exact q1, q2⟩
theorem s_whl {g : G} {c : E} {b : Ss} {ρ ρ' : Rho} (h : loopW (evT g c) (fun r => evSs g b r) g.n ρ = .ok .nx ρ') : evS g (.whl c b) ρ = .ok .nx ρ' := by simp only [evS]; exact h
theorem idx_nat {w : List Nat} {b x : Nat} (h : w[b]? = some x) : idxD (.str w) (.int (b : Int)) = some (.str [x]) := by
  have q : atI w (b : Int) = some x := atI_nat h
  simp only [idxD, q, Option.map_some]
theorem le_one {x y : Nat} : cmpD .le (.str [x]) (.str [y]) = some (decide (x ≤ y)) := by
  simp only [cmpD]
  congr 1
  by_cases h : x ≤ y
  · have : ¬ [y] < [x] := fun q => by
      rcases List.cons_lt_cons_iff.mp q with z | ⟨_, z⟩
      · omega
      · exact List.lt_irrefl _ z
    simp [h, this]
  · have : [y] < [x] := List.cons_lt_cons_iff.mpr (.inl (by omega))
    simp [h, this]
theorem lt_one {x y : Nat} : cmpD .lt (.str [x]) (.str [y]) = some (decide (x < y)) := by
  simp only [cmpD]
  congr 1
  by_cases h : x < y
  · have : [x] < [y] := List.cons_lt_cons_iff.mpr (.inl h)
    simp [h, this]
  · have : ¬ [x] < [y] := fun q => by
      rcases List.cons_lt_cons_iff.mp q with z | ⟨_, z⟩
      · omega
      · exact List.lt_irrefl _ z
    simp [h, this]

/-- where the walk stands -/
def Sw (w : List Nat) (T : Sl) (a : Nat) (s3 : Sl) (p b : Nat) : Rho := [.sh (.str w), T, .sh (.int (a : Int)), s3, .sh (.int (p : Int)), .sh (.int (b : Int))]
structure Inn (w : List Nat) (a p b : Nat) : Prop where
  ab : a ≤ b
  bp : b < p
  pw : p ≤ w.length
  lyn : Wd.Lyn ((w.drop a).take (p - b))
  per : Wd.Per (w.drop a) (p - b) (p - a)
def c1 : E := .and (.cmp .lt (.var 4) (.blt .len (.cons (.var 0) .nil))) (.cmp .le (.idx (.var 0) (.var 5)) (.idx (.var 0) (.var 4)))
def b1 : Ss := .cons (.asg (.nm 5) (.ite (.cmp .lt (.idx (.var 0) (.var 5)) (.idx (.var 0) (.var 4))) (.var 2) (.bin .add (.var 5) (.con (.int 1))))) (.cons (.asg (.nm 4) (.bin .add (.var 4) (.con (.int 1)))) .nil)
theorem inner (g : G) (w : List Nat) (T : Sl) (a : Nat) (s3 : Sl) (hn : w.length < g.n) {p b : Nat} (h : Inn w a p b) :
    ∃ ρ', loopW (evT g c1) (fun r => evSs g b1 r) g.n (Sw w T a s3 p b) = .ok .nx ρ' ∧ ∃ p' b', ρ' = Sw w T a s3 p' b' ∧ Inn w a p' b' ∧ (p' = w.length ∨ ∃ x y, w[b']? = some x ∧ w[p']? = some y ∧ y < x) := by
  refine loopW_inv (fun m ρ => ∃ p b, ρ = Sw w T a s3 p b ∧ m = w.length - p ∧ Inn w a p b) _ ?_ g.n (w.length - p) _ ⟨p, b, rfl, rfl, h⟩ (by omega)
  rintro m ρ ⟨p, b, rfl, rfl, I⟩
  have hlen : evE g (.blt .len (.cons (.var 0) .nil)) (Sw w T a s3 p b) = .ok (.sh (.int (w.length : Int))) (Sw w T a s3 p b) := e_len rfl
  by_cases hp : p < w.length
  · have gx : w[b]? = some (w[b]'(by have := I.bp; omega)) := List.getElem?_eq_getElem _
    have gy : w[p]? = some w[p] := List.getElem?_eq_getElem hp
    generalize w[b]'(by have := I.bp; omega) = x at gx
    generalize w[p] = y at gy
    have ex : evE g (.idx (.var 0) (.var 5)) (Sw w T a s3 p b) = .ok (.sh (.str [x])) (Sw w T a s3 p b) := e_idx (e_var rfl) (e_var rfl) rfl rfl (idx_nat gx)
    have ey : evE g (.idx (.var 0) (.var 4)) (Sw w T a s3 p b) = .ok (.sh (.str [y])) (Sw w T a s3 p b) := e_idx (e_var rfl) (e_var rfl) rfl rfl (idx_nat gy)
    have t1 : evT g (.cmp .lt (.var 4) (.blt .len (.cons (.var 0) .nil))) (Sw w T a s3 p b) = .ok true (Sw w T a s3 p b) := by
      refine t_of (e_cmp0 (p := .sh (.int (p : Int))) (e_var rfl) hlen rfl rfl rfl) rfl ?_
      simp only [truD]
      congr 1
      simpa using hp
    have hxz : (w.drop a)[b - a]? = some x := by rw [List.getElem?_drop]; have := I.ab; rw [show a + (b - a) = b by omega]; exact gx
    have hyz : (w.drop a)[p - a]? = some y := by rw [List.getElem?_drop]; have := I.ab; have := I.bp; rw [show a + (p - a) = p by omega]; exact gy
    have hab := I.ab
    have hbp := I.bp
    by_cases hle : x ≤ y
    · right
      have t2 : evT g (.cmp .le (.idx (.var 0) (.var 5)) (.idx (.var 0) (.var 4))) (Sw w T a s3 p b) = .ok true (Sw w T a s3 p b) :=
        t_of (e_cmp0 ex ey rfl rfl le_one) rfl (by simp [truD, hle])
      refine ⟨(t_andT t1).trans t2, w.length - (p + 1), Sw w T a s3 (p + 1) (if x < y then a else b + 1), by omega, ?_, p + 1, _, rfl, rfl, ?_⟩
      · have e1 : evE g (.ite (.cmp .lt (.idx (.var 0) (.var 5)) (.idx (.var 0) (.var 4))) (.var 2) (.bin .add (.var 5) (.con (.int 1)))) (Sw w T a s3 p b) = .ok (.sh (.int ((if x < y then a else b + 1 : Nat) : Int))) (Sw w T a s3 p b) := by
          by_cases hlt : x < y
          · rw [e_iteT (t_of (e_cmp0 ex ey rfl rfl lt_one) rfl (by simp [truD, hlt])), if_pos hlt]
            exact e_var rfl
          · rw [e_iteF (t_of (e_cmp0 ex ey rfl rfl lt_one) rfl (by simp [truD, hlt])), if_neg hlt]
            exact e_bin (e_var rfl) e_con rfl rfl rfl
        have e2 : evE g (.bin .add (.var 4) (.con (.int 1))) (Sw w T a s3 p (if x < y then a else b + 1)) = .ok (.sh (.int ((p + 1 : Nat) : Int))) (Sw w T a s3 p (if x < y then a else b + 1)) := e_bin (e_var rfl) e_con rfl rfl rfl
        exact (ss_nx (s_asg e1 rfl)).trans ((ss_nx (s_asg e2 rfl)).trans (by simp only [evSs]; rfl))
      · by_cases hlt : x < y
        · rw [if_pos hlt]
          have hz : p - a < (w.drop a).length := by rw [List.length_drop]; omega
          have q := Wd.duval_step (z := w.drop a) (P := p - a) (n := p - b) (by omega) (by omega) hz I.lyn I.per (x := x) (y := y) (by rw [show p - a - (p - b) = b - a by omega]; exact hxz) hyz hlt
          refine ⟨Nat.le_refl _, by omega, by omega, ?_, ?_⟩
          · rw [show p + 1 - a = p - a + 1 by omega]; exact q
          · intro i hi; omega
        · rw [if_neg hlt]
          have e : x = y := by omega
          refine ⟨by omega, by omega, by omega, ?_, ?_⟩
          · rw [show p + 1 - (b + 1) = p - b by omega]; exact I.lyn
          · rw [show p + 1 - (b + 1) = p - b by omega]
            intro i hi
            by_cases hi2 : i + (p - b) < p - a
            · exact I.per i hi2
            · have e3 : i = b - a := by omega
              subst e3
              rw [hxz, show b - a + (p - b) = p - a by omega, hyz, e]
    · left
      have t2 : evT g (.cmp .le (.idx (.var 0) (.var 5)) (.idx (.var 0) (.var 4))) (Sw w T a s3 p b) = .ok false (Sw w T a s3 p b) :=
        t_of (e_cmp0 ex ey rfl rfl le_one) rfl (by simp [truD, hle])
      exact ⟨(t_andT t1).trans t2, p, b, rfl, I, .inr ⟨x, y, gx, gy, by omega⟩⟩
  · left
    have t1 : evT g (.cmp .lt (.var 4) (.blt .len (.cons (.var 0) .nil))) (Sw w T a s3 p b) = .ok false (Sw w T a s3 p b) := by
      refine t_of (e_cmp0 (p := .sh (.int (p : Int))) (e_var rfl) hlen rfl rfl rfl) rfl ?_
      simp only [truD]
      congr 1
      simpa using hp
    exact ⟨t_andF t1, p, b, rfl, I, .inl (by have := I.pw; omega)⟩
end Law

namespace Law
open PySem PySem.Spec L2 Mi
theorem asg_ok {i : Nat} {x : D} {ρ : Rho} {s : Sl} (h : ρ[i]? = some s) (hs : ∀ d, s ≠ .ow true d) : asgT (.nm i) x ρ = some (ρ.set i (.sh x)) := by
  unfold asgT
  rw [h]
  cases s with
  | un => rfl
  | sh _ => rfl
  | ow p d => cases p with
    | true => exact absurd rfl (hs d)
    | false => rfl
theorem set_ok {i : Nat} {x : D} {ρ : Rho} {s : Sl} (h : ρ[i]? = some s) (hs : ∀ d, s ≠ .ow true d) : setSl i (.sh x) ρ = some (ρ.set i (.sh x)) := by
  unfold setSl
  rw [h]
  cases s with
  | un => rfl
  | sh _ => rfl
  | ow p d => cases p with
    | true => exact absurd rfl (hs d)
    | false => rfl
theorem s_par {g : G} {i j : Nat} {a b : E} {x y : D} {ρ ρ1 ρ2 : Rho} (h1 : evE g a ρ = .ok (.sh x) ρ) (h2 : evE g b ρ = .ok (.sh y) ρ) (h3 : asgT (.nm i) x ρ = some ρ1) (h4 : asgT (.nm j) y ρ1 = some ρ2) : evS g (.par i j a b) ρ = .ok .nx ρ2 := by
  simp only [evS, h1, h2, R.bind, frzL, Pl.frz, h3, h4, Option.bind_some, evS.outR']
theorem s_app {g : G} {i : Nat} {e : E} {d : D} {ds : List D} {o : Bool} {ρ : Rho} (h1 : evE g e ρ = .ok (.sh d) ρ) (h2 : ρ[i]? = some (.ow o (.lst ds))) (h3 : ds.length < big) : evS g (.app i e) ρ = .ok .nx (ρ.set i (.ow o (.lst (ds ++ [d])))) := by
  have h4 : isOw ρ i = true := by unfold isOw; rw [h2]
  simp only [evS, h4, if_true, h1, R.bind, Pl.frz, h2, h3]
theorem e_slB {g : G} {a b c : E} {w : List Nat} {i j : Int} {ρ : Rho} (h1 : evE g a ρ = .ok (.sh (.str w)) ρ) (h2 : evE g b ρ = .ok (.sh (.int i)) ρ) (h3 : evE g c ρ = .ok (.sh (.int j)) ρ) : evE g (.slB a b c) ρ = .ok (.sh (.str (cut w (some i) (some j)))) ρ := by
  simp only [evE, h1, h2, h3, R.bind, asInt, Pl.get, get1, Option.bind_some, slcD, res]

def c2 : E := .cmp .le (.var 2) (.var 5)
def b2 : Ss := .cons (.app 1 (.slB (.var 0) (.var 2) (.bin .add (.var 2) (.var 3)))) (.cons (.asg (.nm 2) (.bin .add (.var 2) (.var 3))) .nil)
def tl (ls : List (List Nat)) : Sl := .ow false (.lst (ls.map D.str))
theorem emit (g : G) (w : List Nat) (ls : List (List Nat)) (a p b : Nat) (hn : w.length + 1 < g.n) (hw : w.length ≤ 1000) (hls : ls.length ≤ a) (I : Inn w a p b) :
    ∃ ρ', loopW (evT g c2) (fun r => evSs g b2 r) g.n (Sw w (tl ls) a (.sh (.int ((p - b : Nat) : Int))) p b) = .ok .nx ρ' ∧ ∃ m, 1 ≤ m ∧ (p - b) * m ≤ p - a ∧ p - a < (p - b) * m + (p - b) ∧ (ls ++ List.replicate m ((w.drop a).take (p - b))).length ≤ a + (p - b) * m ∧
      ρ' = Sw w (tl (ls ++ List.replicate m ((w.drop a).take (p - b)))) (a + (p - b) * m) (.sh (.int ((p - b : Nat) : Int))) p b := by
  have hab := I.ab
  have hbp := I.bp
  have hpw := I.pw
  generalize hN : p - b = n at *
  have hn0 : 0 < n := by omega
  refine loopW_inv (fun k ρ => ∃ m, k = p + 1 - (a + n * m) ∧ n * m ≤ p - a ∧ (ls ++ List.replicate m ((w.drop a).take n)).length ≤ a + n * m ∧ ρ = Sw w (tl (ls ++ List.replicate m ((w.drop a).take n))) (a + n * m) (.sh (.int (n : Int))) p b) _ ?_ g.n (p + 1 - a) _ ⟨0, by simp, by simp, by simpa using hls, by simp⟩ (by omega)
  rintro k ρ ⟨m, rfl, hm, hlen, rfl⟩
  by_cases hc : a + n * m ≤ b
  · right
    have t : evT g c2 (Sw w (tl (ls ++ List.replicate m ((w.drop a).take n))) (a + n * m) (.sh (.int (n : Int))) p b) = .ok true (Sw w (tl (ls ++ List.replicate m ((w.drop a).take n))) (a + n * m) (.sh (.int (n : Int))) p b) := by
      refine t_of (e_cmp0 (e_var rfl) (e_var rfl) rfl rfl rfl) rfl ?_
      simp only [truD]
      congr 1
      exact decide_eq_true (by omega)
    have hs : n * (m + 1) = n * m + n := Nat.mul_succ n m
    have hpart : (w.drop (a + n * m)).take n = (w.drop a).take n := by
      rw [← List.drop_drop]
      refine Wd.part_again (z := w.drop a) (P := p - a) hn0 (by rw [List.length_drop]; omega) ?_ (by omega)
      have q := I.per
      rw [hN] at q
      exact q
    have hpl : ((w.drop a).take n).length = n := by rw [List.length_take, List.length_drop]; omega
    refine ⟨t, p + 1 - (a + n * (m + 1)), Sw w (tl (ls ++ List.replicate (m + 1) ((w.drop a).take n))) (a + n * (m + 1)) (.sh (.int (n : Int))) p b, by omega, ?_, m + 1, rfl, by omega, ?_, rfl⟩
    · have ea : ∀ T, evE g (.bin .add (.var 2) (.var 3)) (Sw w T (a + n * m) (.sh (.int (n : Int))) p b) = .ok (.sh (.int ((a + n * m + n : Nat) : Int))) (Sw w T (a + n * m) (.sh (.int (n : Int))) p b) := fun T => e_bin (e_var rfl) (e_var rfl) rfl rfl rfl
      have es := e_slB (g := g) (a := .var 0) (b := .var 2) (c := .bin .add (.var 2) (.var 3)) (ρ := Sw w (tl (ls ++ List.replicate m ((w.drop a).take n))) (a + n * m) (.sh (.int (n : Int))) p b) (e_var rfl) (e_var rfl) (ea _)
      rw [cut_both w (a + n * m) n (by omega), hpart] at es
      have hb : ((ls ++ List.replicate m ((w.drop a).take n)).map D.str).length < big := by
        rw [List.length_map]
        have : big = 16777216 := rfl
        omega
      have s1 := s_app (i := 1) es rfl hb
      have e9 : ls ++ List.replicate (m + 1) ((w.drop a).take n) = (ls ++ List.replicate m ((w.drop a).take n)) ++ [(w.drop a).take n] := by
        rw [List.replicate_succ', List.append_assoc]
      have e10 : (Sw w (tl (ls ++ List.replicate m ((w.drop a).take n))) (a + n * m) (.sh (.int (n : Int))) p b).set 1 (.ow false (.lst ((ls ++ List.replicate m ((w.drop a).take n)).map D.str ++ [.str ((w.drop a).take n)]))) =
          Sw w (tl (ls ++ List.replicate (m + 1) ((w.drop a).take n))) (a + n * m) (.sh (.int (n : Int))) p b := by
        rw [e9]
        unfold tl
        rw [List.map_append (l₁ := ls ++ List.replicate m ((w.drop a).take n))]
        rfl
      rw [e10] at s1
      refine (ss_nx s1).trans ((ss_nx (s_asg (ea _) rfl)).trans ?_)
      rw [hs, ← Nat.add_assoc]
      simp only [evSs]
      rfl
    · rw [List.length_append, List.length_replicate] at hlen ⊢
      omega
  · left
    have t : evT g c2 (Sw w (tl (ls ++ List.replicate m ((w.drop a).take n))) (a + n * m) (.sh (.int (n : Int))) p b) = .ok false (Sw w (tl (ls ++ List.replicate m ((w.drop a).take n))) (a + n * m) (.sh (.int (n : Int))) p b) := by
      refine t_of (e_cmp0 (e_var rfl) (e_var rfl) rfl rfl rfl) rfl ?_
      simp only [truD]
      congr 1
      exact decide_eq_false (by omega)
    have m1 : 1 ≤ m := by
      rcases Nat.eq_zero_or_pos m with z | z
      · subst z; simp at hc; omega
      · exact z
    exact ⟨t, m, m1, hm, by omega, hlen, rfl⟩
end Law

namespace Law
open PySem PySem.Spec L2 Mi
structure OutI (w : List Nat) (ls : List (List Nat)) (a : Nat) : Prop where
  fl : ls.flatten = w.take a
  pt : Wd.Parts ls
  lk : ∀ L ∈ ls, ∀ k, ¬ L < (w.drop a).take k
  aw : a ≤ w.length
  len : ls.length ≤ a
theorem rep_take {z : List Nat} {n P : Nat} (hn : 0 < n) (hP : P ≤ z.length) (per : Wd.Per z n P) : ∀ m, n * m ≤ P → (List.replicate m (z.take n)).flatten = z.take (n * m)
  | 0, _ => by simp
  | m + 1, h => by
    rw [Nat.mul_succ] at h ⊢
    rw [List.replicate_succ', List.flatten_append, rep_take hn hP per m (by omega), List.take_add, Wd.part_again hn hP per h]
    simp
theorem out_step {w : List Nat} {ls : List (List Nat)} {a p b m : Nat} (O : OutI w ls a) (I : Inn w a p b) (stop : p = w.length ∨ ∃ x y, w[b]? = some x ∧ w[p]? = some y ∧ y < x) (h1 : 1 ≤ m) (hm : (p - b) * m ≤ p - a) (hm2 : p - a < (p - b) * m + (p - b))
    (hl : (ls ++ List.replicate m ((w.drop a).take (p - b))).length ≤ a + (p - b) * m) : OutI w (ls ++ List.replicate m ((w.drop a).take (p - b))) (a + (p - b) * m) := by
  have hab := I.ab
  have hbp := I.bp
  have hpw := I.pw
  have hper := I.per
  have hlyn := I.lyn
  have hz : p - a ≤ (w.drop a).length := by rw [List.length_drop]; omega
  have hst : p - a = (w.drop a).length ∨ ∃ x y, (w.drop a)[p - a - (p - b)]? = some x ∧ (w.drop a)[p - a]? = some y ∧ y < x := by
    rcases stop with s | ⟨x, y, s1, s2, s3⟩
    · left; rw [List.length_drop]; omega
    · right
      refine ⟨x, y, ?_, ?_, s3⟩
      · rw [List.getElem?_drop, show a + (p - a - (p - b)) = b by omega]; exact s1
      · rw [List.getElem?_drop, show a + (p - a) = p by omega]; exact s2
  generalize p - b = n at *
  have hn0 : 0 < n := by
    rcases Nat.eq_zero_or_pos n with z | z
    · subst z
      have := hlyn.1
      simp at this
    · exact z
  have link := fun k => Wd.link_new (z := w.drop a) (P := p - a) (n := n) hn0 hz hper h1 hm hm2 hst k
  refine ⟨?_, ⟨fun l hlm => ?_, ?_⟩, fun L hL k => ?_, by omega, hl⟩
  · rw [List.flatten_append, O.fl, rep_take hn0 hz hper m hm, List.take_add]
  · rcases List.mem_append.mp hlm with q | q
    · exact O.pt.1 l q
    · rw [(List.mem_replicate.mp q).2]; exact hlyn
  · rw [List.pairwise_append]
    refine ⟨O.pt.2, List.pairwise_replicate.mpr (.inr (List.lt_irrefl _)), fun x hx y hy => ?_⟩
    rw [(List.mem_replicate.mp hy).2]
    exact O.lk x hx n
  · rw [← List.drop_drop]
    rcases List.mem_append.mp hL with q | q
    · intro hlt
      rcases Wd.tri ((w.drop a).take n) L with z | z | z
      · exact link k (List.lt_trans z hlt)
      · rw [← z] at hlt; exact link k hlt
      · exact O.lk L q n z
    · rw [(List.mem_replicate.mp q).2]; exact link k
def c3 : E := .cmp .lt (.var 2) (.blt .len (.cons (.var 0) .nil))
def b3 : Ss := .cons (.par 4 5 (.bin .add (.var 2) (.con (.int 1))) (.var 2)) (.cons (.whl c1 b1) (.cons (.asg (.nm 3) (.bin .sub (.var 4) (.var 5))) (.cons (.whl c2 b2) .nil)))
theorem outer (g : G) (w : List Nat) (hn : w.length + 1 < g.n) (hw : w.length ≤ 1000) : ∃ ρ', loopW (evT g c3) (fun r => evSs g b3 r) g.n [.sh (.str w), tl [], .sh (.int ((0 : Nat) : Int)), .un, .un, .un] = .ok .nx ρ' ∧ ∃ ls s2 s3 s4 s5, ρ' = [.sh (.str w), tl ls, s2, s3, s4, s5] ∧ ls.flatten = w ∧ Wd.Parts ls := by
  refine loopW_inv (fun k ρ => ∃ ls a s3 s4 s5, k = w.length - a ∧ ρ = [.sh (.str w), tl ls, .sh (.int (a : Int)), s3, s4, s5] ∧ (∀ d, s3 ≠ .ow true d) ∧ (∀ d, s4 ≠ .ow true d) ∧ (∀ d, s5 ≠ .ow true d) ∧ OutI w ls a) _ ?_ g.n (w.length - 0) _
    ⟨[], 0, .un, .un, .un, rfl, rfl, (fun d z => by cases z), (fun d z => by cases z), (fun d z => by cases z), ⟨by simp, ⟨fun l h => by simp at h, List.Pairwise.nil⟩, fun L h => by simp at h, Nat.zero_le _, Nat.le_refl _⟩⟩ (by omega)
  rintro k ρ ⟨ls, a, s3, s4, s5, rfl, rfl, n3, n4, n5, O⟩
  have hlen : evE g (.blt .len (.cons (.var 0) .nil)) [.sh (.str w), tl ls, .sh (.int (a : Int)), s3, s4, s5] = .ok (.sh (.int (w.length : Int))) [.sh (.str w), tl ls, .sh (.int (a : Int)), s3, s4, s5] := e_len rfl
  have ha := O.aw
  by_cases hc : a < w.length
  · right
    have t : evT g c3 [.sh (.str w), tl ls, .sh (.int (a : Int)), s3, s4, s5] = .ok true [.sh (.str w), tl ls, .sh (.int (a : Int)), s3, s4, s5] := by
      refine t_of (e_cmp0 (p := .sh (.int (a : Int))) (e_var rfl) hlen rfl rfl rfl) rfl ?_
      simp only [truD]
      congr 1
      exact decide_eq_true (by omega)
    have I0 : Inn w a (a + 1) a := by
      refine ⟨Nat.le_refl _, by omega, by omega, ?_, fun i hi => by omega⟩
      rw [Nat.add_sub_cancel_left]
      have hl1 : ((w.drop a).take 1).length = 1 := by rw [List.length_take, List.length_drop]; omega
      exact ⟨fun z => by rw [z] at hl1; simp at hl1, fun i h0 hi => by omega⟩
    have p1 : evS g (.par 4 5 (.bin .add (.var 2) (.con (.int 1))) (.var 2)) [.sh (.str w), tl ls, .sh (.int (a : Int)), s3, s4, s5] = .ok .nx (Sw w (tl ls) a s3 (a + 1) a) :=
      s_par (x := .int ((a + 1 : Nat) : Int)) (y := .int (a : Int)) (e_bin (e_var rfl) e_con rfl rfl rfl) (e_var rfl) (asg_ok (s := s4) rfl n4) (asg_ok (s := s5) rfl n5)
    obtain ⟨ρ1, q1, p, b, rfl, I, stop⟩ := inner g w (tl ls) a s3 (by omega) I0
    have p2 : evS g (.whl c1 b1) (Sw w (tl ls) a s3 (a + 1) a) = .ok .nx (Sw w (tl ls) a s3 p b) := s_whl q1
    have hbp := I.bp
    have p3 : evS g (.asg (.nm 3) (.bin .sub (.var 4) (.var 5))) (Sw w (tl ls) a s3 p b) = .ok .nx (Sw w (tl ls) a (.sh (.int ((p - b : Nat) : Int))) p b) := by
      refine s_asg (p := .sh (.int ((p - b : Nat) : Int))) (ρ1 := Sw w (tl ls) a s3 p b) (e_bin (x := .int (p : Int)) (y := .int (b : Int)) (e_var rfl) (e_var rfl) rfl rfl ?_) (set_ok (s := s3) rfl n3)
      show some (false, D.int ((p : Int) - (b : Int))) = _
      rw [show (p : Int) - (b : Int) = ((p - b : Nat) : Int) by omega]
    obtain ⟨ρ2, q2, m, h1, hm, hm2, hl, rfl⟩ := emit g w ls a p b hn hw O.len I
    have p4 : evS g (.whl c2 b2) (Sw w (tl ls) a (.sh (.int ((p - b : Nat) : Int))) p b) = .ok .nx (Sw w (tl (ls ++ List.replicate m ((w.drop a).take (p - b)))) (a + (p - b) * m) (.sh (.int ((p - b : Nat) : Int))) p b) := s_whl q2
    have O' := out_step O I stop h1 hm hm2 hl
    have hpos : 1 ≤ (p - b) * m := Nat.mul_pos (by omega) (by omega)
    refine ⟨t, w.length - (a + (p - b) * m), Sw w (tl (ls ++ List.replicate m ((w.drop a).take (p - b)))) (a + (p - b) * m) (.sh (.int ((p - b : Nat) : Int))) p b, by omega, ?_, _, _, _, _, _, rfl, rfl, (fun d z => by cases z), (fun d z => by cases z), (fun d z => by cases z), O'⟩
    exact (ss_nx p1).trans ((ss_nx p2).trans ((ss_nx p3).trans ((ss_nx p4).trans (by simp only [evSs]))))
  · left
    have t : evT g c3 [.sh (.str w), tl ls, .sh (.int (a : Int)), s3, s4, s5] = .ok false [.sh (.str w), tl ls, .sh (.int (a : Int)), s3, s4, s5] := by
      refine t_of (e_cmp0 (p := .sh (.int (a : Int))) (e_var rfl) hlen rfl rfl rfl) rfl ?_
      simp only [truD]
      congr 1
      exact decide_eq_false (by omega)
    exact ⟨t, ls, _, _, _, _, rfl, by rw [O.fl]; exact List.take_of_length_le (by omega), O.pt⟩
theorem parts_run (g : G) (w : List Nat) (hn : w.length + 1 < g.n) (hw : w.length ≤ 1000) : ∃ ls, runD g d1 [.str w] = .ok false (.tup (ls.map D.str)) [.non] ∧ ls.flatten = w ∧ Wd.Parts ls := by
  obtain ⟨ρ', q, ls, s2, s3, s4, s5, rfl, h1, h2⟩ := outer g w hn hw
  refine ⟨ls, (run_rt (p := .sh (.tup (ls.map D.str))) (ρ := [.sh (.str w), tl ls, s2, s3, s4, s5]) ⟨rfl, by decide⟩ ?_).trans rfl, h1, h2⟩
  have a1 : evS g (.asg (.nm 1) (.lst .nil)) [.sh (.str w), .un, .un, .un, .un, .un] = .ok .nx [.sh (.str w), tl [], .un, .un, .un, .un] := s_asg (p := .ow (.lst [])) (ρ1 := [.sh (.str w), .un, .un, .un, .un, .un]) (by simp [evE, evEs, R.bind, frzL]) rfl
  have a2 : evS g (.asg (.nm 2) (.con (.int 0))) [.sh (.str w), tl [], .un, .un, .un, .un] = .ok .nx [.sh (.str w), tl [], .sh (.int ((0 : Nat) : Int)), .un, .un, .un] := s_asg e_con rfl
  refine (ss_nx a1).trans ((ss_nx a2).trans ((ss_nx (s_whl q)).trans (ss_rt (s_ret ?_))))
  simp [evE, evEs, evI, evC, evT, evS, evSs, evS.outR', R.bind, get1, get2, res, Pl.get, Pl.frz, binD, cmpD, truD, idxD, slcD, revD, bltD, mthD, isiD, tyD, bo, shD, tru, getL, frzL, asgT, asgTs, setSl, putSl, itemsD, frzI, outR, asInt, isOw, D.isNon, tl]
end Law

namespace Law
open PySem PySem.Spec L2 Mi
theorem loopF_inv {step : D → Rho → R Fl} (Pv : Nat → Rho → Prop) : ∀ (xs : List D) (o : Nat) (ρ : Rho), (∀ (i : Nat) (x : D) (ρ : Rho), xs[i]? = some x → Pv (o + i) ρ → ∃ ρ', step x ρ = .ok .nx ρ' ∧ Pv (o + i + 1) ρ') → Pv o ρ → ∃ ρ', loopF step xs ρ = .ok .nx ρ' ∧ Pv (o + xs.length) ρ'
  | [], o, ρ, _, hp => ⟨ρ, by simp only [loopF], hp⟩
  | x :: xs, o, ρ, h, hp => by
    obtain ⟨ρ1, h1, h2⟩ := h 0 x ρ rfl hp
    obtain ⟨ρ2, h3, h4⟩ := loopF_inv Pv xs (o + 1) ρ1 (fun i y ρ hy hq => by
      have q := h (i + 1) y ρ (by simpa using hy) (by rw [show o + (i + 1) = o + 1 + i by omega]; exact hq)
      rw [show o + (i + 1) = o + 1 + i by omega] at q
      exact q) h2
    refine ⟨ρ2, by simp only [loopF, h1, R.bind]; exact h3, ?_⟩
    rw [List.length_cons, show o + (xs.length + 1) = o + 1 + xs.length by omega]
    exact h4
theorem s_fors {g : G} {t : T} {it : I} {b : Ss} {ρ ρ1 ρ2 : Rho} {xs : List D} (h1 : evI g it ρ = .ok xs ρ1) (h2 : loopF (fun x r => match asgT t x r with | some r1 => evSs g b r1 | none => .bad) xs ρ1 = .ok .nx ρ2) : evS g (.fors t it b) ρ = .ok .nx ρ2 := by
  simp only [evS, h1, R.bind]
  exact h2
theorem e_call1 {g : G} {f : Nat} {a : E} {d r : D} {ρ : Rho} {own : Bool} (h : evE g a ρ = .ok (.sh d) ρ) (hm : g.md f = [false]) (hC : g.C f [d] = .ok own r [.non]) : evE g (.call f (.cons a .nil)) ρ = .ok (if own then .ow r else .sh r) ρ := by
  have e1 : evEs g (.cons a .nil) ρ = .ok [.sh d] ρ := by simp only [evEs, h, R.bind]
  have e2 : evE g (.call f (.cons a .nil)) ρ = (evEs g (.cons a .nil) ρ).bind fun ps ρ1 => callR g f ps ρ1 := by simp only [evE]
  rw [e2, e1]
  show callR g f [.sh d] ρ = _
  unfold callR
  rw [hm]
  simp only [argF, Pl.frz, ios, List.nodup_nil, List.all_nil, and_self, if_true, getL, Pl.get, Option.bind_some, Option.map_some, hC, outs]
  cases own <;> rfl
theorem e_slH {g : G} {a b : E} {w : List Nat} {k : Nat} {ρ : Rho} (h1 : evE g a ρ = .ok (.sh (.str w)) ρ) (h2 : evE g b ρ = .ok (.sh (.int (k : Int))) ρ) : evE g (.slH a b) ρ = .ok (.sh (.str (w.take k))) ρ := by
  have q := cut_hi w k
  simp only [evE, h1, h2, R.bind, asInt, Pl.get, get1, Option.bind_some, slcD, res, q]
theorem e_slL {g : G} {a b : E} {w : List Nat} {k : Nat} {ρ : Rho} (h1 : evE g a ρ = .ok (.sh (.str w)) ρ) (h2 : evE g b ρ = .ok (.sh (.int (k : Int))) ρ) : evE g (.slL a b) ρ = .ok (.sh (.str (w.drop k))) ρ := by
  have q := cut_lo w k
  simp only [evE, h1, h2, R.bind, asInt, Pl.get, get1, Option.bind_some, slcD, res, q]
theorem flats_strs : ∀ ws : List (List Nat), flats (ws.map D.str) = true
  | [] => by simp [flats]
  | w :: r => by simp only [List.map_cons, flats, D.flat, flats_strs r, Bool.and_self]
theorem eq_tup (ws : List (List Nat)) : cmpD .eq (.tup (ws.map D.str)) (.tup []) = some ws.isEmpty := by
  have h2 : min (D.tup (ws.map D.str)).depth (D.tup []).depth ≤ 100 := by
    have : (D.tup []).depth = 1 := by simp [D.depth, depths]
    omega
  have h3 : (D.tup (ws.map D.str)).flat = true := by simp only [D.flat, flats_strs]
  have h4 : (D.tup []).flat = true := by simp [D.flat, flats]
  simp only [cmpD, h2, h3, h4, Bool.and_self, decide_true, if_true]
  cases ws <;> simp [eqD, eqDs]
theorem rng1_ok (n : Nat) (h : n ≤ 1000) : rng2D (some (.int 1)) (some (.int ((n : Int) + 1))) = some (rngD 1 n) := by
  have q := rng2_ok (n + 1) (by omega)
  rw [Nat.add_sub_cancel] at q
  rw [← q]
  rfl
theorem facts (w : List Nat) (h : w.length ≤ 60) : ∃ ls, ls.flatten = w ∧ Wd.Parts ls := by
  obtain ⟨ls, _, h1, h2⟩ := parts_run (gk 0) w (Nat.lt_of_le_of_lt (Nat.succ_le_succ h) (by decide)) (by omega)
  exact ⟨ls, h1, h2⟩

/-! ### all ways -/
def cW : E := .or (.cmp .eq (.var 3) (.tup .nil)) (.not (.cmp .lt (.slH (.var 0) (.var 2)) (.idx (.var 3) (.con (.int 0)))))
def eW : E := .bin .add (.tup (.cons (.slH (.var 0) (.var 2)) .nil)) (.var 3)
def compW : E := .comp [3] (.nm 3) (.of (.call 6 (.cons (.slL (.var 0) (.var 2)) .nil))) (.cons cW .nil) eW
def bW : Ss := .cons (.ifs (.call 5 (.cons (.slH (.var 0) (.var 2)) .nil)) (.cons (.asg (.nm 1) (.bin .add (.var 1) compW)) .nil) .nil) .nil
def wS (w : List Nat) (acc : List D) (s2 : Sl) : Rho := [.sh (.str w), .ow false (.lst acc), s2, .un]
def okHead (p : List Nat) (ls : List (List Nat)) : Bool := match ls with
  | [] => true
  | l :: _ => !decide (p < l)
theorem compW_ok (g : G) (w : List Nat) (acc : List D) (s : Nat) (ls : List (List Nat)) (hm : g.md 6 = [false]) (hC : g.C 6 [.str (w.drop s)] = .ok true (.lst [.tup (ls.map D.str)]) [.non]) (hl : ls.length ≤ 1000) :
    evE g compW (wS w acc (.sh (.int (s : Int)))) = .ok (.ow (.lst (if okHead (w.take s) ls then [.tup ((w.take s :: ls).map D.str)] else []))) (wS w acc (.sh (.int (s : Int)))) := by
  have hi : evI g (.of (.call 6 (.cons (.slL (.var 0) (.var 2)) .nil))) (wS w acc (.sh (.int (s : Int)))) = .ok [.tup (ls.map D.str)] (wS w acc (.sh (.int (s : Int)))) := by
    have q := e_call1 (g := g) (f := 6) (a := .slL (.var 0) (.var 2)) (ρ := wS w acc (.sh (.int (s : Int)))) (e_slL (e_var rfl) (e_var rfl)) hm hC
    have e2 : evI g (.of (.call 6 (.cons (.slL (.var 0) (.var 2)) .nil))) (wS w acc (.sh (.int (s : Int)))) = (evE g (.call 6 (.cons (.slL (.var 0) (.var 2)) .nil)) (wS w acc (.sh (.int (s : Int))))).bind fun p ρ1 => frzI itemsD p ρ1 := by simp only [evI]
    rw [e2, q]
    rfl
  have q := compL_pure (own := [3]) (asg := asgT (.nm 3)) (c := fun r => evC g (.cons cW .nil) r) (e := fun r => evE g eW r) (ρ0 := wS w acc (.sh (.int (s : Int)))) (fun _ => if okHead (w.take s) ls then some (.tup ((w.take s :: ls).map D.str)) else none) [.tup (ls.map D.str)] [] (fun x hx => ?_)
  · have e3 := evE_comp (g := g) (own := [3]) (t := .nm 3) (it := .of (.call 6 (.cons (.slL (.var 0) (.var 2)) .nil))) (c := .cons cW .nil) (e := eW) hi rfl rfl (by show 1 ≤ big; decide) q
    refine e3.trans ?_
    cases okHead (w.take s) ls <;> rfl
  · have ex : x = .tup (ls.map D.str) := by simpa using hx
    subst ex
    refine ⟨[.sh (.str w), .ow false (.lst acc), .sh (.int (s : Int)), .sh (.tup (ls.map D.str))], rfl, rfl, rfl, ?_⟩
    have hp : ∀ ρ, ρ = [.sh (.str w), .ow false (.lst acc), .sh (.int (s : Int)), .sh (.tup (ls.map D.str))] → evE g (.slH (.var 0) (.var 2)) ρ = .ok (.sh (.str (w.take s))) ρ := fun ρ e => by subst e; exact e_slH (e_var rfl) (e_var rfl)
    have hc : evT g cW [.sh (.str w), .ow false (.lst acc), .sh (.int (s : Int)), .sh (.tup (ls.map D.str))] = .ok (okHead (w.take s) ls) [.sh (.str w), .ow false (.lst acc), .sh (.int (s : Int)), .sh (.tup (ls.map D.str))] := by
      have e1 : evE g (.cmp .eq (.var 3) (.tup .nil)) [.sh (.str w), .ow false (.lst acc), .sh (.int (s : Int)), .sh (.tup (ls.map D.str))] = .ok (.sh (.bl ls.isEmpty)) [.sh (.str w), .ow false (.lst acc), .sh (.int (s : Int)), .sh (.tup (ls.map D.str))] :=
        e_cmp0 (p := .sh (.tup (ls.map D.str))) (q := .sh (.tup [])) (e_var rfl) (by simp [evE, evEs, R.bind, frzL]) rfl rfl (eq_tup ls)
      cases ls with
      | nil => exact t_orT (t_of e1 rfl rfl)
      | cons l r =>
        refine (t_orF (t_of e1 rfl rfl)).trans ?_
        have e2 : evE g (.cmp .lt (.slH (.var 0) (.var 2)) (.idx (.var 3) (.con (.int 0)))) [.sh (.str w), .ow false (.lst acc), .sh (.int (s : Int)), .sh (.tup ((l :: r).map D.str))] = .ok (.sh (.bl (decide (w.take s < l)))) [.sh (.str w), .ow false (.lst acc), .sh (.int (s : Int)), .sh (.tup ((l :: r).map D.str))] :=
          e_cmp0 (p := .sh (.str (w.take s))) (q := .sh (.str l)) (hp _ rfl) (e_idx (x := .tup ((l :: r).map D.str)) (y := .int 0) (e_var rfl) e_con rfl rfl (by simp only [idxD]; exact atI_nat (j := 0) rfl)) rfl rfl rfl
        exact t_not (t_of e2 rfl rfl)
    have hcc : evC g (.cons cW .nil) [.sh (.str w), .ow false (.lst acc), .sh (.int (s : Int)), .sh (.tup (ls.map D.str))] = .ok (okHead (w.take s) ls) [.sh (.str w), .ow false (.lst acc), .sh (.int (s : Int)), .sh (.tup (ls.map D.str))] := by
      have e0 : evC g (.cons cW .nil) [.sh (.str w), .ow false (.lst acc), .sh (.int (s : Int)), .sh (.tup (ls.map D.str))] = evT g cW [.sh (.str w), .ow false (.lst acc), .sh (.int (s : Int)), .sh (.tup (ls.map D.str))] := by simp only [evC, evT]
      rw [e0]; exact hc
    cases hk : okHead (w.take s) ls with
    | false => exact .inl ⟨by rw [hk] at hcc; exact hcc, by simp⟩
    | true =>
      refine .inr ⟨by rw [hk] at hcc; exact hcc, .sh (.tup ((w.take s :: ls).map D.str)), _, ?_, rfl, by simp⟩
      refine e_bin (x := .tup [.str (w.take s)]) (y := .tup (ls.map D.str)) (p := .sh (.tup [.str (w.take s)])) ?_ (e_var rfl) rfl rfl ?_
      · have z := hp _ rfl
        have z2 : evEs g (.cons (.slH (.var 0) (.var 2)) .nil) [.sh (.str w), .ow false (.lst acc), .sh (.int (s : Int)), .sh (.tup (ls.map D.str))] = .ok [.sh (.str (w.take s))] [.sh (.str w), .ow false (.lst acc), .sh (.int (s : Int)), .sh (.tup (ls.map D.str))] := by simp only [evEs, z, R.bind]
        simp only [evE, z2, R.bind, frzL, Pl.frz]
      · have hb : [D.str (w.take s)].length + (ls.map D.str).length ≤ big := by
          rw [List.length_map, List.length_singleton]
          exact big_ge (by omega)
        simp only [binD, hb, if_true]
        rfl
end Law

namespace Law
open PySem PySem.Spec L2 Mi
theorem ss_nil {g : G} {ρ : Rho} : evSs g .nil ρ = .ok .nx ρ := by simp only [evSs]
theorem parts_len : ∀ {ls : List (List Nat)}, Wd.Parts ls → ls.length ≤ ls.flatten.length
  | [], _ => by simp
  | l :: ls, h => by
    have q := parts_len (ls := ls) ⟨fun x hx => h.1 x (List.mem_cons_of_mem _ hx), (List.pairwise_cons.mp h.2).2⟩
    have n := (h.1 l List.mem_cons_self).1
    have : 0 < l.length := List.length_pos_iff.mpr n
    rw [List.flatten_cons, List.length_append, List.length_cons]
    omega
/-- a part ahead of the rest's parts -/
theorem parts_cons {p : List Nat} {ls : List (List Nat)} (hp : Wd.Lyn p) (h : Wd.Parts ls) (hk : okHead p ls = true) : Wd.Parts (p :: ls) := by
  refine ⟨fun x hx => ?_, List.pairwise_cons.mpr ⟨fun y hy => ?_, h.2⟩⟩
  · rcases List.mem_cons.mp hx with z | z
    · rw [z]; exact hp
    · exact h.1 x z
  · cases ls with
    | nil => simp at hy
    | cons l r =>
      have k : ¬ p < l := by simpa [okHead] using hk
      rcases List.mem_cons.mp hy with z | z
      · rw [z]; exact k
      · have q := (List.pairwise_cons.mp h.2).1 y z
        intro hlt
        rcases Wd.tri p l with a | a | a
        · exact k a
        · rw [a] at hlt; exact q hlt
        · exact q (List.lt_trans a hlt)
theorem head_ok {p : List Nat} {ls : List (List Nat)} (h : Wd.Parts (p :: ls)) : okHead p ls = true := by
  cases ls with
  | nil => rfl
  | cons l r =>
    have q := (List.pairwise_cons.mp h.2).1 l List.mem_cons_self
    simp [okHead, q]
theorem gk_C {k i : Nat} {d : Df} (h : Γ[i]? = some d) (ds : List D) : (gk (k + 1)).C i ds = runD (gk k) d ds := by
  show Mi.call Γ fuel (k + 1) i ds = _
  simp only [Mi.call, h]
  rfl
theorem ways_turn (k : Nat) (w : List Nat) (hw : w.length ≤ 60) (fs : List (List Nat)) (l1 : List Nat) (hf : Wd.Parts (l1 :: fs)) (he : (l1 :: fs).flatten = w)
    (ih : ∀ s, 0 < s → s ≤ w.length → ∃ ls, (gk (k + 1)).C 6 [.str (w.drop s)] = .ok true (.lst [.tup (ls.map D.str)]) [.non] ∧ ls.flatten = w.drop s ∧ Wd.Parts ls)
    (i : Nat) (hi : i < w.length) (acc : List D) (s2 : Sl) (hs2 : ∀ d, s2 ≠ .ow true d) (ha : acc.length ≤ 1000) :
    ∃ ρ', (match asgT (.nm 2) (.int ((i + 1 : Nat) : Int)) (wS w acc s2) with | some r1 => evSs (gk (k + 1)) bW r1 | none => .bad) = .ok .nx ρ' ∧ ρ' = wS w (acc ++ if i + 1 = l1.length then [.tup ((l1 :: fs).map D.str)] else []) (.sh (.int ((i + 1 : Nat) : Int))) := by
  rw [asg_ok (s := s2) rfl hs2]
  have e0 : (wS w acc s2).set 2 (.sh (.int ((i + 1 : Nat) : Int))) = wS w acc (.sh (.int ((i + 1 : Nat) : Int))) := rfl
  rw [e0]
  show ∃ ρ', evSs (gk (k + 1)) bW (wS w acc (.sh (.int ((i + 1 : Nat) : Int)))) = .ok .nx ρ' ∧ _
  obtain ⟨b, hb, hbr⟩ := lead_run (gk k) (w.take (i + 1)) (by rw [List.length_take]; omega)
  have hc : evE (gk (k + 1)) (.call 5 (.cons (.slH (.var 0) (.var 2)) .nil)) (wS w acc (.sh (.int ((i + 1 : Nat) : Int)))) = .ok (.sh (.bl b)) (wS w acc (.sh (.int ((i + 1 : Nat) : Int)))) :=
    e_call1 (own := false) (e_slH (e_var rfl) (e_var rfl)) rfl ((gk_C rfl _).trans hb)
  obtain ⟨ls, h1, h2, h3⟩ := ih (i + 1) (by omega) (by omega)
  have hl1 : l1 = w.take l1.length := by rw [← he, List.flatten_cons, List.take_left]
  have hrest : fs.flatten = w.drop l1.length := by rw [← he, List.flatten_cons, List.drop_left]
  have hfs : Wd.Parts fs := ⟨fun x hx => hf.1 x (List.mem_cons_of_mem _ hx), (List.pairwise_cons.mp hf.2).2⟩
  cases b with
  | false =>
    have ne : i + 1 ≠ l1.length := fun z => by
      have q : Wd.Rot (w.take (i + 1)) := by rw [z, ← hl1]; exact (hf.1 l1 List.mem_cons_self).rot
      have := hbr.mpr q
      cases this
    refine ⟨_, ?_, rfl⟩
    rw [if_neg ne, List.append_nil]
    exact (ss_nx ((s_ifF (t_of hc rfl rfl)).trans ss_nil)).trans ss_nil
  | true =>
    have hlyn : Wd.Lyn (w.take (i + 1)) := (hbr.mp rfl).lyn
    have hcw := compW_ok (gk (k + 1)) w acc (i + 1) ls rfl h1 (by have := parts_len h3; rw [h2, List.length_drop] at this; omega)
    have hkey : (if okHead (w.take (i + 1)) ls then [D.tup ((w.take (i + 1) :: ls).map D.str)] else []) = (if i + 1 = l1.length then [D.tup ((l1 :: fs).map D.str)] else []) := by
      cases hk : okHead (w.take (i + 1)) ls with
      | true =>
        have P := parts_cons hlyn h3 hk
        have e := Wd.uniq P hf (by rw [List.flatten_cons, h2, List.take_append_drop, he])
        have e2 : i + 1 = l1.length := by
          have q := congrArg (fun z => (z.headD []).length) e
          simp at q
          omega
        rw [if_pos rfl, if_pos e2, e]
      | false =>
        have ne : i + 1 ≠ l1.length := fun z => by
          have e3 : fs = ls := Wd.uniq hfs h3 (by rw [hrest, h2, z])
          rw [z, ← hl1, ← e3, head_ok hf] at hk
          cases hk
        rw [if_neg ne]
        rfl
    rw [hkey] at hcw
    refine ⟨_, ?_, rfl⟩
    have ha2 : evS (gk (k + 1)) (.asg (.nm 1) (.bin .add (.var 1) compW)) (wS w acc (.sh (.int ((i + 1 : Nat) : Int)))) = .ok .nx (wS w (acc ++ if i + 1 = l1.length then [.tup ((l1 :: fs).map D.str)] else []) (.sh (.int ((i + 1 : Nat) : Int)))) := by
      refine s_asg (p := .ow (.lst (acc ++ if i + 1 = l1.length then [.tup ((l1 :: fs).map D.str)] else []))) (ρ1 := wS w acc (.sh (.int ((i + 1 : Nat) : Int)))) (e_binO (x := .lst acc) (p := .at 1) (e_at rfl) hcw rfl rfl ?_) rfl
      have hb : acc.length + (if i + 1 = l1.length then [D.tup ((l1 :: fs).map D.str)] else []).length ≤ big := by
        refine big_ge ?_
        split
        · simp; omega
        · simp; omega
      simp only [binD, hb, if_true]
    exact (ss_nx ((s_ifT (t_of hc rfl rfl)).trans ((ss_nx ha2).trans ss_nil))).trans ss_nil
theorem ways_run : ∀ (n k : Nat) (w : List Nat), w.length ≤ n → n + 1 ≤ k → w.length ≤ 60 → ∃ ls, runD (gk k) d6 [.str w] = .ok true (.lst [.tup (ls.map D.str)]) [.non] ∧ ls.flatten = w ∧ Wd.Parts ls := by
  intro n
  induction n with
  | zero =>
    intro k w h _ _
    have e : w = [] := List.eq_nil_of_length_eq_zero (by omega)
    subst e
    refine ⟨[], (run_rt (p := .ow (.lst [.tup []])) (ρ := [.sh (.str []), .un, .un, .un]) ⟨rfl, by decide⟩ ?_).trans rfl, rfl, ⟨fun l h => by simp at h, List.Pairwise.nil⟩⟩
    refine ss_rt ((s_ifT (t_of (e_cmp0 (x := .str []) (y := .str []) (p := .sh (.str [])) (q := .sh (.str [])) (e_var rfl) e_con rfl rfl (eq_str [] [])) rfl rfl)).trans (ss_rt (s_ret ?_)))
    simp [evE, evEs, R.bind, frzL, Pl.frz]
    rfl
  | succ n ihn =>
    intro k w h hk h60
    by_cases hw : w = []
    · exact ihn k w (by rw [hw]; simp) (by omega) h60
    · obtain ⟨k, rfl⟩ : ∃ k', k = k' + 1 := ⟨k - 1, by omega⟩
      obtain ⟨ls, he, hf⟩ := facts w h60
      cases ls with
      | nil => exact absurd he.symm hw
      | cons l1 fs =>
        have ih : ∀ s, 0 < s → s ≤ w.length → ∃ ls, (gk (k + 1)).C 6 [.str (w.drop s)] = .ok true (.lst [.tup (ls.map D.str)]) [.non] ∧ ls.flatten = w.drop s ∧ Wd.Parts ls := fun s h0 hs => by
          obtain ⟨ls, q1, q2, q3⟩ := ihn k (w.drop s) (by rw [List.length_drop]; omega) (by omega) (by rw [List.length_drop]; omega)
          exact ⟨ls, (gk_C rfl _).trans q1, q2, q3⟩
        have hl0 : 0 < l1.length := List.length_pos_iff.mpr (hf.1 l1 List.mem_cons_self).1
        have hl1 : l1.length ≤ w.length := by rw [← he, List.flatten_cons, List.length_append]; omega
        have hloop := loopF_inv (step := fun x r => match asgT (.nm 2) x r with | some r1 => evSs (gk (k + 1)) bW r1 | none => .bad) (fun i ρ => ∃ s2, (∀ d, s2 ≠ .ow true d) ∧ ρ = wS w (if l1.length ≤ i then [.tup ((l1 :: fs).map D.str)] else []) s2) (rngD 1 w.length) 0 (wS w [] .un) (fun i x ρ hx hp => ?_) ⟨.un, fun d z => (by cases z), by rw [if_neg (by omega)]⟩
        · obtain ⟨ρ', q, s2, hs2, rfl⟩ := hloop
          rw [rng_len, Nat.zero_add, if_pos hl1] at q
          refine ⟨l1 :: fs, (run_rt (p := .at 1) (ρ := wS w [.tup ((l1 :: fs).map D.str)] s2) ⟨rfl, by decide⟩ ?_).trans rfl, he, hf⟩
          have a1 : evS (gk (k + 1)) (.ifs (.cmp .eq (.var 0) (.con (.str []))) (.cons (.ret (.lst (.cons (.tup .nil) .nil))) .nil) .nil) [.sh (.str w), .un, .un, .un] = .ok .nx [.sh (.str w), .un, .un, .un] := by
            refine (s_ifF (t_of (e_cmp0 (x := .str w) (y := .str []) (p := .sh (.str w)) (q := .sh (.str [])) (e_var rfl) e_con rfl rfl (eq_str w [])) rfl ?_)).trans ss_nil
            simp [truD, hw]
          have a2 : evS (gk (k + 1)) (.asg (.nm 1) (.lst .nil)) [.sh (.str w), .un, .un, .un] = .ok .nx (wS w [] .un) := s_asg (p := .ow (.lst [])) (ρ1 := [.sh (.str w), .un, .un, .un]) (by simp [evE, evEs, R.bind, frzL]) rfl
          have hi : evI (gk (k + 1)) (.rng2 (.con (.int 1)) (.bin .add (.blt .len (.cons (.var 0) .nil)) (.con (.int 1)))) (wS w [] .un) = .ok (rngD 1 w.length) (wS w [] .un) :=
            i_rng2 (p := .sh (.int 1)) e_con (e_bin (e_len rfl) e_con rfl rfl rfl) rfl rfl (rng1_ok w.length (by omega))
          exact (ss_nx a1).trans ((ss_nx a2).trans ((ss_nx (s_fors hi q)).trans (ss_rt (s_ret (e_at rfl)))))
        · obtain ⟨s2, hs2, rfl⟩ := hp
          have hi : i < w.length := by
            have := (List.getElem?_eq_some_iff.mp hx).1
            rw [rng_len] at this
            exact this
          rw [rng_get hi] at hx
          have ex : x = .int ((i + 1 : Nat) : Int) := by
            have := Option.some.inj hx
            rw [← this]
            congr 1
            omega
          subst ex
          obtain ⟨ρ', q1, q2⟩ := ways_turn k w h60 fs l1 hf he ih i hi (if l1.length ≤ 0 + i then [.tup ((l1 :: fs).map D.str)] else []) s2 hs2 (by split <;> simp)
          refine ⟨ρ', q1, .sh (.int ((i + 1 : Nat) : Int)), fun d z => (by cases z), ?_⟩
          rw [q2]
          congr 1
          rw [Nat.zero_add]
          by_cases c1 : l1.length ≤ i
          · rw [if_pos c1, if_neg (by omega), if_pos (by omega), List.append_nil]
          · rw [if_neg c1]
            by_cases c2 : i + 1 = l1.length
            · rw [if_pos c2, if_pos (by omega)]; rfl
            · rw [if_neg c2, if_neg (by omega)]; rfl
end Law

namespace Law
open PySem PySem.Spec L2 Mi
theorem mem_rot (p : List Nat) (k : Nat) (hk : k ≤ p.length) : cmpD .mem (.str (p.drop k ++ p.take k)) (.str (p ++ p)) = some true := by
  simp only [cmpD, Option.some.injEq]
  have e : (p ++ p).length = (⟨(p ++ p).toArray⟩ : Str).length := by rw [str_len]
  rw [e]
  rw [PySem.StrLaws.found_iff]
  refine ⟨k, ?_, ?_⟩
  · rw [str_len, str_len]
    simp
    omega
  · rw [PySem.StrLaws.subAt_eq, str_len]
    simp only [beq_iff_eq]
    have h1 : (p ++ p).drop k = p.drop k ++ p := List.drop_append_of_le_length hk
    have h2 : (p.drop k ++ p.take k).length = p.length := by simp; omega
    rw [h2, h1, List.take_append]
    rw [List.take_of_length_le (by simp)]
    congr 2
    simp
    omega
theorem turned_run (g : G) (p : List Nat) (k : Nat) (hk : k ≤ p.length) (hp : p.length ≤ 1000) : runD g d0 [.str p, .str (p.drop k ++ p.take k)] = .ok false (.bl true) [.non, .non] := by
  refine (run_rt (p := .sh (.bl true)) (ρ := [.sh (.str p), .sh (.str (p.drop k ++ p.take k))]) ⟨rfl, by decide⟩ (ss_rt (s_ret ?_))).trans rfl
  have hl : (p.drop k ++ p.take k).length = p.length := by simp; omega
  have h1 : evE g (.cmp .eq (.blt .len (.cons (.var 0) .nil)) (.blt .len (.cons (.var 1) .nil))) [.sh (.str p), .sh (.str (p.drop k ++ p.take k))] = .ok (.sh (.bl true)) [.sh (.str p), .sh (.str (p.drop k ++ p.take k))] := by
    refine e_cmp0 (e_len rfl) (e_len rfl) rfl rfl ?_
    rw [hl]
    simp [cmpD, D.flat, D.depth, eqD]
  have hb : p.length + p.length ≤ big := big_ge (by omega)
  refine (e_andT h1 rfl rfl).trans (e_cmp0 (p := .sh (.str (p.drop k ++ p.take k))) (e_var rfl) (e_bin (x := .str p) (y := .str p) (d := .str (p ++ p)) (e_var rfl) (e_var rfl) rfl rfl ?_) rfl rfl (mem_rot p k hk))
  simp only [binD, hb, if_true]

theorem e_join {g : G} {a b : E} {m : Mth} {p q : Pl} {ρ ρ1 ρ2 : Rho} {s : List Nat} {y d : D} (h1 : evE g a ρ = .ok p ρ1) (h2 : p.get ρ1 = some (.str s)) (h3 : evE g b ρ1 = .ok q ρ2) (h4 : q.get ρ2 = some y) (h5 : mthD m (.str s) y = some (false, d)) : evE g (.mth m a b) ρ = .ok (.sh d) ρ2 := by
  simp only [evE, h1, R.bind, h2, h3, get1, h4, Option.bind_some, h5, res]
/-! ### drawing -/
theorem e_draw (k : Nat) {cs : List Int} (hcs : cs ≠ []) {b : E} {ρ ρ' : Rho} {z : Int} {D0 Dr : D} (h1 : ρ[1]? = some (.ow false D0)) (h2 : evE (gk (k + 2)) b ρ = .ok (.sh (.int z)) ρ') (h3 : ρ'[1]? = some (.ow false Dr)) (hd : Drw cs Dr) (hz : 0 < z) (hz2 : z < 1073741824) :
    ∃ (r : Int) (Dn : D), 0 ≤ r ∧ r < z ∧ Drw cs Dn ∧ evE (gk (k + 2)) (.call 4 (.cons (.var 1) (.cons b .nil))) ρ = .ok (.sh (.int r)) (ρ'.set 1 (.ow false Dn)) := by
  obtain ⟨r, Dn, q1, q2, q3, q4⟩ := draw_ok (gk (k + 1)) 3 rfl (fun c t => by
    obtain ⟨r, hr⟩ := mixed_ok (gk k) c t
    exact ⟨r, (gk_C rfl _).trans hr⟩) hcs hd hz hz2
  have hC : (gk (k + 2)).C 4 [Dr, .int z] = .ok false (.int r) [Dn, .non] := (gk_C rfl _).trans q4
  refine ⟨r, Dn, q1, q2, q3, ?_⟩
  have e1 : evEs (gk (k + 2)) (.cons (.var 1) (.cons b .nil)) ρ = .ok [.at 1, .sh (.int z)] ρ' := by
    simp only [evEs, evE, h1, R.bind, h2]
  have e2 : evE (gk (k + 2)) (.call 4 (.cons (.var 1) (.cons b .nil))) ρ = (evEs (gk (k + 2)) (.cons (.var 1) (.cons b .nil)) ρ).bind fun ps ρ1 => callR (gk (k + 2)) 4 ps ρ1 := by simp only [evE]
  rw [e2, e1]
  show callR (gk (k + 2)) 4 [.at 1, .sh (.int z)] ρ' = _
  have hm : (gk (k + 2)).md 4 = [true, false] := rfl
  have ho : isOw ρ' 1 = true := by unfold isOw; rw [h3]
  have hs : setD ρ' 1 Dn = ρ'.set 1 (.ow false Dn) := by unfold setD; rw [h3]
  unfold callR
  rw [hm]
  simp [argF, Pl.frz, ios, ho, getL, Pl.get, h3, hC, outs, hs]
theorem compL_inv {own : List Nat} {asg : D → Rho → Option Rho} {c : Rho → R Bool} {e : Rho → R Pl} (Pv : Rho → Prop) (Gd : D → Prop) (h : ∀ x ρ, Pv ρ → ∃ ρ1 p ρ3 d ρ4, asg x ρ = some ρ1 ∧ c ρ1 = .ok true ρ1 ∧ e ρ1 = .ok p ρ3 ∧ p.frz ρ3 = some (d, ρ4) ∧ okW own ρ4 = true ∧ Pv (wipeR ρ4 own) ∧ Gd d) :
    ∀ (xs acc : List D) (ρ : Rho), Pv ρ → ∃ ds ρ', compL own asg c e xs acc ρ = .ok (acc ++ ds) ρ' ∧ ds.length = xs.length ∧ (∀ d ∈ ds, Gd d) ∧ Pv ρ'
  | [], acc, ρ, hp => ⟨[], ρ, by simp [compL], rfl, fun d hd => by simp at hd, hp⟩
  | x :: xs, acc, ρ, hp => by
    obtain ⟨ρ1, p, ρ3, d, ρ4, h1, h2, h3, h4, h5, h6, h7⟩ := h x ρ hp
    obtain ⟨ds, ρ', q1, q2, q3, q4⟩ := compL_inv Pv Gd h xs (acc ++ [d]) (wipeR ρ4 own) h6
    refine ⟨d :: ds, ρ', ?_, by simp [q2], fun y hy => ?_, q4⟩
    · simp only [compL, h1, h2, R.bind, h3, h4, h5, if_true, q1, List.append_assoc, List.singleton_append]
    · rcases List.mem_cons.mp hy with z | z
      · rw [z]; exact h7
      · exact q3 y z
theorem join_nil : ∀ ws : List (List Nat), TL.joinL [] ws = ws.flatten
  | [] => by simp [TL.joinL]
  | [p] => by simp [TL.joinL]
  | p :: q :: r => by
    have ih := join_nil (q :: r)
    simp only [TL.joinL, List.nil_append, ih, List.flatten_cons]
theorem strs_map : ∀ ws : List (List Nat), Mi.strs? (ws.map D.str) = some ws
  | [] => rfl
  | w :: r => by simp only [List.map_cons, Mi.strs?, strs_map r, Option.map_some]
theorem rng1z_ok (n : Nat) (h : n ≤ 1000) : rng1D (some (.int (n : Int))) = some (rngD 0 n) := by
  have h2 : smallI (n : Int) = true := by
    unfold smallI
    simp only [Bool.and_eq_true, decide_eq_true_eq]
    omega
  simp only [rng1D, h2, if_true]
  rfl
def eWd : E := .idx (.con (.str [97, 98, 99])) (.call 4 (.cons (.var 1) (.cons (.idx (.lst (.cons (.con (.int 2)) (.cons (.con (.int 3)) .nil))) (.call 4 (.cons (.var 1) (.cons (.con (.int 2)) .nil)))) .nil)))
def compWd : E := .comp [5] (.nm 5) (.rng1 (.call 4 (.cons (.var 1) (.cons (.con (.int 9)) .nil)))) .nil eWd
theorem letter (k : Nat) {cs : List Int} (hcs : cs ≠ []) {Dr S : D} (hd : Drw cs Dr) (s5 : Sl) : ∃ (c : Nat) (Dn : D), Drw cs Dn ∧ evE (gk (k + 2)) eWd [.sh S, .ow false Dr, .un, .un, .un, s5, .un] = .ok (.sh (.str [c])) [.sh S, .ow false Dn, .un, .un, .un, s5, .un] := by
  obtain ⟨r1, D1, a1, a2, a3, a4⟩ := e_draw k hcs (b := .con (.int 2)) (ρ := [.sh S, .ow false Dr, .un, .un, .un, s5, .un]) (ρ' := [.sh S, .ow false Dr, .un, .un, .un, s5, .un]) (z := 2) rfl e_con rfl hd (by decide) (by decide)
  have hl : evE (gk (k + 2)) (.lst (.cons (.con (.int 2)) (.cons (.con (.int 3)) .nil))) [.sh S, .ow false Dr, .un, .un, .un, s5, .un] = .ok (.ow (.lst [.int 2, .int 3])) [.sh S, .ow false Dr, .un, .un, .un, s5, .un] := by simp [evE, evEs, R.bind, frzL, Pl.frz]
  obtain ⟨z, hz, hz1, hz2⟩ : ∃ z : Int, idxD (.lst [.int 2, .int 3]) (.int r1) = some (.int z) ∧ 0 < z ∧ z ≤ 3 := by
    rcases (by omega : r1 = 0 ∨ r1 = 1) with e | e
    · subst e; exact ⟨2, rfl, by decide, by decide⟩
    · subst e; exact ⟨3, rfl, by decide, by decide⟩
  have hi := e_idx (g := gk (k + 2)) hl a4 rfl rfl hz
  obtain ⟨r2, D2, b1, b2', b3', b4⟩ := e_draw k hcs (D0 := Dr) (Dr := D1) rfl hi rfl a3 hz1 (by omega)
  obtain ⟨c, hc⟩ : ∃ c : Nat, idxD (.str [97, 98, 99]) (.int r2) = some (.str [c]) := by
    rcases (by omega : r2 = 0 ∨ r2 = 1 ∨ r2 = 2) with e | e | e
    · subst e; exact ⟨97, rfl⟩
    · subst e; exact ⟨98, rfl⟩
    · subst e; exact ⟨99, rfl⟩
  exact ⟨c, D2, b3', e_idx (e_con (ρ := [.sh S, .ow false Dr, .un, .un, .un, s5, .un])) b4 rfl rfl hc⟩
theorem word_ok (k : Nat) {cs : List Int} (hcs : cs ≠ []) {Dr S : D} (hd : Drw cs Dr) : ∃ (w : List Nat) (Dn : D), w.length ≤ 8 ∧ evE (gk (k + 2)) (.mth .join (.con (.str [])) compWd) [.sh S, .ow false Dr, .un, .un, .un, .un, .un] = .ok (.sh (.str w)) [.sh S, .ow false Dn, .un, .un, .un, .un, .un] := by
  obtain ⟨r1, D1, a1, a2, a3, a4⟩ := e_draw k hcs (b := .con (.int 9)) (ρ := [.sh S, .ow false Dr, .un, .un, .un, .un, .un]) (ρ' := [.sh S, .ow false Dr, .un, .un, .un, .un, .un]) (z := 9) rfl e_con rfl hd (by decide) (by decide)
  obtain ⟨n, rfl⟩ : ∃ n : Nat, r1 = (n : Int) := ⟨r1.toNat, by omega⟩
  have hi : evI (gk (k + 2)) (.rng1 (.call 4 (.cons (.var 1) (.cons (.con (.int 9)) .nil)))) [.sh S, .ow false Dr, .un, .un, .un, .un, .un] = .ok (rngD 0 n) [.sh S, .ow false D1, .un, .un, .un, .un, .un] := i_rng1 a4 rfl (rng1z_ok n (by omega))
  obtain ⟨ds, ρ', q1, q2, q3, D2, q4, rfl⟩ := compL_inv (own := [5]) (asg := asgT (.nm 5)) (c := fun r => evC (gk (k + 2)) .nil r) (e := fun r => evE (gk (k + 2)) eWd r) (fun ρ => ∃ Dn, Drw cs Dn ∧ ρ = [.sh S, .ow false Dn, .un, .un, .un, .un, .un]) (fun d => ∃ c : Nat, d = .str [c]) (fun x ρ hp => by
    obtain ⟨Dn, hn, rfl⟩ := hp
    obtain ⟨c, Dm, h1, h2⟩ := letter k hcs (S := S) hn (.sh x)
    refine ⟨[.sh S, .ow false Dn, .un, .un, .un, .sh x, .un], .sh (.str [c]), [.sh S, .ow false Dm, .un, .un, .un, .sh x, .un], .str [c], [.sh S, .ow false Dm, .un, .un, .un, .sh x, .un], rfl, by simp only [evC], h2, rfl, rfl, ⟨Dm, h1, rfl⟩, ⟨c, rfl⟩⟩) (rngD 0 n) [] [.sh S, .ow false D1, .un, .un, .un, .un, .un] ⟨D1, a3, rfl⟩
  rw [List.nil_append] at q1
  have hc := evE_comp (g := gk (k + 2)) (own := [5]) (t := .nm 5) (it := .rng1 (.call 4 (.cons (.var 1) (.cons (.con (.int 9)) .nil)))) (c := .nil) (e := eWd) hi rfl rfl (by rw [rng_len]; exact big_ge (by omega)) q1
  rw [rng_len] at q2
  obtain ⟨ws, rfl, hws⟩ : ∃ ws : List (List Nat), ds = ws.map D.str ∧ ∀ w ∈ ws, w.length = 1 := by
    clear q1 hc q2
    induction ds with
    | nil => exact ⟨[], rfl, fun w hw => by simp at hw⟩
    | cons d r ih =>
      obtain ⟨c, rfl⟩ := q3 d List.mem_cons_self
      obtain ⟨ws, rfl, h⟩ := ih fun x hx => q3 x (List.mem_cons_of_mem _ hx)
      exact ⟨[c] :: ws, rfl, fun w hw => by
        rcases List.mem_cons.mp hw with z | z
        · rw [z]; rfl
        · exact h w z⟩
  rw [List.length_map] at q2
  have hsum : (ws.map (·.length)).sum = ws.length := by
    clear hc q1 q3 q2
    induction ws with
    | nil => rfl
    | cons w r ih =>
      have := hws w List.mem_cons_self
      have ih := ih fun x hx => hws x (List.mem_cons_of_mem _ hx)
      simp only [List.map_cons, List.sum_cons, List.length_cons, ih, this]
      omega
  have hm : mthD .join (.str []) (.lst (ws.map D.str)) = some (false, .str ws.flatten) := by
    have hb : (ws.map (·.length)).sum + ws.length * ([] : List Nat).length ≤ big := by
      rw [hsum, List.length_nil, Nat.mul_zero]
      exact big_ge (by omega)
    simp only [mthD, strs_map, hb, if_true, join_nil]
  refine ⟨ws.flatten, D2, by rw [List.length_flatten, hsum]; omega, ?_⟩
  have hc' : evE (gk (k + 2)) compWd [.sh S, .ow false Dr, .un, .un, .un, .un, .un] = .ok (.ow (.lst (ws.map D.str))) [.sh S, .ow false D2, .un, .un, .un, .un, .un] := hc
  exact e_join e_con rfl hc' rfl hm
end Law

namespace Law
open PySem PySem.Spec L2 Mi
def Lw (S Dn : D) (word t : List Nat) (ls : List (List Nat)) (s5 s6 : Sl) : Rho := [.sh S, .ow false Dn, .sh (.str word), .sh (.str t), .sh (.tup (ls.map D.str)), s5, s6]
theorem e_isi {g : G} {a : E} {ty : String} {p : Pl} {ρ ρ1 : Rho} {x : D} {b : Bool} (h1 : evE g a ρ = .ok p ρ1) (h2 : p.get ρ1 = some x) (h3 : isiD ty x = some b) : evE g (.isi a ty) ρ = .ok (.sh (.bl b)) ρ1 := by
  simp only [evE, h1, R.bind, get1, h2, Option.bind_some, h3, bo, Option.map_some, res]
theorem i_of {g : G} {a : E} {p : Pl} {ρ ρ1 ρ2 : Rho} {d : D} {xs : List D} (h1 : evE g a ρ = .ok p ρ1) (h2 : p.frz ρ1 = some (d, ρ2)) (h3 : itemsD d = some xs) : evI g (.of a) ρ = .ok xs ρ2 := by
  simp only [evI, h1, R.bind, frzI, h2, h3, outR]
theorem e_lenT {g : G} {i : Nat} {xs : List D} {ρ : Rho} (h : ρ[i]? = some (.sh (.tup xs))) : evE g (.blt .len (.cons (.var i) .nil)) ρ = .ok (.sh (.int (xs.length : Int))) ρ := by
  simp only [evE, evEs, R.bind, h, getL, Pl.get, Option.bind_some, Option.map_some, bltD, res]
theorem ec_one {g : G} {e : E} {ρ : Rho} : evC g (.cons e .nil) ρ = evT g e ρ := by simp only [evC, evT]
section
variable {S Dn : D} {word t : List Nat} {ls : List (List Nat)}
theorem ne_none {g : G} {e : E} {ρ : Rho} (h : evE g e ρ = .ok (.ow (.lst [])) ρ) : evT g (.cmp .ne e (.lst .nil)) ρ = .ok false ρ :=
  t_of (e_cmp0 (x := .lst []) (y := .lst []) (q := .ow (.lst [])) h (by simp [evE, evEs, R.bind, frzL]) rfl rfl (ne_nil (ds := []) (by simp [flats]))) rfl rfl
theorem all_none {α : Type} (xs : List α) : xs.filterMap (fun _ => (none : Option D)) = [] := by
  induction xs with
  | nil => rfl
  | cons x r ih => rw [List.filterMap_cons]; exact ih
theorem flat_sum : ∀ ls : List (List Nat), (ls.map (·.length)).sum = ls.flatten.length
  | [] => rfl
  | l :: r => by simp only [List.map_cons, List.sum_cons, List.flatten_cons, List.length_append, flat_sum r]
/-- the parts lead -/
theorem b_lead (k : Nat) (hl : ∀ l ∈ ls, Wd.Lyn l ∧ l.length ≤ 60) (hn : ls.length ≤ 60) : evE (gk (k + 1)) (.comp [6] (.nm 6) (.of (.var 4)) (.cons (.not (.call 5 (.cons (.var 6) .nil))) .nil) (.var 6)) (Lw S Dn word t ls .un .un) = .ok (.ow (.lst [])) (Lw S Dn word t ls .un .un) := by
  have q := compL_pure (own := [6]) (asg := asgT (.nm 6)) (c := fun r => evC (gk (k + 1)) (.cons (.not (.call 5 (.cons (.var 6) .nil))) .nil) r) (e := fun r => evE (gk (k + 1)) (.var 6) r) (ρ0 := Lw S Dn word t ls .un .un) (fun _ => none) (ls.map D.str) [] (fun x hx => by
    obtain ⟨l, hm, rfl⟩ := List.mem_map.mp hx
    obtain ⟨b, hb, hbr⟩ := lead_run (gk k) l (by have := (hl l hm).2; omega)
    have hb1 : b = true := hbr.mpr (hl l hm).1.rot
    subst hb1
    refine ⟨Lw S Dn word t ls .un (.sh (.str l)), rfl, rfl, rfl, .inl ⟨?_, rfl⟩⟩
    rw [ec_one]
    exact t_not (t_of (e_call1 (own := false) (e_var rfl) rfl ((gk_C rfl _).trans hb)) rfl rfl))
  rw [List.nil_append, all_none] at q
  have hi : evI (gk (k + 1)) (.of (.var 4)) (Lw S Dn word t ls .un .un) = .ok (ls.map D.str) (Lw S Dn word t ls .un .un) := i_of (e_var rfl) rfl rfl
  exact evE_comp (own := [6]) (t := .nm 6) (ρ1 := Lw S Dn word t ls .un .un) (ρ2 := Lw S Dn word t ls .un .un) (xs := ls.map D.str) hi rfl rfl (by rw [List.length_map]; exact big_ge (by omega)) q
/-- none is less than the next -/
theorem b_next (k : Nat) (hp : ls.Pairwise fun a b => ¬ a < b) (hn : ls.length ≤ 60) : evE (gk (k + 1)) (.comp [5] (.nm 5) (.rng2 (.con (.int 1)) (.blt .len (.cons (.var 4) .nil))) (.cons (.cmp .lt (.idx (.var 4) (.bin .sub (.var 5) (.con (.int 1)))) (.idx (.var 4) (.var 5))) .nil) (.var 5)) (Lw S Dn word t ls .un .un) = .ok (.ow (.lst [])) (Lw S Dn word t ls .un .un) := by
  have q := compL_pure (own := [5]) (asg := asgT (.nm 5)) (c := fun r => evC (gk (k + 1)) (.cons (.cmp .lt (.idx (.var 4) (.bin .sub (.var 5) (.con (.int 1)))) (.idx (.var 4) (.var 5))) .nil) r) (e := fun r => evE (gk (k + 1)) (.var 5) r) (ρ0 := Lw S Dn word t ls .un .un) (fun _ => none) (rngD 1 (ls.length - 1)) [] (fun x hx => by
    unfold rngD at hx
    obtain ⟨i, hi, rfl⟩ := List.mem_map.mp hx
    have hi := List.mem_range.mp hi
    refine ⟨Lw S Dn word t ls (.sh (.int (1 + (i : Nat)))) .un, rfl, rfl, rfl, .inl ⟨?_, rfl⟩⟩
    rw [ec_one]
    have g1 : ls[i]? = some ls[i] := List.getElem?_eq_getElem (by omega)
    have g2 : ls[i + 1]? = some ls[i + 1] := List.getElem?_eq_getElem (by omega)
    have nl : ¬ ls[i] < ls[i + 1] := List.pairwise_iff_getElem.mp hp i (i + 1) (by omega) (by omega) (by omega)
    generalize ls[i] = a at g1 nl
    generalize ls[i + 1] = b at g2 nl
    have x1 : idxD (.tup (ls.map D.str)) (.int (i : Int)) = some (.str a) := by
      simp only [idxD]
      exact atI_nat (by rw [List.getElem?_map, g1]; rfl)
    have x2 : idxD (.tup (ls.map D.str)) (.int (1 + (i : Nat))) = some (.str b) := by
      rw [show (1 + (i : Int)) = ((i + 1 : Nat) : Int) by omega]
      simp only [idxD]
      exact atI_nat (by rw [List.getElem?_map, g2]; rfl)
    have s1 : evE (gk (k + 1)) (.bin .sub (.var 5) (.con (.int 1))) (Lw S Dn word t ls (.sh (.int (1 + (i : Nat)))) .un) = .ok (.sh (.int (i : Int))) (Lw S Dn word t ls (.sh (.int (1 + (i : Nat)))) .un) := by
      refine e_bin (x := .int (1 + (i : Nat))) (y := .int 1) (e_var rfl) e_con rfl rfl ?_
      show some (false, D.int (1 + (i : Int) - 1)) = _
      rw [show (1 + (i : Int) - 1) = (i : Int) by omega]
    exact t_of (e_cmp0 (x := .str a) (y := .str b) (e_idx (e_var rfl) s1 rfl rfl x1) (e_idx (e_var rfl) (e_var rfl) rfl rfl x2) rfl rfl rfl) rfl (by simp [truD, nl]))
  rw [List.nil_append, all_none] at q
  have hr := rng2_ok ls.length (by omega)
  rw [← List.length_map (as := ls) (f := D.str)] at hr
  have hi := i_rng2 (g := gk (k + 1)) (a := .con (.int 1)) (b := .blt .len (.cons (.var 4) .nil)) (p := .sh (.int 1)) (ρ := Lw S Dn word t ls .un .un) e_con (e_lenT (xs := ls.map D.str) rfl) rfl rfl hr
  rw [List.length_map] at hi
  exact evE_comp (own := [5]) (t := .nm 5) (ρ1 := Lw S Dn word t ls .un .un) (ρ2 := Lw S Dn word t ls .un .un) hi rfl rfl (by rw [rng_len]; exact big_ge (by omega)) q
theorem depth_strs2 : ∀ ws : List (List Nat), depths (ws.map D.str) = 0
  | [] => by simp [depths]
  | w :: r => by simp [depths, D.depth, depth_strs2 r]
theorem eqs_strs : ∀ ws : List (List Nat), eqDs (ws.map D.str) (ws.map D.str) = true
  | [] => by simp [eqDs]
  | w :: r => by simp [eqDs, eqD, eqs_strs r]
theorem ne_same (ws : List (List Nat)) : cmpD .ne (.lst [.tup (ws.map D.str)]) (.lst [.tup (ws.map D.str)]) = some false := by
  have h3 : (D.lst [.tup (ws.map D.str)]).flat = true := by simp [D.flat, flats, flats_strs]
  have h2 : min (D.lst [.tup (ws.map D.str)]).depth (D.lst [.tup (ws.map D.str)]).depth ≤ 100 := by
    simp [D.depth, depths, depth_strs2]
  have h4 : eqD (.lst [.tup (ws.map D.str)]) (.lst [.tup (ws.map D.str)]) = true := by simp [eqD, eqDs, eqs_strs]
  simp only [cmpD, h2, h3, h4, Bool.and_self, decide_true, if_true, Bool.not_true]
theorem least_le : ∀ (ws : List (List Nat)) (s x : List Nat), x ∈ s :: ws → ¬ x < leastS s ws
  | [], s, x, h => by
    have e : x = s := by simpa using h
    subst e
    exact List.lt_irrefl _
  | w :: r, s, x, h => by
    unfold leastS
    rcases List.mem_cons.mp h with e | e
    · subst e
      split
      · rename_i hlt
        intro h2
        have q := least_le r w w List.mem_cons_self
        rcases Wd.tri (leastS w r) w with a | a | a
        · exact List.lt_irrefl _ (List.lt_trans (List.lt_trans h2 a) hlt)
        · rw [a] at h2; exact List.lt_irrefl _ (List.lt_trans h2 hlt)
        · exact q a
      · exact least_le r x x List.mem_cons_self
    · split
      · exact least_le r w x e
      · rename_i hlt
        rcases List.mem_cons.mp e with z | z
        · subst z
          intro h2
          have q := least_le r s s List.mem_cons_self
          rcases Wd.tri (leastS s r) s with a | a | a
          · exact hlt (List.lt_trans h2 a)
          · rw [a] at h2; exact hlt h2
          · exact q a
        · exact least_le r s x (List.mem_cons_of_mem _ z)
/-- the ends of the text -/
theorem b_ends (k : Nat) (hn : t.length ≤ 60) : evE (gk (k + 1)) (.comp [5] (.nm 5) (.rng1 (.blt .len (.cons (.var 3) .nil))) .nil (.slL (.var 3) (.var 5))) (Lw S Dn word t ls .un .un) = .ok (.ow (.lst (((List.range t.length).map fun i => t.drop i).map D.str))) (Lw S Dn word t ls .un .un) := by
  have q := compL_pure (own := [5]) (asg := asgT (.nm 5)) (c := fun r => evC (gk (k + 1)) .nil r) (e := fun r => evE (gk (k + 1)) (.slL (.var 3) (.var 5)) r) (ρ0 := Lw S Dn word t ls .un .un) (fun | .int i => some (.str (t.drop i.toNat)) | _ => none) (rngD 0 t.length) [] (fun x hx => by
    unfold rngD at hx
    obtain ⟨i, _, rfl⟩ := List.mem_map.mp hx
    rw [Int.zero_add]
    refine ⟨Lw S Dn word t ls (.sh (.int (i : Nat))) .un, rfl, rfl, rfl, .inr ⟨by simp only [evC], .sh (.str (t.drop i)), _, e_slL (e_var rfl) (e_var rfl), rfl, by simp⟩⟩)
  have e : (rngD 0 t.length).filterMap (fun | .int i => some (.str (t.drop i.toNat)) | _ => none) = ((List.range t.length).map fun i => t.drop i).map D.str := by
    unfold rngD
    rw [List.filterMap_map, List.map_map]
    have e2 : ((fun | .int i => some (D.str (t.drop i.toNat)) | _ => none : D → Option D) ∘ fun (k : Nat) => D.int (0 + (k : Int))) = fun k : Nat => some (D.str (t.drop k)) := by
      funext k
      show some (D.str (t.drop (0 + (k : Int)).toNat)) = _
      rw [Int.zero_add, Int.toNat_natCast]
    rw [e2]
    exact congrFun (List.filterMap_eq_map (f := fun k : Nat => D.str (t.drop k))) _
  rw [List.nil_append, e] at q
  have hi : evI (gk (k + 1)) (.rng1 (.blt .len (.cons (.var 3) .nil))) (Lw S Dn word t ls .un .un) = .ok (rngD 0 t.length) (Lw S Dn word t ls .un .un) := i_rng1 (e_len rfl) rfl (rng1z_ok t.length (by omega))
  exact evE_comp (own := [5]) (t := .nm 5) (ρ1 := Lw S Dn word t ls .un .un) (ρ2 := Lw S Dn word t ls .un .un) hi rfl rfl (by rw [rng_len]; exact big_ge (by omega)) q
end
end Law

namespace Law
open PySem PySem.Spec L2 Mi
theorem e_call2 {g : G} {f : Nat} {a b : E} {d d2 r : D} {ρ : Rho} {own : Bool} (h : evE g a ρ = .ok (.sh d) ρ) (h2 : evE g b ρ = .ok (.sh d2) ρ) (hm : g.md f = [false, false]) (hC : g.C f [d, d2] = .ok own r [.non, .non]) : evE g (.call f (.cons a (.cons b .nil))) ρ = .ok (if own then .ow r else .sh r) ρ := by
  have e1 : evEs g (.cons a (.cons b .nil)) ρ = .ok [.sh d, .sh d2] ρ := by simp only [evEs, h, h2, R.bind]
  have e2 : evE g (.call f (.cons a (.cons b .nil))) ρ = (evEs g (.cons a (.cons b .nil)) ρ).bind fun ps ρ1 => callR g f ps ρ1 := by simp only [evE]
  rw [e2, e1]
  show callR g f [.sh d, .sh d2] ρ = _
  unfold callR
  rw [hm]
  simp only [argF, Pl.frz, ios, List.nodup_nil, List.all_nil, and_self, if_true, getL, Pl.get, Option.bind_some, Option.map_some, hC, outs]
  cases own <;> rfl
section
variable {S Dn : D} {word t : List Nat} {ls : List (List Nat)}
def cT : E := .cmp .nis (.call 0 (.cons (.var 6) (.cons (.bin .add (.slL (.var 6) (.var 5)) (.slH (.var 6) (.var 5))) .nil))) (.con (.bl true))
def compT : E := .comp [5] (.nm 5) (.rng2 (.con (.int 1)) (.blt .len (.cons (.var 6) .nil))) (.cons cT .nil) (.var 5)
theorem b_turn1 (k : Nat) (l : List Nat) (hl : l.length ≤ 60) : evE (gk (k + 1)) compT (Lw S Dn word t ls .un (.sh (.str l))) = .ok (.ow (.lst [])) (Lw S Dn word t ls .un (.sh (.str l))) := by
  have q := compL_pure (own := [5]) (asg := asgT (.nm 5)) (c := fun r => evC (gk (k + 1)) (.cons cT .nil) r) (e := fun r => evE (gk (k + 1)) (.var 5) r) (ρ0 := Lw S Dn word t ls .un (.sh (.str l))) (fun _ => none) (rngD 1 (l.length - 1)) [] (fun x hx => by
    unfold rngD at hx
    obtain ⟨i, hi, rfl⟩ := List.mem_map.mp hx
    have hi := List.mem_range.mp hi
    refine ⟨Lw S Dn word t ls (.sh (.int (1 + (i : Nat)))) (.sh (.str l)), rfl, rfl, rfl, .inl ⟨?_, rfl⟩⟩
    rw [ec_one]
    rw [show (1 + (i : Int)) = ((1 + i : Nat) : Int) by omega]
    have hb : (l.drop (1 + i)).length + (l.take (1 + i)).length ≤ big := big_ge (by simp; omega)
    have ha : evE (gk (k + 1)) (.bin .add (.slL (.var 6) (.var 5)) (.slH (.var 6) (.var 5))) (Lw S Dn word t ls (.sh (.int ((1 + i : Nat) : Int))) (.sh (.str l))) = .ok (.sh (.str (l.drop (1 + i) ++ l.take (1 + i)))) (Lw S Dn word t ls (.sh (.int ((1 + i : Nat) : Int))) (.sh (.str l))) := by
      refine e_bin (x := .str (l.drop (1 + i))) (y := .str (l.take (1 + i))) (e_slL (e_var rfl) (e_var rfl)) (e_slH (e_var rfl) (e_var rfl)) rfl rfl ?_
      simp only [binD, hb, if_true]
    have hc := e_call2 (g := gk (k + 1)) (f := 0) (a := .var 6) (ρ := Lw S Dn word t ls (.sh (.int ((1 + i : Nat) : Int))) (.sh (.str l))) (e_var rfl) ha rfl ((gk_C rfl _).trans (turned_run (gk k) l (1 + i) (by omega) (by omega)))
    exact t_of (e_cmp0 (x := .bl true) (y := .bl true) hc e_con rfl rfl rfl) rfl rfl)
  rw [List.nil_append, all_none] at q
  have hi := i_rng2 (g := gk (k + 1)) (a := .con (.int 1)) (b := .blt .len (.cons (.var 6) .nil)) (p := .sh (.int 1)) (ρ := Lw S Dn word t ls .un (.sh (.str l))) e_con (e_len rfl) rfl rfl (rng2_ok l.length (by omega))
  exact evE_comp (own := [5]) (t := .nm 5) (ρ1 := Lw S Dn word t ls .un (.sh (.str l))) (ρ2 := Lw S Dn word t ls .un (.sh (.str l))) hi rfl rfl (by rw [rng_len]; exact big_ge (by omega)) q
theorem b_turn (k : Nat) (hl : ∀ l ∈ ls, l.length ≤ 60) (hn : ls.length ≤ 60) : evE (gk (k + 1)) (.comp [6] (.nm 6) (.of (.var 4)) (.cons (.cmp .ne compT (.lst .nil)) .nil) (.var 6)) (Lw S Dn word t ls .un .un) = .ok (.ow (.lst [])) (Lw S Dn word t ls .un .un) := by
  have q := compL_pure (own := [6]) (asg := asgT (.nm 6)) (c := fun r => evC (gk (k + 1)) (.cons (.cmp .ne compT (.lst .nil)) .nil) r) (e := fun r => evE (gk (k + 1)) (.var 6) r) (ρ0 := Lw S Dn word t ls .un .un) (fun _ => none) (ls.map D.str) [] (fun x hx => by
    obtain ⟨l, hm, rfl⟩ := List.mem_map.mp hx
    refine ⟨Lw S Dn word t ls .un (.sh (.str l)), rfl, rfl, rfl, .inl ⟨?_, rfl⟩⟩
    rw [ec_one]
    exact ne_none (b_turn1 k l (hl l hm)))
  rw [List.nil_append, all_none] at q
  have hi : evI (gk (k + 1)) (.of (.var 4)) (Lw S Dn word t ls .un .un) = .ok (ls.map D.str) (Lw S Dn word t ls .un .un) := i_of (e_var rfl) rfl rfl
  exact evE_comp (own := [6]) (t := .nm 6) (ρ1 := Lw S Dn word t ls .un .un) (ρ2 := Lw S Dn word t ls .un .un) (xs := ls.map D.str) hi rfl rfl (by rw [List.length_map]; exact big_ge (by omega)) q
theorem e_min1 {g : G} {e : E} {ρ : Rho} {s : List Nat} {ws : List (List Nat)} (h : evE g e ρ = .ok (.ow (.lst ((s :: ws).map D.str))) ρ) : evE g (.blt .min1 (.cons e .nil)) ρ = .ok (.sh (.str (leastS s ws))) ρ := by
  have b1 : bltD .min1 [.lst ((s :: ws).map D.str)] = some (false, .str (leastS s ws)) := by
    simp only [bltD, strs_map]
  simp only [evE, evEs, h, R.bind, getL, Pl.get, Option.bind_some, Option.map_some, b1, res]
theorem e_neg1 {g : G} {ρ : Rho} : evE g (.neg (.con (.int 1))) ρ = .ok (.sh (.int (-1))) ρ := by simp only [evE, R.bind, get1, Pl.get, Option.bind_some, res]
def retF : Ss := .cons (.ret (.con (.bl false))) .nil
def q1 : E := .or (.not (.isi (.var 4) "tuple")) (.or (.cmp .ne (.mth .join (.con (.str [])) (.var 4)) (.var 3)) (.cmp .ne (.comp [6] (.nm 6) (.of (.var 4)) (.cons (.not (.call 5 (.cons (.var 6) .nil))) .nil) (.var 6)) (.lst .nil)))
def q2 : E := .or (.cmp .ne (.comp [5] (.nm 5) (.rng2 (.con (.int 1)) (.blt .len (.cons (.var 4) .nil))) (.cons (.cmp .lt (.idx (.var 4) (.bin .sub (.var 5) (.con (.int 1)))) (.idx (.var 4) (.var 5))) .nil) (.var 5)) (.lst .nil)) (.cmp .ne (.call 6 (.cons (.var 3) .nil)) (.lst (.cons (.var 4) .nil)))
def q3 : E := .and (.cmp .ne (.var 3) (.con (.str []))) (.cmp .ne (.idx (.var 4) (.neg (.con (.int 1)))) (.blt .min1 (.cons (.comp [5] (.nm 5) (.rng1 (.blt .len (.cons (.var 3) .nil))) .nil (.slL (.var 3) (.var 5))) .nil)))
def q4 : E := .cmp .ne (.comp [6] (.nm 6) (.of (.var 4)) (.cons (.cmp .ne compT (.lst .nil)) .nil) (.var 6)) (.lst .nil)
def bB : Ss := .cons (.asg (.nm 4) (.call 1 (.cons (.var 3) .nil))) (.cons (.ifs q1 retF .nil) (.cons (.ifs q2 retF .nil) (.cons (.ifs q3 retF .nil) (.cons (.ifs q4 retF .nil) .nil))))
theorem part_len {l : List Nat} (h : l ∈ ls) : l.length ≤ ls.flatten.length := by
  induction ls with
  | nil => simp at h
  | cons a r ih =>
    rw [List.flatten_cons, List.length_append]
    rcases List.mem_cons.mp h with z | z
    · rw [z]; omega
    · have := ih z; omega
theorem c_1 (k : Nat) (he : ls.flatten = t) (hp : Wd.Parts ls) (ht : t.length ≤ 50) : evT (gk (k + 1)) q1 (Lw S Dn word t ls .un .un) = .ok false (Lw S Dn word t ls .un .un) := by
  have hn : ls.length ≤ 60 := by have := parts_len hp; rw [he] at this; omega
  have hl : ∀ l ∈ ls, Wd.Lyn l ∧ l.length ≤ 60 := fun l hm => ⟨hp.1 l hm, by have := part_len hm; rw [he] at this; omega⟩
  have h1 : evT (gk (k + 1)) (.not (.isi (.var 4) "tuple")) (Lw S Dn word t ls .un .un) = .ok false (Lw S Dn word t ls .un .un) :=
    t_not (k := true) (t_of (e_isi (x := .tup (ls.map D.str)) (b := true) (p := .sh (.tup (ls.map D.str))) (e_var rfl) rfl (by simp only [isiD, tyD]; decide +kernel)) rfl rfl)
  have hm : mthD .join (.str []) (.tup (ls.map D.str)) = some (false, .str t) := by
    have hb : (ls.map (·.length)).sum + ls.length * ([] : List Nat).length ≤ big := by
      rw [flat_sum, he, List.length_nil, Nat.mul_zero]
      exact big_ge (by omega)
    simp only [mthD, strs_map, hb, if_true, join_nil, he]
  have h2 : evT (gk (k + 1)) (.cmp .ne (.mth .join (.con (.str [])) (.var 4)) (.var 3)) (Lw S Dn word t ls .un .un) = .ok false (Lw S Dn word t ls .un .un) := by
    refine t_of (e_cmp0 (x := .str t) (y := .str t) (p := .sh (.str t)) (q := .sh (.str t)) (e_join (p := .sh (.str [])) (q := .sh (.tup (ls.map D.str))) e_con rfl (e_var rfl) rfl hm) (e_var rfl) rfl rfl (ne_str t t)) rfl ?_
    simp [truD]
  exact (t_orF h1).trans ((t_orF h2).trans (ne_none (b_lead k hl hn)))
theorem c_2 (k : Nat) (hk : 60 ≤ k) (he : ls.flatten = t) (hp : Wd.Parts ls) (ht : t.length ≤ 50) : evT (gk (k + 1)) q2 (Lw S Dn word t ls .un .un) = .ok false (Lw S Dn word t ls .un .un) := by
  have hn : ls.length ≤ 60 := by have := parts_len hp; rw [he] at this; omega
  obtain ⟨ls2, w1, w2, w3⟩ := ways_run 50 k t ht (by omega) (by omega)
  have e : ls2 = ls := Wd.uniq w3 hp (by rw [w2, he])
  subst e
  refine (t_orF (ne_none (b_next k hp.2 hn))).trans (t_of (e_cmp0 (x := .lst [.tup (ls2.map D.str)]) (y := .lst [.tup (ls2.map D.str)]) (q := .ow (.lst [.tup (ls2.map D.str)])) (e_call1 (own := true) (e_var rfl) rfl ((gk_C rfl _).trans w1)) ?_ rfl rfl (ne_same ls2)) rfl rfl)
  have z2 : evEs (gk (k + 1)) (.cons (.var 4) .nil) (Lw S Dn word t ls2 .un .un) = .ok [.sh (.tup (ls2.map D.str))] (Lw S Dn word t ls2 .un .un) := by
    have z : evE (gk (k + 1)) (.var 4) (Lw S Dn word t ls2 .un .un) = .ok (.sh (.tup (ls2.map D.str))) (Lw S Dn word t ls2 .un .un) := e_var rfl
    simp only [evEs, z, R.bind]
  simp only [evE, z2, R.bind, frzL, Pl.frz]
theorem c_3 (k : Nat) (he : ls.flatten = t) (hp : Wd.Parts ls) (ht : t.length ≤ 50) : evT (gk (k + 1)) q3 (Lw S Dn word t ls .un .un) = .ok false (Lw S Dn word t ls .un .un) := by
  by_cases h0 : t = []
  · refine t_andF (t_of (e_cmp0 (x := .str t) (y := .str []) (p := .sh (.str t)) (q := .sh (.str [])) (e_var rfl) e_con rfl rfl (ne_str t [])) rfl ?_)
    rw [h0]
    rfl
  · have a1 : evT (gk (k + 1)) (.cmp .ne (.var 3) (.con (.str []))) (Lw S Dn word t ls .un .un) = .ok true (Lw S Dn word t ls .un .un) := by
      refine t_of (e_cmp0 (x := .str t) (y := .str []) (p := .sh (.str t)) (q := .sh (.str [])) (e_var rfl) e_con rfl rfl (ne_str t [])) rfl ?_
      simp [truD, h0]
    refine (t_andT a1).trans ?_
    have hne : ls ≠ [] := fun z => by subst z; exact h0 he.symm
    obtain ⟨z, hz⟩ : ∃ z, ls.getLast? = some z := ⟨ls.getLast hne, List.getLast?_eq_getLast hne⟩
    have hlast := Wd.last_least hp hz
    rw [he] at hlast
    have hgz : ls[ls.length - 1]? = some z := by rw [← List.getLast?_eq_getElem?]; exact hz
    have hlp : 0 < ls.length := List.length_pos_iff.mpr hne
    -- told[-1]
    have hi : idxD (.tup (ls.map D.str)) (.int (-1)) = some (.str z) := by
      simp only [idxD]
      unfold atI
      have e1 : ixN (ls.map D.str).length (-1) = some (ls.length - 1) := by
        unfold ixN
        rw [if_neg (by decide), if_pos (by rw [List.length_map]; omega)]
        rw [List.length_map]
        congr 1
        omega
      rw [e1]
      simp [hgz]
    have hng : evE (gk (k + 1)) (.neg (.con (.int 1))) (Lw S Dn word t ls .un .un) = .ok (.sh (.int (-1))) (Lw S Dn word t ls .un .un) := e_neg1
    -- the least end
    obtain ⟨n, hn⟩ : ∃ n, t.length = n + 1 := ⟨t.length - 1, by have := List.length_pos_iff.mpr h0; omega⟩
    have hr : (List.range t.length).map (fun i => t.drop i) = t :: (List.range n).map (fun i => t.drop (i + 1)) := by
      rw [hn, List.range_succ_eq_map, List.map_cons, List.map_map]
      rfl
    have hmem : ∀ x, x ∈ t :: (List.range n).map (fun i => t.drop (i + 1)) → ∃ i, i < t.length ∧ x = t.drop i := fun x hx => by
      rw [← hr] at hx
      obtain ⟨i, h1, h2⟩ := List.mem_map.mp hx
      exact ⟨i, List.mem_range.mp h1, h2.symm⟩
    have hzm : z ∈ t :: (List.range n).map (fun i => t.drop (i + 1)) := by
      rw [← hr]
      have hzl : z ∈ ls := List.mem_of_getLast? hz
      have hz0 : 0 < z.length := List.length_pos_iff.mpr (hp.1 z hzl).1
      have hzt := part_len hzl
      rw [he] at hzt
      refine List.mem_map.mpr ⟨t.length - z.length, List.mem_range.mpr (by omega), ?_⟩
      have e5 : ls = ls.dropLast ++ [z] := by
        have q := List.dropLast_concat_getLast hne
        have hz' : ls.getLast hne = z := by
          rw [List.getLast?_eq_getLast hne] at hz
          exact Option.some.inj hz
        rw [hz'] at q
        exact q.symm
      have e6 : t = ls.dropLast.flatten ++ z := by rw [← he]; conv => lhs; rw [e5]; simp
      rw [e6]
      rw [List.length_append, Nat.add_sub_cancel, List.drop_left]
    have hls : leastS t ((List.range n).map (fun i => t.drop (i + 1))) = z := by
      obtain ⟨i, hi1, hi2⟩ := hmem _ (leastS_mem ((List.range n).map (fun i => t.drop (i + 1))) t)
      have n1 : ¬ leastS t ((List.range n).map (fun i => t.drop (i + 1))) < z := by rw [hi2]; exact hlast i hi1
      have n2 := least_le ((List.range n).map (fun i => t.drop (i + 1))) t z hzm
      rcases Wd.tri (leastS t ((List.range n).map (fun i => t.drop (i + 1)))) z with a | a | a
      · exact absurd a n1
      · exact a
      · exact absurd a n2
    have hmin : evE (gk (k + 1)) (.blt .min1 (.cons (.comp [5] (.nm 5) (.rng1 (.blt .len (.cons (.var 3) .nil))) .nil (.slL (.var 3) (.var 5))) .nil)) (Lw S Dn word t ls .un .un) = .ok (.sh (.str z)) (Lw S Dn word t ls .un .un) := by
      have b := b_ends (S := S) (Dn := Dn) (word := word) (t := t) (ls := ls) k (by omega)
      rw [hr] at b
      have b3 := e_min1 b
      rw [hls] at b3
      exact b3
    refine t_of (e_cmp0 (x := .str z) (y := .str z) (e_idx (x := .tup (ls.map D.str)) (y := .int (-1)) (e_var rfl) hng rfl rfl hi) hmin rfl rfl (ne_str z z)) rfl ?_
    simp [truD]
end
end Law

namespace Law
open PySem PySem.Spec L2 Mi
theorem s_no {g : G} {q : E} {ρ : Rho} {a : Ss} (h : evT g q ρ = .ok false ρ) : evS g (.ifs q a .nil) ρ = .ok .nx ρ := (s_ifF h).trans ss_nil
theorem body_ok (k : Nat) (hk : 60 ≤ k) (S Dn : D) (word t : List Nat) (ht : t.length ≤ 50) (s4 : Sl) (h4 : ∀ d, s4 ≠ .ow true d) : ∃ ls : List (List Nat), evSs (gk (k + 1)) bB [.sh S, .ow false Dn, .sh (.str word), .sh (.str t), s4, .un, .un] = .ok .nx (Lw S Dn word t ls .un .un) := by
  obtain ⟨ls, r, he, hp⟩ := parts_run (gk k) t (Nat.lt_of_le_of_lt (Nat.succ_le_succ ht) (show Nat.succ 50 < 64 from by decide)) (by omega)
  refine ⟨ls, ?_⟩
  have hn : ls.length ≤ 60 := by have := parts_len hp; rw [he] at this; omega
  have hl : ∀ l ∈ ls, l.length ≤ 60 := fun l hm => by have := part_len hm; rw [he] at this; omega
  have a1 : evS (gk (k + 1)) (.asg (.nm 4) (.call 1 (.cons (.var 3) .nil))) [.sh S, .ow false Dn, .sh (.str word), .sh (.str t), s4, .un, .un] = .ok .nx (Lw S Dn word t ls .un .un) :=
    s_asg (e_call1 (own := false) (e_var rfl) rfl ((gk_C rfl _).trans r)) (set_ok (s := s4) rfl h4)
  exact (ss_nx a1).trans ((ss_nx (s_no (c_1 k he hp ht))).trans ((ss_nx (s_no (c_2 k hk he hp ht))).trans ((ss_nx (s_no (c_3 k he hp ht))).trans ((ss_nx (s_no (ne_none (b_turn k hl hn)))).trans ss_nil))))
theorem e_rev {g : G} {a : E} {w : List Nat} {ρ : Rho} (h : evE g a ρ = .ok (.sh (.str w)) ρ) : evE g (.rev a) ρ = .ok (.sh (.str w.reverse)) ρ := by
  simp only [evE, h, R.bind, get1, Pl.get, Option.bind_some, revD, res]
theorem es_cons {g : G} {e : E} {es : Es} {p : Pl} {ps : List Pl} {ρ : Rho} (h : evE g e ρ = .ok p ρ) (h2 : evEs g es ρ = .ok ps ρ) : evEs g (.cons e es) ρ = .ok (p :: ps) ρ := by
  simp only [evEs, h, h2, R.bind]
theorem es_nil {g : G} {ρ : Rho} : evEs g .nil ρ = .ok [] ρ := by simp only [evEs]
theorem e_lst {g : G} {es : Es} {ps : List Pl} {ds : List D} {ρ : Rho} (h : evEs g es ρ = .ok ps ρ) (h2 : frzL ps ρ = some (ds, ρ)) : evE g (.lst es) ρ = .ok (.ow (.lst ds)) ρ := by
  simp only [evE, h, R.bind, h2]
def textsE : E := .lst (.cons (.var 2) (.cons (.bin .add (.var 2) (.con (.str [97]))) (.cons (.bin .add (.var 2) (.slH (.var 2) (.con (.int 3)))) (.cons (.rev (.var 2)) (.cons (.bin .mul (.or (.slH (.var 2) (.con (.int 4))) (.con (.str [98]))) (.con (.int 2))) (.cons (.con (.str [])) .nil))))))
theorem texts_ok (g : G) (S Dn : D) (word : List Nat) (hw : word.length ≤ 8) : ∃ ts : List (List Nat), (∀ t ∈ ts, t.length ≤ 50) ∧ ts.length = 6 ∧ evE g textsE [.sh S, .ow false Dn, .sh (.str word), .un, .un, .un, .un] = .ok (.ow (.lst (ts.map D.str))) [.sh S, .ow false Dn, .sh (.str word), .un, .un, .un, .un] := by
  have bb : big = 16777216 := rfl
  generalize hρ : ([.sh S, .ow false Dn, .sh (.str word), .un, .un, .un, .un] : Rho) = ρ
  have v2 : evE g (.var 2) ρ = .ok (.sh (.str word)) ρ := by subst hρ; exact e_var rfl
  have t2 : evE g (.bin .add (.var 2) (.con (.str [97]))) ρ = .ok (.sh (.str (word ++ [97]))) ρ := by
    refine e_bin (x := .str word) (y := .str [97]) v2 e_con rfl rfl ?_
    have hb : word.length + [97].length ≤ big := by simp; omega
    simp only [binD, hb, if_true]
  have t3 : evE g (.bin .add (.var 2) (.slH (.var 2) (.con (.int 3)))) ρ = .ok (.sh (.str (word ++ word.take 3))) ρ := by
    refine e_bin (x := .str word) (y := .str (word.take 3)) v2 (e_slH (k := 3) v2 e_con) rfl rfl ?_
    have hb : word.length + (word.take 3).length ≤ big := by simp; omega
    simp only [binD, hb, if_true]
  have t5 : ∃ s : List Nat, s.length ≤ 8 ∧ evE g (.or (.slH (.var 2) (.con (.int 4))) (.con (.str [98]))) ρ = .ok (.sh (.str s)) ρ := by
    have q : evE g (.slH (.var 2) (.con (.int 4))) ρ = .ok (.sh (.str (word.take 4))) ρ := e_slH (k := 4) v2 e_con
    by_cases h : word.take 4 = []
    · rw [h] at q
      exact ⟨[98], by simp, (e_orF q rfl rfl).trans e_con⟩
    · exact ⟨word.take 4, by simp; omega, e_orT q rfl (by simp only [truD]; cases hh : word.take 4 with | nil => exact absurd hh h | cons _ _ => rfl)⟩
  obtain ⟨s, hs, hs2⟩ := t5
  have t6 : evE g (.bin .mul (.or (.slH (.var 2) (.con (.int 4))) (.con (.str [98]))) (.con (.int 2))) ρ = .ok (.sh (.str (s ++ s))) ρ := by
    refine e_bin (x := .str s) (y := .int 2) hs2 e_con rfl rfl ?_
    have hb : (0 : Int) < 2 ∧ (2 : Int) ≤ 1000 ∧ s.length * (2 : Int).toNat ≤ big := ⟨by decide, by decide, by
      show s.length * 2 ≤ big
      omega⟩
    have hr : repN (2 : Int).toNat s = s ++ s := by
      show repN 2 s = s ++ s
      simp [repN, List.replicate]
    simp only [binD, hb, and_self, if_true, hr]
  refine ⟨[word, word ++ [97], word ++ word.take 3, word.reverse, s ++ s, []], fun t ht => ?_, rfl, ?_⟩
  · simp only [List.mem_cons, List.not_mem_nil, or_false] at ht
    rcases ht with rfl | rfl | rfl | rfl | rfl | rfl <;> first | omega | (simp; done) | (simp; omega)
  · exact e_lst (es_cons v2 (es_cons t2 (es_cons t3 (es_cons (e_rev v2) (es_cons t6 (es_cons e_con es_nil)))))) rfl
theorem law_holds : Keeps 63 (Mi.call Γ fuel 80 7) := by
  intro ns hns
  have e0 := gk_C (k := 79) (i := 7) (d := d7) rfl [.lst (ns.map .int)]
  have e1 : (gk (79 + 1)).C 7 [D.lst (ns.map D.int)] = Mi.call Γ fuel 80 7 [D.lst (ns.map D.int)] := rfl
  rw [← e1, e0]
  generalize hS : D.lst (ns.map D.int) = S
  -- the draws
  have hop : (gk 79).C 2 [S] = .ok true (.lst [.int 0, .int 0, .lst (ns.map (fun n => D.int (if n < 0 then -n else n)) ++ [.int 0])]) [.non] := by
    rw [← hS]
    show (gk (78 + 1)).C 2 _ = _
    exact (gk_C (i := 2) (d := d2) rfl _).trans (open_ok (gk 78) ns hns)
  have hd : Drw (ns.map (fun n => if n < 0 then -n else n) ++ [0]) (.lst [.int 0, .int 0, .lst (ns.map (fun n => D.int (if n < 0 then -n else n)) ++ [.int 0])]) := ⟨0, 0, by simp⟩
  generalize D.lst [.int 0, .int 0, .lst (ns.map (fun n => D.int (if n < 0 then -n else n)) ++ [.int 0])] = D0 at hop hd
  have hcs : ns.map (fun n => if n < 0 then -n else n) ++ [0] ≠ [] := by simp
  generalize ns.map (fun n => if n < 0 then -n else n) ++ [0] = cs at hd hcs
  have a1 : evS (gk 79) (.asg (.nm 1) (.call 2 (.cons (.var 0) .nil))) [.sh S, .un, .un, .un, .un, .un, .un] = .ok .nx [.sh S, .ow false D0, .un, .un, .un, .un, .un] :=
    s_asg (e_call1 (own := true) (e_var rfl) rfl hop) rfl
  obtain ⟨word, D1, hw, hwd⟩ := word_ok 77 hcs (S := S) hd
  have a2 : evS (gk 79) (.asg (.nm 2) (.mth .join (.con (.str [])) compWd)) [.sh S, .ow false D0, .un, .un, .un, .un, .un] = .ok .nx [.sh S, .ow false D1, .sh (.str word), .un, .un, .un, .un] := s_asg hwd rfl
  obtain ⟨ts, ht, hl6, hts⟩ := texts_ok (gk 79) S D1 word hw
  have hloop := loopF_inv (step := fun x r => match asgT (.nm 3) x r with | some r1 => evSs (gk 79) bB r1 | none => .bad) (fun _ ρ => ∃ s3 s4 : Sl, (∀ d, s3 ≠ .ow true d) ∧ (∀ d, s4 ≠ .ow true d) ∧ ρ = [.sh S, .ow false D1, .sh (.str word), s3, s4, .un, .un]) (ts.map D.str) 0 [.sh S, .ow false D1, .sh (.str word), .un, .un, .un, .un] (fun i x ρ hx hp => by
      obtain ⟨s3, s4, h3, h4, rfl⟩ := hp
      rw [List.getElem?_map] at hx
      cases hti : ts[i]? with
      | none => rw [hti] at hx; cases hx
      | some t =>
        rw [hti] at hx
        cases hx
        obtain ⟨ls, hb⟩ := body_ok 78 (by decide) S D1 word t (ht t (List.mem_of_getElem? hti)) s4 h4
        refine ⟨Lw S D1 word t ls .un .un, ?_, .sh (.str t), .sh (.tup (ls.map D.str)), (fun d z => by cases z), (fun d z => by cases z), rfl⟩
        rw [asg_ok (s := s3) rfl h3]
        exact hb) ⟨.un, .un, (fun d z => by cases z), (fun d z => by cases z), rfl⟩
  obtain ⟨ρ', hq, _⟩ := hloop
  have a3 : evS (gk 79) (.fors (.nm 3) (.of textsE) bB) [.sh S, .ow false D1, .sh (.str word), .un, .un, .un, .un] = .ok .nx ρ' := s_fors (i_of hts rfl rfl) hq
  refine ⟨_, (run_rt (p := .sh (.bl true)) (ρ := ρ') ⟨rfl, by decide⟩ ?_).trans rfl⟩
  exact (ss_nx a1).trans ((ss_nx a2).trans ((ss_nx a3).trans (ss_rt (s_ret e_con))))
end Law

open PySem PySem.W PyProof.Rows
set_option maxHeartbeats 0 in
theorem PySem.Challenge.cw_solvedandshown_k60_whole_leading_parts_holds : PySem.Challenge.rw_solvedandshown_k60_whole_leading_parts.Holds := by
  w_on; o_law; k_head; (case hw => w_witness2)
  k_fill
  refine L2.walk_ofK (l := PySem.Challenge.rw_solvedandshown_k60_whole_leading_parts) (n := 63) (k := 80) (x := "script") (CX := L2.CX0) (sp := Mi.spLaw Law.XC (Mi.call Law.Γ Law.fuel 80 7)) rfl (by decide) rfl ⟨rfl, by decide, by decide⟩ (fun w h Y => PySem.W.kIn_of Y) ?F (fun _ H a ns hn hO hS => Mi.law_sp Law.law_holds H a ns hn hO hS) (fun _ _ _ _ h => h)
  case F =>
    intro w mg fa h KX G hmg
    refine' Law.all_mk KX G hmg ?a0 ?l0 ?c0 ?k0 ?a1 ?l1 ?c1 ?k1 ?a2 ?l2 ?c2 ?k2 ?a3 ?l3 ?c3 ?k3 ?a4 ?l4 ?c4 ?k4 ?a5 ?l5 ?c5 ?k5 ?a6 ?l6 ?c6 ?k6 ?a7 ?l7 ?c7 ?k7 ?z0 ?z1 ?z2 ?z3 ?z4 ?z5 ?z6
    (case a0 => k_is); (case l0 => k_is); (case c0 => k_is); (case k0 => k_is); (case a1 => k_is); (case l1 => k_is); (case c1 => k_is); (case k1 => k_is); (case a2 => k_is); (case l2 => k_is); (case c2 => k_is); (case k2 => k_is); (case a3 => k_is); (case l3 => k_is); (case c3 => k_is); (case k3 => k_is); (case a4 => k_is); (case l4 => k_is); (case c4 => k_is); (case k4 => k_is); (case a5 => k_is); (case l5 => k_is); (case c5 => k_is); (case k5 => k_is); (case a6 => k_is); (case l6 => k_is); (case c6 => k_is); (case k6 => k_is); (case a7 => k_is); (case l7 => k_is); (case c7 => k_is); (case k7 => k_is); (case z0 => k_is); (case z1 => k_is); (case z2 => k_is); (case z3 => k_is); (case z4 => k_is); (case z5 => k_is); (case z6 => k_is)
