import PyProof.Rows.All
import Wide.All
import OpenK.AllK
import Wide.FinOn
import KE.KStateDown
import KE.KRevSl
import KE.KIndexOf
import HandS.ForMost
import HandS.Evl
import HandS.Defaults
import HandS.TupAny
import HandS.Style
import HandS.Deep
import HandS.DictComp
import HandS.SortInts
import HandS.Conv
import HandS.IsInst
import HandS.Head0
import HandS.Head1
import HandS.Head2
import HandS.HeadEnd
import HandS.HeadHook1
import HandS.HeadHook2
import PySem.Challenge.RW_turnedrows_k25_whole_closed_turns_none_f
set_option Elab.async false
set_option linter.all false
/-! from A_Tree -/
namespace TR
open Classical

/-! ### lists without repetition -/
theorem nodup_filter {α : Type} {l : List α} (p : α → Bool) (h : l.Nodup) : (l.filter p).Nodup := h.sublist List.filter_sublist
theorem nd_le {α : Type} {A B : List α} (hA : A.Nodup) (h : ∀ x, x ∈ A → x ∈ B) : A.length ≤ B.length :=
  hA.length_le_of_subset (List.subset_def.mpr fun {a} => h a)
theorem nd_eq {α : Type} {A B : List α} (hA : A.Nodup) (hB : B.Nodup) (h : ∀ x, x ∈ A ↔ x ∈ B) : A.length = B.length :=
  Nat.le_antisymm (nd_le hA fun x => (h x).mp) (nd_le hB fun x => (h x).mpr)
theorem nd_back {α : Type} {A B : List α} (hA : A.Nodup) (h : ∀ x, x ∈ A → x ∈ B) (hl : B.length ≤ A.length) : ∀ x, x ∈ B → x ∈ A := by
  intro x hx
  by_cases hxA : x ∈ A
  · exact hxA
  · have := nd_le (A := x :: A) (B := B) (List.nodup_cons.mpr ⟨hxA, hA⟩) (by
      intro y hy
      rcases List.mem_cons.mp hy with rfl | hy
      · exact hx
      · exact h y hy)
    simp at this
    omega
theorem len_split {α : Type} (l : List α) (p : α → Prop) : (l.filter (fun x => decide (p x))).length + (l.filter (fun x => decide (¬ p x))).length = l.length := by
  induction l with
  | nil => rfl
  | cons a l ih =>
    by_cases h : p a
    · simp [List.filter_cons, h] at ih ⊢; omega
    · simp [List.filter_cons, h] at ih ⊢; omega

/-! ### betweenness -/
structure Bt (R : Nat → Nat → Nat → Prop) (pt : Nat → Nat) (ok : Nat → Prop) : Prop where
  sym : ∀ {X x y}, R X x y → R X y x
  irr : ∀ {X x}, ¬ R X x x
  cot : ∀ {X x y} (z), R X x y → R X x z ∨ R X z y
  T : ∀ {P Z u}, ok P → ok Z → P ≠ Z → R P u (pt Z) → ¬ R Z u (pt P)

def Hur (R : Nat → Nat → Nat → Prop) (pt : Nat → Nat) (G : List Nat) (X : Nat) : Prop :=
  X ∈ G ∧ ∀ U ∈ G, ∀ V ∈ G, U ≠ X → V ≠ X → ¬ R X (pt U) (pt V)
def del (G : List Nat) (P : Nat) : List Nat := G.filter (fun x => decide (x ≠ P))
noncomputable def hur (R : Nat → Nat → Nat → Prop) (pt : Nat → Nat) (G : List Nat) : List Nat := G.filter (fun X => decide (Hur R pt G X))
def Great (R : Nat → Nat → Nat → Prop) (pt : Nat → Nat) (G : List Nat) (X : Nat) : Prop := ∃ Z ∈ del G X, ¬ Hur R pt G Z ∧ Hur R pt (del G X) Z
def Fort (R : Nat → Nat → Nat → Prop) (pt : Nat → Nat) (G : List Nat) : Prop := (hur R pt G).length % 2 = 1 ∧ ∀ X ∈ hur R pt G, Great R pt G X
noncomputable def sc (R : Nat → Nat → Nat → Prop) (pt : Nat → Nat) (G : List Nat) : Nat := (hur R pt G).length + if Fort R pt G then 1 else 0

theorem mem_del {G : List Nat} {P x : Nat} : x ∈ del G P ↔ x ∈ G ∧ x ≠ P := by simp [del]
theorem del_comm (G : List Nat) (P Y : Nat) : del (del G P) Y = del (del G Y) P := by
  simp only [del, List.filter_filter]
  congr 1
  funext x
  exact Bool.and_comm _ _
theorem nd_del {G : List Nat} {P : Nat} (h : G.Nodup) : (del G P).Nodup := nodup_filter _ h
theorem mem_hur {R : Nat → Nat → Nat → Prop} {pt : Nat → Nat} {G : List Nat} {x : Nat} : x ∈ hur R pt G ↔ Hur R pt G x := by
  simp only [hur, List.mem_filter, decide_eq_true_eq]
  exact ⟨fun h => h.2, fun h => ⟨h.1, h⟩⟩
theorem nd_hur {R : Nat → Nat → Nat → Prop} {pt : Nat → Nat} {G : List Nat} (h : G.Nodup) : (hur R pt G).Nodup := nodup_filter _ h

section
variable {R : Nat → Nat → Nat → Prop} {pt : Nat → Nat}
theorem Hur.sub {K G : List Nat} {X : Nat} (h : Hur R pt G X) (hX : X ∈ K) (hs : ∀ x ∈ K, x ∈ G) : Hur R pt K X :=
  ⟨hX, fun U hU V hV hu hv => h.2 U (hs U hU) V (hs V hV) hu hv⟩
theorem Hur.congr {K G : List Nat} {X : Nat} (hs : ∀ x, x ∈ K ↔ x ∈ G) : Hur R pt K X ↔ Hur R pt G X :=
  ⟨fun h => h.sub ((hs X).mp h.1) fun x => (hs x).mpr, fun h => h.sub ((hs X).mpr h.1) fun x => (hs x).mp⟩
theorem hur_congr {K G : List Nat} (nK : K.Nodup) (nG : G.Nodup) (hs : ∀ x, x ∈ K ↔ x ∈ G) : (hur R pt K).length = (hur R pt G).length :=
  nd_eq (nd_hur nK) (nd_hur nG) fun x => by rw [mem_hur, mem_hur]; exact Hur.congr hs
theorem Great.congr {K G : List Nat} {X : Nat} (hs : ∀ x, x ∈ K ↔ x ∈ G) : Great R pt K X ↔ Great R pt G X := by
  have hd : ∀ x, x ∈ del K X ↔ x ∈ del G X := fun x => by rw [mem_del, mem_del, hs]
  constructor
  · rintro ⟨Z, hZ, h1, h2⟩
    exact ⟨Z, (hd Z).mp hZ, fun h => h1 ((Hur.congr hs).mpr h), (Hur.congr hd).mp h2⟩
  · rintro ⟨Z, hZ, h1, h2⟩
    exact ⟨Z, (hd Z).mpr hZ, fun h => h1 ((Hur.congr hs).mp h), (Hur.congr hd).mpr h2⟩
theorem sc_congr {K G : List Nat} (nK : K.Nodup) (nG : G.Nodup) (hs : ∀ x, x ∈ K ↔ x ∈ G) : sc R pt K = sc R pt G := by
  have e : Fort R pt K ↔ Fort R pt G := by
    unfold Fort
    rw [hur_congr nK nG hs]
    constructor
    · rintro ⟨h1, h2⟩
      exact ⟨h1, fun X hX => (Great.congr hs).mp (h2 X (mem_hur.mpr ((Hur.congr hs).mpr (mem_hur.mp hX))))⟩
    · rintro ⟨h1, h2⟩
      exact ⟨h1, fun X hX => (Great.congr hs).mpr (h2 X (mem_hur.mpr ((Hur.congr hs).mp (mem_hur.mp hX))))⟩
  unfold sc
  rw [hur_congr nK nG hs]
  simp only [e]
theorem sc_ge (G : List Nat) : (hur R pt G).length ≤ sc R pt G := Nat.le_add_right _ _
theorem sc_le (G : List Nat) : sc R pt G ≤ (hur R pt G).length + 1 := by
  unfold sc
  split <;> omega
theorem sc_even {G : List Nat} (h : (hur R pt G).length % 2 = 0) : sc R pt G = (hur R pt G).length := by
  unfold sc
  rw [if_neg (fun f => by have := f.1; omega)]
  rfl
theorem sc_fort {G : List Nat} (h : Fort R pt G) : sc R pt G = (hur R pt G).length + 1 := by
  unfold sc
  rw [if_pos h]
theorem sc_nofort {G : List Nat} (h : ¬ Fort R pt G) : sc R pt G = (hur R pt G).length := by
  unfold sc
  rw [if_neg h]
  rfl
end

section
variable {R : Nat → Nat → Nat → Prop} {pt : Nat → Nat} {ok : Nat → Prop} (B : Bt R pt ok)
include B
/-- what a new hurdle separates when P is left out -/
theorem alone {G : List Nat} {P Z : Nat} (hZ : Z ∈ G) (hZP : Z ≠ P) (h0 : ¬ Hur R pt G Z) (h1 : Hur R pt (del G P) Z) :
    (∃ Q ∈ del G P, Q ≠ Z) ∧ ∀ W ∈ del G P, W ≠ Z → R Z (pt P) (pt W) := by
  have : ∃ U ∈ G, ∃ V ∈ G, U ≠ Z ∧ V ≠ Z ∧ R Z (pt U) (pt V) := by
    apply Classical.byContradiction
    intro hn
    exact h0 ⟨hZ, fun U hU V hV hu hv hr => hn ⟨U, hU, V, hV, hu, hv, hr⟩⟩
  obtain ⟨U, hU, V, hV, hu, hv, hr⟩ := this
  have : ∃ Q ∈ del G P, Q ≠ Z ∧ R Z (pt P) (pt Q) := by
    by_cases hUP : U = P
    · by_cases hVP : V = P
      · rw [hUP, hVP] at hr
        exact (B.irr hr).elim
      · exact ⟨V, mem_del.mpr ⟨hV, hVP⟩, hv, hUP ▸ hr⟩
    · by_cases hVP : V = P
      · exact ⟨U, mem_del.mpr ⟨hU, hUP⟩, hu, B.sym (hVP ▸ hr)⟩
      · exact (h1.2 U (mem_del.mpr ⟨hU, hUP⟩) V (mem_del.mpr ⟨hV, hVP⟩) hu hv hr).elim
  obtain ⟨Q, hQ, hQZ, hq⟩ := this
  refine ⟨⟨Q, hQ, hQZ⟩, fun W hW hWZ => ?_⟩
  rcases B.cot (pt W) hq with h | h
  · exact h
  · exact (h1.2 W hW Q hQ hWZ hQZ h).elim

theorem new_hur {G : List Nat} {P Z : Nat} (hok : ∀ x ∈ G, ok x) (hP : P ∈ G) (hZ : Z ∈ G) (hZP : Z ≠ P) (h0 : ¬ Hur R pt G Z) (h1 : Hur R pt (del G P) Z) : Hur R pt G P := by
  obtain ⟨⟨Q, hQ, hQZ⟩, al⟩ := alone B hZ hZP h0 h1
  refine ⟨hP, fun U hU V hV hu hv hr => ?_⟩
  have : ∃ W ∈ G, W ≠ P ∧ R P (pt W) (pt Z) := by
    rcases B.cot (pt Z) hr with h | h
    · exact ⟨U, hU, hu, h⟩
    · exact ⟨V, hV, hv, B.sym h⟩
  obtain ⟨W, hW, hWP, hw⟩ := this
  have hWZ : W ≠ Z := fun e => by rw [e] at hw; exact B.irr hw
  exact B.T (hok P hP) (hok Z hZ) hZP.symm hw (B.sym (al W (mem_del.mpr ⟨hW, hWP⟩) hWZ))

theorem new_uniq {G : List Nat} {P Z W : Nat} (hok : ∀ x ∈ G, ok x) (hZ : Z ∈ G) (hZP : Z ≠ P) (h0 : ¬ Hur R pt G Z) (h1 : Hur R pt (del G P) Z)
    (hW : W ∈ G) (hWP : W ≠ P) (g0 : ¬ Hur R pt G W) (g1 : Hur R pt (del G P) W) : Z = W := by
  apply Classical.byContradiction
  intro hne
  have a := (alone B hZ hZP h0 h1).2 W (mem_del.mpr ⟨hW, hWP⟩) (Ne.symm hne)
  have b := (alone B hW hWP g0 g1).2 Z (mem_del.mpr ⟨hZ, hZP⟩) hne
  exact B.T (hok Z hZ) (hok W hW) hne a b

theorem len_a {G : List Nat} {P : Nat} (nG : G.Nodup) (hok : ∀ x ∈ G, ok x) (hP : P ∈ G) (h : ¬ Hur R pt G P) : (hur R pt (del G P)).length = (hur R pt G).length := by
  refine nd_eq (nd_hur (nd_del nG)) (nd_hur nG) fun x => ?_
  rw [mem_hur, mem_hur]
  constructor
  · intro hx
    have hd := mem_del.mp hx.1
    apply Classical.byContradiction
    intro hn
    exact h (new_hur B hok hP hd.1 hd.2 hn hx)
  · intro hx
    have : x ≠ P := fun e => h (e ▸ hx)
    exact hx.sub (mem_del.mpr ⟨hx.1, this⟩) fun y hy => (mem_del.mp hy).1

theorem len_b {G : List Nat} {P : Nat} (nG : G.Nodup) (hok : ∀ x ∈ G, ok x) (h : Hur R pt G P) (hg : ¬ Great R pt G P) : (hur R pt (del G P)).length + 1 = (hur R pt G).length := by
  have : (P :: hur R pt (del G P)).length = (hur R pt G).length := by
    refine nd_eq (List.nodup_cons.mpr ⟨fun hm => (mem_del.mp (mem_hur.mp hm).1).2 rfl, nd_hur (nd_del nG)⟩) (nd_hur nG) fun x => ?_
    rw [List.mem_cons, mem_hur, mem_hur]
    constructor
    · rintro (rfl | hx)
      · exact h
      · apply Classical.byContradiction
        intro hn
        exact hg ⟨x, hx.1, hn, hx⟩
    · intro hx
      by_cases e : x = P
      · exact .inl e
      · exact .inr (hx.sub (mem_del.mpr ⟨hx.1, e⟩) fun y hy => (mem_del.mp hy).1)
  simpa using this

theorem len_c {G : List Nat} {P : Nat} (nG : G.Nodup) (hok : ∀ x ∈ G, ok x) (h : Hur R pt G P) (hg : Great R pt G P) : (hur R pt (del G P)).length = (hur R pt G).length := by
  obtain ⟨Z, hZ, z0, z1⟩ := hg
  have hZd := mem_del.mp hZ
  have e1 : (Z :: hur R pt G).length = (P :: hur R pt (del G P)).length := by
    refine nd_eq (List.nodup_cons.mpr ⟨fun hm => z0 (mem_hur.mp hm), nd_hur nG⟩) (List.nodup_cons.mpr ⟨fun hm => (mem_del.mp (mem_hur.mp hm).1).2 rfl, nd_hur (nd_del nG)⟩) fun x => ?_
    rw [List.mem_cons, mem_hur, List.mem_cons, mem_hur]
    constructor
    · rintro (rfl | hx)
      · exact .inr z1
      · by_cases e : x = P
        · exact .inl e
        · exact .inr (hx.sub (mem_del.mpr ⟨hx.1, e⟩) fun y hy => (mem_del.mp hy).1)
    · rintro (rfl | hx)
      · exact .inr h
      · by_cases hn : Hur R pt G x
        · exact .inr hn
        · have hd := mem_del.mp hx.1
          exact .inl (new_uniq B hok hd.1 hd.2 hn hx hZd.1 hZd.2 z0 z1)
  simpa using e1.symm

theorem mono1 {G : List Nat} {P : Nat} (nG : G.Nodup) (hok : ∀ x ∈ G, ok x) (hP : P ∈ G) : sc R pt (del G P) ≤ sc R pt G := by
  by_cases h : Hur R pt G P
  · by_cases hg : Great R pt G P
    · have hl := len_c B nG hok h hg
      by_cases hf : Fort R pt (del G P)
      · have : Fort R pt G := by
          refine ⟨by rw [← hl]; exact hf.1, fun Y hY => ?_⟩
          by_cases hYP : Y = P
          · rw [hYP]; exact hg
          · have hY' := mem_hur.mp hY
            obtain ⟨W, hW, w0, w1⟩ := hf.2 Y (mem_hur.mpr (hY'.sub (mem_del.mpr ⟨hY'.1, hYP⟩) fun y hy => (mem_del.mp hy).1))
            have hWd := mem_del.mp hW
            have hWdd := mem_del.mp hWd.1
            have wG : ¬ Hur R pt G W := fun hh => w0 (hh.sub hWd.1 fun y hy => (mem_del.mp hy).1)
            by_cases hwy : Hur R pt (del G Y) W
            · exact ⟨W, mem_del.mpr ⟨hWdd.1, hWd.2⟩, wG, hwy⟩
            · exfalso
              obtain ⟨Z, hZ, z0, z1⟩ := hg
              have hZd := mem_del.mp hZ
              have hZY : Z ≠ Y := fun e => z0 (e ▸ hY')
              have hZW : Z ≠ W := fun e => w0 (e ▸ z1)
              rw [del_comm] at w1
              have a := (alone B (mem_del.mpr ⟨hWdd.1, hWd.2⟩) hWdd.2 hwy w1).2 Z (mem_del.mpr ⟨mem_del.mpr ⟨hZd.1, hZY⟩, hZd.2⟩) hZW
              have b := (alone B hZd.1 hZd.2 z0 z1).2 W hWd.1 (Ne.symm hZW)
              exact B.T (hok W hWdd.1) (hok Z hZd.1) (Ne.symm hZW) a b
        rw [sc_fort this, sc_fort hf, hl]
        exact Nat.le_refl _
      · rw [sc_nofort hf, hl]
        exact sc_ge G
    · have hl := len_b B nG hok h hg
      have := sc_le (R := R) (pt := pt) (del G P)
      have := sc_ge (R := R) (pt := pt) G
      omega
  · have hl := len_a B nG hok hP h
    by_cases hf : Fort R pt (del G P)
    · have : Fort R pt G := by
        refine ⟨by rw [← hl]; exact hf.1, fun Y hY => ?_⟩
        have hY' := mem_hur.mp hY
        have hYP : Y ≠ P := fun e => h (e ▸ hY')
        obtain ⟨W, hW, w0, w1⟩ := hf.2 Y (mem_hur.mpr (hY'.sub (mem_del.mpr ⟨hY'.1, hYP⟩) fun y hy => (mem_del.mp hy).1))
        have hWd := mem_del.mp hW
        have hWdd := mem_del.mp hWd.1
        have wG : ¬ Hur R pt G W := fun hh => w0 (hh.sub hWd.1 fun y hy => (mem_del.mp hy).1)
        by_cases hwy : Hur R pt (del G Y) W
        · exact ⟨W, mem_del.mpr ⟨hWdd.1, hWd.2⟩, wG, hwy⟩
        · rw [del_comm] at w1
          have hp : P ∈ del G Y := mem_del.mpr ⟨hP, Ne.symm hYP⟩
          exact ⟨P, hp, h, new_hur B (fun x hx => hok x (mem_del.mp hx).1) hp (mem_del.mpr ⟨hWdd.1, hWd.2⟩) hWdd.2 hwy w1⟩
      rw [sc_fort this, sc_fort hf, hl]
      exact Nat.le_refl _
    · rw [sc_nofort hf, hl]
      exact sc_ge G

theorem mono_sub {K G : List Nat} (nG : G.Nodup) (hok : ∀ x ∈ G, ok x) (nK : K.Nodup) (hs : ∀ x ∈ K, x ∈ G) : sc R pt K ≤ sc R pt G := by
  generalize hn : G.length = n
  induction n using Nat.strongRecOn generalizing G with
  | _ n ih =>
    by_cases hb : ∀ x ∈ G, x ∈ K
    · rw [sc_congr nK nG fun x => ⟨hs x, hb x⟩]
      exact Nat.le_refl _
    · have : ∃ P ∈ G, P ∉ K := by
        apply Classical.byContradiction
        intro hh
        exact hb fun x hx => Classical.byContradiction fun hk => hh ⟨x, hx, hk⟩
      obtain ⟨P, hP, hPK⟩ := this
      have hlt : (del G P).length < G.length := by
        unfold del
        rw [List.length_filter_lt_length_iff_exists]
        exact ⟨P, hP, by simp⟩
      refine Nat.le_trans (ih (del G P).length (by omega) (nd_del nG) (fun x hx => hok x (mem_del.mp hx).1) (fun x hx => mem_del.mpr ⟨hs x hx, fun e => by rw [e] at hx; exact hPK hx⟩) rfl) (mono1 B nG hok hP)

/-- (A) one part goes -/
theorem single {G : List Nat} {X : Nat} (nG : G.Nodup) (hok : ∀ x ∈ G, ok x) (hX : X ∈ G) : sc R pt G ≤ sc R pt (del G X) + 1 := by
  by_cases hf : Fort R pt G
  · rw [sc_fort hf]
    have : (hur R pt (del G X)).length = (hur R pt G).length := by
      by_cases h : Hur R pt G X
      · exact len_c B nG hok h (hf.2 X (mem_hur.mpr h))
      · exact len_a B nG hok hX h
    have := sc_ge (R := R) (pt := pt) (del G X)
    omega
  · rw [sc_nofort hf]
    have := sc_ge (R := R) (pt := pt) (del G X)
    by_cases h : Hur R pt G X
    · by_cases hg : Great R pt G X
      · have := len_c B nG hok h hg
        omega
      · have := len_b B nG hok h hg
        omega
    · have := len_a B nG hok hX h
      omega

/-- (A) the parts that separate two points go -/
theorem path {G : List Nat} (nG : G.Nodup) (hok : ∀ x ∈ G, ok x) (c1 c2 : Nat) : sc R pt G ≤ sc R pt (G.filter (fun x => decide (¬ R x c1 c2))) + 2 := by
  generalize hK : G.filter (fun x => decide (¬ R x c1 c2)) = K
  have mK : ∀ x, x ∈ K ↔ x ∈ G ∧ ¬ R x c1 c2 := fun x => by rw [← hK]; simp
  have nK : K.Nodup := by rw [← hK]; exact nodup_filter _ nG
  have al : ∀ X, Hur R pt G X → R X c1 c2 → (∀ Q ∈ G, Q ≠ X → R X c1 (pt Q)) ∨ (∀ Q ∈ G, Q ≠ X → R X c2 (pt Q)) := by
    intro X hX hr
    by_cases h : ∀ Q ∈ G, Q ≠ X → R X c1 (pt Q)
    · exact .inl h
    · right
      have : ∃ Q ∈ G, Q ≠ X ∧ ¬ R X c1 (pt Q) := by
        apply Classical.byContradiction
        intro hh
        exact h fun Q hQ hn => Classical.byContradiction fun hk => hh ⟨Q, hQ, hn, hk⟩
      obtain ⟨Q, hQ, hQX, hq⟩ := this
      intro Q' hQ' hn
      rcases B.cot (pt Q') hr with h2 | h2
      · rcases B.cot (pt Q) h2 with h3 | h3
        · exact (hq h3).elim
        · exact (hX.2 Q hQ Q' hQ' hQX hn h3).elim
      · exact B.sym h2
  have un : ∀ c X X', X ∈ G → X' ∈ G → X ≠ X' → (∀ Q ∈ G, Q ≠ X → R X c (pt Q)) → ¬ (∀ Q ∈ G, Q ≠ X' → R X' c (pt Q)) := by
    intro c X X' hX hX' hne h1 h2
    exact B.T (hok X hX) (hok X' hX') hne (h1 X' hX' (Ne.symm hne)) (h2 X hX hne)
  let HD := (hur R pt G).filter (fun x => decide (R x c1 c2))
  let HN := (hur R pt G).filter (fun x => decide (¬ R x c1 c2))
  have nHD : HD.Nodup := nodup_filter _ (nd_hur nG)
  have nHN : HN.Nodup := nodup_filter _ (nd_hur nG)
  have split : HD.length + HN.length = (hur R pt G).length := len_split (hur R pt G) fun x => R x c1 c2
  have mHD : ∀ x, x ∈ HD → Hur R pt G x ∧ R x c1 c2 := fun x hx => by
    have := List.mem_filter.mp hx
    exact ⟨mem_hur.mp this.1, of_decide_eq_true this.2⟩
  have sN : ∀ x, x ∈ HN → x ∈ hur R pt K := fun x hx => by
    have h := List.mem_filter.mp hx
    have hx' := mem_hur.mp h.1
    exact mem_hur.mpr (hx'.sub ((mK x).mpr ⟨hx'.1, of_decide_eq_true h.2⟩) fun y hy => ((mK y).mp hy).1)
  have lN : HN.length ≤ (hur R pt K).length := nd_le nHN sN
  have two : ∀ X1 X2 X3, X1 ∈ HD → X2 ∈ HD → X3 ∈ HD → X1 ≠ X2 → X1 ≠ X3 → X2 ≠ X3 → False := by
    intro X1 X2 X3 h1 h2 h3 n12 n13 n23
    obtain ⟨k1, r1⟩ := mHD _ h1
    obtain ⟨k2, r2⟩ := mHD _ h2
    obtain ⟨k3, r3⟩ := mHD _ h3
    rcases al X1 k1 r1 with a1 | a1 <;> rcases al X2 k2 r2 with a2 | a2 <;> rcases al X3 k3 r3 with a3 | a3
    all_goals first
      | exact un _ X1 X2 k1.1 k2.1 n12 a1 a2
      | exact un _ X1 X3 k1.1 k3.1 n13 a1 a3
      | exact un _ X2 X3 k2.1 k3.1 n23 a2 a3
  have lD : HD.length ≤ 2 := by
    match hh : HD with
    | [] => simp
    | [_] => simp
    | [_, _] => simp
    | x1 :: x2 :: x3 :: r =>
      exfalso
      have hnd : (x1 :: x2 :: x3 :: r).Nodup := hh ▸ nHD
      simp only [List.nodup_cons, List.mem_cons, not_or] at hnd
      exact two x1 x2 x3 (by simp) (by simp) (by simp) hnd.1.1 hnd.1.2.1 hnd.2.1.1
  have gK := sc_ge (R := R) (pt := pt) K
  by_cases hf : Fort R pt G
  · rw [sc_fort hf]
    by_cases hb : (hur R pt G).length ≤ (hur R pt K).length + 1
    · omega
    · have e2 : HD.length = 2 := by omega
      have eN : (hur R pt K).length = HN.length := by omega
      have back := nd_back nHN sN (by omega)
      have : Fort R pt K := by
        refine ⟨by have := hf.1; omega, fun Y hY => ?_⟩
        have hYN := List.mem_filter.mp (back Y hY)
        have hYG := mem_hur.mp hYN.1
        have hYr : ¬ R Y c1 c2 := of_decide_eq_true hYN.2
        obtain ⟨Z, hZ, z0, z1⟩ := hf.2 Y hYN.1
        have hZd := mem_del.mp hZ
        by_cases hD : R Z c1 c2
        · exfalso
          obtain ⟨X1, X2, eHD⟩ : ∃ X1 X2, HD = [X1, X2] := by
            match HD, e2 with
            | [a, b], _ => exact ⟨a, b, rfl⟩
          have n12 : X1 ≠ X2 := by
            have := nHD
            rw [eHD] at this
            simp at this
            exact this
          obtain ⟨k1, r1⟩ := mHD X1 (by rw [eHD]; simp)
          obtain ⟨k2, r2⟩ := mHD X2 (by rw [eHD]; simp)
          have zn1 : Z ≠ X1 := fun e => z0 (e ▸ k1)
          have zn2 : Z ≠ X2 := fun e => z0 (e ▸ k2)
          have y1 : X1 ≠ Y := fun e => hYr (e ▸ r1)
          have y2 : X2 ≠ Y := fun e => hYr (e ▸ r2)
          have key := z1.2 X1 (mem_del.mpr ⟨k1.1, y1⟩) X2 (mem_del.mpr ⟨k2.1, y2⟩) (Ne.symm zn1) (Ne.symm zn2)
          have fin : ∀ c d, (∀ Q ∈ G, Q ≠ X1 → R X1 c (pt Q)) → (∀ Q ∈ G, Q ≠ X2 → R X2 d (pt Q)) → R Z c d → False := by
            intro c d a1 a2 hr
            have b1 : ¬ R Z c (pt X1) := B.T (hok X1 k1.1) (hok Z hZd.1) (Ne.symm zn1) (a1 Z hZd.1 zn1)
            have b2 : ¬ R Z d (pt X2) := B.T (hok X2 k2.1) (hok Z hZd.1) (Ne.symm zn2) (a2 Z hZd.1 zn2)
            rcases B.cot (pt X1) hr with h | h
            · exact b1 h
            · rcases B.cot (pt X2) h with h | h
              · exact key h
              · exact b2 (B.sym h)
          rcases al X1 k1 r1 with a1 | a1 <;> rcases al X2 k2 r2 with a2 | a2
          · exact un _ X1 X2 k1.1 k2.1 n12 a1 a2
          · exact fin c1 c2 a1 a2 hD
          · exact fin c2 c1 a1 a2 (B.sym hD)
          · exact un _ X1 X2 k1.1 k2.1 n12 a1 a2
        · have hZK : Z ∈ K := (mK Z).mpr ⟨hZd.1, hD⟩
          refine ⟨Z, mem_del.mpr ⟨hZK, hZd.2⟩, fun hh => ?_, z1.sub (mem_del.mpr ⟨hZK, hZd.2⟩) fun y hy => ?_⟩
          · exact z0 (mem_hur.mp (List.mem_filter.mp (back Z (mem_hur.mpr hh))).1)
          · have := mem_del.mp hy
            exact mem_del.mpr ⟨((mK y).mp this.1).1, this.2⟩
      rw [sc_fort this]
      omega
  · rw [sc_nofort hf]
    omega

/-- each side of a part has a hurdle -/
theorem class_hur {G : List Nat} (nG : G.Nodup) (hok : ∀ x ∈ G, ok x) {Z U : Nat} (hZ : Z ∈ G) (hU : U ∈ G) (hUZ : U ≠ Z) :
    ∃ X, Hur R pt G X ∧ X ≠ Z ∧ ¬ R Z (pt X) (pt U) := by
  have main : ∀ n X, X ∈ G → X ≠ Z → ¬ R Z (pt X) (pt U) → G.length ≤ (G.filter (fun V => decide (V ≠ X ∧ ¬ R X (pt V) (pt Z)))).length + n →
      ∃ X, Hur R pt G X ∧ X ≠ Z ∧ ¬ R Z (pt X) (pt U) := by
    intro n
    induction n with
    | zero =>
      intro X hX hXZ hr hl
      exfalso
      have : (G.filter (fun V => decide (V ≠ X ∧ ¬ R X (pt V) (pt Z)))).length < G.length := by
        rw [List.length_filter_lt_length_iff_exists]
        exact ⟨X, hX, by simp⟩
      omega
    | succ n ih =>
      intro X hX hXZ hr hl
      by_cases hh : Hur R pt G X
      · exact ⟨X, hh, hXZ, hr⟩
      · have : ∃ W ∈ G, W ≠ X ∧ R X (pt W) (pt Z) := by
          apply Classical.byContradiction
          intro hn
          refine hh ⟨hX, fun U hU V hV hu hv hr' => ?_⟩
          rcases B.cot (pt Z) hr' with h | h
          · exact hn ⟨U, hU, hu, h⟩
          · exact hn ⟨V, hV, hv, B.sym h⟩
        obtain ⟨W, hW, hWX, hw⟩ := this
        have hWZ : W ≠ Z := fun e => by rw [e] at hw; exact B.irr hw
        have h1 : ¬ R Z (pt W) (pt X) := B.T (hok X hX) (hok Z hZ) hXZ hw
        have hwz : ¬ R W (pt Z) (pt X) := B.T (hok X hX) (hok W hW) (Ne.symm hWX) (B.sym hw)
        refine ih W hW hWZ (fun hr' => ?_) ?_
        · rcases B.cot (pt X) hr' with h | h
          · exact h1 h
          · exact hr h
        · have hlt : (X :: G.filter (fun V => decide (V ≠ X ∧ ¬ R X (pt V) (pt Z)))).length ≤ (G.filter (fun V => decide (V ≠ W ∧ ¬ R W (pt V) (pt Z)))).length := by
            refine nd_le (List.nodup_cons.mpr ⟨by simp, nodup_filter _ nG⟩) fun V hV => ?_
            rcases List.mem_cons.mp hV with rfl | hV
            · refine List.mem_filter.mpr ⟨hX, decide_eq_true ⟨Ne.symm hWX, fun h => hwz (B.sym h)⟩⟩
            · have hV' := List.mem_filter.mp hV
              obtain ⟨v1, v2⟩ := of_decide_eq_true hV'.2
              have vW : V ≠ W := fun e => v2 (e ▸ hw)
              refine List.mem_filter.mpr ⟨hV'.1, decide_eq_true ⟨vW, fun h => ?_⟩⟩
              have : R X (pt V) (pt W) := by
                rcases B.cot (pt V) hw with h | h
                · exact B.sym h
                · exact (v2 h).elim
              have := B.T (hok X hX) (hok W hW) (Ne.symm hWX) this
              rcases B.cot (pt X) h with h | h
              · exact this h
              · exact hwz (B.sym h)
          simp only [List.length_cons] at hlt
          omega
  exact main G.length U hU hUZ B.irr (by omega)

theorem hur_pos {G : List Nat} (nG : G.Nodup) (hok : ∀ x ∈ G, ok x) (hne : G ≠ []) : 1 ≤ (hur R pt G).length := by
  have : ∃ X, Hur R pt G X := by
    match G, hne with
    | [a], _ => exact ⟨a, by simp, fun U hU V hV hu hv => by simp at hU; exact (hu hU).elim⟩
    | a :: b :: r, _ =>
      have : b ≠ a := by
        have := nG
        simp only [List.nodup_cons, List.mem_cons, not_or] at this
        exact Ne.symm this.1.1
      obtain ⟨X, hX, _⟩ := class_hur B nG hok (Z := a) (U := b) (by simp) (by simp) this
      exact ⟨X, hX⟩
  obtain ⟨X, hX⟩ := this
  have := mem_hur.mpr hX
  cases h : hur R pt G with
  | nil => rw [h] at this; cases this
  | cons a l => simp

omit B in
theorem two_of {l : List Nat} (nl : l.Nodup) (h : 2 ≤ l.length) : ∃ a ∈ l, ∃ b ∈ l, a ≠ b := by
  match l, h with
  | a :: b :: r, _ =>
    simp only [List.nodup_cons, List.mem_cons, not_or] at nl
    exact ⟨a, by simp, b, by simp, nl.1.1⟩

/-- a part that becomes a hurdle when the way between two hurdles goes -/
theorem blocks {G : List Nat} (hok : ∀ x ∈ G, ok x) {X1 X2 Z : Nat} (h1 : X1 ∈ G) (h2 : X2 ∈ G) (hne : X1 ≠ X2) {D : Nat → Prop} (d1 : D X1) (d2 : D X2)
    (hD : ∀ Z ∈ G, Z ≠ X1 → Z ≠ X2 → (D Z ↔ R Z (pt X1) (pt X2))) (hZ : Z ∈ G) (hnD : ¬ D Z) (z0 : ¬ Hur R pt G Z) (z1 : Hur R pt (G.filter (fun x => decide (¬ D x))) Z) :
    ∀ V ∈ G, V ≠ Z → ¬ R Z (pt V) (pt X1) → D V := by
  intro V0 hV0 hV0Z hr0
  apply Classical.byContradiction
  intro hnV0
  apply z0
  have zx1 : Z ≠ X1 := fun e => hnD (e ▸ d1)
  have zx2 : Z ≠ X2 := fun e => hnD (e ▸ d2)
  have z12 : ¬ R Z (pt X1) (pt X2) := fun h => hnD ((hD Z hZ zx1 zx2).mpr h)
  have mK : ∀ x, x ∈ G.filter (fun x => decide (¬ D x)) ↔ x ∈ G ∧ ¬ D x := fun x => by simp
  have all : ∀ W ∈ G, W ≠ Z → ¬ R Z (pt W) (pt X1) := by
    intro W hW hWZ hr
    by_cases hDW : D W
    · by_cases w1 : W = X1
      · rw [w1] at hr; exact B.irr hr
      · by_cases w2 : W = X2
        · rw [w2] at hr; exact z12 (B.sym hr)
        · have hw := (hD W hW w1 w2).mp hDW
          have a1 : ¬ R W (pt X1) (pt Z) := B.T (hok Z hZ) (hok W hW) (Ne.symm hWZ) (B.sym hr)
          have a2 : ¬ R W (pt X2) (pt Z) := by
            refine B.T (hok Z hZ) (hok W hW) (Ne.symm hWZ) ?_
            rcases B.cot (pt X2) hr with h | h
            · exact B.sym h
            · exact (z12 (B.sym h)).elim
          rcases B.cot (pt Z) hw with h | h
          · exact a1 h
          · exact a2 (B.sym h)
    · rcases B.cot (pt V0) hr with h | h
      · exact z1.2 W ((mK W).mpr ⟨hW, hDW⟩) V0 ((mK V0).mpr ⟨hV0, hnV0⟩) hWZ hV0Z h
      · exact hr0 h
  refine ⟨hZ, fun U hU V hV hu hv hr => ?_⟩
  rcases B.cot (pt X1) hr with h | h
  · exact all U hU hu h
  · exact all V hV hv (B.sym h)

/-- another side of a blocking part has a hurdle -/
theorem other_hur {G : List Nat} (nG : G.Nodup) (hok : ∀ x ∈ G, ok x) {X1 Z : Nat} (hZ : Z ∈ G) (z0 : ¬ Hur R pt G Z) : ∃ X, Hur R pt G X ∧ X ≠ Z ∧ R Z (pt X) (pt X1) := by
  have : ∃ V ∈ G, V ≠ Z ∧ R Z (pt V) (pt X1) := by
    apply Classical.byContradiction
    intro hn
    refine z0 ⟨hZ, fun U hU V hV hu hv hr => ?_⟩
    rcases B.cot (pt X1) hr with h | h
    · exact hn ⟨U, hU, hu, h⟩
    · exact hn ⟨V, hV, hv, B.sym h⟩
  obtain ⟨V, hV, hVZ, hv⟩ := this
  obtain ⟨X, hX, hXZ, hx⟩ := class_hur B nG hok hZ hV hVZ
  refine ⟨X, hX, hXZ, ?_⟩
  rcases B.cot (pt X) hv with h | h
  · exact (hx (B.sym h)).elim
  · exact h

theorem merge_len {G : List Nat} (nG : G.Nodup) {X1 X2 : Nat} (h1 : Hur R pt G X1) (h2 : Hur R pt G X2) (hne : X1 ≠ X2) {D : Nat → Prop} (d1 : D X1) (d2 : D X2)
    (hD : ∀ Z ∈ G, Z ≠ X1 → Z ≠ X2 → (D Z ↔ R Z (pt X1) (pt X2))) : ((hur R pt G).filter (fun x => decide (¬ D x))).length + 2 = (hur R pt G).length := by
  have e : ((hur R pt G).filter (fun x => decide (D x))).length = [X1, X2].length := by
    refine nd_eq (nodup_filter _ (nd_hur nG)) (by simp [hne]) fun x => ?_
    constructor
    · intro hx
      have hx' := List.mem_filter.mp hx
      have hxh := mem_hur.mp hx'.1
      have hxd : D x := of_decide_eq_true hx'.2
      by_cases e1 : x = X1
      · simp [e1]
      · by_cases e2 : x = X2
        · simp [e2]
        · exact (hxh.2 X1 h1.1 X2 h2.1 (Ne.symm e1) (Ne.symm e2) ((hD x hxh.1 e1 e2).mp hxd)).elim
    · intro hx
      simp at hx
      rcases hx with rfl | rfl
      · exact List.mem_filter.mpr ⟨mem_hur.mpr h1, decide_eq_true d1⟩
      · exact List.mem_filter.mpr ⟨mem_hur.mpr h2, decide_eq_true d2⟩
  have := len_split (hur R pt G) D
  simp at e
  omega

/-- (B) two hurdles without a part that becomes one -/
theorem merge_clean {G : List Nat} (nG : G.Nodup) (hev : (hur R pt G).length % 2 = 0) {X1 X2 : Nat} (h1 : Hur R pt G X1) (h2 : Hur R pt G X2) (hne : X1 ≠ X2) {D : Nat → Prop} (d1 : D X1) (d2 : D X2)
    (hD : ∀ Z ∈ G, Z ≠ X1 → Z ≠ X2 → (D Z ↔ R Z (pt X1) (pt X2)))
    (hno : ∀ Z ∈ G, ¬ D Z → ¬ Hur R pt G Z → ¬ Hur R pt (G.filter (fun x => decide (¬ D x))) Z) : sc R pt (G.filter (fun x => decide (¬ D x))) + 2 ≤ sc R pt G := by
  have hl := merge_len B nG h1 h2 hne d1 d2 hD
  have nK : (G.filter (fun x => decide (¬ D x))).Nodup := nodup_filter _ nG
  have e : (hur R pt (G.filter (fun x => decide (¬ D x)))).length = ((hur R pt G).filter (fun x => decide (¬ D x))).length := by
    refine nd_eq (nd_hur nK) (nodup_filter _ (nd_hur nG)) fun x => ?_
    rw [mem_hur, List.mem_filter, mem_hur]
    constructor
    · intro hx
      have hx' := List.mem_filter.mp hx.1
      have hd : ¬ D x := of_decide_eq_true hx'.2
      exact ⟨Classical.byContradiction fun hn => hno x hx'.1 hd hn hx, hx'.2⟩
    · rintro ⟨hx, hd⟩
      exact hx.sub (List.mem_filter.mpr ⟨hx.1, hd⟩) fun y hy => (List.mem_filter.mp hy).1
  rw [sc_even (by omega)]
  have := sc_ge (R := R) (pt := pt) G
  omega

/-- (B) the choice -/
theorem choice {G : List Nat} (nG : G.Nodup) (hok : ∀ x ∈ G, ok x) (hG : G ≠ []) :
    (∃ X ∈ G, sc R pt (del G X) + 1 ≤ sc R pt G) ∨
    (∃ X1 ∈ G, ∃ X2 ∈ G, X1 ≠ X2 ∧ ∀ D : Nat → Prop, D X1 → D X2 → (∀ Z ∈ G, Z ≠ X1 → Z ≠ X2 → (D Z ↔ R Z (pt X1) (pt X2))) →
      sc R pt (G.filter (fun x => decide (¬ D x))) + 2 ≤ sc R pt G) := by
  have hpos := hur_pos B nG hok hG
  by_cases hodd : (hur R pt G).length % 2 = 1
  · by_cases hf : Fort R pt G
    · right
      have h2 : 2 ≤ (hur R pt G).length := by
        apply Classical.byContradiction
        intro hlt
        obtain ⟨X, eX⟩ : ∃ X, hur R pt G = [X] := by
          match hur R pt G, hpos, hlt with
          | [a], _, _ => exact ⟨a, rfl⟩
          | a :: b :: r, _, h => simp at h
        have hX : X ∈ hur R pt G := by rw [eX]; simp
        obtain ⟨Z, hZ, _⟩ := hf.2 X hX
        have hZd := mem_del.mp hZ
        obtain ⟨Y, hY, hYX, _⟩ := class_hur B nG hok (mem_hur.mp hX).1 hZd.1 hZd.2
        have := mem_hur.mpr hY
        rw [eX] at this
        simp at this
        exact hYX this
      obtain ⟨X1, m1, X2, m2, hne⟩ := two_of (nd_hur nG) h2
      have h1 := mem_hur.mp m1
      have h2' := mem_hur.mp m2
      refine ⟨X1, h1.1, X2, h2'.1, hne, fun D d1 d2 hD => ?_⟩
      have hl := merge_len B nG h1 h2' hne d1 d2 hD
      have nK : (G.filter (fun x => decide (¬ D x))).Nodup := nodup_filter _ nG
      rw [sc_fort hf]
      have hle : (hur R pt (G.filter (fun x => decide (¬ D x)))).length ≤ ((hur R pt G).filter (fun x => decide (¬ D x))).length + 1 := by
        by_cases hnew : ∃ Z, Hur R pt (G.filter (fun x => decide (¬ D x))) Z ∧ ¬ Hur R pt G Z
        · obtain ⟨Z, z1, z0⟩ := hnew
          have hZ := List.mem_filter.mp z1.1
          have hZD : ¬ D Z := of_decide_eq_true hZ.2
          have : (hur R pt (G.filter (fun x => decide (¬ D x)))).length ≤ (Z :: (hur R pt G).filter (fun x => decide (¬ D x))).length := by
            refine nd_le (nd_hur nK) fun x hx => ?_
            have hx' := mem_hur.mp hx
            have hxm := List.mem_filter.mp hx'.1
            have hxD : ¬ D x := of_decide_eq_true hxm.2
            by_cases hxG : Hur R pt G x
            · exact List.mem_cons.mpr (.inr (List.mem_filter.mpr ⟨mem_hur.mpr hxG, hxm.2⟩))
            · refine List.mem_cons.mpr (.inl ?_)
              apply Classical.byContradiction
              intro hxz
              have b1 := blocks B hok h1.1 h2'.1 hne d1 d2 hD hZ.1 hZD z0 z1
              have b2 := blocks B hok h1.1 h2'.1 hne d1 d2 hD hxm.1 hxD hxG hx'
              have c1 : R Z (pt x) (pt X1) := Classical.byContradiction fun h => hxD (b1 x hxm.1 hxz h)
              have c2 : R x (pt Z) (pt X1) := Classical.byContradiction fun h => hZD (b2 Z hZ.1 (Ne.symm hxz) h)
              exact B.T (hok Z hZ.1) (hok x hxm.1) (Ne.symm hxz) (B.sym c1) (B.sym c2)
          simpa using this
        · refine Nat.le_trans (nd_le (nd_hur nK) fun x hx => ?_) (Nat.le_succ _)
          have hx' := mem_hur.mp hx
          have hxm := List.mem_filter.mp hx'.1
          exact List.mem_filter.mpr ⟨mem_hur.mpr (Classical.byContradiction fun hn => hnew ⟨x, hx', hn⟩), hxm.2⟩
      by_cases he : (hur R pt (G.filter (fun x => decide (¬ D x)))).length % 2 = 0
      · rw [sc_even he]
        omega
      · have := sc_le (R := R) (pt := pt) (G.filter (fun x => decide (¬ D x)))
        omega
    · left
      have : ∃ X ∈ hur R pt G, ¬ Great R pt G X := by
        apply Classical.byContradiction
        intro hn
        exact hf ⟨hodd, fun X hX => Classical.byContradiction fun hg => hn ⟨X, hX, hg⟩⟩
      obtain ⟨X, hX, hg⟩ := this
      have hX' := mem_hur.mp hX
      refine ⟨X, hX'.1, ?_⟩
      have hl := len_b B nG hok hX' hg
      rw [sc_nofort hf, sc_even (by omega)]
      omega
  · right
    have hev : (hur R pt G).length % 2 = 0 := by omega
    have hge2 : 2 ≤ (hur R pt G).length := by omega
    obtain ⟨X1, m1, X2, m2, hne⟩ := two_of (nd_hur nG) hge2
    have h1 := mem_hur.mp m1
    have h2 := mem_hur.mp m2
    by_cases hbad : ∃ Z ∈ G, Z ≠ X1 ∧ Z ≠ X2 ∧ ¬ R Z (pt X1) (pt X2) ∧ ¬ Hur R pt G Z ∧ ∀ V ∈ G, V ≠ Z → ¬ R Z (pt V) (pt X1) → V = X1 ∨ V = X2 ∨ R V (pt X1) (pt X2)
    · obtain ⟨Z, hZ, zx1, zx2, z12, z0, zcl⟩ := hbad
      obtain ⟨X3, h3, x3z, r3⟩ := other_hur B nG hok (X1 := X1) hZ z0
      have x31 : X3 ≠ X1 := fun e => by rw [e] at r3; exact B.irr r3
      have x32 : X3 ≠ X2 := fun e => by rw [e] at r3; exact z12 (B.sym r3)
      refine ⟨X1, h1.1, X3, h3.1, Ne.symm x31, fun D d1 d2 hD => ?_⟩
      refine merge_clean B nG hev h1 h3 (Ne.symm x31) d1 d2 hD fun Z' hZ' zd' w0 w1 => ?_
      have wcl := blocks B hok h1.1 h3.1 (Ne.symm x31) d1 d2 hD hZ' zd' w0 w1
      have w13 : ¬ R Z' (pt X1) (pt X3) := fun h => zd' ((hD Z' hZ' (fun e => w0 (e ▸ h1)) (fun e => w0 (e ▸ h3))).mpr h)
      -- a fourth hurdle
      have : ∃ X4, Hur R pt G X4 ∧ X4 ≠ X1 ∧ X4 ≠ X2 ∧ X4 ≠ X3 := by
        apply Classical.byContradiction
        intro hn
        have hle : (hur R pt G).length ≤ [X1, X2, X3].length := nd_le (nd_hur nG) fun x hx => by
          apply Classical.byContradiction
          intro hm
          simp at hm
          exact hn ⟨x, mem_hur.mp hx, hm.1, hm.2.1, hm.2.2⟩
        have hge : [X1, X2, X3].length ≤ (hur R pt G).length := nd_le (by simp [hne, Ne.symm x31, Ne.symm x32]) fun x hx => by
          simp at hx
          rcases hx with rfl | rfl | rfl
          · exact m1
          · exact m2
          · exact mem_hur.mpr h3
        simp at hle hge
        omega
      obtain ⟨X4, h4, x41, x42, x43⟩ := this
      have nD : ∀ Y, Hur R pt G Y → Y ≠ X1 → Y ≠ X3 → ¬ D Y := fun Y hY y1 y3 h => hY.2 X1 h1.1 X3 h3.1 (Ne.symm y1) (Ne.symm y3) ((hD Y hY.1 y1 y3).mp h)
      have nz : ∀ Y, Hur R pt G Y → Y ≠ Z := fun Y hY e => z0 (e ▸ hY)
      have nz' : ∀ Y, Hur R pt G Y → Y ≠ Z' := fun Y hY e => w0 (e ▸ hY)
      have r4 : R Z (pt X4) (pt X1) := Classical.byContradiction fun h => by
        rcases zcl X4 h4.1 (nz X4 h4) h with e | e | e
        · exact x41 e
        · exact x42 e
        · exact h4.2 X1 h1.1 X2 h2.1 (Ne.symm x41) (Ne.symm x42) e
      have q2 : R Z' (pt X2) (pt X1) := Classical.byContradiction fun h => nD X2 h2 (Ne.symm hne) (Ne.symm x32) (wcl X2 h2.1 (nz' X2 h2) h)
      have q4 : R Z' (pt X4) (pt X1) := Classical.byContradiction fun h => nD X4 h4 x41 x43 (wcl X4 h4.1 (nz' X4 h4) h)
      have zz : Z ≠ Z' := fun e => w13 (B.sym (e ▸ r3))
      by_cases hc : R Z (pt Z') (pt X1)
      · have a1 : ¬ R Z' (pt X1) (pt Z) := B.T (hok Z hZ) (hok Z' hZ') zz (B.sym hc)
        have a2 : ¬ R Z' (pt X2) (pt Z) := by
          refine B.T (hok Z hZ) (hok Z' hZ') zz ?_
          rcases B.cot (pt X2) hc with h | h
          · exact B.sym h
          · exact (z12 (B.sym h)).elim
        rcases B.cot (pt Z) q2 with h | h
        · exact a2 h
        · exact a1 (B.sym h)
      · have a3 : ¬ R Z' (pt X3) (pt Z) := by
          refine B.T (hok Z hZ) (hok Z' hZ') zz ?_
          rcases B.cot (pt Z') r3 with h | h
          · exact h
          · exact (hc h).elim
        have a4 : ¬ R Z' (pt X4) (pt Z) := by
          refine B.T (hok Z hZ) (hok Z' hZ') zz ?_
          rcases B.cot (pt Z') r4 with h | h
          · exact h
          · exact (hc h).elim
        rcases B.cot (pt X3) q4 with h | h
        · rcases B.cot (pt Z) h with h | h
          · exact a4 h
          · exact a3 (B.sym h)
        · exact w13 (B.sym h)
    · refine ⟨X1, h1.1, X2, h2.1, hne, fun D d1 d2 hD => ?_⟩
      refine merge_clean B nG hev h1 h2 hne d1 d2 hD fun Z hZ zd z0 z1 => hbad ?_
      have cl := blocks B hok h1.1 h2.1 hne d1 d2 hD hZ zd z0 z1
      have zx1 : Z ≠ X1 := fun e => zd (e ▸ d1)
      have zx2 : Z ≠ X2 := fun e => zd (e ▸ d2)
      refine ⟨Z, hZ, zx1, zx2, fun h => zd ((hD Z hZ zx1 zx2).mpr h), z0, fun V hV hVZ hr => ?_⟩
      have := cl V hV hVZ hr
      by_cases v1 : V = X1
      · exact .inl v1
      · by_cases v2 : V = X2
        · exact .inr (.inl v2)
        · exact .inr (.inr ((hD V hV v1 v2).mp this))
end
end TR

/-! from B_Count -/
namespace TR
open Classical

/-! ### counting -/
noncomputable def lst (M : Nat) (S : Nat → Prop) : List Nat := (List.range M).filter (fun s => decide (S s))
noncomputable def cnt (M : Nat) (S : Nat → Prop) : Nat := (lst M S).length
theorem nd_rf (M : Nat) (S : Nat → Prop) : (lst M S).Nodup := nodup_filter _ List.nodup_range
theorem mem_rf {M : Nat} {S : Nat → Prop} {x : Nat} : x ∈ lst M S ↔ x < M ∧ S x := by simp [lst]
theorem cnt_congr {M : Nat} {S T : Nat → Prop} (h : ∀ x, x < M → (S x ↔ T x)) : cnt M S = cnt M T :=
  nd_eq (nd_rf _ _) (nd_rf _ _) fun x => by
    rw [mem_rf, mem_rf]
    exact ⟨fun q => ⟨q.1, (h x q.1).mp q.2⟩, fun q => ⟨q.1, (h x q.1).mpr q.2⟩⟩
theorem cnt_split (M : Nat) (S A : Nat → Prop) : cnt M (fun x => S x ∧ A x) + cnt M (fun x => S x ∧ ¬ A x) = cnt M S := by
  have := len_split (lst M S) A
  unfold lst at this
  rw [List.filter_filter, List.filter_filter] at this
  unfold cnt lst
  rw [← this]
  congr 2
  · congr 1; funext x; by_cases h1 : S x <;> by_cases h2 : A x <;> simp [h1, h2]
  · congr 1; funext x; by_cases h1 : S x <;> by_cases h2 : A x <;> simp [h1, h2]
theorem cnt_one {M a : Nat} {S : Nat → Prop} (ha : a < M) (h : S a) : cnt M (fun x => S x ∧ x ≠ a) + 1 = cnt M S := by
  have : (a :: lst M (fun s => S s ∧ s ≠ a)).length = cnt M S := by
    refine nd_eq (List.nodup_cons.mpr ⟨fun h => (mem_rf.mp h).2.2 rfl, nd_rf _ _⟩) (nd_rf _ _) fun x => ?_
    rw [List.mem_cons, mem_rf, mem_rf]
    constructor
    · rintro (rfl | q)
      · exact ⟨ha, h⟩
      · exact ⟨q.1, q.2.1⟩
    · intro q
      by_cases e : x = a
      · exact .inl e
      · exact .inr ⟨q.1, q.2, e⟩
  exact this
theorem nd_map {l : List Nat} (f : Nat → Nat) (hl : l.Nodup) (hf : ∀ x ∈ l, ∀ y ∈ l, f x = f y → x = y) : (l.map f).Nodup := by
  unfold List.Nodup
  rw [List.pairwise_map]
  exact hl.imp_of_mem fun {a b} ha hb h e => h (hf a ha b hb e)
theorem cnt_le_map {M N : Nat} {S T : Nat → Prop} (f : Nat → Nat) (h1 : ∀ x, x < M → S x → f x < N ∧ T (f x))
    (h2 : ∀ x y, x < M → S x → y < M → S y → f x = f y → x = y) : cnt M S ≤ cnt N T := by
  have := nd_le (A := (lst M S).map f) (B := lst N T)
    (nd_map f (nd_rf _ _) fun x hx y hy e => by
      rw [mem_rf] at hx hy
      exact h2 x y hx.1 hx.2 hy.1 hy.2 e) (by
    intro y hy
    obtain ⟨x, hx, rfl⟩ := List.mem_map.mp hy
    rw [mem_rf] at hx
    exact mem_rf.mpr (h1 x hx.1 hx.2))
  rw [List.length_map] at this
  exact this
/-- an involution that turns A round -/
theorem flip {M : Nat} {S A : Nat → Prop} (f : Nat → Nat) (h : ∀ s, s < M → S s → f s < M ∧ S (f s) ∧ f (f s) = s ∧ (A (f s) ↔ ¬ A s)) :
    cnt M (fun x => S x ∧ A x) = cnt M (fun x => S x ∧ ¬ A x) := by
  apply Nat.le_antisymm
  · refine cnt_le_map f (fun x hx q => ?_) (fun x y hx q hy r e => ?_)
    · have := h x hx q.1
      exact ⟨this.1, this.2.1, fun z => this.2.2.2.mp z q.2⟩
    · rw [← (h x hx q.1).2.2.1, ← (h y hy r.1).2.2.1, e]
  · refine cnt_le_map f (fun x hx q => ?_) (fun x y hx q hy r e => ?_)
    · have := h x hx q.1
      exact ⟨this.1, this.2.1, this.2.2.2.mpr q.2⟩
    · rw [← (h x hx q.1).2.2.1, ← (h y hy r.1).2.2.1, e]
theorem flip_even {M : Nat} {S A : Nat → Prop} (f : Nat → Nat) (h : ∀ s, s < M → S s → f s < M ∧ S (f s) ∧ f (f s) = s ∧ (A (f s) ↔ ¬ A s)) :
    cnt M S % 2 = 0 := by
  have h1 := flip f h
  have h2 := cnt_split M S A
  omega

/-! ### classes -/
structure Eqv (R : Nat → Nat → Prop) : Prop where
  refl : ∀ x, R x x
  sym : ∀ {x y}, R x y → R y x
  trans : ∀ {x y z}, R x y → R y z → R x z
noncomputable def cc (M : Nat) (R : Nat → Nat → Prop) : Nat := cnt M (fun s => ∀ t, t < s → ¬ R t s)
def join (R : Nat → Nat → Prop) (a b : Nat) : Nat → Nat → Prop := fun x y => R x y ∨ (R x a ∧ R b y) ∨ (R x b ∧ R a y)
theorem join_eqv {R : Nat → Nat → Prop} (E : Eqv R) (a b : Nat) : Eqv (join R a b) where
  refl x := .inl (E.refl x)
  sym := by
    rintro x y (h | ⟨h, k⟩ | ⟨h, k⟩)
    · exact .inl (E.sym h)
    · exact .inr (.inr ⟨E.sym k, E.sym h⟩)
    · exact .inr (.inl ⟨E.sym k, E.sym h⟩)
  trans := by
    rintro x y z (h | ⟨h, k⟩ | ⟨h, k⟩) (h' | ⟨h', k'⟩ | ⟨h', k'⟩)
    · exact .inl (E.trans h h')
    · exact .inr (.inl ⟨E.trans h h', k'⟩)
    · exact .inr (.inr ⟨E.trans h h', k'⟩)
    · exact .inr (.inl ⟨h, E.trans k h'⟩)
    · exact .inr (.inl ⟨h, k'⟩)
    · exact .inl (E.trans h k')
    · exact .inr (.inr ⟨h, E.trans k h'⟩)
    · exact .inl (E.trans h k')
    · exact .inr (.inr ⟨h, k'⟩)
theorem exists_rep {R : Nat → Nat → Prop} (E : Eqv R) (x : Nat) : ∃ r, r ≤ x ∧ R r x ∧ ∀ t, t < r → ¬ R t r := by
  induction x using Nat.strongRecOn with
  | _ x ih =>
    by_cases h : ∀ t, t < x → ¬ R t x
    · exact ⟨x, Nat.le_refl x, E.refl x, h⟩
    · have : ∃ t, t < x ∧ R t x := Classical.byContradiction fun hn => h fun t ht hr => hn ⟨t, ht, hr⟩
      obtain ⟨t, ht, hr⟩ := this
      obtain ⟨r, h1, h2, h3⟩ := ih t ht
      exact ⟨r, by omega, E.trans h2 hr, h3⟩
theorem rep_uniq {R : Nat → Nat → Prop} (E : Eqv R) {r s : Nat} (hr : ∀ t, t < r → ¬ R t r) (hs : ∀ t, t < s → ¬ R t s) (h : R r s) : r = s := by
  rcases Nat.lt_trichotomy r s with q | q | q
  · exact (hs r q h).elim
  · exact q
  · exact (hr s q (E.sym h)).elim
theorem cc_congr {M : Nat} {R S : Nat → Nat → Prop} (h : ∀ x y, x < M → y < M → (R x y ↔ S x y)) : cc M R = cc M S :=
  cnt_congr fun x hx => ⟨fun q t ht r => q t ht ((h t x (by omega) hx).mpr r), fun q t ht r => q t ht ((h t x (by omega) hx).mp r)⟩
theorem cc_join_same {M a b : Nat} {R : Nat → Nat → Prop} (E : Eqv R) (h : R a b) : cc M (join R a b) = cc M R :=
  cc_congr fun x y _ _ => ⟨fun q => by
    rcases q with q | ⟨q, k⟩ | ⟨q, k⟩
    · exact q
    · exact E.trans q (E.trans h k)
    · exact E.trans q (E.trans (E.sym h) k), .inl⟩
theorem cc_join_diff {M a b : Nat} {R : Nat → Nat → Prop} (E : Eqv R) (h : ¬ R a b) (ha : a < M) (hb : b < M) : cc M (join R a b) + 1 = cc M R := by
  have main : ∀ a b ra rb, a < M → b < M → ¬ R a b → ra ≤ a → R ra a → (∀ t, t < ra → ¬ R t ra) → rb ≤ b → R rb b → (∀ t, t < rb → ¬ R t rb) → ra < rb → cc M (join R a b) + 1 = cc M R := by
    intro a b ra rb ha hb h a1 a2 a3 b1 b2 b3 hlt
    have : (rb :: lst M (fun s => ∀ t, t < s → ¬ join R a b t s)).length = cc M R := by
      refine nd_eq (List.nodup_cons.mpr ⟨fun hm => ?_, nd_rf _ _⟩) (nd_rf _ _) fun x => ?_
      · exact (mem_rf.mp hm).2 ra hlt (.inr (.inl ⟨a2, E.sym b2⟩))
      · rw [List.mem_cons, mem_rf, mem_rf]
        constructor
        · rintro (rfl | q)
          · exact ⟨by omega, b3⟩
          · exact ⟨q.1, fun t ht r => q.2 t ht (.inl r)⟩
        · intro q
          by_cases e : x = rb
          · exact .inl e
          · refine .inr ⟨q.1, fun t ht r => ?_⟩
            rcases r with r | ⟨r, k⟩ | ⟨r, k⟩
            · exact q.2 t ht r
            · exact e (rep_uniq E q.2 b3 (E.trans (E.sym k) (E.sym b2)))
            · have : x = ra := rep_uniq E q.2 a3 (E.trans (E.sym k) (E.sym a2))
              exact b3 t (by omega) (E.trans r (E.sym b2))
    exact this
  obtain ⟨ra, a1, a2, a3⟩ := exists_rep E a
  obtain ⟨rb, b1, b2, b3⟩ := exists_rep E b
  rcases Nat.lt_trichotomy ra rb with q | q | q
  · exact main a b ra rb ha hb h a1 a2 a3 b1 b2 b3 q
  · exfalso
    rw [q] at a2
    exact h (E.trans (E.sym a2) b2)
  · have := main b a rb ra hb ha (fun r => h (E.sym r)) b1 b2 b3 a1 a2 a3 q
    rw [← this]
    congr 1
    exact cc_congr fun x y _ _ => ⟨fun r => by
      rcases r with r | r | r
      · exact .inl r
      · exact .inr (.inr r)
      · exact .inr (.inl r), fun r => by
      rcases r with r | r | r
      · exact .inl r
      · exact .inr (.inr r)
      · exact .inr (.inl r)⟩
theorem cc_le_map {M : Nat} {R : Nat → Nat → Prop} (E : Eqv R) (f : Nat → Nat) (hf : ∀ x, x < M → f x < M) : cc M (fun x y => R (f x) (f y)) ≤ cc M R := by
  have E' : Eqv (fun x y => R (f x) (f y)) := ⟨fun x => E.refl _, fun h => E.sym h, fun h k => E.trans h k⟩
  have ex : ∀ x, ∃ r, r ≤ f x ∧ R r (f x) ∧ ∀ t, t < r → ¬ R t r := fun x => exists_rep E (f x)
  refine cnt_le_map (fun x => Classical.choose (ex x)) (fun x hx q => ?_) (fun x y hx q hy r e => ?_)
  · have h := Classical.choose_spec (ex x)
    exact ⟨Nat.lt_of_le_of_lt h.1 (hf x hx), h.2.2⟩
  · have h1 := Classical.choose_spec (ex x)
    have h2 := Classical.choose_spec (ex y)
    have : R (f x) (f y) := E.trans (E.sym h1.2.1) (by rw [show Classical.choose (ex x) = Classical.choose (ex y) from e]; exact h2.2.1)
    exact rep_uniq E' q r this
theorem cc_map {M : Nat} {R : Nat → Nat → Prop} (E : Eqv R) (f g : Nat → Nat) (hf : ∀ x, x < M → f x < M) (hg : ∀ x, x < M → g x < M) (hfg : ∀ x, x < M → f (g x) = x) : cc M (fun x y => R (f x) (f y)) = cc M R := by
  apply Nat.le_antisymm (cc_le_map E f hf)
  have E' : Eqv (fun x y => R (f x) (f y)) := ⟨fun x => E.refl _, fun h => E.sym h, fun h k => E.trans h k⟩
  have := cc_le_map (M := M) E' g hg
  refine Nat.le_trans (Nat.le_of_eq ?_) this
  exact cc_congr fun x y hx hy => by
    show R x y ↔ R (f (g x)) (f (g y))
    rw [hfg x hx, hfg y hy]

/-! ### what edges generate -/
inductive Gn (E : Nat → Nat → Prop) : Nat → Nat → Prop
  | refl (x : Nat) : Gn E x x
  | step {x y z : Nat} : Gn E x y → (E y z ∨ E z y) → Gn E x z
theorem Gn.trans {E : Nat → Nat → Prop} {x y z : Nat} (h : Gn E x y) (k : Gn E y z) : Gn E x z := by
  induction k with
  | refl => exact h
  | step _ e ih => exact .step ih e
theorem Gn.one {E : Nat → Nat → Prop} {x y : Nat} (e : E x y) : Gn E x y := .step (.refl x) (.inl e)
theorem Gn.sym {E : Nat → Nat → Prop} {x y : Nat} (h : Gn E x y) : Gn E y x := by
  induction h with
  | refl => exact .refl _
  | step _ e ih => exact (Gn.step (.refl _) e.symm).trans ih
theorem gn_eqv (E : Nat → Nat → Prop) : Eqv (Gn E) := ⟨.refl, Gn.sym, Gn.trans⟩
theorem Gn.sub {E : Nat → Nat → Prop} {R : Nat → Nat → Prop} (hR : Eqv R) (h : ∀ x y, E x y → R x y) {x y : Nat} (k : Gn E x y) : R x y := by
  induction k with
  | refl => exact hR.refl _
  | step _ e ih =>
    rcases e with e | e
    · exact hR.trans ih (h _ _ e)
    · exact hR.trans ih (hR.sym (h _ _ e))
theorem Gn.closed {E : Nat → Nat → Prop} {S : Nat → Prop} (h : ∀ x y, E x y → (S x ↔ S y)) {x y : Nat} (k : Gn E x y) : S x ↔ S y := by
  induction k with
  | refl => exact Iff.rfl
  | step _ e ih =>
    rcases e with e | e
    · exact ih.trans (h _ _ e)
    · exact ih.trans (h _ _ e).symm

/-! ### two matchings; two dark lines exchanged -/
def Ed (M : Nat) (L D : Nat → Nat) : Nat → Nat → Prop := fun y z => y < M ∧ (z = L y ∨ z = D y)
structure Mt (M : Nat) (L : Nat → Nat) : Prop where
  lt : ∀ {s}, s < M → L s < M
  inv : ∀ {s}, s < M → L (L s) = s
theorem Gn.lt {M : Nat} {L D : Nat → Nat} (mL : Mt M L) (mD : Mt M D) {x y : Nat} (h : Gn (Ed M L D) x y) : x < M ↔ y < M := by
  refine h.closed (S := fun x => x < M) fun x y e => ?_
  obtain ⟨hx, e | e⟩ := e
  · exact ⟨fun _ => e ▸ mL.lt hx, fun _ => hx⟩
  · exact ⟨fun _ => e ▸ mD.lt hx, fun _ => hx⟩
theorem gn_l {M : Nat} {L D : Nat → Nat} {x y : Nat} (h : Gn (Ed M L D) x y) (hy : y < M) : Gn (Ed M L D) x (L y) := .step h (.inl ⟨hy, .inl rfl⟩)
theorem gn_d {M : Nat} {L D : Nat → Nat} {x y : Nat} (h : Gn (Ed M L D) x y) (hy : y < M) : Gn (Ed M L D) x (D y) := .step h (.inl ⟨hy, .inr rfl⟩)

def mate (s : Nat) : Nat := if s % 2 = 0 then s + 1 else s - 1
theorem mate_mate (s : Nat) : mate (mate s) = s := by unfold mate; split <;> split <;> omega
theorem mate_lt {N s : Nat} (h : s < 2 * N) : mate s < 2 * N := by unfold mate; split <;> omega
theorem mate_par (s : Nat) : mate s % 2 = 1 - s % 2 := by unfold mate; split <;> omega
theorem mate_ne (s : Nat) : mate s ≠ s := by unfold mate; split <;> omega
theorem mt_mate (N : Nat) : Mt (2 * N) mate := ⟨mate_lt, fun _ => mate_mate _⟩

/-- the new dark lines -/
structure Sw (M : Nat) (L D D2 : Nat → Nat) (a b c d : Nat) : Prop where
  mL : Mt M L
  mD : Mt M D
  mD2 : Mt M D2
  ha : a < M
  hb : b < M
  hc : c < M
  hd : d < M
  ab : D a = b
  cd : D c = d
  ac : D2 a = c
  bd : D2 b = d
  rest : ∀ s, s ≠ a → s ≠ b → s ≠ c → s ≠ d → D2 s = D s
  nac : a ≠ c
  nab : a ≠ b
  nad : a ≠ d
  nbc : b ≠ c
  nbd : b ≠ d
  ncd : c ≠ d

section
variable {M : Nat} {L D D2 : Nat → Nat} {a b c d : Nat} (W : Sw M L D D2 a b c d)
include W
theorem Sw.ba : D b = a := by rw [← W.ab, W.mD.inv W.ha]
theorem Sw.dc : D d = c := by rw [← W.cd, W.mD.inv W.hc]
theorem Sw.ca : D2 c = a := by rw [← W.ac, W.mD2.inv W.ha]
theorem Sw.db : D2 d = b := by rw [← W.bd, W.mD2.inv W.hb]
theorem sw_join (x y : Nat) : join (Gn (Ed M L D)) a c x y ↔ join (Gn (Ed M L D2)) a b x y := by
  have E1 := gn_eqv (Ed M L D)
  have E2 := gn_eqv (Ed M L D2)
  have J1 := join_eqv E1 a c
  have J2 := join_eqv E2 a b
  have a1b : Gn (Ed M L D) a b := .one ⟨W.ha, .inr W.ab.symm⟩
  have c1d : Gn (Ed M L D) c d := .one ⟨W.hc, .inr W.cd.symm⟩
  have a2c : Gn (Ed M L D2) a c := .one ⟨W.ha, .inr W.ac.symm⟩
  have b2d : Gn (Ed M L D2) b d := .one ⟨W.hb, .inr W.bd.symm⟩
  have jac : join (Gn (Ed M L D)) a c a c := .inr (.inl ⟨.refl a, .refl c⟩)
  have jab : join (Gn (Ed M L D2)) a b a b := .inr (.inl ⟨.refl a, .refl b⟩)
  have jbd : join (Gn (Ed M L D)) a c b d := J1.trans (.inl a1b.sym) (J1.trans jac (.inl c1d))
  have jcd : join (Gn (Ed M L D2)) a b c d := J2.trans (.inl a2c.sym) (J2.trans jab (.inl b2d))
  have sub1 : ∀ x y, Gn (Ed M L D) x y → join (Gn (Ed M L D2)) a b x y := fun x y h => h.sub J2 fun x y e => by
    obtain ⟨hx, e | e⟩ := e
    · exact .inl (.one ⟨hx, .inl e⟩)
    · by_cases xa : x = a
      · rw [xa] at e ⊢; rw [e, W.ab]; exact jab
      · by_cases xb : x = b
        · rw [xb] at e ⊢; rw [e, W.ba]; exact J2.sym jab
        · by_cases xc : x = c
          · rw [xc] at e ⊢; rw [e, W.cd]; exact jcd
          · by_cases xd : x = d
            · rw [xd] at e ⊢; rw [e, W.dc]; exact J2.sym jcd
            · exact .inl (.one ⟨hx, .inr (by rw [W.rest x xa xb xc xd]; exact e)⟩)
  have sub2 : ∀ x y, Gn (Ed M L D2) x y → join (Gn (Ed M L D)) a c x y := fun x y h => h.sub J1 fun x y e => by
    obtain ⟨hx, e | e⟩ := e
    · exact .inl (.one ⟨hx, .inl e⟩)
    · by_cases xa : x = a
      · rw [xa] at e ⊢; rw [e, W.ac]; exact jac
      · by_cases xb : x = b
        · rw [xb] at e ⊢; rw [e, W.bd]; exact jbd
        · by_cases xc : x = c
          · rw [xc] at e ⊢; rw [e, W.ca]; exact J1.sym jac
          · by_cases xd : x = d
            · rw [xd] at e ⊢; rw [e, W.db]; exact J1.sym jbd
            · exact .inl (.one ⟨hx, .inr (by rw [← W.rest x xa xb xc xd]; exact e)⟩)
  constructor
  · rintro (h | ⟨h, k⟩ | ⟨h, k⟩)
    · exact sub1 _ _ h
    · exact J2.trans (sub1 _ _ h) (J2.trans (.inl a2c) (sub1 _ _ k))
    · exact J2.trans (sub1 _ _ h) (J2.trans (.inl a2c.sym) (sub1 _ _ k))
  · rintro (h | ⟨h, k⟩ | ⟨h, k⟩)
    · exact sub2 _ _ h
    · exact J1.trans (sub2 _ _ h) (J1.trans (.inl a1b) (sub2 _ _ k))
    · exact J1.trans (sub2 _ _ h) (J1.trans (.inl a1b.sym) (sub2 _ _ k))
theorem sw_all : cc M (join (Gn (Ed M L D)) a c) = cc M (join (Gn (Ed M L D2)) a b) := cc_congr fun x y _ _ => sw_join W x y
theorem sw_yes1 (h : Gn (Ed M L D) a c) : cc M (join (Gn (Ed M L D)) a c) = cc M (Gn (Ed M L D)) := cc_join_same (gn_eqv _) h
theorem sw_no1 (h : ¬ Gn (Ed M L D) a c) : cc M (join (Gn (Ed M L D)) a c) + 1 = cc M (Gn (Ed M L D)) := cc_join_diff (gn_eqv _) h W.ha W.hc
theorem sw_yes2 (h : Gn (Ed M L D2) a b) : cc M (join (Gn (Ed M L D2)) a b) = cc M (Gn (Ed M L D2)) := cc_join_same (gn_eqv _) h
theorem sw_no2 (h : ¬ Gn (Ed M L D2) a b) : cc M (join (Gn (Ed M L D2)) a b) + 1 = cc M (Gn (Ed M L D2)) := cc_join_diff (gn_eqv _) h W.ha W.hb
theorem sw_le : cc M (Gn (Ed M L D2)) ≤ cc M (Gn (Ed M L D)) + 1 ∧ cc M (Gn (Ed M L D)) ≤ cc M (Gn (Ed M L D2)) + 1 := by
  have h := sw_all W
  by_cases h1 : Gn (Ed M L D) a c
  · have := sw_yes1 W h1
    by_cases h2 : Gn (Ed M L D2) a b
    · have := sw_yes2 W h2; omega
    · have := sw_no2 W h2; omega
  · have := sw_no1 W h1
    by_cases h2 : Gn (Ed M L D2) a b
    · have := sw_yes2 W h2; omega
    · have := sw_no2 W h2; omega
theorem sw_up (hu : cc M (Gn (Ed M L D2)) = cc M (Gn (Ed M L D)) + 1) : Gn (Ed M L D) a c ∧ ¬ Gn (Ed M L D2) a b := by
  have h := sw_all W
  by_cases h1 : Gn (Ed M L D) a c
  · have := sw_yes1 W h1
    by_cases h2 : Gn (Ed M L D2) a b
    · have := sw_yes2 W h2; omega
    · exact ⟨h1, h2⟩
  · have := sw_no1 W h1
    by_cases h2 : Gn (Ed M L D2) a b
    · have := sw_yes2 W h2; omega
    · have := sw_no2 W h2; omega
/-- not in one ring before: in one ring behind -/
theorem sw_merge {A B : Nat → Prop} (hA : ∀ s, s < M → (A (L s) ↔ ¬ A s)) (hB : ∀ s, s < M → (B (D s) ↔ ¬ B s)) (h1 : ¬ Gn (Ed M L D) a c) : Gn (Ed M L D2) a b := by
  apply Classical.byContradiction
  intro h2
  let S : Nat → Prop := fun x => Gn (Ed M L D) a x ∧ Gn (Ed M L D2) a x
  have Sa : S a := ⟨.refl a, .refl a⟩
  have c1d : Gn (Ed M L D) c d := .one ⟨W.hc, .inr W.cd.symm⟩
  have nb : ¬ S b := fun h => h2 h.2
  have nc : ¬ S c := fun h => h1 h.1
  have nd : ¬ S d := fun h => h1 (h.1.trans c1d.sym)
  have e1 : cnt M S % 2 = 0 := flip_even (A := A) L fun s hs q => ⟨W.mL.lt hs, ⟨gn_l q.1 hs, gn_l q.2 hs⟩, W.mL.inv hs, hA s hs⟩
  have e2 : cnt M (fun x => S x ∧ x ≠ a) % 2 = 0 := flip_even (A := B) D fun s hs q => by
    have sb : s ≠ b := fun e => nb (e ▸ q.1)
    have sc : s ≠ c := fun e => nc (e ▸ q.1)
    have sd : s ≠ d := fun e => nd (e ▸ q.1)
    refine ⟨W.mD.lt hs, ⟨⟨gn_d q.1.1 hs, ?_⟩, fun e => sb ?_⟩, W.mD.inv hs, hB s hs⟩
    · rw [← W.rest s q.2 sb sc sd]
      exact gn_d q.1.2 hs
    · rw [← W.mD.inv hs, e, W.ab]
  have := cnt_one (M := M) W.ha Sa
  omega
theorem sw_ge {A B : Nat → Prop} (hA : ∀ s, s < M → (A (L s) ↔ ¬ A s)) (hB : ∀ s, s < M → (B (D s) ↔ ¬ B s)) (hg : cc M (Gn (Ed M L D)) ≤ cc M (Gn (Ed M L D2))) : Gn (Ed M L D) a c := by
  apply Classical.byContradiction
  intro h1
  have h2 := sw_merge W hA hB h1
  have h := sw_all W
  have := sw_no1 W h1
  have := sw_yes2 W h2
  omega
/-- a ring that falls apart has a line whose spots are of one parity -/
theorem sw_par {B : Nat → Prop} (hB : ∀ s, s < M → (B (D s) ↔ ¬ B s)) (hac : B a ↔ B c) (h1 : Gn (Ed M L D) a c) (h2 : ¬ Gn (Ed M L D2) a b) :
    ∃ s, s < M ∧ Gn (Ed M L D) a s ∧ (B (L s) ↔ B s) := by
  apply Classical.byContradiction
  intro hn
  have un : ∀ s, s < M → Gn (Ed M L D) a s → (B (L s) ↔ ¬ B s) := fun s hs hg => by
    apply Classical.byContradiction
    intro hh
    refine hn ⟨s, hs, hg, ?_⟩
    by_cases p : B s <;> by_cases q : B (L s) <;> simp [p, q] at hh ⊢
  let S : Nat → Prop := fun x => Gn (Ed M L D2) a x
  have S1 : ∀ x, S x → Gn (Ed M L D) a x := fun x hx => by
    rcases (sw_join W a x).mpr (.inl hx) with h | ⟨h, k⟩ | ⟨h, k⟩
    · exact h
    · exact h1.trans k
    · exact k
  have b2d : Gn (Ed M L D2) b d := .one ⟨W.hb, .inr W.bd.symm⟩
  have Sa : S a := .refl a
  have Sc : S c := .one ⟨W.ha, .inr W.ac.symm⟩
  have nb : ¬ S b := h2
  have nd : ¬ S d := fun h => h2 (h.trans b2d.sym)
  have e1 := flip (M := M) (S := S) (A := B) L fun s hs q => ⟨W.mL.lt hs, gn_l q hs, W.mL.inv hs, un s hs (S1 s q)⟩
  have e2 := flip (M := M) (S := fun x => (S x ∧ x ≠ a) ∧ x ≠ c) (A := B) D fun s hs q => by
    have sb : s ≠ b := fun e => nb (e ▸ q.1.1)
    have sd : s ≠ d := fun e => nd (e ▸ q.1.1)
    refine ⟨W.mD.lt hs, ⟨⟨?_, fun e => sb ?_⟩, fun e => sd ?_⟩, W.mD.inv hs, hB s hs⟩
    · show S (D s)
      rw [← W.rest s q.1.2 sb q.2 sd]
      exact gn_d q.1.1 hs
    · rw [← W.mD.inv hs, e, W.ab]
    · rw [← W.mD.inv hs, e, W.cd]
  by_cases p : B a
  · have pc := hac.mp p
    have o1 := cnt_one (M := M) (S := fun x => S x ∧ B x) W.ha ⟨Sa, p⟩
    have o2 := cnt_one (M := M) (S := fun x => (S x ∧ B x) ∧ x ≠ a) W.hc ⟨⟨Sc, pc⟩, Ne.symm W.nac⟩
    have q1 : cnt M (fun x => ((S x ∧ x ≠ a) ∧ x ≠ c) ∧ B x) = cnt M (fun x => ((S x ∧ B x) ∧ x ≠ a) ∧ x ≠ c) := cnt_congr fun x _ =>
      ⟨fun h => ⟨⟨⟨h.1.1.1, h.2⟩, h.1.1.2⟩, h.1.2⟩, fun h => ⟨⟨⟨h.1.1.1, h.1.2⟩, h.2⟩, h.1.1.2⟩⟩
    have q2 : cnt M (fun x => ((S x ∧ x ≠ a) ∧ x ≠ c) ∧ ¬ B x) = cnt M (fun x => S x ∧ ¬ B x) := cnt_congr fun x _ =>
      ⟨fun h => ⟨h.1.1.1, h.2⟩, fun h => ⟨⟨⟨h.1, fun e => h.2 (e ▸ p)⟩, fun e => h.2 (e ▸ pc)⟩, h.2⟩⟩
    omega
  · have pc : ¬ B c := fun h => p (hac.mpr h)
    have o1 := cnt_one (M := M) (S := fun x => S x ∧ ¬ B x) W.ha ⟨Sa, p⟩
    have o2 := cnt_one (M := M) (S := fun x => (S x ∧ ¬ B x) ∧ x ≠ a) W.hc ⟨⟨Sc, pc⟩, Ne.symm W.nac⟩
    have q1 : cnt M (fun x => ((S x ∧ x ≠ a) ∧ x ≠ c) ∧ ¬ B x) = cnt M (fun x => ((S x ∧ ¬ B x) ∧ x ≠ a) ∧ x ≠ c) := cnt_congr fun x _ =>
      ⟨fun h => ⟨⟨⟨h.1.1.1, h.2⟩, h.1.1.2⟩, h.1.2⟩, fun h => ⟨⟨⟨h.1.1.1, h.1.2⟩, h.2⟩, h.1.1.2⟩⟩
    have q2 : cnt M (fun x => ((S x ∧ x ≠ a) ∧ x ≠ c) ∧ B x) = cnt M (fun x => S x ∧ B x) := cnt_congr fun x _ =>
      ⟨fun h => ⟨h.1.1.1, h.2⟩, fun h => ⟨⟨⟨h.1, fun e => p (e ▸ h.2)⟩, fun e => pc (e ▸ h.2)⟩, h.2⟩⟩
    omega
/-- an oriented line's turn -/
theorem sw_split1 (h : L a = c) : cc M (Gn (Ed M L D2)) = cc M (Gn (Ed M L D)) + 1 := by
  have h1 : Gn (Ed M L D) a c := .one ⟨W.ha, .inl h.symm⟩
  have h2 : ¬ Gn (Ed M L D2) a b := fun g => by
    have hL : L c = a := by rw [← h, W.mL.inv W.ha]
    have := (g.closed (S := fun x => x = a ∨ x = c) fun x y e => by
      obtain ⟨hx, e⟩ := e
      constructor
      · rintro (rfl | rfl)
        · rcases e with e | e
          · exact .inr (e.trans h)
          · exact .inr (e.trans W.ac)
        · rcases e with e | e
          · exact .inl (e.trans hL)
          · exact .inl (e.trans W.ca)
      · rintro (rfl | rfl)
        · rcases e with e | e
          · right; rw [← W.mL.inv hx, ← e, h]
          · right; rw [← W.mD2.inv hx, ← e, W.ac]
        · rcases e with e | e
          · left; rw [← W.mL.inv hx, ← e, hL]
          · left; rw [← W.mD2.inv hx, ← e, W.ca]).mp (.inl rfl)
    rcases this with e | e
    · exact W.nab e.symm
    · exact W.nbc e
  have := sw_all W
  have := sw_yes1 W h1
  have := sw_no2 W h2
  omega
theorem sw_same1 (h : L b = c ∨ L a = d) : cc M (Gn (Ed M L D2)) = cc M (Gn (Ed M L D)) := by
  have a1b : Gn (Ed M L D) a b := .one ⟨W.ha, .inr W.ab.symm⟩
  have c1d : Gn (Ed M L D) c d := .one ⟨W.hc, .inr W.cd.symm⟩
  have a2c : Gn (Ed M L D2) a c := .one ⟨W.ha, .inr W.ac.symm⟩
  have b2d : Gn (Ed M L D2) b d := .one ⟨W.hb, .inr W.bd.symm⟩
  have h1 : Gn (Ed M L D) a c := by
    rcases h with h | h
    · exact a1b.trans (.one ⟨W.hb, .inl h.symm⟩)
    · exact Gn.trans (.one ⟨W.ha, .inl h.symm⟩) c1d.sym
  have h2 : Gn (Ed M L D2) a b := by
    rcases h with h | h
    · exact a2c.trans (Gn.sym (.one ⟨W.hb, .inl h.symm⟩))
    · exact Gn.trans (.one ⟨W.ha, .inl h.symm⟩) b2d.sym
  have := sw_all W
  have := sw_yes1 W h1
  have := sw_yes2 W h2
  omega
end
theorem Sw.swap {M : Nat} {L D D2 : Nat → Nat} {a b c d : Nat} (W : Sw M L D D2 a b c d) : Sw M L D D2 b a d c where
  mL := W.mL
  mD := W.mD
  mD2 := W.mD2
  ha := W.hb
  hb := W.ha
  hc := W.hd
  hd := W.hc
  ab := W.ba
  cd := W.dc
  ac := W.bd
  bd := W.ac
  rest s h1 h2 h3 h4 := W.rest s h2 h1 h4 h3
  nac := W.nbd
  nab := W.nab.symm
  nad := W.nbc
  nbc := W.nad
  nbd := W.nac
  ncd := W.ncd.symm
end TR

/-! from C_Draw -/
namespace TR
open Classical

/-! ### order of spots -/
def In (a b x : Nat) : Prop := (a < x ∧ x ≤ b) ∨ (b < x ∧ x ≤ a)
/-- the line a, b has just one of x, y within -/
def Sp (a b x y : Nat) : Prop := ¬ (In a b x ↔ In a b y)
theorem sp_comm {a b x y : Nat} (h1 : a ≠ x) (h2 : a ≠ y) (h3 : b ≠ x) (h4 : b ≠ y) : Sp a b x y ↔ Sp x y a b := by
  unfold Sp In; omega
theorem sp_sym {a b x y : Nat} : Sp a b x y → Sp a b y x := fun h k => h k.symm
theorem sp_irr {a b x : Nat} : ¬ Sp a b x x := fun h => h Iff.rfl
theorem sp_cot {a b x y : Nat} (z : Nat) (h : Sp a b x y) : Sp a b x z ∨ Sp a b z y := by
  by_cases k : In a b x ↔ In a b z
  · exact .inr fun q => h (k.trans q)
  · exact .inl k
theorem sp_swap {a b x y : Nat} : Sp a b x y ↔ Sp b a x y := by
  unfold Sp In; omega
def tau (lo hi s : Nat) : Nat := if lo ≤ s ∧ s ≤ hi then lo + hi - s else s
theorem tau_cases (lo hi s : Nat) : ((lo ≤ s ∧ s ≤ hi) ∧ tau lo hi s = lo + hi - s) ∨ (¬ (lo ≤ s ∧ s ≤ hi) ∧ tau lo hi s = s) := by
  unfold tau; split
  · exact .inl ⟨by assumption, rfl⟩
  · exact .inr ⟨by assumption, rfl⟩
theorem tau_tau (lo hi s : Nat) : tau lo hi (tau lo hi s) = s := by
  rcases tau_cases lo hi s with ⟨h, e⟩ | ⟨h, e⟩
  · rcases tau_cases lo hi (tau lo hi s) with ⟨h', e'⟩ | ⟨h', e'⟩ <;> omega
  · rw [e, e]
theorem tau_in (lo hi s : Nat) : (lo ≤ tau lo hi s ∧ tau lo hi s ≤ hi) ↔ (lo ≤ s ∧ s ≤ hi) := by
  rcases tau_cases lo hi s with ⟨h, e⟩ | ⟨h, e⟩ <;> omega
def Str (lo hi a b : Nat) : Prop := ¬ ((lo ≤ a ∧ a ≤ hi) ↔ (lo ≤ b ∧ b ≤ hi))
theorem ts {lo hi a b c d : Nat} (h0 : a ≠ b) (h00 : c ≠ d) (h1 : a ≠ c) (h2 : a ≠ d) (h3 : b ≠ c) (h4 : b ≠ d) (h : lo ≤ hi) :
    Sp (tau lo hi a) (tau lo hi b) (tau lo hi c) (tau lo hi d) ↔ ¬ (Sp a b c d ↔ (Str lo hi a b ∧ Str lo hi c d)) := by
  unfold Sp In Str
  rcases tau_cases lo hi a with ⟨ha, ea⟩ | ⟨ha, ea⟩ <;> rcases tau_cases lo hi b with ⟨hb, eb⟩ | ⟨hb, eb⟩ <;>
  rcases tau_cases lo hi c with ⟨hc, ec⟩ | ⟨hc, ec⟩ <;> rcases tau_cases lo hi d with ⟨hd, ed⟩ | ⟨hd, ed⟩ <;> rw [ea, eb, ec, ed] <;>
  simp only [ha, hb, hc, hd, iff_true, true_iff, not_true_eq_false, not_false_eq_true, iff_false, false_iff, and_true, and_false, true_and, and_self, Classical.not_not] <;> omega
theorem same_side {a b r s t u : Nat} (x1 : a ≠ r) (x2 : a ≠ s) (x3 : a ≠ t) (x4 : a ≠ u) (y1 : b ≠ r) (y2 : b ≠ s) (y3 : b ≠ t) (y4 : b ≠ u) (z1 : r ≠ t) (z2 : r ≠ u) (z3 : s ≠ t) (z4 : s ≠ u)
    (h : Sp r s t u) (h1 : ¬ Sp a b r s) (h2 : ¬ Sp a b t u) : ¬ Sp a b r t := by
  unfold Sp In at *
  omega
theorem axT {p q r s u : Nat} (x1 : p ≠ r) (x2 : p ≠ s) (x3 : q ≠ r) (x4 : q ≠ s) (h : ¬ Sp p q r s) (h1 : Sp p q u r) (h2 : Sp r s u p) : False := by
  unfold Sp In at *
  omega
theorem str_sp {lo hi a b : Nat} (h : lo ≤ hi) : Sp a b lo (hi + 1) ↔ Str lo hi a b := by
  unfold Sp In Str; omega
theorem nostr {lo hi r s t u : Nat} (z1 : r ≠ t) (z2 : r ≠ u) (z3 : s ≠ t) (z4 : s ≠ u) (h : Sp r s t u) (h1 : ¬ Str lo hi r s) (h2 : ¬ Str lo hi t u) : (lo ≤ r ∧ r ≤ hi) ↔ (lo ≤ t ∧ t ≤ hi) := by
  unfold Sp In Str at *
  omega

/-! ### drawings -/
structure Dr (n : Nat) (P M : Nat → Nat) : Prop where
  pl : ∀ {m}, m < 2 * n + 2 → P m < 2 * n + 2
  ml : ∀ {s}, s < 2 * n + 2 → M s < 2 * n + 2
  mp : ∀ {m}, m < 2 * n + 2 → M (P m) = m
  pm : ∀ {s}, s < 2 * n + 2 → P (M s) = s
  zero : P 0 = 0
  piece : ∀ {k}, k < n → ∃ i, (P (2 * k + 1) = 2 * i + 1 ∧ P (2 * k + 2) = 2 * i + 2) ∨ (P (2 * k + 1) = 2 * i + 2 ∧ P (2 * k + 2) = 2 * i + 1)

def cr (P : Nat → Nat) (k l : Nat) : Prop := k ≠ l ∧ Sp (P (2 * k)) (P (2 * k + 1)) (P (2 * l)) (P (2 * l + 1))
def ori (P : Nat → Nat) (k : Nat) : Prop := (P (2 * k) + P (2 * k + 1)) % 2 = 0
def Ec (n : Nat) (P : Nat → Nat) (k l : Nat) : Prop := k ≤ n ∧ l ≤ n ∧ cr P k l
def Cn (n : Nat) (P : Nat → Nat) : Nat → Nat → Prop := Gn (Ec n P)
def RX (n : Nat) (P : Nat → Nat) (X x y : Nat) : Prop := ∃ e, Cn n P X e ∧ e ≤ n ∧ Sp (P (2 * e)) (P (2 * e + 1)) x y
def pt (P : Nat → Nat) (k : Nat) : Nat := P (2 * k)
def rp (n : Nat) (P : Nat → Nat) (k : Nat) : Prop := k ≤ n ∧ ∀ t, t < k → ¬ Cn n P t k
def bad (n : Nat) (P : Nat → Nat) (k : Nat) : Prop := (∀ l, l ≤ n → Cn n P k l → ¬ ori P l) ∧ ∃ l, l ≤ n ∧ cr P k l
def Lt (P M : Nat → Nat) (s : Nat) : Nat := P (mate (M s))

theorem cn_eqv (n : Nat) (P : Nat → Nat) : Eqv (Cn n P) := gn_eqv _
theorem mate_half (m : Nat) : mate m / 2 = m / 2 := by unfold mate; split <;> omega
theorem mate_two (k : Nat) : mate (2 * k) = 2 * k + 1 := by unfold mate; split <;> omega
theorem mate_two1 (k : Nat) : mate (2 * k + 1) = 2 * k := by unfold mate; split <;> omega
theorem cn_le {n : Nat} {P : Nat → Nat} {X f : Nat} (h : Cn n P X f) (hX : X ≤ n) : f ≤ n := by
  have := h.closed (S := fun x => x ≤ n) fun x y e => ⟨fun _ => e.2.1, fun _ => e.1⟩
  exact this.mp hX
theorem rp_uniq {n : Nat} {P : Nat → Nat} {X Y : Nat} (hX : rp n P X) (hY : rp n P Y) (h : Cn n P X Y) : X = Y := rep_uniq (cn_eqv n P) hX.2 hY.2 h

section
variable {n : Nat} {P M : Nat → Nat} (W : Dr n P M)
include W
theorem Dr.inj {m m' : Nat} (h : m < 2 * n + 2) (h' : m' < 2 * n + 2) (e : P m = P m') : m = m' := by
  rw [← W.mp h, ← W.mp h', e]
theorem Dr.ne {k l : Nat} (hk : k ≤ n) (hl : l ≤ n) (h : k ≠ l) : P (2 * k) ≠ P (2 * l) ∧ P (2 * k) ≠ P (2 * l + 1) ∧ P (2 * k + 1) ≠ P (2 * l) ∧ P (2 * k + 1) ≠ P (2 * l + 1) := by
  refine ⟨fun e => ?_, fun e => ?_, fun e => ?_, fun e => ?_⟩ <;> have := W.inj (by omega) (by omega) e <;> omega
theorem Dr.ne2 {k : Nat} (hk : k ≤ n) : P (2 * k) ≠ P (2 * k + 1) := fun e => by
  have := W.inj (by omega) (by omega) e; omega
theorem cr_sym {k l : Nat} (hk : k ≤ n) (hl : l ≤ n) (h : cr P k l) : cr P l k := by
  obtain ⟨a, b, c, d⟩ := W.ne hk hl h.1
  exact ⟨h.1.symm, (sp_comm a b c d).mp h.2⟩
theorem Ec.sym {k l : Nat} (h : Ec n P k l) : Ec n P l k := ⟨h.2.1, h.1, cr_sym W h.1 h.2.1 h.2.2⟩
theorem ec_or {k l : Nat} (h : Ec n P k l ∨ Ec n P l k) : Ec n P k l := by
  rcases h with h | h
  · exact h
  · exact Ec.sym W h
/-- a line of another part has the whole part on one side -/
theorem side {e X : Nat} (he : e ≤ n) (hX : X ≤ n) (hn : ¬ Cn n P X e) {f : Nat} (hf : Cn n P X f) : ¬ Sp (P (2 * e)) (P (2 * e + 1)) (P (2 * X)) (P (2 * f)) := by
  have nc : ∀ y, y ≤ n → Cn n P X y → e ≠ y ∧ ¬ Sp (P (2 * e)) (P (2 * e + 1)) (P (2 * y)) (P (2 * y + 1)) := fun y hy hc => by
    have hne : e ≠ y := fun q => hn (q ▸ hc)
    exact ⟨hne, fun hs => hn (.step hc (.inr ⟨he, hy, hne, hs⟩))⟩
  induction hf with
  | refl => exact sp_irr
  | @step y z hy hs ih =>
    have hyz := ec_or W hs
    have cz : Cn n P X z := .step hy hs
    obtain ⟨n1, s1⟩ := nc y hyz.1 hy
    obtain ⟨n2, s2⟩ := nc z hyz.2.1 cz
    obtain ⟨a1, a2, a3, a4⟩ := W.ne he hyz.1 n1
    obtain ⟨b1, b2, b3, b4⟩ := W.ne he hyz.2.1 n2
    obtain ⟨c1, c2, c3, c4⟩ := W.ne hyz.1 hyz.2.1 hyz.2.2.1
    have := same_side a1 a2 b1 b2 a3 a4 b3 b4 c1 c2 c3 c4 hyz.2.2.2 s1 s2
    intro hsp
    rcases sp_cot (P (2 * y)) hsp with q | q
    · exact ih q
    · exact this q
theorem spot_of {s : Nat} (hs : s < 2 * n + 2) : s = P (2 * (M s / 2)) ∨ s = P (2 * (M s / 2) + 1) := by
  have h := W.pm hs
  rcases Nat.mod_two_eq_zero_or_one (M s) with q | q
  · left
    have : 2 * (M s / 2) = M s := by omega
    rw [this, h]
  · right
    have : 2 * (M s / 2) + 1 = M s := by omega
    rw [this, h]
theorem half_le {s : Nat} (hs : s < 2 * n + 2) : M s / 2 ≤ n := by
  have := W.ml hs; omega
theorem m_even {k : Nat} (hk : k ≤ n) : M (P (2 * k)) / 2 = k := by rw [W.mp (by omega)]; omega
theorem m_odd {k : Nat} (hk : k ≤ n) : M (P (2 * k + 1)) / 2 = k := by rw [W.mp (by omega)]; omega
theorem side2 {e X : Nat} (he : e ≤ n) (hX : X ≤ n) (hn : ¬ Cn n P X e) {s : Nat} (hs : s < 2 * n + 2) (h : Cn n P X (M s / 2)) : ¬ Sp (P (2 * e)) (P (2 * e + 1)) (P (2 * X)) s := by
  have h1 := side W he hX hn h
  have hne : e ≠ M s / 2 := fun q => hn (q ▸ h)
  have h2 : ¬ Sp (P (2 * e)) (P (2 * e + 1)) (P (2 * (M s / 2))) (P (2 * (M s / 2) + 1)) := fun q => hn (.step h (.inr ⟨he, half_le W hs, hne, q⟩))
  rcases spot_of W hs with q | q
  · rw [q]; rw [← q]; rw [← q] at h1; exact h1
  · intro hh
    rw [q] at hh
    rcases sp_cot (P (2 * (M s / 2))) hh with k | k
    · exact h1 k
    · exact h2 k
theorem side3 {e X : Nat} (he : e ≤ n) (hX : X ≤ n) (hn : ¬ Cn n P X e) {s t : Nat} (hs : s < 2 * n + 2) (h : Cn n P X (M s / 2)) (ht : t < 2 * n + 2) (h' : Cn n P X (M t / 2)) :
    ¬ Sp (P (2 * e)) (P (2 * e + 1)) s t := fun q => by
  rcases sp_cot (P (2 * X)) q with k | k
  · exact side2 W he hX hn hs h (sp_sym k)
  · exact side2 W he hX hn ht h' k
/-- the betweenness of the parts -/
theorem bt : Bt (RX n P) (pt P) (rp n P) where
  sym := fun ⟨e, h1, h2, h3⟩ => ⟨e, h1, h2, sp_sym h3⟩
  irr := fun ⟨e, h1, h2, h3⟩ => sp_irr h3
  cot z := fun ⟨e, h1, h2, h3⟩ => by
    rcases sp_cot z h3 with q | q
    · exact .inl ⟨e, h1, h2, q⟩
    · exact .inr ⟨e, h1, h2, q⟩
  T := by
    rintro X Z u hX hZ hne ⟨e, e1, e2, e3⟩ ⟨f, f1, f2, f3⟩
    have nXZ : ¬ Cn n P X Z := fun h => hne (rp_uniq hX hZ h)
    have nZe : ¬ Cn n P Z e := fun h => nXZ (e1.trans h.sym)
    have nXf : ¬ Cn n P X f := fun h => nXZ (h.trans f1.sym)
    have he : Sp (P (2 * e)) (P (2 * e + 1)) u (P (2 * f)) := by
      rcases sp_cot (P (2 * f)) e3 with q | q
      · exact q
      · exact (side W e2 hZ.1 nZe f1 (sp_sym q)).elim
    have hf : Sp (P (2 * f)) (P (2 * f + 1)) u (P (2 * e)) := by
      rcases sp_cot (P (2 * e)) f3 with q | q
      · exact q
      · exact (side W f2 hX.1 nXf e1 (sp_sym q)).elim
    have hef : e ≠ f := fun q => nXf (q ▸ e1)
    obtain ⟨a, b, c, d⟩ := W.ne e2 f2 hef
    exact axT a b c d (fun q => nZe (.step f1 (.inr ⟨e2, f2, hef, q⟩))) he hf
/-- a part with spots within and without has a line that straddles -/
theorem straddle {lo hi X : Nat} (hX : X ≤ n) (hn : ∀ e, Cn n P X e → ¬ Str lo hi (P (2 * e)) (P (2 * e + 1))) {s : Nat} (hs : s < 2 * n + 2) (h : Cn n P X (M s / 2)) :
    (lo ≤ P (2 * X) ∧ P (2 * X) ≤ hi) ↔ (lo ≤ s ∧ s ≤ hi) := by
  have main : ∀ f, Cn n P X f → ((lo ≤ P (2 * X) ∧ P (2 * X) ≤ hi) ↔ (lo ≤ P (2 * f) ∧ P (2 * f) ≤ hi)) := by
    intro f hf
    induction hf with
    | refl => exact Iff.rfl
    | @step y z hy hs ih =>
      have hyz := ec_or W hs
      obtain ⟨c1, c2, c3, c4⟩ := W.ne hyz.1 hyz.2.1 hyz.2.2.1
      exact ih.trans (nostr c1 c2 c3 c4 hyz.2.2.2 (hn y hy) (hn z (.step hy hs)))
  have h1 := main _ h
  rcases spot_of W hs with q | q
  · rw [← q] at h1; exact h1
  · have := hn _ h
    rw [← q] at this
    unfold Str at this
    exact h1.trans (Classical.not_not.mp this)
theorem lt_lt {s : Nat} (hs : s < 2 * n + 2) : Lt P M s < 2 * n + 2 := W.pl (by have := mate_lt (N := n + 1) (s := M s) (by have := W.ml hs; omega); omega)
theorem lt_m {s : Nat} (hs : s < 2 * n + 2) : M (Lt P M s) = mate (M s) := W.mp (by have := mate_lt (N := n + 1) (s := M s) (by have := W.ml hs; omega); omega)
theorem lt_lt2 {s : Nat} (hs : s < 2 * n + 2) : Lt P M (Lt P M s) = s := by
  show P (mate (M (Lt P M s))) = s
  rw [lt_m W hs, mate_mate, W.pm hs]
theorem lt_line {s : Nat} (hs : s < 2 * n + 2) : M (Lt P M s) / 2 = M s / 2 := by rw [lt_m W hs, mate_half]
theorem lt_ne {s : Nat} (hs : s < 2 * n + 2) : Lt P M s ≠ s := fun e => by
  have := lt_m W hs
  rw [e] at this
  exact mate_ne _ this.symm
theorem lt_line_eq {s : Nat} (hs : s < 2 * n + 2) : (s = P (2 * (M s / 2)) ∧ Lt P M s = P (2 * (M s / 2) + 1)) ∨ (s = P (2 * (M s / 2) + 1) ∧ Lt P M s = P (2 * (M s / 2))) := by
  rcases Nat.mod_two_eq_zero_or_one (M s) with q | q
  · left
    have e : 2 * (M s / 2) = M s := by omega
    refine ⟨by rw [e, W.pm hs], ?_⟩
    unfold Lt
    rw [e]
    unfold mate
    rw [if_pos q]
  · right
    have e : 2 * (M s / 2) + 1 = M s := by omega
    have e' : 2 * (M s / 2) = M s - 1 := by omega
    refine ⟨by rw [e, W.pm hs], ?_⟩
    unfold Lt
    rw [e']
    unfold mate
    rw [if_neg (by omega)]
theorem lt_even {k : Nat} (hk : k ≤ n) : Lt P M (P (2 * k)) = P (2 * k + 1) := by
  unfold Lt
  rw [W.mp (by omega), mate_two]
theorem lt_odd {k : Nat} (hk : k ≤ n) : Lt P M (P (2 * k + 1)) = P (2 * k) := by
  unfold Lt
  rw [W.mp (by omega), mate_two1]
end
theorem cnt_iv {M lo hi : Nat} (h : hi < M) : cnt M (fun s => lo ≤ s ∧ s ≤ hi) = hi + 1 - lo := by
  have : (lst M (fun s => lo ≤ s ∧ s ≤ hi)).length = ((List.range (hi + 1 - lo)).map (· + lo)).length := by
    refine nd_eq (nd_rf _ _) (nd_map _ List.nodup_range fun x _ y _ e => by omega) fun x => ?_
    rw [mem_rf, List.mem_map]
    constructor
    · rintro ⟨_, h1, h2⟩
      exact ⟨x - lo, by rw [List.mem_range]; omega, by omega⟩
    · rintro ⟨y, hy, rfl⟩
      rw [List.mem_range] at hy
      omega
  rw [List.length_map, List.length_range] at this
  exact this
section
variable {n : Nat} {P M : Nat → Nat} (W : Dr n P M)
include W
/-- no interval of spots is closed under the light lines, if it begins or ends as a piece does -/
theorem iv {lo hi : Nat} (hl : lo ≤ hi) (hh : hi < 2 * n + 2) (hc : ∀ s, lo ≤ s → s ≤ hi → lo ≤ Lt P M s ∧ Lt P M s ≤ hi) (hp : lo % 2 = 1 ∨ hi % 2 = 0) : False := by
  have ev : cnt (2 * n + 2) (fun s => lo ≤ s ∧ s ≤ hi) % 2 = 0 :=
    flip_even (A := fun s => M s % 2 = 0) (Lt P M) fun s hs q => ⟨lt_lt W hs, hc s q.1 q.2, lt_lt2 W hs, by
      rw [lt_m W hs, mate_par]; omega⟩
  rw [cnt_iv hh] at ev
  have h1 : lo % 2 = 1 := by omega
  have h2 : hi % 2 = 0 := by omega
  have st : ∀ m, m + 1 < 2 * n + 2 → ((lo ≤ P m ∧ P m ≤ hi) ↔ (lo ≤ P (m + 1) ∧ P (m + 1) ≤ hi)) := by
    intro m hm
    rcases Nat.mod_two_eq_zero_or_one m with q | q
    · obtain ⟨k, rfl⟩ : ∃ k, m = 2 * k := ⟨m / 2, by omega⟩
      constructor
      · intro h
        have := hc _ h.1 h.2
        rw [lt_even W (by omega)] at this
        exact this
      · intro h
        have := hc _ h.1 h.2
        rw [lt_odd W (by omega)] at this
        exact this
    · obtain ⟨k, rfl⟩ : ∃ k, m = 2 * k + 1 := ⟨m / 2, by omega⟩
      obtain ⟨i, hi'⟩ := W.piece (k := k) (by omega)
      rw [show 2 * k + 1 + 1 = 2 * k + 2 by omega]
      omega
  have all : ∀ m, m < 2 * n + 2 → ((lo ≤ P 0 ∧ P 0 ≤ hi) ↔ (lo ≤ P m ∧ P m ≤ hi)) := by
    intro m
    induction m with
    | zero => intro _; exact Iff.rfl
    | succ m ih => intro hm; exact (ih (by omega)).trans (st m hm)
  have := (all (M lo) (W.ml (by omega))).mpr (by rw [W.pm (by omega)]; omega)
  rw [W.zero] at this
  omega
theorem sp_of_ends {e s : Nat} (hs : s < 2 * n + 2) {x y : Nat} (he : e = M s / 2) (h : Sp s (Lt P M s) x y) : Sp (P (2 * e)) (P (2 * e + 1)) x y := by
  rcases lt_line_eq W hs with ⟨q1, q2⟩ | ⟨q1, q2⟩
  · rw [he, ← q1, ← q2]; exact h
  · rw [he, ← q1, ← q2]; exact sp_swap.mp h
/-- a dark line lies in one part -/
theorem dark {i : Nat} (hi : i ≤ n) : Cn n P (M (2 * i) / 2) (M (2 * i + 1) / 2) := by
  apply Classical.byContradiction
  intro hn
  have hX : M (2 * i) / 2 ≤ n := half_le W (by omega)
  generalize hXd : M (2 * i) / 2 = X at hn hX
  have c0 : Cn n P X (M (2 * i) / 2) := hXd ▸ .refl X
  have np : ∀ s, s < 2 * n + 2 → ¬ Cn n P X (M s / 2) → ∀ x y, x < 2 * n + 2 → y < 2 * n + 2 → Cn n P X (M x / 2) → Cn n P X (M y / 2) → ¬ Sp s (Lt P M s) x y := by
    intro s hs hns x y hx hy cx cy hsp
    exact side3 W (half_le W hs) hX hns hx cx hy cy (sp_of_ends W hs rfl hsp)
  by_cases h : ∃ s, s < 2 * n + 2 ∧ 2 * i + 1 < s ∧ Cn n P X (M s / 2)
  · -- the next spot of the part
    have : ∃ s, s < 2 * n + 2 ∧ 2 * i + 1 < s ∧ Cn n P X (M s / 2) ∧ ∀ t, 2 * i + 1 < t → t < s → ¬ Cn n P X (M t / 2) := by
      obtain ⟨s, h1, h2, h3⟩ := h
      induction s using Nat.strongRecOn with
      | _ s ih =>
        by_cases q : ∃ t, 2 * i + 1 < t ∧ t < s ∧ Cn n P X (M t / 2)
        · obtain ⟨t, t1, t2, t3⟩ := q
          exact ih t t2 (by omega) t1 t3
        · exact ⟨s, h1, h2, h3, fun t t1 t2 t3 => q ⟨t, t1, t2, t3⟩⟩
    obtain ⟨s, h1, h2, h3, h4⟩ := this
    refine iv W (lo := 2 * i + 1) (hi := s - 1) (by omega) (by omega) (fun t t1 t2 => ?_) (.inl (by omega))
    have nt : ¬ Cn n P X (M t / 2) := by
      by_cases q : t = 2 * i + 1
      · rw [q]; exact hn
      · exact h4 t (by omega) (by omega)
    have ht : t < 2 * n + 2 := by omega
    have nl : ¬ Cn n P X (M (Lt P M t) / 2) := by rw [lt_line W ht]; exact nt
    have l1 : Lt P M t ≠ 2 * i := fun e => nl (e ▸ c0)
    have l2 : Lt P M t ≠ s := fun e => nl (e ▸ h3)
    have := np t ht nt (2 * i) s (by omega) h1 c0 h3
    unfold Sp In at this
    omega
  · have : ∃ s, s ≤ 2 * i ∧ Cn n P X (M s / 2) ∧ ∀ t, t < s → ¬ Cn n P X (M t / 2) := by
      have main : ∀ s, s ≤ 2 * i → Cn n P X (M s / 2) → ∃ s, s ≤ 2 * i ∧ Cn n P X (M s / 2) ∧ ∀ t, t < s → ¬ Cn n P X (M t / 2) := by
        intro s
        induction s using Nat.strongRecOn with
        | _ s ih =>
          intro h1 h2
          by_cases q : ∃ t, t < s ∧ Cn n P X (M t / 2)
          · obtain ⟨t, t1, t2⟩ := q
            exact ih t t1 (by omega) t2
          · exact ⟨s, h1, h2, fun t t1 t2 => q ⟨t, t1, t2⟩⟩
      exact main (2 * i) (Nat.le_refl _) c0
    obtain ⟨s, h1, h2, h3⟩ := this
    refine iv W (lo := s) (hi := 2 * i) h1 (by omega) (fun t t1 t2 => ?_) (.inr (by omega))
    have ht : t < 2 * n + 2 := by omega
    by_cases ct : Cn n P X (M t / 2)
    · have cl : Cn n P X (M (Lt P M t) / 2) := by rw [lt_line W ht]; exact ct
      refine ⟨?_, ?_⟩
      · apply Classical.byContradiction
        intro q
        exact h3 _ (by omega) cl
      · apply Classical.byContradiction
        intro q
        by_cases q' : Lt P M t = 2 * i + 1
        · exact hn (q' ▸ cl)
        · exact h ⟨_, lt_lt W ht, by omega, cl⟩
    · have nl : ¬ Cn n P X (M (Lt P M t) / 2) := by rw [lt_line W ht]; exact ct
      have l1 : Lt P M t ≠ 2 * i := fun e => nl (e ▸ c0)
      have l2 : Lt P M t ≠ s := fun e => nl (e ▸ h2)
      have l3 : t ≠ 2 * i := fun e => ct (e ▸ c0)
      have l4 : t ≠ s := fun e => ct (e ▸ h2)
      have := np t ht ct s (2 * i) (by omega) (by omega) h2 c0
      unfold Sp In at this
      omega
/-- a line that crosses none and is not oriented is short -/
theorem short {k : Nat} (hk : k ≤ n) (hc : ∀ l, l ≤ n → ¬ cr P k l) (ho : ¬ ori P k) : ∃ i, (P (2 * k) = 2 * i ∧ P (2 * k + 1) = 2 * i + 1) ∨ (P (2 * k) = 2 * i + 1 ∧ P (2 * k + 1) = 2 * i) := by
  have hne := W.ne2 hk
  have p1 := W.pl (m := 2 * k) (by omega)
  have p2 := W.pl (m := 2 * k + 1) (by omega)
  have np : ∀ t, t < 2 * n + 2 → t ≠ P (2 * k) → t ≠ P (2 * k + 1) → ¬ Sp (P (2 * k)) (P (2 * k + 1)) t (Lt P M t) ∧ Lt P M t ≠ P (2 * k) ∧ Lt P M t ≠ P (2 * k + 1) := by
    intro t ht t1 t2
    have hkt : k ≠ M t / 2 := fun e => by
      rcases spot_of W ht with q | q
      · exact t1 (e ▸ q)
      · exact t2 (e ▸ q)
    refine ⟨fun hs => hc (M t / 2) (half_le W ht) ⟨hkt, ?_⟩, fun e => ?_, fun e => ?_⟩
    · rcases lt_line_eq W ht with ⟨q1, q2⟩ | ⟨q1, q2⟩
      · rw [← q1, ← q2]; exact hs
      · rw [← q1, ← q2]; exact sp_sym hs
    · have := lt_line W ht
      rw [e, m_even W hk] at this
      exact hkt this
    · have := lt_line W ht
      rw [e, m_odd W hk] at this
      exact hkt this
  have main : ∀ p q, p < q → q < 2 * n + 2 → (p + q) % 2 = 1 → (∀ t, t < 2 * n + 2 → t ≠ p → t ≠ q → ¬ Sp p q t (Lt P M t) ∧ Lt P M t ≠ p ∧ Lt P M t ≠ q) → Lt P M p = q → Lt P M q = p → p % 2 = 0 ∧ q = p + 1 := by
    intro p q hpq hq hpar hnp e1 e2
    rcases Nat.mod_two_eq_zero_or_one p with c | c
    · refine ⟨c, ?_⟩
      apply Classical.byContradiction
      intro hh
      refine iv W (lo := p + 1) (hi := q - 1) (by omega) (by omega) (fun t t1 t2 => ?_) (.inl (by omega))
      have := hnp t (by omega) (by omega) (by omega)
      unfold Sp In at this
      omega
    · exfalso
      refine iv W (lo := p) (hi := q) (by omega) (by omega) (fun t t1 t2 => ?_) (.inl (by omega))
      by_cases q1 : t = p
      · rw [q1, e1]; omega
      · by_cases q2 : t = q
        · rw [q2, e2]; omega
        · have := hnp t (by omega) q1 q2
          unfold Sp In at this
          omega
  unfold ori at ho
  rcases Nat.lt_or_gt_of_ne hne with h | h
  · have := main _ _ h p2 (by omega) np (lt_even W hk) (lt_odd W hk)
    exact ⟨P (2 * k) / 2, .inl (by omega)⟩
  · have := main _ _ h p1 (by omega) (fun t ht t1 t2 => by
      have := np t ht t2 t1
      exact ⟨fun q => this.1 (sp_swap.mp q), this.2.2, this.2.1⟩) (lt_odd W hk) (lt_even W hk)
    exact ⟨P (2 * k + 1) / 2, .inr (by omega)⟩
/-- a ring lies in one part -/
theorem ring_part {x y : Nat} (h : Gn (Ed (2 * n + 2) (Lt P M) mate) x y) (hx : x < 2 * n + 2) : y < 2 * n + 2 ∧ Cn n P (M x / 2) (M y / 2) := by
  have E : Eqv (fun x y => (x < 2 * n + 2 ↔ y < 2 * n + 2) ∧ (x < 2 * n + 2 → Cn n P (M x / 2) (M y / 2))) :=
    ⟨fun x => ⟨Iff.rfl, fun _ => .refl _⟩, fun h => ⟨h.1.symm, fun q => (h.2 (h.1.mpr q)).sym⟩, fun h k => ⟨h.1.trans k.1, fun q => (h.2 q).trans (k.2 (h.1.mp q))⟩⟩
  have := h.sub E fun x y e => by
    obtain ⟨hx, e | e⟩ := e
    · have := lt_lt W hx
      refine ⟨⟨fun _ => e ▸ this, fun _ => hx⟩, fun _ => ?_⟩
      rw [e, lt_line W hx]
      exact .refl _
    · have hm := mate_lt (N := n + 1) (s := x) (by omega)
      refine ⟨⟨fun _ => by omega, fun _ => hx⟩, fun _ => ?_⟩
      rw [e]
      rcases Nat.mod_two_eq_zero_or_one x with q | q
      · obtain ⟨i, rfl⟩ : ∃ i, x = 2 * i := ⟨x / 2, by omega⟩
        rw [mate_two]
        exact dark W (by omega)
      · obtain ⟨i, rfl⟩ : ∃ i, x = 2 * i + 1 := ⟨x / 2, by omega⟩
        rw [mate_two1]
        exact (dark W (by omega)).sym
  exact ⟨this.1.mp hx, this.2 hx⟩
end
end TR

/-! from D_Turn -/
namespace TR
open Classical

/-! ### a turn of the spots lo to hi; lo odd, hi even -/
def TP (lo hi : Nat) (P : Nat → Nat) : Nat → Nat := fun m => tau lo hi (P m)
def TM (lo hi : Nat) (M : Nat → Nat) : Nat → Nat := fun s => M (tau lo hi s)
def StL (lo hi : Nat) (P : Nat → Nat) (k : Nat) : Prop := Str lo hi (P (2 * k)) (P (2 * k + 1))
theorem tp_tp (lo hi : Nat) (P : Nat → Nat) : TP lo hi (TP lo hi P) = P := by
  funext m; exact tau_tau lo hi (P m)
theorem tm_tm (lo hi : Nat) (M : Nat → Nat) : TM lo hi (TM lo hi M) = M := by
  funext m
  show M (tau lo hi (tau lo hi m)) = M m
  rw [tau_tau]
theorem stl_tp {lo hi : Nat} {P : Nat → Nat} {k : Nat} : StL lo hi (TP lo hi P) k ↔ StL lo hi P k := by
  unfold StL Str TP
  rw [tau_in, tau_in]

noncomputable def FF (n : Nat) (P : Nat → Nat) : List Nat := lst (n + 1) (fun k => rp n P k ∧ bad n P k)
theorem mem_FF {n : Nat} {P : Nat → Nat} {k : Nat} : k ∈ FF n P ↔ rp n P k ∧ bad n P k := by
  unfold FF
  rw [mem_rf]
  exact ⟨fun h => h.2, fun h => ⟨Nat.lt_succ_of_le h.1.1, h⟩⟩
theorem nd_FF (n : Nat) (P : Nat → Nat) : (FF n P).Nodup := nd_rf _ _
noncomputable def scP (n : Nat) (P : Nat → Nat) : Nat := sc (RX n P) (pt P) (FF n P)
noncomputable def rings (n : Nat) (P M : Nat → Nat) : Nat := cc (2 * n + 2) (Gn (Ed (2 * n + 2) (Lt P M) mate))

/-- the same hurdles by two betweennesses that agree on a family -/
theorem sc_iff {R R' : Nat → Nat → Nat → Prop} {p p' : Nat → Nat} {G : List Nat}
    (h : ∀ X ∈ G, ∀ U ∈ G, ∀ V ∈ G, U ≠ X → V ≠ X → (R X (p U) (p V) ↔ R' X (p' U) (p' V))) : sc R p G = sc R' p' G := by
  have hh : ∀ K : List Nat, (∀ x ∈ K, x ∈ G) → ∀ X, Hur R p K X ↔ Hur R' p' K X := fun K hK X =>
    ⟨fun q => ⟨q.1, fun U hU V hV hu hv r => q.2 U hU V hV hu hv ((h X (hK X q.1) U (hK U hU) V (hK V hV) hu hv).mpr r)⟩,
     fun q => ⟨q.1, fun U hU V hV hu hv r => q.2 U hU V hV hu hv ((h X (hK X q.1) U (hK U hU) V (hK V hV) hu hv).mp r)⟩⟩
  have e1 : hur R p G = hur R' p' G := by
    unfold hur
    congr 1
    funext X
    exact decide_eq_decide.mpr (hh G (fun _ => id) X)
  have e2 : Fort R p G ↔ Fort R' p' G := by
    unfold Fort
    rw [e1]
    have : ∀ X, Great R p G X ↔ Great R' p' G X := fun X => by
      have hd := hh (del G X) fun x hx => (mem_del.mp hx).1
      have hg := hh G fun _ => id
      unfold Great
      constructor
      · rintro ⟨Z, a, b, c⟩
        exact ⟨Z, a, fun q => b ((hg Z).mpr q), (hd Z).mp c⟩
      · rintro ⟨Z, a, b, c⟩
        exact ⟨Z, a, fun q => b ((hg Z).mp q), (hd Z).mpr c⟩
    simp only [this]
  unfold sc
  rw [e1]
  simp only [e2]

structure TD (n lo hi : Nat) (P M : Nat → Nat) : Prop where
  W : Dr n P M
  lo1 : lo % 2 = 1
  hi0 : hi % 2 = 0
  le : lo < hi
  top : hi ≤ 2 * n

section
variable {n lo hi : Nat} {P M : Nat → Nat} (T : TD n lo hi P M)
include T
theorem tau_lt {s : Nat} (h : s < 2 * n + 2) : tau lo hi s < 2 * n + 2 := by
  have := T.top
  rcases tau_cases lo hi s with ⟨h', e⟩ | ⟨h', e⟩ <;> omega
theorem td_dr : Dr n (TP lo hi P) (TM lo hi M) where
  pl h := tau_lt T (T.W.pl h)
  ml h := T.W.ml (tau_lt T h)
  mp h := by
    show M (tau lo hi (tau lo hi (P _))) = _
    rw [tau_tau, T.W.mp h]
  pm h := by
    show tau lo hi (P (M (tau lo hi _))) = _
    rw [T.W.pm (tau_lt T h), tau_tau]
  zero := by
    show tau lo hi (P 0) = 0
    rw [T.W.zero]
    have := T.lo1
    rcases tau_cases lo hi 0 with ⟨h', e⟩ | ⟨h', e⟩ <;> omega
  piece := by
    intro k hk
    obtain ⟨i, h⟩ := T.W.piece hk
    have h1 := T.lo1
    have h2 := T.hi0
    show ∃ i, (tau lo hi (P (2 * k + 1)) = 2 * i + 1 ∧ tau lo hi (P (2 * k + 2)) = 2 * i + 2) ∨ (tau lo hi (P (2 * k + 1)) = 2 * i + 2 ∧ tau lo hi (P (2 * k + 2)) = 2 * i + 1)
    rcases tau_cases lo hi (P (2 * k + 1)) with ⟨a, e⟩ | ⟨a, e⟩ <;> rcases tau_cases lo hi (P (2 * k + 2)) with ⟨b, f⟩ | ⟨b, f⟩ <;> rw [e, f]
    · refine ⟨(lo + hi - (2 * i + 2)) / 2, ?_⟩
      omega
    · omega
    · omega
    · exact ⟨i, h⟩
theorem td_back : TD n lo hi (TP lo hi P) (TM lo hi M) := ⟨td_dr T, T.lo1, T.hi0, T.le, T.top⟩
theorem cr_turn {k l : Nat} (hk : k ≤ n) (hl : l ≤ n) (hne : k ≠ l) : cr (TP lo hi P) k l ↔ ¬ (cr P k l ↔ (StL lo hi P k ∧ StL lo hi P l)) := by
  obtain ⟨a, b, c, d⟩ := T.W.ne hk hl hne
  have := ts (T.W.ne2 hk) (T.W.ne2 hl) a b c d (Nat.le_of_lt T.le)
  unfold cr
  constructor
  · rintro ⟨_, h⟩ q
    exact this.mp h ⟨fun z => q.mp ⟨hne, z⟩, fun z => (q.mpr z).2⟩
  · intro h
    exact ⟨hne, this.mpr fun q => h ⟨fun z => q.mp z.2, fun z => ⟨hne, q.mpr z⟩⟩⟩
theorem cr_keep {k l : Nat} (hk : k ≤ n) (hl : l ≤ n) (hs : ¬ StL lo hi P k) : cr (TP lo hi P) k l ↔ cr P k l := by
  by_cases hne : k = l
  · exact ⟨fun h => (h.1 hne).elim, fun h => (h.1 hne).elim⟩
  · rw [cr_turn T hk hl hne]
    constructor
    · intro h
      apply Classical.byContradiction
      intro q
      exact h ⟨fun z => (q z).elim, fun z => (hs z.1).elim⟩
    · intro h q
      exact hs (q.mp h).1
theorem ori_turn {k : Nat} (hk : k ≤ n) : ori (TP lo hi P) k ↔ ¬ (ori P k ↔ StL lo hi P k) := by
  have h1 := T.lo1
  have h2 := T.hi0
  show (tau lo hi (P (2 * k)) + tau lo hi (P (2 * k + 1))) % 2 = 0 ↔ ¬ ((P (2 * k) + P (2 * k + 1)) % 2 = 0 ↔ Str lo hi (P (2 * k)) (P (2 * k + 1)))
  generalize P (2 * k) = a
  generalize P (2 * k + 1) = b
  unfold Str
  rcases tau_cases lo hi a with ⟨ha, e⟩ | ⟨ha, e⟩ <;> rcases tau_cases lo hi b with ⟨hb, f⟩ | ⟨hb, f⟩ <;> rw [e, f] <;> omega
/-- a part without a straddling line stays as it is -/
theorem keep {X : Nat} (hX : X ≤ n) (h : ∀ e, Cn n P X e → ¬ StL lo hi P e) (f : Nat) : Cn n (TP lo hi P) X f ↔ Cn n P X f := by
  constructor
  · intro hf
    induction hf with
    | refl => exact .refl _
    | @step y z _ hs ih =>
      have hyz := ec_or (td_dr T) hs
      have := (cr_keep T hyz.1 hyz.2.1 (h y ih)).mp hyz.2.2
      exact .step ih (.inl ⟨hyz.1, hyz.2.1, this⟩)
  · intro hf
    induction hf with
    | refl => exact .refl _
    | @step y z hy hs ih =>
      have hyz := ec_or T.W hs
      have := (cr_keep T hyz.1 hyz.2.1 (h y hy)).mpr hyz.2.2
      exact .step ih (.inl ⟨hyz.1, hyz.2.1, this⟩)
theorem keep_bad {X : Nat} (hX : X ∈ FF n P) (h : ∀ e, Cn n P X e → ¬ StL lo hi P e) : X ∈ FF n (TP lo hi P) := by
  obtain ⟨hr, hb1, l, hl, hc⟩ := mem_FF.mp hX
  have k := keep T hr.1 h
  refine mem_FF.mpr ⟨⟨hr.1, fun t ht hc' => hr.2 t ht (((k t).mp hc'.sym).sym)⟩, fun e he hce ho => ?_, l, hl, (cr_keep T hr.1 hl (h X (.refl X))).mpr hc⟩
  have := (k e).mp hce
  have hne := (ori_turn T he).mp ho
  exact hne ⟨fun q => (hb1 e he this q).elim, fun q => (h e this q).elim⟩
theorem back_bad {X : Nat} (hX : X ∈ FF n (TP lo hi P)) (h : ∀ e, Cn n (TP lo hi P) X e → ¬ StL lo hi P e) : X ∈ FF n P ∧ ∀ e, Cn n P X e → ¬ StL lo hi P e := by
  have hr := (mem_FF.mp hX).1.1
  have h' : ∀ e, Cn n (TP lo hi P) X e → ¬ StL lo hi (TP lo hi P) e := fun e he q => h e he (stl_tp.mp q)
  have k := keep (td_back T) hr h'
  have b := keep_bad (td_back T) hX h'
  rw [tp_tp] at k b
  exact ⟨b, fun e he => h e ((k e).mp he)⟩
theorem rx_iff {X : Nat} : RX n P X lo (hi + 1) ↔ ∃ e, Cn n P X e ∧ e ≤ n ∧ StL lo hi P e := by
  constructor
  · rintro ⟨e, a, b, c⟩
    exact ⟨e, a, b, (str_sp (Nat.le_of_lt T.le)).mp c⟩
  · rintro ⟨e, a, b, c⟩
    exact ⟨e, a, b, (str_sp (Nat.le_of_lt T.le)).mpr c⟩
theorem nstr_of {X : Nat} (hX : X ≤ n) (h : ¬ RX n P X lo (hi + 1)) : ∀ e, Cn n P X e → ¬ StL lo hi P e := fun e he hs => h ((rx_iff T).mpr ⟨e, he, cn_le he hX, hs⟩)
/-- the betweenness of the parts that stay -/
theorem rx_keep {K : List Nat} (hK : ∀ X ∈ K, X ∈ FF n P ∧ ¬ RX n P X lo (hi + 1)) : sc (RX n P) (pt P) K = sc (RX n (TP lo hi P)) (pt (TP lo hi P)) K := by
  refine sc_iff fun X hX U hU V hV hu hv => ?_
  obtain ⟨fX, sX⟩ := hK X hX
  obtain ⟨fU, sU⟩ := hK U hU
  obtain ⟨fV, sV⟩ := hK V hV
  have rX := (mem_FF.mp fX).1
  have rU := (mem_FF.mp fU).1
  have rV := (mem_FF.mp fV).1
  have nX := nstr_of T rX.1 sX
  have k := keep T rX.1 nX
  by_cases hUV : U = V
  · rw [hUV]
    exact ⟨fun ⟨e, a, b, c⟩ => (sp_irr c).elim, fun ⟨e, a, b, c⟩ => (sp_irr c).elim⟩
  · have st : ∀ e, e ≤ n → Cn n P X e → (Sp (P (2 * e)) (P (2 * e + 1)) (pt P U) (pt P V) ↔ Sp (TP lo hi P (2 * e)) (TP lo hi P (2 * e + 1)) (pt (TP lo hi P) U) (pt (TP lo hi P) V)) := by
      intro e he hc
      have eU : e ≠ U := fun q => hu (rp_uniq rU rX (q ▸ hc.sym))
      have eV : e ≠ V := fun q => hv (rp_uniq rV rX (q ▸ hc.sym))
      obtain ⟨a1, a2, a3, a4⟩ := T.W.ne he rU.1 eU
      obtain ⟨b1, b2, b3, b4⟩ := T.W.ne he rV.1 eV
      have huv := (T.W.ne rU.1 rV.1 hUV).1
      have := ts (T.W.ne2 he) huv a1 b1 a3 b3 (Nat.le_of_lt T.le)
      have hn := nX e hc
      constructor
      · intro h
        exact this.mpr fun q => hn (q.mp h).1
      · intro h
        apply Classical.byContradiction
        intro q
        exact this.mp h ⟨fun z => (q z).elim, fun z => (hn z.1).elim⟩
    constructor
    · rintro ⟨e, a, b, c⟩
      exact ⟨e, (k e).mpr a, b, (st e b a).mp c⟩
    · rintro ⟨e, a, b, c⟩
      have a' := (k e).mp a
      exact ⟨e, a', b, (st e b a').mpr c⟩
noncomputable def KK (n lo hi : Nat) (P : Nat → Nat) : List Nat := (FF n P).filter (fun x => decide (¬ RX n P x lo (hi + 1)))
omit T in
theorem mem_KK {X : Nat} : X ∈ KK n lo hi P ↔ X ∈ FF n P ∧ ¬ RX n P X lo (hi + 1) := by simp [KK]
omit T in
theorem nd_KK : (KK n lo hi P).Nodup := nodup_filter _ (nd_FF n P)
theorem sc_kk_le : sc (RX n P) (pt P) (KK n lo hi P) ≤ scP n (TP lo hi P) := by
  rw [rx_keep T (K := KK n lo hi P) fun X hX => mem_KK.mp hX]
  refine mono_sub (bt (td_dr T)) (nd_FF _ _) (fun x hx => (mem_FF.mp hx).1) nd_KK fun x hx => ?_
  have h := mem_KK.mp hx
  exact keep_bad T h.1 (nstr_of T (mem_FF.mp h.1).1.1 h.2)
/-- where no new part is bad -/
theorem sc_kk_eq (h : ∀ X, X ∈ FF n (TP lo hi P) → ∀ e, Cn n (TP lo hi P) X e → ¬ StL lo hi P e) : scP n (TP lo hi P) = sc (RX n P) (pt P) (KK n lo hi P) := by
  rw [rx_keep T (K := KK n lo hi P) fun X hX => mem_KK.mp hX]
  refine sc_congr (nd_FF _ _) nd_KK fun x => ?_
  constructor
  · intro hx
    obtain ⟨h1, h2⟩ := back_bad T hx (h x hx)
    refine mem_KK.mpr ⟨h1, fun q => ?_⟩
    obtain ⟨e, a, b, c⟩ := (rx_iff T).mp q
    exact h2 e a c
  · intro hx
    have h := mem_KK.mp hx
    exact keep_bad T h.1 (nstr_of T (mem_FF.mp h.1).1.1 h.2)
/-- if no line is oriented, no new part is bad -/
theorem none_new (h : ∀ k, k ≤ n → ¬ ori P k) : ∀ X, X ∈ FF n (TP lo hi P) → ∀ e, Cn n (TP lo hi P) X e → ¬ StL lo hi P e := by
  intro X hX e he hs
  obtain ⟨hr, hb, _⟩ := mem_FF.mp hX
  have hle := cn_le he hr.1
  exact hb e hle he ((ori_turn T hle).mpr fun q => h e hle (q.mpr hs))

/-! ### the rings -/
theorem td_sw : Sw (2 * n + 2) (Lt P M) mate (fun s => tau lo hi (mate (tau lo hi s))) (lo - 1) lo hi (hi + 1) := by
  have h1 := T.lo1
  have h2 := T.hi0
  have h3 := T.le
  have h4 := T.top
  have t1 : tau lo hi (lo - 1) = lo - 1 := by rcases tau_cases lo hi (lo - 1) with ⟨a, e⟩ | ⟨a, e⟩ <;> omega
  have t2 : tau lo hi lo = hi := by rcases tau_cases lo hi lo with ⟨a, e⟩ | ⟨a, e⟩ <;> omega
  have t3 : tau lo hi hi = lo := by rcases tau_cases lo hi hi with ⟨a, e⟩ | ⟨a, e⟩ <;> omega
  have t4 : tau lo hi (hi + 1) = hi + 1 := by rcases tau_cases lo hi (hi + 1) with ⟨a, e⟩ | ⟨a, e⟩ <;> omega
  have m1 : mate (lo - 1) = lo := by unfold mate; rw [if_pos (by omega)]; omega
  have m2 : mate hi = hi + 1 := by unfold mate; rw [if_pos (by omega)]
  have m3 : mate lo = lo - 1 := by unfold mate; rw [if_neg (by omega)]
  have m4 : mate (hi + 1) = hi := by unfold mate; rw [if_neg (by omega)]; omega
  exact {
    mL := ⟨lt_lt T.W, lt_lt2 T.W⟩
    mD := ⟨fun {s} hs => by have := mate_lt (N := n + 1) (s := s) (by omega); omega, fun _ => mate_mate _⟩
    mD2 := ⟨fun {s} hs => tau_lt T (by have := mate_lt (N := n + 1) (s := tau lo hi s) (by have := tau_lt T hs; omega); omega), fun {s} _ => by
      show tau lo hi (mate (tau lo hi (tau lo hi (mate (tau lo hi s))))) = s
      rw [tau_tau, mate_mate, tau_tau]⟩
    ha := by omega
    hb := by omega
    hc := by omega
    hd := by omega
    ab := m1
    cd := m2
    ac := by show tau lo hi (mate (tau lo hi (lo - 1))) = hi; rw [t1, m1, t2]
    bd := by show tau lo hi (mate (tau lo hi lo)) = hi + 1; rw [t2, m2, t4]
    rest := fun s s1 s2 s3 s4 => by
      show tau lo hi (mate (tau lo hi s)) = mate s
      rcases tau_cases lo hi s with ⟨a, e⟩ | ⟨a, e⟩
      · rw [e]
        unfold mate
        split <;> split <;> (first | (exfalso; omega) | skip)
        · rcases tau_cases lo hi (lo + hi - s + 1) with ⟨b, f⟩ | ⟨b, f⟩ <;> omega
        · rcases tau_cases lo hi (lo + hi - s - 1) with ⟨b, f⟩ | ⟨b, f⟩ <;> omega
      · rw [e]
        unfold mate
        split
        · rcases tau_cases lo hi (s + 1) with ⟨b, f⟩ | ⟨b, f⟩ <;> omega
        · rcases tau_cases lo hi (s - 1) with ⟨b, f⟩ | ⟨b, f⟩ <;> omega
    nac := by omega
    nab := by omega
    nad := by omega
    nbc := by omega
    nbd := by omega
    ncd := by omega }
theorem lt_turn (s : Nat) : Lt (TP lo hi P) (TM lo hi M) s = tau lo hi (Lt P M (tau lo hi s)) := rfl
theorem rings_turn : rings n (TP lo hi P) (TM lo hi M) = cc (2 * n + 2) (Gn (Ed (2 * n + 2) (Lt P M) (fun s => tau lo hi (mate (tau lo hi s))))) := by
  have E := gn_eqv (Ed (2 * n + 2) (Lt P M) (fun s => tau lo hi (mate (tau lo hi s))))
  rw [← cc_map E (tau lo hi) (tau lo hi) (fun x hx => tau_lt T hx) (fun x hx => tau_lt T hx) fun x _ => tau_tau lo hi x]
  have E' : Eqv (fun x y => Gn (Ed (2 * n + 2) (Lt P M) (fun s => tau lo hi (mate (tau lo hi s)))) (tau lo hi x) (tau lo hi y)) := ⟨fun x => E.refl _, fun h => E.sym h, fun h k => E.trans h k⟩
  have E2 := gn_eqv (Ed (2 * n + 2) (Lt (TP lo hi P) (TM lo hi M)) mate)
  have E2' : Eqv (fun x y => Gn (Ed (2 * n + 2) (Lt (TP lo hi P) (TM lo hi M)) mate) (tau lo hi x) (tau lo hi y)) := ⟨fun x => E2.refl _, fun h => E2.sym h, fun h k => E2.trans h k⟩
  refine cc_congr fun x y hx hy => ⟨fun h => h.sub E' fun x y e => ?_, fun h => ?_⟩
  · obtain ⟨hx, e⟩ := e
    refine .one ⟨tau_lt T hx, ?_⟩
    rcases e with e | e
    · left; rw [e, lt_turn T, tau_tau]
    · right
      show tau lo hi y = tau lo hi (mate (tau lo hi (tau lo hi x)))
      rw [e, tau_tau]
  · have := h.sub E2' fun x y e => by
      obtain ⟨hx, e⟩ := e
      refine .one ⟨tau_lt T hx, ?_⟩
      rcases e with e | e
      · left
        rw [e, lt_turn T, tau_tau]
      · right
        show tau lo hi y = mate (tau lo hi x)
        rw [e, tau_tau]
    rw [tau_tau, tau_tau] at this
    exact this
end
end TR

/-! from E_Main -/
namespace TR
open Classical

theorem cnt_true_le (N : Nat) (S : Nat → Prop) : cnt N S ≤ N := by
  have := List.length_filter_le (fun s => decide (S s)) (List.range N)
  rw [List.length_range] at this
  exact this

section
variable {n : Nat} {P M : Nat → Nat} (W : Dr n P M)
include W
theorem rings_le : rings n P M ≤ n + 1 := by
  refine Nat.le_trans (cnt_le_map (N := n + 1) (T := fun _ => True) (fun x => x / 2) (fun x hx _ => ⟨by show x / 2 < n + 1; omega, trivial⟩) fun x y hx qx hy qy e => ?_) (cnt_true_le _ _)
  have ev : ∀ x, x < 2 * n + 2 → (∀ t, t < x → ¬ Gn (Ed (2 * n + 2) (Lt P M) mate) t x) → x % 2 = 0 := by
    intro x hx q
    apply Classical.byContradiction
    intro ho
    refine q (x - 1) (by omega) (.one ⟨by omega, .inr ?_⟩)
    unfold mate
    rw [if_pos (by omega)]
    omega
  have := ev x hx qx
  have := ev y hy qy
  have e' : x / 2 = y / 2 := e
  omega
theorem exists_rp {k : Nat} (hk : k ≤ n) : ∃ A, rp n P A ∧ Cn n P A k := by
  obtain ⟨r, h1, h2, h3⟩ := exists_rep (cn_eqv n P) k
  exact ⟨r, ⟨by omega, h3⟩, h2⟩
/-- the turn at a line -/
theorem at_line {v : Nat} (hv : v ≤ n) (hl : P (2 * v) / 2 ≠ P (2 * v + 1) / 2) : ∃ lo hi, TD n lo hi P M ∧
    (∀ k, k ≤ n → k ≠ v → (StL lo hi P k ↔ cr P v k)) ∧ (StL lo hi P v ↔ ori P v) ∧
    (ori P v → rings n (TP lo hi P) (TM lo hi M) = rings n P M + 1) ∧ (¬ ori P v → rings n (TP lo hi P) (TM lo hi M) = rings n P M) := by
  have p1 := W.pl (m := 2 * v) (by omega)
  have p2 := W.pl (m := 2 * v + 1) (by omega)
  have main : ∀ p q, p < 2 * n + 2 → q < 2 * n + 2 → p / 2 < q / 2 → Lt P M p = q → ∀ lo hi, lo = 2 * (p / 2) + 1 → hi = 2 * (q / 2) → TD n lo hi P M ∧
      (∀ a b, a ≠ p → a ≠ q → b ≠ p → b ≠ q → (Str lo hi a b ↔ Sp p q a b)) ∧ (Str lo hi p q ↔ (p + q) % 2 = 0) ∧
      ((p + q) % 2 = 0 → rings n (TP lo hi P) (TM lo hi M) = rings n P M + 1) ∧ (¬ (p + q) % 2 = 0 → rings n (TP lo hi P) (TM lo hi M) = rings n P M) := by
    intro p q hp hq hpq hL lo hi elo ehi
    have T : TD n lo hi P M := ⟨W, by omega, by omega, by omega, by omega⟩
    have S := td_sw T
    refine ⟨T, fun a b h1 h2 h3 h4 => by unfold Str Sp In; omega, by unfold Str; omega, fun h => ?_, fun h => ?_⟩
    · rw [rings_turn T]
      rcases Nat.mod_two_eq_zero_or_one p with c | c
      · exact sw_split1 S (by rw [show lo - 1 = p by omega, show hi = q by omega]; exact hL)
      · exact sw_split1 S.swap (by rw [show lo = p by omega, show hi + 1 = q by omega]; exact hL)
    · rw [rings_turn T]
      rcases Nat.mod_two_eq_zero_or_one p with c | c
      · exact sw_same1 S (.inr (by rw [show lo - 1 = p by omega, show hi + 1 = q by omega]; exact hL))
      · exact sw_same1 S (.inl (by rw [show lo = p by omega, show hi = q by omega]; exact hL))
  rcases Nat.lt_or_gt_of_ne hl with h | h
  · obtain ⟨T, a, b, c, d⟩ := main _ _ p1 p2 h (lt_even W hv) _ _ rfl rfl
    refine ⟨_, _, T, fun k hk hne => ?_, b, c, d⟩
    obtain ⟨n1, n2, n3, n4⟩ := W.ne hk hv hne
    exact (a _ _ n1 n2 n3 n4).trans ⟨fun q => ⟨Ne.symm hne, q⟩, fun q => q.2⟩
  · obtain ⟨T, a, b, c, d⟩ := main _ _ p2 p1 h (lt_odd W hv) _ _ rfl rfl
    have oc : ori P v ↔ (P (2 * v + 1) + P (2 * v)) % 2 = 0 := by unfold ori; rw [Nat.add_comm]
    refine ⟨_, _, T, fun k hk hne => ?_, ?_, fun q => c (oc.mp q), fun q => d fun z => q (oc.mpr z)⟩
    · obtain ⟨n1, n2, n3, n4⟩ := W.ne hk hv hne
      exact (a _ _ n2 n1 n4 n3).trans ⟨fun q => ⟨Ne.symm hne, sp_swap.mp q⟩, fun q => sp_swap.mp q.2⟩
    · rw [oc, ← b]
      unfold StL Str
      exact ⟨fun q z => q z.symm, fun q z => q z.symm⟩
theorem ori_long {v : Nat} (hv : v ≤ n) (h : ori P v) : P (2 * v) / 2 ≠ P (2 * v + 1) / 2 := by
  have := W.ne2 hv
  unfold ori at h
  omega
theorem cr_long {v l : Nat} (hv : v ≤ n) (hl : l ≤ n) (h : cr P v l) : P (2 * v) / 2 ≠ P (2 * v + 1) / 2 := by
  obtain ⟨a, b, c, d⟩ := W.ne hv hl h.1
  have := W.ne2 hv
  have h2 := h.2
  unfold Sp In at h2
  omega
end

/-! ### (A): a turn lowers the number by at most one -/
theorem thmA {n lo hi : Nat} {P M : Nat → Nat} (T : TD n lo hi P M) :
    scP n P + rings n (TP lo hi P) (TM lo hi M) ≤ scP n (TP lo hi P) + rings n P M + 1 := by
  have W := T.W
  have S := td_sw T
  have B := bt W
  have nF := nd_FF n P
  have oF : ∀ x ∈ FF n P, rp n P x := fun x hx => (mem_FF.mp hx).1
  have kle := sc_kk_le T
  have rt := rings_turn T
  have rl := sw_le S
  have h1 := T.lo1
  have h3 := T.le
  have h4 := T.top
  rw [← rt] at rl
  change rings n (TP lo hi P) (TM lo hi M) ≤ rings n P M + 1 ∧ rings n P M ≤ rings n (TP lo hi P) (TM lo hi M) + 1 at rl
  by_cases hc : rings n P M ≤ rings n (TP lo hi P) (TM lo hi M)
  · -- one ring
    have g : Gn (Ed (2 * n + 2) (Lt P M) mate) (lo - 1) hi := sw_ge S (A := fun s => M s % 2 = 0) (B := fun s => s % 2 = 0)
      (fun s hs => by rw [lt_m W hs, mate_par]; omega) (fun s hs => by rw [mate_par]; omega) (by rw [← rt]; exact hc)
    have g1 : Gn (Ed (2 * n + 2) (Lt P M) mate) (lo - 1) lo := .one ⟨by omega, .inr S.ab.symm⟩
    have g2 : Gn (Ed (2 * n + 2) (Lt P M) mate) (lo - 1) (hi + 1) := g.trans (.one ⟨by omega, .inr S.cd.symm⟩)
    obtain ⟨A, rA, cA⟩ := exists_rp W (half_le W (s := lo - 1) (by omega))
    have c1 := cA.trans (ring_part W g1 (by omega)).2
    have c2 := cA.trans (ring_part W g2 (by omega)).2
    have only : ∀ X, X ∈ FF n P → X ≠ A → ¬ RX n P X lo (hi + 1) := by
      rintro X hX hne ⟨e, e1, e2, e3⟩
      have rX := oF X hX
      have : ¬ Cn n P A e := fun q => hne (rp_uniq rX rA (e1.trans q.sym))
      exact side3 W e2 rA.1 this (by omega) c1 (by omega) c2 e3
    by_cases hu : rings n (TP lo hi P) (TM lo hi M) = rings n P M + 1
    · -- the part has an oriented line
      have up := sw_up S (by rw [← rt]; exact hu)
      obtain ⟨s, s1, s2, s3⟩ := sw_par S (B := fun s => s % 2 = 0) (fun s hs => by rw [mate_par]; omega) (by have := T.hi0; show (lo - 1) % 2 = 0 ↔ hi % 2 = 0; omega) up.1 up.2
      have cs := cA.trans (ring_part W s2 (by omega)).2
      have os : ori P (M s / 2) := by
        unfold ori
        rcases lt_line_eq W s1 with ⟨q1, q2⟩ | ⟨q1, q2⟩
        · rw [← q1, ← q2]; omega
        · rw [← q1, ← q2]; omega
      have nA : A ∉ FF n P := fun h => (mem_FF.mp h).2.1 _ (half_le W s1) cs os
      have : scP n P ≤ sc (RX n P) (pt P) (KK n lo hi P) :=
        mono_sub B nd_KK (fun x hx => oF x (mem_KK.mp hx).1) nF fun x hx => mem_KK.mpr ⟨hx, only x hx fun e => nA (e ▸ hx)⟩
      omega
    · have : scP n P ≤ sc (RX n P) (pt P) (KK n lo hi P) + 1 := by
        by_cases hA : A ∈ FF n P
        · refine Nat.le_trans (single B nF oF hA) (Nat.add_le_add_right ?_ 1)
          exact mono_sub B nd_KK (fun x hx => oF x (mem_KK.mp hx).1) (nd_del nF) fun x hx => by
            have := mem_del.mp hx
            exact mem_KK.mpr ⟨this.1, only x this.1 this.2⟩
        · refine Nat.le_trans ?_ (Nat.le_succ _)
          exact mono_sub B nd_KK (fun x hx => oF x (mem_KK.mp hx).1) nF fun x hx => mem_KK.mpr ⟨hx, only x hx fun e => hA (e ▸ hx)⟩
      omega
  · have : scP n P ≤ sc (RX n P) (pt P) (KK n lo hi P) + 2 := path B nF oF lo (hi + 1)
    omega

/-! ### (B): some turn lowers the number -/
/-- an oriented line whose turn makes the most lines oriented makes no new bad part -/
theorem safe {n : Nat} {P M : Nat → Nat} (W : Dr n P M) (h : ∃ v, v ≤ n ∧ ori P v) :
    ∃ lo hi, TD n lo hi P M ∧ scP n (TP lo hi P) + rings n P M + 1 ≤ scP n P + rings n (TP lo hi P) (TM lo hi M) := by
  -- the number of lines that are oriented behind the turn at v
  let O : Nat → Nat → Prop := fun v k => ¬ (ori P k ↔ (k = v ∨ cr P v k))
  have : ∃ v, v ≤ n ∧ ori P v ∧ ∀ w, w ≤ n → ori P w → cnt (n + 1) (O w) ≤ cnt (n + 1) (O v) := by
    obtain ⟨v, h1, h2⟩ := h
    generalize hm : n + 1 - cnt (n + 1) (O v) = m
    induction m using Nat.strongRecOn generalizing v with
    | _ m ih =>
      by_cases q : ∃ w, w ≤ n ∧ ori P w ∧ cnt (n + 1) (O v) < cnt (n + 1) (O w)
      · obtain ⟨w, w1, w2, w3⟩ := q
        have := cnt_true_le (n + 1) (O w)
        exact ih (n + 1 - cnt (n + 1) (O w)) (by omega) w w1 w2 rfl
      · exact ⟨v, h1, h2, fun w w1 w2 => Nat.le_of_not_lt fun w3 => q ⟨w, w1, w2, w3⟩⟩
  obtain ⟨v, hv, ov, best⟩ := this
  obtain ⟨lo, hi, T, st, sv, ru, _⟩ := at_line W hv (ori_long W hv ov)
  refine ⟨lo, hi, T, ?_⟩
  have hru := ru ov
  have stv : StL lo hi P v := sv.mpr ov
  have st' : ∀ k, k ≤ n → (StL lo hi P k ↔ (k = v ∨ cr P v k)) := fun k hk => by
    by_cases e : k = v
    · rw [e]; exact ⟨fun _ => .inl rfl, fun _ => stv⟩
    · rw [st k hk e]; exact ⟨.inr, fun q => q.resolve_left e⟩
  have orv : ∀ k, k ≤ n → (ori (TP lo hi P) k ↔ O v k) := fun k hk => by
    rw [ori_turn T hk, st' k hk]
  -- v stands alone behind its turn
  have iso : ∀ k, k ≤ n → ¬ cr (TP lo hi P) v k := fun k hk hc => by
    have := (cr_turn T hv hk hc.1).mp hc
    exact this ⟨fun q => ⟨stv, (st k hk hc.1.symm).mpr q⟩, fun q => (st k hk hc.1.symm).mp q.2⟩
  have nonew : ∀ X, X ∈ FF n (TP lo hi P) → ∀ e, Cn n (TP lo hi P) X e → ¬ StL lo hi P e := by
    intro X hX w hw hs
    obtain ⟨hr, hb, x1, hx1, hcx⟩ := mem_FF.mp hX
    have hwn := cn_le hw hr.1
    have W' := td_dr T
    -- the part has more than one line
    have nb : ∃ u, u ≤ n ∧ cr (TP lo hi P) w u := by
      cases hw.sym with
      | refl => exact ⟨x1, hx1, hcx⟩
      | step a b =>
        have key : ∀ y z, Cn n (TP lo hi P) y z → y ≠ z → ∃ u, u ≤ n ∧ cr (TP lo hi P) y u := by
          intro y z hyz
          induction hyz with
          | refl => intro q; exact (q rfl).elim
          | @step y' z' h1 h2 ih =>
            intro _
            by_cases e : y = y'
            · have := ec_or W' h2
              exact ⟨z', this.2.1, e ▸ this.2.2⟩
            · exact ih e
        by_cases e : w = X
        · exact ⟨x1, hx1, e ▸ hcx⟩
        · exact key w X hw.sym e
    obtain ⟨u, hu, hcu⟩ := nb
    have wv : w ≠ v := fun e => iso u hu (e ▸ hcu)
    have cvw : cr P v w := (st w hwn wv).mp hs
    have now : ¬ ori (TP lo hi P) w := hb w hwn hw
    have ow : ori P w := by
      apply Classical.byContradiction
      intro q
      exact now ((ori_turn T hwn).mpr fun z => q (z.mpr hs))
    have cls : ∀ k, k ≤ n → cr (TP lo hi P) w k → ¬ O v k := fun k hk hc q =>
      hb k hk (.step hw (.inl ⟨hwn, hk, hc⟩)) ((orv k hk).mpr q)
    have sub : ∀ k, k ≤ n → O v k → O w k := by
      intro k hk hO
      by_cases sk : StL lo hi P k
      · have nok : ¬ ori P k := fun q => hO ⟨fun _ => (st' k hk).mp sk, fun _ => q⟩
        have kw : k ≠ w := fun e => nok (e ▸ ow)
        have : cr P w k := by
          apply Classical.byContradiction
          intro q
          exact cls k hk ((cr_turn T hwn hk kw.symm).mpr fun z => q (z.mpr ⟨hs, sk⟩)) hO
        exact fun z => nok (z.mpr (.inr this))
      · have ok : ori P k := by
          apply Classical.byContradiction
          intro q
          exact hO ⟨fun z => (q z).elim, fun z => (sk ((st' k hk).mpr z)).elim⟩
        have kw : k ≠ w := fun e => sk (e ▸ hs)
        have : ¬ cr P w k := fun q => cls k hk ((cr_turn T hwn hk kw.symm).mpr fun z => sk (z.mp q).2) hO
        exact fun z => by
          rcases z.mp ok with q | q
          · exact kw q
          · exact this q
    have uw : u ≠ w := Ne.symm hcu.1
    have uv : u ≠ v := fun e => by
      have := cr_sym W' hwn hu hcu
      rw [e] at this
      exact iso w hwn this
    have nOu : ¬ O v u := cls u hu hcu
    have Ou : O w u := by
      have tu := (cr_turn T hwn hu uw.symm).mp hcu
      by_cases su : StL lo hi P u
      · have ou : ori P u := by
          apply Classical.byContradiction
          intro q
          exact nOu fun z => q (z.mpr ((st' u hu).mp su))
        have : ¬ cr P w u := fun q => tu ⟨fun _ => ⟨hs, su⟩, fun _ => q⟩
        exact fun z => by
          rcases z.mp ou with q | q
          · exact uw q
          · exact this q
      · have nou : ¬ ori P u := fun q => nOu fun z => su ((st' u hu).mpr (z.mp q))
        have : cr P w u := by
          apply Classical.byContradiction
          intro q
          exact tu ⟨fun z => (q z).elim, fun z => (su z.2).elim⟩
        exact fun z => nou (z.mpr (.inr this))
    have lt : cnt (n + 1) (O v) < cnt (n + 1) (O w) := by
      have : cnt (n + 1) (O v) ≤ cnt (n + 1) (fun k => O w k ∧ k ≠ u) :=
        cnt_le_map id (fun k hk q => ⟨hk, sub k (by omega) q, fun e => nOu (e ▸ q)⟩) fun _ _ _ _ _ _ e => e
      have := cnt_one (M := n + 1) (S := O w) (a := u) (by omega) Ou
      omega
    have := best w hwn ow
    omega
  have e1 := sc_kk_eq T nonew
  have e2 : sc (RX n P) (pt P) (KK n lo hi P) = scP n P := by
    refine sc_congr nd_KK (nd_FF n P) fun x => ⟨fun hx => (mem_KK.mp hx).1, fun hx => mem_KK.mpr ⟨hx, fun q => ?_⟩⟩
    obtain ⟨e, a, b, c⟩ := (rx_iff T).mp q
    obtain ⟨hr, hb, _⟩ := mem_FF.mp hx
    rcases (st' e b).mp c with z | z
    · exact hb v hv (z ▸ a) ov
    · exact hb v hv (.step a (.inr ⟨hv, b, z⟩)) ov
  omega

theorem id_of_short {n : Nat} {P M : Nat → Nat} (W : Dr n P M) (h : ∀ k, k ≤ n → ∃ i, (P (2 * k) = 2 * i ∧ P (2 * k + 1) = 2 * i + 1) ∨ (P (2 * k) = 2 * i + 1 ∧ P (2 * k + 1) = 2 * i)) :
    ∀ k, k ≤ n → P (2 * k) = 2 * k ∧ P (2 * k + 1) = 2 * k + 1 := by
  intro k
  induction k with
  | zero =>
    intro _
    obtain ⟨i, hi⟩ := h 0 (by omega)
    have := W.zero
    simp at hi ⊢
    omega
  | succ k ih =>
    intro hk
    obtain ⟨i, hi⟩ := h (k + 1) hk
    obtain ⟨j, hj⟩ := W.piece (k := k) (by omega)
    have := ih (by omega)
    rw [show 2 * (k + 1) = 2 * k + 2 by omega] at hi ⊢
    omega

theorem thmB {n : Nat} {P M : Nat → Nat} (W : Dr n P M) (h : ¬ ∀ m, m < 2 * n + 2 → P m = m) :
    ∃ lo hi, TD n lo hi P M ∧ scP n (TP lo hi P) + rings n P M + 1 ≤ scP n P + rings n (TP lo hi P) (TM lo hi M) := by
  by_cases ho : ∃ v, v ≤ n ∧ ori P v
  · exact safe W ho
  · have no : ∀ k, k ≤ n → ¬ ori P k := fun k hk q => ho ⟨k, hk, q⟩
    have B := bt W
    have nF := nd_FF n P
    have oF : ∀ x ∈ FF n P, rp n P x := fun x hx => (mem_FF.mp hx).1
    have hcr : ∃ k, k ≤ n ∧ ∃ l, l ≤ n ∧ cr P k l := by
      apply Classical.byContradiction
      intro hn
      apply h
      have id := id_of_short W fun k hk => short W hk (fun l hl hc => hn ⟨k, hk, l, hl, hc⟩) (no k hk)
      intro m hm
      rcases Nat.mod_two_eq_zero_or_one m with q | q
      · have := (id (m / 2) (by omega)).1
        rw [show 2 * (m / 2) = m by omega] at this
        exact this
      · have := (id (m / 2) (by omega)).2
        rw [show 2 * (m / 2) + 1 = m by omega] at this
        exact this
    have cross : ∀ X, X ∈ FF n P → ∃ l, l ≤ n ∧ cr P X l := fun X hX => (mem_FF.mp hX).2.2
    have hne : FF n P ≠ [] := by
      obtain ⟨k, hk, l, hl, hc⟩ := hcr
      obtain ⟨A, rA, cA⟩ := exists_rp W hk
      have : A ∈ FF n P := by
        refine mem_FF.mpr ⟨rA, fun l hl _ => no l hl, ?_⟩
        by_cases e : A = k
        · exact ⟨l, hl, e ▸ hc⟩
        · have key : ∀ y z, Cn n P y z → y ≠ z → ∃ u, u ≤ n ∧ cr P y u := by
            intro y z hyz
            induction hyz with
            | refl => intro q; exact (q rfl).elim
            | @step y' z' h1 h2 ih =>
              intro _
              by_cases e : y = y'
              · have := ec_or W h2
                exact ⟨z', this.2.1, e ▸ this.2.2⟩
              · exact ih e
          exact key A k cA e
      intro e
      rw [e] at this
      cases this
    rcases choice B nF oF hne with ⟨X, hX, hs⟩ | ⟨X1, hX1, X2, hX2, h12, hs⟩
    · -- a turn at a line of the hurdle
      have rX := oF X hX
      obtain ⟨l, hl, hc⟩ := cross X hX
      obtain ⟨lo, hi, T, st, sv, _, rs⟩ := at_line W rX.1 (cr_long W rX.1 hl hc)
      refine ⟨lo, hi, T, ?_⟩
      have e0 := rs (no X rX.1)
      have e1 := sc_kk_eq T (none_new T no)
      have e2 : sc (RX n P) (pt P) (KK n lo hi P) = sc (RX n P) (pt P) (del (FF n P) X) := by
        refine sc_congr nd_KK (nd_del nF) fun x => ?_
        rw [mem_KK, mem_del]
        constructor
        · rintro ⟨a, b⟩
          refine ⟨a, fun e => b ?_⟩
          rw [e]
          exact (rx_iff T).mpr ⟨l, .one ⟨rX.1, hl, hc⟩, hl, (st l hl hc.1.symm).mpr hc⟩
        · rintro ⟨a, b⟩
          refine ⟨a, fun q => b ?_⟩
          obtain ⟨e, f1, f2, f3⟩ := (rx_iff T).mp q
          have ex : e ≠ X := fun z => no X rX.1 (sv.mp (z ▸ f3))
          have := (st e f2 ex).mp f3
          exact rp_uniq (oF x a) rX (f1.trans (Gn.sym (.one ⟨rX.1, f2, this⟩)))
      have hs' : sc (RX n P) (pt P) (del (FF n P) X) + 1 ≤ scP n P := hs
      omega
    · -- a turn from one hurdle to the other one
      have r1 := oF X1 hX1
      have r2 := oF X2 hX2
      have np12 : ¬ Cn n P X1 X2 := fun q => h12 (rp_uniq r1 r2 q)
      have dk : ∀ X, X ≤ n → ∀ s, s < 2 * n + 2 → s / 2 = P (2 * X) / 2 → Cn n P X (M s / 2) := by
        intro X hX s hs he
        have hp := W.pl (m := 2 * X) (by omega)
        have hm := m_even W hX
        have hd := dark W (i := s / 2) (by omega)
        have : P (2 * X) = 2 * (s / 2) ∨ P (2 * X) = 2 * (s / 2) + 1 := by omega
        have hs' : s = 2 * (s / 2) ∨ s = 2 * (s / 2) + 1 := by omega
        have c1 : Cn n P X (M (2 * (s / 2)) / 2) := by
          rcases this with q | q
          · rw [← q, hm]; exact .refl X
          · rw [← q, hm] at hd; exact hd.sym
        rcases hs' with q | q
        · rw [q, show 2 * (s / 2) / 2 = s / 2 by omega] at *; exact c1
        · rw [q]; exact c1.trans hd
      have main : ∀ X1 X2, X1 ∈ FF n P → X2 ∈ FF n P → ¬ Cn n P X1 X2 → P (2 * X1) / 2 < P (2 * X2) / 2 →
          (∀ D : Nat → Prop, D X1 → D X2 → (∀ Z ∈ FF n P, Z ≠ X1 → Z ≠ X2 → (D Z ↔ RX n P Z (pt P X1) (pt P X2))) → sc (RX n P) (pt P) ((FF n P).filter (fun x => decide (¬ D x))) + 2 ≤ sc (RX n P) (pt P) (FF n P)) →
          ∃ lo hi, TD n lo hi P M ∧ scP n (TP lo hi P) + rings n P M + 1 ≤ scP n P + rings n (TP lo hi P) (TM lo hi M) := by
        intro X1 X2 hX1 hX2 hnc hlt hs
        have r1 := oF X1 hX1
        have r2 := oF X2 hX2
        have hp1 := W.pl (m := 2 * X1) (by have := r1.1; omega)
        have hp2 := W.pl (m := 2 * X2) (by have := r2.1; omega)
        obtain ⟨i, ei⟩ : ∃ i, i = P (2 * X1) / 2 := ⟨_, rfl⟩
        obtain ⟨j, ej⟩ : ∃ j, j = P (2 * X2) / 2 := ⟨_, rfl⟩
        have T : TD n (2 * i + 1) (2 * j) P M := ⟨W, by omega, by omega, by omega, by omega⟩
        refine ⟨2 * i + 1, 2 * j, T, ?_⟩
        have a1 := dk X1 r1.1 (2 * i) (by omega) (by omega)
        have b1 := dk X1 r1.1 (2 * i + 1) (by omega) (by omega)
        have a2 := dk X2 r2.1 (2 * j) (by omega) (by omega)
        have b2 := dk X2 r2.1 (2 * j + 1) (by omega) (by omega)
        have S := td_sw T
        have rl := (sw_le S).2
        rw [← rings_turn T] at rl
        change rings n P M ≤ rings n (TP (2 * i + 1) (2 * j) P) (TM (2 * i + 1) (2 * j) M) + 1 at rl
        have e1 := sc_kk_eq T (none_new T no)
        have hD := hs (fun x => RX n P x (2 * i + 1) (2 * j + 1)) ?_ ?_ ?_
        · have : KK n (2 * i + 1) (2 * j) P = (FF n P).filter (fun x => decide (¬ RX n P x (2 * i + 1) (2 * j + 1))) := rfl
          rw [← this] at hD
          change _ ≤ scP n P at hD
          omega
        · apply Classical.byContradiction
          intro q
          have st := nstr_of T r1.1 q
          have z1 := straddle W r1.1 st (s := 2 * i) (by omega) a1
          have z2 := straddle W r1.1 st (s := 2 * i + 1) (by omega) b1
          omega
        · apply Classical.byContradiction
          intro q
          have st := nstr_of T r2.1 q
          have z1 := straddle W r2.1 st (s := 2 * j) (by omega) a2
          have z2 := straddle W r2.1 st (s := 2 * j + 1) (by omega) b2
          omega
        · intro Z hZ z1 z2
          have rZ := oF Z hZ
          have k1 : ∀ e, e ≤ n → Cn n P Z e → ¬ Sp (P (2 * e)) (P (2 * e + 1)) (2 * i + 1) (pt P X1) := fun e he hc hsp => by
            have : ¬ Cn n P X1 e := fun q => z1 (rp_uniq rZ r1 (hc.trans q.sym))
            exact side2 W he r1.1 this (by omega) b1 (sp_sym hsp)
          have k2 : ∀ e, e ≤ n → Cn n P Z e → ¬ Sp (P (2 * e)) (P (2 * e + 1)) (pt P X2) (2 * j + 1) := fun e he hc => by
            have : ¬ Cn n P X2 e := fun q => z2 (rp_uniq rZ r2 (hc.trans q.sym))
            exact side2 W he r2.1 this (by omega) b2
          constructor
          · rintro ⟨e, c1, c2, c3⟩
            refine ⟨e, c1, c2, ?_⟩
            rcases sp_cot (pt P X1) c3 with q | q
            · exact (k1 e c2 c1 q).elim
            · rcases sp_cot (pt P X2) q with q | q
              · exact q
              · exact (k2 e c2 c1 q).elim
          · rintro ⟨e, c1, c2, c3⟩
            refine ⟨e, c1, c2, ?_⟩
            rcases sp_cot (2 * i + 1) c3 with q | q
            · exact (k1 e c2 c1 (sp_sym q)).elim
            · rcases sp_cot (2 * j + 1) q with q | q
              · exact q
              · exact (k2 e c2 c1 (sp_sym q)).elim
      have hneq : P (2 * X1) / 2 ≠ P (2 * X2) / 2 := fun e => np12 (by
        have hp := W.pl (m := 2 * X2) (by have := r2.1; omega)
        have := dk X1 r1.1 (P (2 * X2)) hp e.symm
        rw [m_even W r2.1] at this
        exact this)
      rcases Nat.lt_or_gt_of_ne hneq with q | q
      · exact main X1 X2 hX1 hX2 np12 q hs
      · refine main X2 X1 hX2 hX1 (fun z => np12 z.sym) q fun D d2 d1 hD => hs D d1 d2 fun Z hZ z1 z2 => ?_
        rw [hD Z hZ z2 z1]
        exact ⟨fun ⟨e, c1, c2, c3⟩ => ⟨e, c1, c2, sp_sym c3⟩, fun ⟨e, c1, c2, c3⟩ => ⟨e, c1, c2, sp_sym c3⟩⟩
end TR

/-! from F_Rows -/
namespace TR
open Classical

/-! ### rows -/
def fl (r : List Int) : List Int := (r.map (fun x => -x)).reverse
theorem fl_append (a b : List Int) : fl (a ++ b) = fl b ++ fl a := by simp [fl]
theorem fl_fl (a : List Int) : fl (fl a) = a := by
  simp only [fl, List.map_reverse, List.reverse_reverse, List.map_map]
  have : ((fun x : Int => -x) ∘ fun x => -x) = id := by funext x; simp
  rw [this, List.map_id]
theorem fl_len (a : List Int) : (fl a).length = a.length := by simp [fl]
theorem mem_fl {a : List Int} {x : Int} : x ∈ fl a ↔ -x ∈ a := by
  simp only [fl, List.mem_reverse, List.mem_map]
  constructor
  · rintro ⟨y, hy, rfl⟩
    rw [Int.neg_neg]; exact hy
  · intro h
    exact ⟨-x, h, Int.neg_neg x⟩
theorem fl_abs (a : List Int) : ((fl a).map Int.natAbs).Perm (a.map Int.natAbs) := by
  simp only [fl, List.map_reverse, List.map_map]
  have : (Int.natAbs ∘ fun x : Int => -x) = Int.natAbs := by funext x; simp
  rw [this]
  exact List.reverse_perm _

/-- signed rows -/
def Sg (r : List Int) : Prop := (r.map Int.natAbs).Perm ((List.range r.length).map (· + 1))
theorem sg_nd {r : List Int} (h : Sg r) : (r.map Int.natAbs).Nodup := (h.nodup_iff).mpr (nd_map _ List.nodup_range fun _ _ _ _ e => by omega)
theorem sg_mem {r : List Int} (h : Sg r) {k : Nat} : k ∈ r.map Int.natAbs ↔ 1 ≤ k ∧ k ≤ r.length := by
  rw [h.mem_iff, List.mem_map]
  constructor
  · rintro ⟨a, ha, rfl⟩
    rw [List.mem_range] at ha
    omega
  · rintro ⟨h1, h2⟩
    exact ⟨k - 1, by rw [List.mem_range]; omega, by omega⟩
theorem sg_pos {r : List Int} (h : Sg r) {x : Int} (hx : x ∈ r) : 1 ≤ x.natAbs ∧ x.natAbs ≤ r.length := (sg_mem h).mp (List.mem_map.mpr ⟨x, hx, rfl⟩)
theorem sg_of_perm {r r' : List Int} (h : Sg r) (hp : (r'.map Int.natAbs).Perm (r.map Int.natAbs)) : Sg r' := by
  have hl : r'.length = r.length := by simpa using hp.length_eq
  unfold Sg
  rw [hl]
  exact hp.trans h
theorem sg_one {r : List Int} (h : Sg r) {x y : Int} (hx : x ∈ r) (hy : y ∈ r) (e : x.natAbs = y.natAbs) : x = y := by
  obtain ⟨a, b, rfl⟩ := List.append_of_mem hx
  have := sg_nd h
  rw [List.map_append, List.map_cons, List.nodup_append] at this
  obtain ⟨_, h2, h3⟩ := this
  rw [List.nodup_cons] at h2
  rcases List.mem_append.mp hy with q | q
  · exact (h3 y.natAbs (List.mem_map.mpr ⟨y, q, rfl⟩) x.natAbs (by simp) e.symm).elim
  · rcases List.mem_cons.mp q with q | q
    · exact q.symm
    · exact (h2.1 (List.mem_map.mpr ⟨y, q, e.symm⟩)).elim
theorem sg_rv {a s b : List Int} (h : Sg (a ++ s ++ b)) : Sg (a ++ fl s ++ b) := by
  refine sg_of_perm h ?_
  simp only [List.map_append]
  exact List.Perm.append (List.Perm.append (List.Perm.refl _) (fl_abs s)) (List.Perm.refl _)

/-! ### marks -/
def pm (x : Int) : List Nat := if 0 < x then [2 * x.natAbs - 1, 2 * x.natAbs] else [2 * x.natAbs, 2 * x.natAbs - 1]
def fm (r : List Int) : List Nat := r.flatMap pm
def mk (r : List Int) : List Nat := 0 :: (fm r ++ [2 * r.length + 1])
theorem pm_len (x : Int) : (pm x).length = 2 := by unfold pm; split <;> rfl
theorem fm_nil : fm [] = [] := rfl
theorem fm_cons (x : Int) (r : List Int) : fm (x :: r) = pm x ++ fm r := rfl
theorem fm_append (a b : List Int) : fm (a ++ b) = fm a ++ fm b := List.flatMap_append
theorem fm_len (r : List Int) : (fm r).length = 2 * r.length := by
  induction r with
  | nil => rfl
  | cons x r ih => rw [fm_cons, List.length_append, pm_len, ih, List.length_cons]; omega
theorem pm_neg {x : Int} (h : x ≠ 0) : pm (-x) = (pm x).reverse := by
  unfold pm
  by_cases q : 0 < x
  · rw [if_pos q, if_neg (by omega)]; simp
  · rw [if_neg q, if_pos (by omega)]; simp
theorem fm_fl {r : List Int} (h : ∀ x ∈ r, x ≠ 0) : fm (fl r) = (fm r).reverse := by
  induction r with
  | nil => rfl
  | cons x r ih =>
    have : fl (x :: r) = fl r ++ [-x] := by simp [fl]
    rw [this, fm_append, ih fun y hy => h y (by simp [hy]), fm_cons x r, List.reverse_append, fm_cons, fm_nil, List.append_nil, pm_neg (h x (by simp))]
theorem mk_len (r : List Int) : (mk r).length = 2 * r.length + 2 := by
  unfold mk
  rw [List.length_cons, List.length_append, fm_len]
  simp
theorem mem_pm {x : Int} {m : Nat} : m ∈ pm x ↔ m = 2 * x.natAbs - 1 ∨ m = 2 * x.natAbs := by
  unfold pm
  split
  · simp
  · simp [or_comm]
theorem mem_fm {r : List Int} {m : Nat} : m ∈ fm r ↔ ∃ x ∈ r, m = 2 * x.natAbs - 1 ∨ m = 2 * x.natAbs := by
  unfold fm
  rw [List.mem_flatMap]
  simp only [mem_pm]
theorem mem_fm_sg {r : List Int} (h : Sg r) {m : Nat} : m ∈ fm r ↔ 1 ≤ m ∧ m ≤ 2 * r.length := by
  rw [mem_fm]
  constructor
  · rintro ⟨x, hx, e⟩
    have := sg_pos h hx
    omega
  · rintro ⟨h1, h2⟩
    have := (sg_mem h (k := (m + 1) / 2)).mpr (by omega)
    obtain ⟨x, hx, e⟩ := List.mem_map.mp this
    exact ⟨x, hx, by omega⟩
theorem mem_mk {r : List Int} (h : Sg r) {m : Nat} : m ∈ mk r ↔ m < 2 * r.length + 2 := by
  unfold mk
  rw [List.mem_cons, List.mem_append, mem_fm_sg h, List.mem_singleton]
  omega
theorem fm_nd : ∀ {r : List Int}, (r.map Int.natAbs).Nodup → (∀ x ∈ r, x ≠ 0) → (fm r).Nodup := by
  intro r
  induction r with
  | nil => intro _ _; exact List.nodup_nil
  | cons x r ih =>
    intro h h0
    rw [List.map_cons, List.nodup_cons] at h
    rw [fm_cons, List.nodup_append]
    have hx := h0 x (by simp)
    refine ⟨?_, ih h.2 fun y hy => h0 y (by simp [hy]), fun a ha b hb e => ?_⟩
    · unfold pm
      split <;> simp <;> omega
    · rw [mem_pm] at ha
      obtain ⟨y, hy, e'⟩ := mem_fm.mp hb
      have hy0 := h0 y (by simp [hy])
      apply h.1
      rw [List.mem_map]
      exact ⟨y, hy, by omega⟩
theorem sg_ne0 {r : List Int} (h : Sg r) : ∀ x ∈ r, x ≠ 0 := fun x hx e => by
  have := sg_pos h hx
  rw [e] at this
  simp at this
theorem mk_nd {r : List Int} (h : Sg r) : (mk r).Nodup := by
  unfold mk
  rw [List.nodup_cons, List.nodup_append]
  refine ⟨?_, fm_nd (sg_nd h) (sg_ne0 h), by simp, ?_⟩
  · rw [List.mem_append, mem_fm_sg h]
    simp
  · intro a ha b hb e
    rw [mem_fm_sg h] at ha
    simp at hb
    omega
def Mf (r : List Int) (s : Nat) : Nat := (mk r).getD s s
def Pf (r : List Int) (m : Nat) : Nat := (mk r).idxOf m
theorem mf_get {r : List Int} {s : Nat} (h : s < 2 * r.length + 2) : (mk r)[s]? = some (Mf r s) := by
  have : s < (mk r).length := by rw [mk_len]; exact h
  unfold Mf
  rw [List.getD_eq_getElem?_getD, List.getElem?_eq_getElem this]
  rfl
theorem pf_get {r : List Int} (h : Sg r) {m : Nat} (hm : m < 2 * r.length + 2) : Pf r m < 2 * r.length + 2 ∧ (mk r)[Pf r m]? = some m := by
  have h1 : Pf r m < (mk r).length := List.idxOf_lt_length_iff.mpr ((mem_mk h).mpr hm)
  have h2 : (mk r)[Pf r m] = m := List.getElem_idxOf h1
  refine ⟨by rw [← mk_len]; exact h1, ?_⟩
  rw [List.getElem?_eq_getElem h1, h2]
theorem pf_of {r : List Int} (h : Sg r) {s m : Nat} (e : (mk r)[s]? = some m) : Pf r m = s := by
  obtain ⟨hs, e⟩ := List.getElem?_eq_some_iff.mp e
  unfold Pf
  rw [← e]
  exact (mk_nd h).idxOf_getElem s hs
theorem fm_get {r : List Int} {i : Nat} {x : Int} (h : r[i]? = some x) : (fm r)[2 * i]? = (pm x)[0]? ∧ (fm r)[2 * i + 1]? = (pm x)[1]? := by
  induction r generalizing i with
  | nil => simp at h
  | cons y r ih =>
    rw [fm_cons]
    cases i with
    | zero =>
      have : y = x := by simpa using h
      rw [this]
      constructor <;> rw [List.getElem?_append_left (by rw [pm_len]; omega)]
    | succ i =>
      have := ih (i := i) (by simpa using h)
      have e1 : (pm y ++ fm r)[2 * (i + 1)]? = (fm r)[2 * i]? := by
        rw [List.getElem?_append_right (by rw [pm_len]; omega), pm_len]
        congr 1
      have e2 : (pm y ++ fm r)[2 * (i + 1) + 1]? = (fm r)[2 * i + 1]? := by
        rw [List.getElem?_append_right (by rw [pm_len]; omega), pm_len]
        congr 1
      rw [e1, e2]
      exact this
theorem mk_fm {r : List Int} {i : Nat} (h : i < 2 * r.length) : (mk r)[i + 1]? = (fm r)[i]? := by
  unfold mk
  rw [List.getElem?_cons_succ, List.getElem?_append_left (by rw [fm_len]; exact h)]
theorem dr_row {r : List Int} (h : Sg r) : Dr r.length (Pf r) (Mf r) where
  pl hm := (pf_get h hm).1
  ml hs := by
    have := List.mem_of_getElem? (mf_get hs)
    exact (mem_mk h).mp this
  mp hm := by
    have := pf_get h hm
    have e := mf_get this.1
    rw [this.2] at e
    exact (Option.some.inj e).symm
  pm hs := pf_of h (mf_get hs)
  zero := pf_of h rfl
  piece := by
    intro k hk
    have := (sg_mem h (k := k + 1)).mpr (by omega)
    obtain ⟨x, hx, e⟩ := List.mem_map.mp this
    obtain ⟨i, hi, ex⟩ := List.mem_iff_getElem.mp hx
    have g := fm_get (List.getElem?_eq_some_iff.mpr ⟨hi, ex⟩)
    refine ⟨i, ?_⟩
    have g1 : (mk r)[2 * i + 1]? = (pm x)[0]? := by rw [mk_fm (by omega)]; exact g.1
    have g2 : (mk r)[2 * i + 2]? = (pm x)[1]? := by rw [show 2 * i + 2 = (2 * i + 1) + 1 by omega, mk_fm (by omega)]; exact g.2
    unfold pm at g1 g2
    split at g1
    · rename_i hp
      rw [if_pos hp] at g2
      left
      exact ⟨pf_of h (by rw [g1]; simp; omega), pf_of h (by rw [g2]; simp; omega)⟩
    · rename_i hp
      rw [if_neg hp] at g2
      right
      exact ⟨pf_of h (by rw [g2]; simp; omega), pf_of h (by rw [g1]; simp; omega)⟩

/-! ### the number -/
noncomputable def dR (r : List Int) : Nat := r.length + 1 + scP r.length (Pf r) - rings r.length (Pf r) (Mf r)
theorem rev_seg {α : Type} (A S B : List α) (hS : 1 ≤ S.length) (i : Nat) : (A ++ S.reverse ++ B)[i]? = (A ++ S ++ B)[tau A.length (A.length + S.length - 1) i]? := by
  have hr : S.reverse.length = S.length := List.length_reverse
  rw [List.append_assoc, List.append_assoc]
  rcases tau_cases A.length (A.length + S.length - 1) i with ⟨h, e⟩ | ⟨h, e⟩
  · rw [e, List.getElem?_append_right (l₁ := A) (i := i) (by omega), List.getElem?_append_right (l₁ := A) (i := A.length + (A.length + S.length - 1) - i) (by omega),
      List.getElem?_append_left (l₁ := S.reverse) (by omega), List.getElem?_append_left (l₁ := S) (by omega), List.getElem?_reverse (by omega)]
    congr 1
    omega
  · rw [e]
    by_cases q : i < A.length
    · rw [List.getElem?_append_left q, List.getElem?_append_left q]
    · rw [List.getElem?_append_right (l₁ := A) (by omega), List.getElem?_append_right (l₁ := A) (by omega), List.getElem?_append_right (l₁ := S.reverse) (by omega), List.getElem?_append_right (l₁ := S) (by omega), hr]
theorem mk_rv {a s b : List Int} (h : Sg (a ++ s ++ b)) : mk (a ++ fl s ++ b) = (0 :: fm a) ++ (fm s).reverse ++ (fm b ++ [2 * (a ++ s ++ b).length + 1]) ∧
    mk (a ++ s ++ b) = (0 :: fm a) ++ fm s ++ (fm b ++ [2 * (a ++ s ++ b).length + 1]) := by
  have h0 : ∀ x ∈ s, x ≠ 0 := fun x hx => sg_ne0 h x (by simp [hx])
  constructor
  · unfold mk
    rw [fm_append, fm_append, fm_fl h0]
    simp [fl_len]
  · unfold mk
    rw [fm_append, fm_append]
    simp
theorem turn_fun {a s b : List Int} (h : Sg (a ++ s ++ b)) (hs : s ≠ []) :
    Pf (a ++ fl s ++ b) = TP (2 * a.length + 1) (2 * (a.length + s.length)) (Pf (a ++ s ++ b)) ∧ Mf (a ++ fl s ++ b) = TM (2 * a.length + 1) (2 * (a.length + s.length)) (Mf (a ++ s ++ b)) := by
  have hs1 : 1 ≤ s.length := by
    cases s with
    | nil => exact (hs rfl).elim
    | cons _ _ => simp
  obtain ⟨e1, e2⟩ := mk_rv h
  have hle : (a ++ fl s ++ b).length = (a ++ s ++ b).length := by simp [fl_len]
  have hlen : (a ++ s ++ b).length = a.length + s.length + b.length := by simp only [List.length_append]
  have key : ∀ i : Nat, (mk (a ++ fl s ++ b))[i]? = (mk (a ++ s ++ b))[tau (2 * a.length + 1) (2 * (a.length + s.length)) i]? := by
    intro i
    rw [e1, e2, rev_seg _ _ _ (by rw [fm_len]; omega)]
    congr 2
    · rw [List.length_cons, fm_len]
    · rw [List.length_cons, fm_len, fm_len]; omega
  have hM : Mf (a ++ fl s ++ b) = TM (2 * a.length + 1) (2 * (a.length + s.length)) (Mf (a ++ s ++ b)) := by
    funext i
    by_cases hi : i < 2 * (a ++ s ++ b).length + 2
    · have := key i
      have ht : tau (2 * a.length + 1) (2 * (a.length + s.length)) i < 2 * (a ++ s ++ b).length + 2 := by
        rcases tau_cases (2 * a.length + 1) (2 * (a.length + s.length)) i with ⟨_, e⟩ | ⟨_, e⟩ <;> omega
      rw [mf_get (by rw [hle]; exact hi), mf_get ht] at this
      exact Option.some.inj this
    · show (mk (a ++ fl s ++ b)).getD i i = (mk (a ++ s ++ b)).getD (tau (2 * a.length + 1) (2 * (a.length + s.length)) i) (tau (2 * a.length + 1) (2 * (a.length + s.length)) i)
      have : tau (2 * a.length + 1) (2 * (a.length + s.length)) i = i := by
        rcases tau_cases (2 * a.length + 1) (2 * (a.length + s.length)) i with ⟨_, e⟩ | ⟨_, e⟩ <;> omega
      rw [this, List.getD_eq_getElem?_getD, List.getD_eq_getElem?_getD, List.getElem?_eq_none (by rw [mk_len, hle]; omega), List.getElem?_eq_none (by rw [mk_len]; omega)]
  refine ⟨?_, hM⟩
  have h' := sg_rv h
  funext m
  show Pf (a ++ fl s ++ b) m = tau (2 * a.length + 1) (2 * (a.length + s.length)) (Pf (a ++ s ++ b) m)
  by_cases hm : m < 2 * (a ++ s ++ b).length + 2
  · refine pf_of h' ?_
    rw [key, tau_tau]
    exact (pf_get h hm).2
  · have n1 : m ∉ mk (a ++ s ++ b) := fun q => hm ((mem_mk h).mp q)
    have n2 : m ∉ mk (a ++ fl s ++ b) := fun q => by have := (mem_mk h').mp q; omega
    unfold Pf
    rw [List.idxOf_eq_length n1, List.idxOf_eq_length n2, mk_len, mk_len, hle]
    rcases tau_cases (2 * a.length + 1) (2 * (a.length + s.length)) (2 * (a ++ s ++ b).length + 2) with ⟨_, e⟩ | ⟨_, e⟩ <;> omega
theorem td_row {a s b : List Int} (h : Sg (a ++ s ++ b)) (hs : s ≠ []) : TD (a ++ s ++ b).length (2 * a.length + 1) (2 * (a.length + s.length)) (Pf (a ++ s ++ b)) (Mf (a ++ s ++ b)) := by
  have hs1 : 1 ≤ s.length := by
    cases s with
    | nil => exact (hs rfl).elim
    | cons _ _ => simp
  have hlen : (a ++ s ++ b).length = a.length + s.length + b.length := by simp only [List.length_append]
  exact ⟨dr_row h, by omega, by omega, by omega, by omega⟩
/-- one turn lowers the number by at most one -/
theorem dR_turn {a s b : List Int} (h : Sg (a ++ s ++ b)) : dR (a ++ s ++ b) ≤ dR (a ++ fl s ++ b) + 1 := by
  by_cases hs : s = []
  · rw [hs]
    exact Nat.le_succ _
  · have A := thmA (td_row h hs)
    obtain ⟨e1, e2⟩ := turn_fun h hs
    rw [← e1, ← e2] at A
    have hle : (a ++ fl s ++ b).length = (a ++ s ++ b).length := by simp [fl_len]
    have r1 := rings_le (dr_row h)
    have r2 := rings_le (dr_row (sg_rv h))
    unfold dR
    rw [hle] at r2 ⊢
    omega

/-! ### the sorted row -/
def srt (n : Nat) : List Int := (List.range n).map (fun (i : Nat) => (i : Int) + 1)
theorem srt_len (n : Nat) : (srt n).length = n := by simp [srt]
theorem srt_get {n i : Nat} (h : i < n) : (srt n)[i]? = some ((i : Int) + 1) := by
  simp [srt, List.getElem?_map, List.getElem?_range, h]
theorem sg_srt (n : Nat) : Sg (srt n) := by
  unfold Sg
  rw [srt_len]
  unfold srt
  rw [List.map_map]
  have : (Int.natAbs ∘ fun i : Nat => (i : Int) + 1) = (· + 1) := by
    funext i
    show ((i : Int) + 1).natAbs = i + 1
    omega
  rw [this]
theorem id_srt {r : List Int} (h : Sg r) : (∀ m, m < 2 * r.length + 2 → Pf r m = m) ↔ r = srt r.length := by
  constructor
  · intro hp
    apply List.ext_getElem?
    intro i
    by_cases hi : i < r.length
    · rw [srt_get hi]
      obtain ⟨x, hx⟩ : ∃ x, r[i]? = some x := ⟨r[i], List.getElem?_eq_getElem hi⟩
      rw [hx]
      have g := fm_get hx
      have e := (pf_get h (m := 2 * i + 1) (by omega)).2
      rw [hp _ (by omega), mk_fm (by omega), g.1] at e
      unfold pm at e
      split at e
      · simp at e
        congr 1
        omega
      · simp at e
        omega
    · rw [List.getElem?_eq_none (by omega), List.getElem?_eq_none (by rw [srt_len]; omega)]
  · intro e
    have hm : ∀ m, m < 2 * r.length + 2 → (mk r)[m]? = some m := by
      intro m hm
      by_cases h0 : m = 0
      · rw [h0]; rfl
      · obtain ⟨k, rfl⟩ : ∃ k, m = k + 1 := ⟨m - 1, by omega⟩
        by_cases hl : k < 2 * r.length
        · rw [mk_fm hl]
          have hg : r[k / 2]? = some (((k / 2 : Nat) : Int) + 1) := by
            have := srt_get (n := r.length) (i := k / 2) (by omega)
            rw [← e] at this
            exact this
          have g := fm_get hg
          have hpos : (0 : Int) < ((k / 2 : Nat) : Int) + 1 := by omega
          unfold pm at g
          rw [if_pos hpos] at g
          have hab : (((k / 2 : Nat) : Int) + 1).natAbs = k / 2 + 1 := by omega
          rw [hab] at g
          rcases Nat.mod_two_eq_zero_or_one k with q | q
          · rw [show 2 * (k / 2) = k by omega] at g
            rw [g.1]
            simp
            omega
          · rw [show 2 * (k / 2) + 1 = k by omega] at g
            rw [g.2]
            simp
            omega
        · have : k = 2 * r.length := by omega
          unfold mk
          rw [List.getElem?_cons_succ, List.getElem?_append_right (by rw [fm_len]; omega), fm_len, this]
          simp
    intro m hm'
    exact pf_of h (hm m hm')
theorem dR_srt (n : Nat) : dR (srt n) = 0 := by
  have h := sg_srt n
  have W := dr_row h
  have hp := (id_srt h).mpr (by rw [srt_len])
  rw [srt_len] at W hp
  have hmv : ∀ s, s < 2 * n + 2 → Mf (srt n) s = s := fun s hs => by
    have := W.pm hs
    rw [hp _ (W.ml hs)] at this
    exact this
  have hF : FF n (Pf (srt n)) = [] := by
    apply List.eq_nil_iff_forall_not_mem.mpr
    intro X hX
    obtain ⟨hr, hb, l, hl, hc⟩ := mem_FF.mp hX
    have h2 := hc.2
    have h1 := hc.1
    have := hr.1
    rw [hp _ (by omega), hp _ (by omega), hp _ (by omega), hp _ (by omega)] at h2
    unfold Sp In at h2
    omega
  have hs : scP n (Pf (srt n)) = 0 := by
    unfold scP
    rw [hF]
    unfold sc
    have : ¬ Fort (RX n (Pf (srt n))) (pt (Pf (srt n))) [] := fun q => by
      have := q.1
      simp [hur] at this
    rw [if_neg this]
    rfl
  have hr : rings n (Pf (srt n)) (Mf (srt n)) = n + 1 := by
    apply Nat.le_antisymm (rings_le W)
    have E : Eqv (fun x y : Nat => x / 2 = y / 2) := ⟨fun _ => rfl, fun h => h.symm, fun h k => h.trans k⟩
    have low : n + 1 ≤ cnt (n + 1) (fun _ => True) := by
      have := nd_le (A := List.range (n + 1)) (B := lst (n + 1) fun _ => True) List.nodup_range fun x hx => mem_rf.mpr ⟨List.mem_range.mp hx, trivial⟩
      rw [List.length_range] at this
      exact this
    refine Nat.le_trans low (cnt_le_map (fun i => 2 * i) (fun i hi _ => ⟨by show 2 * i < 2 * n + 2; omega, fun t ht q => ?_⟩) fun x y _ _ _ _ e => by have e' : 2 * x = 2 * y := e; omega)
    have := q.sub E fun x y e => by
      obtain ⟨hx, e | e⟩ := e
      · unfold Lt at e
        rw [hmv x hx] at e
        have := mate_lt (N := n + 1) (s := x) (by omega)
        rw [hp _ (by omega)] at e
        rw [e, mate_half]
      · rw [e, mate_half]
    omega
  unfold dR
  rw [srt_len, hs, hr]
  omega
/-- a row that is not sorted has a turn that lowers the number -/
theorem dR_better {r : List Int} (h : Sg r) (hn : r ≠ srt r.length) : ∃ a s b, r = a ++ s ++ b ∧ s ≠ [] ∧ dR (a ++ fl s ++ b) + 1 ≤ dR r := by
  obtain ⟨lo, hi, T, q⟩ := thmB (dr_row h) fun e => hn ((id_srt h).mp e)
  have t1 := T.lo1
  have t2 := T.hi0
  have t3 := T.le
  have t4 := T.top
  refine ⟨r.take (lo / 2), (r.drop (lo / 2)).take (hi / 2 - lo / 2), r.drop (hi / 2), ?_, ?_, ?_⟩
  · have : r.drop (hi / 2) = (r.drop (lo / 2)).drop (hi / 2 - lo / 2) := by
      rw [List.drop_drop]
      congr 1
      omega
    rw [this, List.append_assoc, List.take_append_drop, List.take_append_drop]
  · intro e
    have := congrArg List.length e
    simp at this
    omega
  · generalize ha : r.take (lo / 2) = a
    generalize hs : (r.drop (lo / 2)).take (hi / 2 - lo / 2) = s
    generalize hb : r.drop (hi / 2) = b
    have er : r = a ++ s ++ b := by
      rw [← ha, ← hs, ← hb]
      have : r.drop (hi / 2) = (r.drop (lo / 2)).drop (hi / 2 - lo / 2) := by
        rw [List.drop_drop]
        congr 1
        omega
      rw [this, List.append_assoc, List.take_append_drop, List.take_append_drop]
    have la : a.length = lo / 2 := by rw [← ha, List.length_take]; omega
    have ls : s.length = hi / 2 - lo / 2 := by rw [← hs, List.length_take, List.length_drop]; omega
    have sne : s ≠ [] := fun e => by rw [e] at ls; simp at ls; omega
    have hsg : Sg (a ++ s ++ b) := er ▸ h
    obtain ⟨e1, e2⟩ := turn_fun hsg sne
    rw [show 2 * a.length + 1 = lo by omega, show 2 * (a.length + s.length) = hi by omega, ← er] at e1 e2
    have hle : (a ++ fl s ++ b).length = r.length := by rw [er]; simp [fl_len]
    have r1 := rings_le (dr_row h)
    have r2 := rings_le (dr_row (sg_rv hsg))
    unfold dR
    rw [hle] at r2 ⊢
    rw [← e1, ← e2] at q
    omega
end TR

/-! from G_Closed -/
namespace TR
open Classical

/-! ### relative rows -/
def plc (s : List Int) (x : Int) : Int := if x ∈ s then ((s.idxOf x : Nat) : Int) + 1 else -(((s.idxOf (-x) : Nat) : Int) + 1)
def rel (f s : List Int) : List Int := f.map (plc s)
theorem nd_of_map {α β : Type} {l : List α} (f : α → β) (h : (l.map f).Nodup) : l.Nodup := by
  unfold List.Nodup at h ⊢
  rw [List.pairwise_map] at h
  exact h.imp fun hn e => hn (congrArg f e)
theorem sg_nd' {r : List Int} (h : Sg r) : r.Nodup := nd_of_map Int.natAbs (sg_nd h)
theorem sg_neg {r : List Int} (h : Sg r) {x : Int} (hx : x ∈ r) : -x ∉ r := fun q => by
  have := sg_one h hx q (by simp)
  have := sg_ne0 h x hx
  omega
theorem plc_get {s : List Int} (h : Sg s) {p : Nat} {x : Int} (e : s[p]? = some x) : plc s x = (p : Int) + 1 ∧ plc s (-x) = -((p : Int) + 1) := by
  obtain ⟨hp, e'⟩ := List.getElem?_eq_some_iff.mp e
  have hx : x ∈ s := e' ▸ List.getElem_mem hp
  have hi : s.idxOf x = p := by
    rw [← e']
    exact (sg_nd' h).idxOf_getElem p hp
  constructor
  · unfold plc
    rw [if_pos hx, hi]
  · unfold plc
    rw [if_neg (sg_neg h hx), Int.neg_neg, hi]
theorem sg_has {s : List Int} (h : Sg s) {x : Int} (h1 : 1 ≤ x.natAbs) (h2 : x.natAbs ≤ s.length) : ∃ p, p < s.length ∧ (s[p]? = some x ∨ s[p]? = some (-x)) := by
  obtain ⟨y, hy, e⟩ := List.mem_map.mp ((sg_mem h).mpr ⟨h1, h2⟩)
  obtain ⟨p, hp, ep⟩ := List.mem_iff_getElem.mp hy
  refine ⟨p, hp, ?_⟩
  have g : s[p]? = some y := List.getElem?_eq_some_iff.mpr ⟨hp, ep⟩
  have : y = x ∨ y = -x := by omega
  rcases this with q | q
  · exact .inl (q ▸ g)
  · exact .inr (q ▸ g)
theorem plc_neg {s : List Int} (h : Sg s) {x : Int} (h1 : 1 ≤ x.natAbs) (h2 : x.natAbs ≤ s.length) : plc s (-x) = - plc s x := by
  obtain ⟨p, hp, q | q⟩ := sg_has h h1 h2
  · rw [(plc_get h q).1, (plc_get h q).2]
  · have := plc_get h q
    rw [Int.neg_neg] at this
    rw [this.1, this.2, Int.neg_neg]
theorem rel_append (a b s : List Int) : rel (a ++ b) s = rel a s ++ rel b s := List.map_append
theorem rel_len (a s : List Int) : (rel a s).length = a.length := List.length_map ..
theorem rel_fl {t s : List Int} (h : Sg s) (ht : ∀ x ∈ t, 1 ≤ x.natAbs ∧ x.natAbs ≤ s.length) : rel (fl t) s = fl (rel t s) := by
  unfold rel fl
  rw [List.map_reverse, List.map_map, List.map_map]
  congr 1
  apply List.map_congr_left
  intro x hx
  exact plc_neg h (ht x hx).1 (ht x hx).2
theorem rel_self {s : List Int} (h : Sg s) : rel s s = srt s.length := by
  apply List.ext_getElem?
  intro i
  by_cases hi : i < s.length
  · rw [srt_get hi]
    unfold rel
    rw [List.getElem?_map, List.getElem?_eq_getElem hi]
    show some (plc s s[i]) = _
    rw [(plc_get h (List.getElem?_eq_getElem hi)).1]
  · rw [List.getElem?_eq_none (by rw [rel_len]; omega), List.getElem?_eq_none (by rw [srt_len]; omega)]
theorem sg_rel {f s : List Int} (hf : Sg f) (hs : Sg s) (hl : f.length = s.length) : Sg (rel f s) := by
  have e1 : (rel f s).map Int.natAbs = (f.map Int.natAbs).map (fun k => (s.map Int.natAbs).idxOf k + 1) := by
    unfold rel
    rw [List.map_map, List.map_map]
    apply List.map_congr_left
    intro x hx
    have hp := sg_pos hf hx
    obtain ⟨p, hp', q⟩ := sg_has hs hp.1 (by omega)
    have hi : (s.map Int.natAbs).idxOf x.natAbs = p := by
      have hpl : p < (s.map Int.natAbs).length := by rw [List.length_map]; exact hp'
      have : (s.map Int.natAbs)[p] = x.natAbs := by
        rw [List.getElem_map]
        rcases q with q | q
        · obtain ⟨_, e⟩ := List.getElem?_eq_some_iff.mp q
          rw [e]
        · obtain ⟨_, e⟩ := List.getElem?_eq_some_iff.mp q
          rw [e]
          simp
      rw [← this]
      exact (sg_nd hs).idxOf_getElem p hpl
    show (plc s x).natAbs = (s.map Int.natAbs).idxOf x.natAbs + 1
    rw [hi]
    rcases q with q | q
    · rw [(plc_get hs q).1]
      omega
    · have := (plc_get hs q).2
      rw [Int.neg_neg] at this
      rw [this]
      omega
  have e2 : (s.map Int.natAbs).map (fun k => (s.map Int.natAbs).idxOf k + 1) = (List.range s.length).map (· + 1) := by
    apply List.ext_getElem?
    intro i
    by_cases hi : i < s.length
    · have hil : i < (s.map Int.natAbs).length := by rw [List.length_map]; exact hi
      rw [List.getElem?_map, List.getElem?_eq_getElem hil, List.getElem?_map, List.getElem?_eq_getElem (by rw [List.length_range]; exact hi), List.getElem_range]
      show some ((s.map Int.natAbs).idxOf (s.map Int.natAbs)[i] + 1) = some (i + 1)
      rw [(sg_nd hs).idxOf_getElem i hil]
    · rw [List.getElem?_eq_none (by rw [List.length_map, List.length_map]; omega), List.getElem?_eq_none (by rw [List.length_map, List.length_range]; omega)]
  have hperm : (f.map Int.natAbs).Perm (s.map Int.natAbs) := by
    have h1 : (f.map Int.natAbs).Perm ((List.range f.length).map (· + 1)) := hf
    rw [hl] at h1
    exact h1.trans (List.Perm.symm hs)
  unfold Sg
  rw [e1, rel_len, hl, ← e2]
  exact hperm.map _
theorem rel_inj {f s : List Int} (hf : Sg f) (hs : Sg s) (hl : f.length = s.length) (h : rel f s = srt s.length) : f = s := by
  apply List.ext_getElem?
  intro i
  by_cases hi : i < f.length
  · have hx : f[i]? = some f[i] := List.getElem?_eq_getElem hi
    have e : (rel f s)[i]? = some ((i : Int) + 1) := by rw [h, srt_get (by omega)]
    unfold rel at e
    rw [List.getElem?_map, hx] at e
    have e' : plc s f[i] = (i : Int) + 1 := Option.some.inj e
    have hp := sg_pos hf (List.getElem_mem hi)
    obtain ⟨p, hp', q⟩ := sg_has hs hp.1 (by omega)
    rw [hx]
    rcases q with q | q
    · have := (plc_get hs q).1
      have : p = i := by omega
      rw [this] at q
      rw [q]
    · have := (plc_get hs q).2
      rw [Int.neg_neg] at this
      omega
  · rw [List.getElem?_eq_none (by omega), List.getElem?_eq_none (by omega)]

/-! ### chains of turns -/
def Tn (u v : List Int) : Prop := ∃ a t b, u = a ++ t ++ b ∧ v = a ++ fl t ++ b
inductive Ch : Nat → List Int → List Int → Prop
  | nil (u : List Int) : Ch 0 u u
  | cons {k : Nat} {u v w : List Int} : Tn u v → Ch k v w → Ch (k + 1) u w
theorem Tn.sym {u v : List Int} (h : Tn u v) : Tn v u := by
  obtain ⟨a, t, b, rfl, rfl⟩ := h
  exact ⟨a, fl t, b, rfl, by rw [fl_fl]⟩
theorem Tn.sg {u v : List Int} (h : Tn u v) (hu : Sg u) : Sg v ∧ v.length = u.length := by
  obtain ⟨a, t, b, rfl, rfl⟩ := h
  exact ⟨sg_rv hu, by simp [fl_len]⟩
theorem Tn.refl (u : List Int) : Tn u u := ⟨[], [], u, rfl, rfl⟩
theorem Ch.snoc {k : Nat} {u v w : List Int} (h : Ch k u v) (t : Tn v w) : Ch (k + 1) u w := by
  induction h with
  | nil u => exact .cons t (.nil _)
  | cons a _ ih => exact .cons a (ih t)
theorem ch_low {k : Nat} {u s : List Int} (h : Ch k u s) : Sg u → Sg s ∧ s.length = u.length ∧ dR (rel u s) ≤ k := by
  induction h with
  | nil u =>
    intro hu
    refine ⟨hu, rfl, ?_⟩
    rw [rel_self hu, dR_srt]
    exact Nat.le_refl _
  | @cons k u v w t _ ih =>
    intro hu
    obtain ⟨hv, lv⟩ := t.sg hu
    obtain ⟨hw, lw, hd⟩ := ih hv
    refine ⟨hw, by omega, ?_⟩
    obtain ⟨a, t, b, rfl, rfl⟩ := t
    have hlw : (a ++ t ++ b).length = w.length := by omega
    have hr : Sg (rel (a ++ t ++ b) w) := sg_rel hu hw hlw
    rw [rel_append, rel_append] at hr ⊢
    have := dR_turn hr
    rw [rel_append, rel_append, rel_fl hw fun x hx => by
      have := sg_pos hu (x := x) (by simp [hx])
      omega] at hd
    omega

/-! ### turns by places -/
def tnr (r : List Int) (i j : Nat) : List Int := r.take i ++ fl ((r.drop i).take (j + 1 - i)) ++ r.drop (j + 1)
theorem cut3 {r : List Int} {i j : Nat} (h : i ≤ j + 1) : r = r.take i ++ (r.drop i).take (j + 1 - i) ++ r.drop (j + 1) := by
  have : r.drop (j + 1) = (r.drop i).drop (j + 1 - i) := by
    rw [List.drop_drop]
    congr 1
    omega
  rw [this, List.append_assoc, List.take_append_drop, List.take_append_drop]
theorem tn_tnr {r : List Int} {i j : Nat} (h : i ≤ j + 1) : Tn r (tnr r i j) := ⟨_, _, _, cut3 h, rfl⟩
theorem tnr_of (a t b : List Int) (h : t ≠ []) : a ++ fl t ++ b = tnr (a ++ t ++ b) a.length (a.length + t.length - 1) := by
  have : 1 ≤ t.length := by
    cases t with
    | nil => exact (h rfl).elim
    | cons _ _ => simp
  unfold tnr
  rw [List.append_assoc a t b, List.take_left, List.drop_left, show a.length + t.length - 1 + 1 - a.length = t.length by omega, List.take_left,
    show a.length + t.length - 1 + 1 = a.length + t.length by omega, ← List.drop_drop, List.drop_left, List.drop_left]
theorem tnr_len {r : List Int} {i j : Nat} (h : i ≤ j + 1) : (tnr r i j).length = r.length := by
  have e := congrArg List.length (cut3 (r := r) h)
  unfold tnr
  simp only [List.length_append, fl_len] at e ⊢
  omega
theorem rel_tnr {f s : List Int} {i j : Nat} (hf : Sg f) (hs : Sg s) (hl : f.length = s.length) : rel (tnr f i j) s = tnr (rel f s) i j := by
  unfold tnr
  rw [rel_append, rel_append, rel_fl hs fun x hx => by
    have := sg_pos hf (List.mem_of_mem_drop (List.mem_of_mem_take hx))
    omega]
  unfold rel
  rw [List.map_take, List.map_take, List.map_drop, List.map_drop]
theorem tnr_cons (x : Int) (u : List Int) (i j : Nat) : tnr (x :: u) (i + 1) (j + 1) = x :: tnr u i j := by
  unfold tnr
  rw [List.take_succ_cons, List.drop_succ_cons, List.drop_succ_cons, show j + 1 + 1 - (i + 1) = j + 1 - i by omega]
  rfl
theorem sg_tnr {r : List Int} {i j : Nat} (h : Sg r) (hij : i ≤ j + 1) : Sg (tnr r i j) := ((tn_tnr hij).sg h).1
theorem dR_tnr {r : List Int} {i j : Nat} (h : Sg r) (hij : i ≤ j + 1) : dR r ≤ dR (tnr r i j) + 1 := by
  have e := cut3 (r := r) hij
  have := dR_turn (a := r.take i) (s := (r.drop i).take (j + 1 - i)) (b := r.drop (j + 1)) (e ▸ h)
  rw [← e] at this
  exact this
theorem dR_best {r : List Int} (h : Sg r) (hn : r ≠ srt r.length) : ∃ i j, i ≤ j ∧ j < r.length ∧ dR (tnr r i j) + 1 ≤ dR r := by
  obtain ⟨a, s, b, e, hs, q⟩ := dR_better h hn
  have : 1 ≤ s.length := by
    cases s with
    | nil => exact (hs rfl).elim
    | cons _ _ => simp
  have hl := congrArg List.length e
  simp only [List.length_append] at hl
  refine ⟨a.length, a.length + s.length - 1, by omega, by omega, ?_⟩
  rw [tnr_of a s b hs, ← e] at q
  exact q
def play (r : List Int) (ms : List (Nat × Nat)) : List Int := ms.foldl (fun u m => tnr u m.1 m.2) r
theorem play_rel {s : List Int} (hs : Sg s) : ∀ (ms : List (Nat × Nat)) (f : List Int), Sg f → f.length = s.length → (∀ m ∈ ms, m.1 ≤ m.2) → rel (play f ms) s = play (rel f s) ms ∧ Sg (play f ms) ∧ (play f ms).length = s.length := by
  intro ms
  induction ms with
  | nil => intro f hf hl _; exact ⟨rfl, hf, hl⟩
  | cons m ms ih =>
    intro f hf hl hm
    have h0 := hm m (by simp)
    have := ih (tnr f m.1 m.2) (sg_tnr hf (by omega)) (by rw [tnr_len (by omega)]; exact hl) fun q hq => hm q (by simp [hq])
    rw [rel_tnr hf hs hl] at this
    exact this
theorem play_end {f s : List Int} (hf : Sg f) (hs : Sg s) (hl : f.length = s.length) {ms : List (Nat × Nat)} (hm : ∀ m ∈ ms, m.1 ≤ m.2) (h : play (rel f s) ms = srt s.length) : play f ms = s := by
  obtain ⟨a, b, c⟩ := play_rel hs ms f hf hl hm
  exact rel_inj b hs c (a.trans h)
theorem play_cons (x : Int) : ∀ (ms : List (Nat × Nat)) (u : List Int), play (x :: u) (ms.map fun m => (m.1 + 1, m.2 + 1)) = x :: play u ms := by
  intro ms
  induction ms with
  | nil => intro u; rfl
  | cons m ms ih =>
    intro u
    show play (tnr (x :: u) (m.1 + 1) (m.2 + 1)) (ms.map fun m => (m.1 + 1, m.2 + 1)) = _
    rw [tnr_cons, ih]
    rfl

/-! ### closed rows -/
def opn (r : List Int) : List Int :=
  let t := if (r.length : Int) ∈ r then r else fl r
  t.drop (t.idxOf (r.length : Int)) ++ t.take (t.idxOf (r.length : Int))
theorem opn_pos {a b : List Int} {x : Int} (h : Sg (a ++ x :: b)) (hx : x = ((a ++ x :: b).length : Int)) : opn (a ++ x :: b) = x :: (b ++ a) := by
  have hm : x ∈ a ++ x :: b := by simp
  have hna : x ∉ a := by
    have := sg_nd' h
    rw [List.nodup_append] at this
    exact fun q => this.2.2 x q x (by simp) rfl
  have hi : (a ++ x :: b).idxOf x = a.length := by
    rw [List.idxOf_append, if_neg hna, List.idxOf_cons_self, Nat.zero_add]
  unfold opn
  rw [← hx, if_pos hm]
  simp only [hi]
  rw [List.drop_left, List.take_left]
  rfl
theorem opn_neg {a b : List Int} {x : Int} (h : Sg (a ++ x :: b)) (hx : -x = ((a ++ x :: b).length : Int)) : opn (a ++ x :: b) = (-x) :: (fl a ++ fl b) := by
  have hm : x ∈ a ++ x :: b := by simp
  have hn := sg_neg h hm
  have e : fl (a ++ x :: b) = fl b ++ (-x) :: fl a := by
    rw [fl_append]
    have : fl (x :: b) = fl b ++ [-x] := by simp [fl]
    rw [this, List.append_assoc]
    rfl
  have hnb : -x ∉ fl b := by
    rw [mem_fl, Int.neg_neg]
    have := sg_nd' h
    rw [List.nodup_append, List.nodup_cons] at this
    exact this.2.1.1
  have hi : (fl b ++ (-x) :: fl a).idxOf (-x) = (fl b).length := by
    rw [List.idxOf_append, if_neg hnb, List.idxOf_cons_self, Nat.zero_add]
  unfold opn
  rw [← hx, if_neg hn, e]
  simp only [hi]
  rw [List.drop_left, List.take_left]
  rfl
theorem top_split {r : List Int} (h : Sg r) (h1 : 1 ≤ r.length) : ∃ a x b, r = a ++ x :: b ∧ (x = (r.length : Int) ∨ -x = (r.length : Int)) := by
  obtain ⟨y, hy, e⟩ := List.mem_map.mp ((sg_mem h (k := r.length)).mpr ⟨h1, Nat.le_refl _⟩)
  obtain ⟨a, b, q⟩ := List.append_of_mem hy
  exact ⟨a, y, b, q, by omega⟩
theorem sg_swap {a b : List Int} (h : Sg (a ++ b)) : Sg (b ++ a) := sg_of_perm h (by
  rw [List.map_append, List.map_append]
  exact List.perm_append_comm)
theorem sg_fl {r : List Int} (h : Sg r) : Sg (fl r) := sg_of_perm h (fl_abs r)
theorem opn_rot {a b : List Int} (h : Sg (a ++ b)) : opn (b ++ a) = opn (a ++ b) := by
  by_cases h1 : 1 ≤ (a ++ b).length
  · have hs := sg_swap h
    have hl : (b ++ a).length = (a ++ b).length := by simp [Nat.add_comm]
    obtain ⟨p, x, q, e, hx⟩ := top_split h h1
    have : (∃ a1, a = p ++ x :: a1 ∧ q = a1 ++ b) ∨ (∃ b1, p = a ++ b1 ∧ b = b1 ++ x :: q) := by
      rcases List.append_eq_append_iff.mp e with ⟨c, e1, e2⟩ | ⟨c, e1, e2⟩
      · exact .inr ⟨c, e1, e2⟩
      · cases c with
        | nil =>
          simp at e1 e2
          exact .inr ⟨[], by simp [e1], by simp [← e2]⟩
        | cons y c =>
          simp at e2
          obtain ⟨rfl, rfl⟩ := e2
          exact .inl ⟨c, e1, rfl⟩
    rcases this with ⟨a1, rfl, rfl⟩ | ⟨b1, rfl, rfl⟩
    · have e1 : (p ++ x :: a1) ++ b = p ++ x :: (a1 ++ b) := by simp
      have e2 : b ++ (p ++ x :: a1) = (b ++ p) ++ x :: a1 := by simp
      rw [e2] at hs hl ⊢
      rw [e1] at h hl hx ⊢
      rcases hx with hx | hx
      · rw [opn_pos h hx, opn_pos hs (by rw [hl]; exact hx)]; simp
      · rw [opn_neg h hx, opn_neg hs (by rw [hl]; exact hx), fl_append, fl_append]; simp
    · have e1 : a ++ (b1 ++ x :: q) = (a ++ b1) ++ x :: q := by simp
      have e2 : (b1 ++ x :: q) ++ a = b1 ++ x :: (q ++ a) := by simp
      rw [e2] at hs hl ⊢
      rw [e1] at h hl hx ⊢
      rcases hx with hx | hx
      · rw [opn_pos h hx, opn_pos hs (by rw [hl]; exact hx)]; simp
      · rw [opn_neg h hx, opn_neg hs (by rw [hl]; exact hx), fl_append, fl_append]; simp
  · have : a ++ b = [] := by
      cases hab : a ++ b with
      | nil => rfl
      | cons _ _ => rw [hab] at h1; simp at h1
    obtain ⟨rfl, rfl⟩ := List.append_eq_nil_iff.mp this
    rfl
theorem fl_mid (a : List Int) (x : Int) (b : List Int) : fl (a ++ x :: b) = fl b ++ (-x) :: fl a := by
  rw [fl_append]
  have : fl (x :: b) = fl b ++ [-x] := by simp [fl]
  rw [this, List.append_assoc]
  rfl
theorem opn_fl {r : List Int} (h : Sg r) : opn (fl r) = opn r := by
  by_cases h1 : 1 ≤ r.length
  · obtain ⟨a, x, b, rfl, hx⟩ := top_split h h1
    have hf := sg_fl h
    have hl := fl_len (a ++ x :: b)
    rw [fl_mid] at hf hl ⊢
    rcases hx with hx | hx
    · rw [opn_pos h hx, opn_neg hf (by rw [hl, Int.neg_neg]; exact hx), fl_fl, fl_fl, Int.neg_neg]
    · rw [opn_neg h hx, opn_pos hf (by rw [hl]; exact hx)]
  · have : r = [] := by
      cases r with
      | nil => rfl
      | cons _ _ => simp at h1
    rw [this]
    rfl
/-- a reading -/
def rdg (r : List Int) (at' : Nat) (back : Bool) : List Int :=
  let t := if back then fl r else r
  t.drop at' ++ t.take at'
theorem rdg_ok {r : List Int} (h : Sg r) (k : Nat) (b : Bool) : Sg (rdg r k b) ∧ (rdg r k b).length = r.length ∧ opn (rdg r k b) = opn r := by
  have main : ∀ t : List Int, Sg t → Sg (t.drop k ++ t.take k) ∧ (t.drop k ++ t.take k).length = t.length ∧ opn (t.drop k ++ t.take k) = opn t := by
    intro t ht
    have e := List.take_append_drop k t
    refine ⟨sg_swap (by rw [e]; exact ht), ?_, ?_⟩
    · rw [List.length_append, Nat.add_comm, ← List.length_append, e]
    · rw [opn_rot (by rw [e]; exact ht), e]
  unfold rdg
  cases b with
  | false => exact main r h
  | true =>
    have := main (fl r) (sg_fl h)
    rw [fl_len, opn_fl h] at this
    exact this
/-- a turn of a closed row is at most one turn of what follows the greatest piece -/
theorem opn_turn {u v : List Int} (h : Sg u) (h1 : 1 ≤ u.length) (t : Tn u v) : ∃ a b, opn u = (u.length : Int) :: a ∧ opn v = (u.length : Int) :: b ∧ Tn a b := by
  obtain ⟨hv, lv⟩ := t.sg h
  obtain ⟨p, s, q, rfl, rfl⟩ := t
  obtain ⟨a, x, b, e, hx⟩ := top_split h h1
  -- where the greatest piece stands
  have : (∃ p1, p = a ++ x :: p1 ∧ b = p1 ++ (s ++ q)) ∨ (∃ s1 s2, s = s1 ++ x :: s2 ∧ a = p ++ s1 ∧ b = s2 ++ q) ∨ (∃ q1, a = p ++ s ++ q1 ∧ q = q1 ++ x :: b) := by
    have split : ∀ l m : List Int, l ++ m = a ++ x :: b → (∃ l1, l = a ++ x :: l1 ∧ b = l1 ++ m) ∨ (∃ m1, a = l ++ m1 ∧ m = m1 ++ x :: b) := by
      intro l m e
      rcases List.append_eq_append_iff.mp e with ⟨c, e1, e2⟩ | ⟨c, e1, e2⟩
      · exact .inr ⟨c, e1, e2⟩
      · cases c with
        | nil =>
          simp at e1 e2
          exact .inr ⟨[], by simp [e1], by simp [← e2]⟩
        | cons y c =>
          simp at e2
          obtain ⟨rfl, rfl⟩ := e2
          exact .inl ⟨c, e1, rfl⟩
    rcases split (p ++ s) q e with ⟨l1, e1, e2⟩ | ⟨m1, e1, e2⟩
    · rcases List.append_eq_append_iff.mp e1 with ⟨c, f1, f2⟩ | ⟨c, f1, f2⟩
      · exact .inr (.inl ⟨c, l1, f2, f1, e2⟩)
      · cases c with
        | nil =>
          simp at f1 f2
          exact .inr (.inl ⟨[], l1, by simp [← f2], by simp [f1], e2⟩)
        | cons y c =>
          simp at f2
          obtain ⟨rfl, rfl⟩ := f2
          exact .inl ⟨c, f1, by rw [e2]; simp⟩
    · exact .inr (.inr ⟨m1, e1, e2⟩)
  rcases this with ⟨p1, rfl, rfl⟩ | ⟨s1, s2, rfl, rfl, rfl⟩ | ⟨q1, rfl, rfl⟩
  · have e1 : (a ++ x :: p1) ++ s ++ q = a ++ x :: (p1 ++ s ++ q) := by simp
    have e2 : (a ++ x :: p1) ++ fl s ++ q = a ++ x :: (p1 ++ fl s ++ q) := by simp
    rw [e2] at hv lv ⊢
    rw [e1] at h lv hx ⊢
    rcases hx with hx | hx
    · exact ⟨p1 ++ s ++ q ++ a, p1 ++ fl s ++ q ++ a, by rw [opn_pos h hx, ← hx], by rw [opn_pos hv (by rw [lv]; exact hx), ← hx], p1, s, q ++ a, by simp, by simp⟩
    · exact ⟨fl a ++ fl (p1 ++ s ++ q), fl a ++ fl (p1 ++ fl s ++ q), by rw [opn_neg h hx, ← hx], by rw [opn_neg hv (by rw [lv]; exact hx), ← hx], fl a ++ fl q, fl s, fl p1, by simp [fl_append], by simp [fl_append]⟩
  · have e1 : p ++ (s1 ++ x :: s2) ++ q = (p ++ s1) ++ x :: (s2 ++ q) := by simp
    have e2 : p ++ fl (s1 ++ x :: s2) ++ q = (p ++ fl s2) ++ (-x) :: (fl s1 ++ q) := by rw [fl_mid]; simp
    rw [e2] at hv lv ⊢
    rw [e1] at h lv hx ⊢
    rcases hx with hx | hx
    · exact ⟨s2 ++ q ++ (p ++ s1), fl (p ++ fl s2) ++ fl (fl s1 ++ q), by rw [opn_pos h hx, ← hx], by rw [opn_neg hv (by rw [lv, Int.neg_neg]; exact hx), Int.neg_neg, ← hx], s2, q ++ p, s1, by simp, by simp [fl_append, fl_fl]⟩
    · exact ⟨fl (p ++ s1) ++ fl (s2 ++ q), fl s1 ++ q ++ (p ++ fl s2), by rw [opn_neg h hx, ← hx], by rw [opn_pos hv (by rw [lv]; exact hx), ← hx], fl s1, fl (q ++ p), fl s2, by simp [fl_append], by simp [fl_append, fl_fl]⟩
  · have e1 : p ++ s ++ (q1 ++ x :: b) = (p ++ s ++ q1) ++ x :: b := by simp
    have e2 : p ++ fl s ++ (q1 ++ x :: b) = (p ++ fl s ++ q1) ++ x :: b := by simp
    rw [e2] at hv lv ⊢
    rw [e1] at h lv hx ⊢
    rcases hx with hx | hx
    · exact ⟨b ++ (p ++ s ++ q1), b ++ (p ++ fl s ++ q1), by rw [opn_pos h hx, ← hx], by rw [opn_pos hv (by rw [lv]; exact hx), ← hx], b ++ p, s, q1, by simp, by simp⟩
    · exact ⟨fl (p ++ s ++ q1) ++ fl b, fl (p ++ fl s ++ q1) ++ fl b, by rw [opn_neg h hx, ← hx], by rw [opn_neg hv (by rw [lv]; exact hx), ← hx], fl q1, fl s, fl p ++ fl b, by simp [fl_append], by simp [fl_append, fl_fl]⟩
theorem sg_tail {x : Int} {u : List Int} (h : Sg (x :: u)) (hx : x = ((u.length + 1 : Nat) : Int)) : Sg u := by
  unfold Sg at h ⊢
  rw [List.length_cons, List.range_succ, List.map_append, List.map_cons] at h
  have e : x.natAbs = u.length + 1 := by omega
  rw [e] at h
  have h2 : ((List.range u.length).map (· + 1) ++ [u.length].map (· + 1)).Perm ((u.length + 1) :: (List.range u.length).map (· + 1)) := by
    simpa using List.perm_append_comm (l₁ := (List.range u.length).map (· + 1)) (l₂ := [u.length + 1])
  exact List.Perm.cons_inv (h.trans h2)
theorem opn_head {r : List Int} (h : Sg r) (h1 : 1 ≤ r.length) : ∃ u, opn r = (r.length : Int) :: u ∧ u.length + 1 = r.length ∧ Sg u := by
  obtain ⟨a, x, b, rfl, hx⟩ := top_split h h1
  have fin : ∀ u : List Int, u.length + 1 = (a ++ x :: b).length → ((((a ++ x :: b).length : Int) :: u).map Int.natAbs).Perm ((a ++ x :: b).map Int.natAbs) → Sg u := by
    intro u hu hp
    have := sg_of_perm h hp
    exact sg_tail this (by rw [hu])
  rcases hx with hx | hx
  · rw [opn_pos h hx]
    have hl : (b ++ a).length + 1 = (a ++ x :: b).length := by simp; omega
    refine ⟨b ++ a, by rw [← hx], hl, fin _ hl ?_⟩
    rw [← hx, List.map_cons, List.map_append, List.map_append, List.map_cons]
    exact (List.perm_append_comm (l₁ := x.natAbs :: b.map Int.natAbs))
  · rw [opn_neg h hx]
    have hl : (fl a ++ fl b).length + 1 = (a ++ x :: b).length := by simp [fl_len]; omega
    refine ⟨fl a ++ fl b, by rw [← hx], hl, fin _ hl ?_⟩
    rw [← hx, List.map_cons, List.map_append, List.map_append, List.map_cons, Int.natAbs_neg]
    refine List.Perm.trans (List.Perm.cons _ (List.Perm.append (fl_abs a) (fl_abs b))) ?_
    exact (List.perm_middle).symm
end TR

/-! from H_Ring -/
namespace TR
open Classical

/-! ### walking along the rings -/
def ER (n : Nat) (P M : Nat → Nat) : Nat → Nat → Prop := Gn (Ed (2 * n + 2) (Lt P M) mate)
/-- what is seen when the starts below i are done -/
def Sn (n : Nat) (P M : Nat → Nat) (i s : Nat) : Prop := ∃ t, t < i ∧ ER n P M t s
/-- how many rings are found then -/
noncomputable def Fn (n : Nat) (P M : Nat → Nat) (i : Nat) : Nat := cnt i (fun s => ∀ t, t < s → ¬ ER n P M t s)
theorem cnt_succ (i : Nat) (S : Nat → Prop) : cnt (i + 1) S = cnt i S + if S i then 1 else 0 := by
  unfold cnt lst
  rw [List.range_succ, List.filter_append, List.length_append]
  by_cases h : S i <;> simp [h]
theorem fn_zero {n : Nat} {P M : Nat → Nat} : Fn n P M 0 = 0 := rfl
theorem fn_all {n : Nat} {P M : Nat → Nat} : Fn n P M (2 * n + 2) = rings n P M := rfl
theorem fn_seen {n : Nat} {P M : Nat → Nat} {i : Nat} (h : Sn n P M i i) : Fn n P M (i + 1) = Fn n P M i := by
  unfold Fn
  rw [cnt_succ, if_neg]
  · rfl
  · intro q
    obtain ⟨t, h1, h2⟩ := h
    exact q t h1 h2
theorem fn_new {n : Nat} {P M : Nat → Nat} {i : Nat} (h : ¬ Sn n P M i i) : Fn n P M (i + 1) = Fn n P M i + 1 := by
  unfold Fn
  rw [cnt_succ, if_pos]
  exact fun t h1 h2 => h ⟨t, h1, h2⟩
theorem sn_succ {n : Nat} {P M : Nat → Nat} {i s : Nat} : Sn n P M (i + 1) s ↔ Sn n P M i s ∨ ER n P M i s := by
  constructor
  · rintro ⟨t, h1, h2⟩
    by_cases e : t = i
    · exact .inr (e ▸ h2)
    · exact .inl ⟨t, by omega, h2⟩
  · rintro (⟨t, h1, h2⟩ | h)
    · exact ⟨t, by omega, h2⟩
    · exact ⟨i, by omega, h⟩
theorem sn_seen {n : Nat} {P M : Nat → Nat} {i s : Nat} (h : Sn n P M i i) : Sn n P M (i + 1) s ↔ Sn n P M i s := by
  rw [sn_succ]
  constructor
  · rintro (q | q)
    · exact q
    · obtain ⟨t, h1, h2⟩ := h
      exact ⟨t, h1, h2.trans q⟩
  · exact .inl
/-- inside a ring that begins at i: V is visited, the next spot is s -/
structure Rg (n : Nat) (P M : Nat → Nat) (i : Nat) (V : Nat → Prop) (s : Nat) : Prop where
  lt : s < 2 * n + 2
  er : ER n P M i s
  sub : ∀ x, V x → x < 2 * n + 2 ∧ ER n P M i x
  cs : (∀ x, ¬ V x) ∧ s = i ∨ (V i ∧ ¬ Sn n P M i i ∧ ∃ e, V e ∧ e ≠ i ∧ s = Lt P M e ∧ (∀ x, V x → V (mate x)) ∧ ∀ x, V x → x ≠ i → x ≠ e → V (Lt P M x) ∧ Lt P M x ≠ i ∧ Lt P M x ≠ e)
section
variable {n : Nat} {P M : Nat → Nat} (W : Dr n P M)
include W
theorem rg_start {i : Nat} (hi : i < 2 * n + 2) : Rg n P M i (fun _ => False) i := ⟨hi, .refl i, fun _ h => h.elim, .inl ⟨fun _ h => h, rfl⟩⟩
theorem mate_lt' {s : Nat} (h : s < 2 * n + 2) : mate s < 2 * n + 2 := by
  have := mate_lt (N := n + 1) (s := s) (by omega)
  omega
theorem rg_step {i s : Nat} {V : Nat → Prop} (R : Rg n P M i V s) (h1 : ¬ V s) (h2 : ¬ Sn n P M i s) : Rg n P M i (fun x => V x ∨ x = s ∨ x = mate s) (Lt P M (mate s)) := by
  have hm := mate_lt' W R.lt
  have em : ER n P M i (mate s) := gn_d R.er R.lt
  refine ⟨lt_lt W hm, gn_l em hm, ?_, .inr ?_⟩
  · rintro x (h | rfl | rfl)
    · exact R.sub x h
    · exact ⟨R.lt, R.er⟩
    · exact ⟨hm, em⟩
  · have nS : ¬ Sn n P M i i := fun ⟨t, t1, t2⟩ => h2 ⟨t, t1, t2.trans R.er⟩
    rcases R.cs with ⟨c1, c2⟩ | ⟨c1, c2, e, c3, c0, c4, c5, c6⟩
    · subst c2
      refine ⟨.inr (.inl rfl), nS, mate s, .inr (.inr rfl), mate_ne s, rfl, ?_, ?_⟩
      · rintro x (h | rfl | rfl)
        · exact (c1 x h).elim
        · exact .inr (.inr rfl)
        · exact .inr (.inl (mate_mate _))
      · rintro x (h | h | h) x1 x2
        · exact (c1 x h).elim
        · exact (x1 h).elim
        · exact (x2 h).elim
    · have he := (R.sub e c3).1
      have nme : ¬ V (mate s) := fun h => h1 (by have := c5 _ h; rwa [mate_mate] at this)
      refine ⟨.inl c1, c2, mate s, .inr (.inr rfl), fun q => nme (q ▸ c1), rfl, ?_, ?_⟩
      · rintro x (h | rfl | rfl)
        · exact .inl (c5 x h)
        · exact .inr (.inr rfl)
        · exact .inr (.inl (mate_mate _))
      · rintro x (h | h | h) x1 x2
        · by_cases xe : x = e
          · have : Lt P M x = s := by rw [xe, c4]
            rw [this]
            exact ⟨.inr (.inl rfl), fun q => h1 (q ▸ c1), fun q => mate_ne s q.symm⟩
          · obtain ⟨a, b, c⟩ := c6 x h x1 xe
            exact ⟨.inl a, b, fun q => nme (q ▸ a)⟩
        · have : Lt P M x = e := by rw [h, c4, lt_lt2 W he]
          rw [this]
          exact ⟨.inl c3, c0, fun q => nme (q ▸ c3)⟩
        · exact (x2 h).elim
/-- the walk ends: the whole ring is visited, or nothing of it -/
theorem rg_end {i s : Nat} {V : Nat → Prop} (hi : i < 2 * n + 2) (R : Rg n P M i V s) (h : Sn n P M i s ∨ V s) :
    ((∀ x, ¬ V x) ∧ Sn n P M i i) ∨ (V i ∧ ¬ Sn n P M i i ∧ ∀ x, x < 2 * n + 2 → (Sn n P M i x ∨ V x ↔ Sn n P M (i + 1) x)) := by
  rcases R.cs with ⟨c1, c2⟩ | ⟨c1, c2, e, c3, c0, c4, c5, c6⟩
  · left
    rcases h with h | h
    · exact ⟨c1, c2 ▸ h⟩
    · exact (c1 s h).elim
  · right
    refine ⟨c1, c2, ?_⟩
    have he := (R.sub e c3).1
    have hV : V s := by
      rcases h with ⟨t, t1, t2⟩ | h
      · exact (c2 ⟨t, t1, t2.trans R.er.sym⟩).elim
      · exact h
    have hs : s = i := by
      apply Classical.byContradiction
      intro q
      by_cases se : s = e
      · have := lt_ne W he
        rw [← c4] at this
        exact this se
      · have := (c6 s hV q se).2.2
        rw [c4, lt_lt2 W he] at this
        exact this rfl
    have cl : ∀ x, V x → V (Lt P M x) := fun x hx => by
      by_cases xi : x = i
      · have : Lt P M x = e := by rw [xi, ← hs, c4, lt_lt2 W he]
        rw [this]; exact c3
      · by_cases xe : x = e
        · have : Lt P M x = i := by rw [xe, ← c4, hs]
          rw [this]; exact c1
        · exact (c6 x hx xi xe).1
    have all : ∀ x, ER n P M i x → V x := fun x hx => by
      refine (hx.closed (S := V) fun a b ed => ?_).mp c1
      obtain ⟨ha, ed | ed⟩ := ed
      · constructor
        · intro q; rw [ed]; exact cl a q
        · intro q
          have := cl b q
          rw [ed, lt_lt2 W ha] at this
          exact this
      · constructor
        · intro q; rw [ed]; exact c5 a q
        · intro q
          have := c5 b q
          rw [ed, mate_mate] at this
          exact this
    intro x hx
    rw [sn_succ]
    exact ⟨fun q => q.imp id fun v => (R.sub x v).2, fun q => q.imp id fun v => all x v⟩
/-- the measure of the walk -/
theorem rg_less {i s : Nat} {V : Nat → Prop} (R : Rg n P M i V s) (h1 : ¬ V s) (h2 : ¬ Sn n P M i s) :
    cnt (2 * n + 2) (fun x => ¬ (Sn n P M i x ∨ V x ∨ x = s ∨ x = mate s)) < cnt (2 * n + 2) (fun x => ¬ (Sn n P M i x ∨ V x)) := by
  have o := cnt_one (M := 2 * n + 2) (S := fun x => ¬ (Sn n P M i x ∨ V x)) R.lt (fun q => q.elim h2 h1)
  have l : cnt (2 * n + 2) (fun x => ¬ (Sn n P M i x ∨ V x ∨ x = s ∨ x = mate s)) ≤ cnt (2 * n + 2) (fun x => ¬ (Sn n P M i x ∨ V x) ∧ x ≠ s) :=
    cnt_le_map id (fun x hx q => ⟨hx, fun z => q (z.imp id .inl), fun z => q (.inr (.inr (.inl z)))⟩) fun _ _ _ _ _ _ e => e
  omega
end
end TR

/-! from I_Part -/
namespace TR
open Classical

/-! ### the parts, as lists -/
theorem lst_asc (M : Nat) (S : Nat → Prop) : (lst M S).Pairwise (· < ·) := List.Pairwise.filter _ List.pairwise_lt_range
theorem lst_succ (k : Nat) (S : Nat → Prop) : lst (k + 1) S = if S k then lst k S ++ [k] else lst k S := by
  unfold lst
  rw [List.range_succ, List.filter_append]
  by_cases h : S k
  · rw [if_pos h, List.filter_cons_of_pos (by simpa using h)]; rfl
  · rw [if_neg h, List.filter_cons_of_neg (by simpa using h)]; simp
theorem lst_len (M : Nat) (S : Nat → Prop) : (lst M S).length ≤ M := by
  unfold lst
  exact Nat.le_trans (List.length_filter_le _ _) (by rw [List.length_range]; exact Nat.le_refl _)
theorem lst_perm {M : Nat} {S : Nat → Prop} {l : List Nat} (nd : l.Nodup) (h : ∀ x, x ∈ l ↔ x < M ∧ S x) : l.Perm (lst M S) :=
  (List.perm_ext_iff_of_nodup nd (nd_rf M S)).mpr fun x => (h x).trans mem_rf.symm
theorem lst_uniq {M : Nat} {S : Nat → Prop} {l : List Nat} (nd : l.Nodup) (h : ∀ x, x ∈ l ↔ x < M ∧ S x) {l' : List Int} (p : l'.Perm (l.map fun m : Nat => (m : Int))) (q : l'.Pairwise (· ≤ ·)) :
    l' = (lst M S).map fun m : Nat => (m : Int) := by
  refine List.Perm.eq_of_pairwise (le := (· ≤ ·)) (fun a b _ _ h1 h2 => by omega) q ?_ (p.trans ((lst_perm nd h).map _))
  rw [List.pairwise_map]
  exact (lst_asc M S).imp fun {a b} h => by omega
noncomputable def cls (n : Nat) (P : Nat → Nat) (X : Nat) : List Nat := lst (n + 1) (fun l => Cn n P X l)
theorem mem_cls {n : Nat} {P : Nat → Nat} {X l : Nat} : l ∈ cls n P X ↔ l ≤ n ∧ Cn n P X l := by
  unfold cls
  rw [mem_rf]
  exact ⟨fun h => ⟨by omega, h.2⟩, fun h => ⟨by omega, h.2⟩⟩
theorem cls_inj {n : Nat} {P : Nat → Nat} {X Y : Nat} (hX : rp n P X) (hY : rp n P Y) (h : cls n P X = cls n P Y) : X = Y := by
  have : Y ∈ cls n P X := by rw [h]; exact mem_cls.mpr ⟨hY.1, .refl Y⟩
  exact rp_uniq hX hY (mem_cls.mp this).2
theorem cls_head {n : Nat} {P : Nat → Nat} {X : Nat} (hX : rp n P X) : (cls n P X)[0]? = some X := by
  have h0 : X ∈ cls n P X := mem_cls.mpr ⟨hX.1, .refl X⟩
  have ha := lst_asc (n + 1) (fun l => Cn n P X l)
  have hall : ∀ a ∈ cls n P X, X ≤ a := fun a h => Nat.le_of_not_lt fun q => hX.2 a q (mem_cls.mp h).2.sym
  show (cls n P X)[0]? = some X
  change (cls n P X).Pairwise (· < ·) at ha
  generalize cls n P X = l at h0 ha hall ⊢
  cases l with
  | nil => cases h0
  | cons a t =>
    have h1 := hall a List.mem_cons_self
    rcases List.mem_cons.mp h0 with e | e
    · rw [e]; rfl
    · have := (List.pairwise_cons.mp ha).1 X e
      omega

/-! ### the search for a part -/
structure Bf (n : Nat) (P : Nat → Nat) (st : Nat) (F : List Nat) (i : Nat) : Prop where
  nd : F.Nodup
  cn : ∀ x ∈ F, x ≤ n ∧ Cn n P st x
  st : st ∈ F
  cl : ∀ j x, j < i → F[j]? = some x → ∀ y, y ≤ n → cr P x y → y ∈ F
theorem bf_start {n : Nat} {P : Nat → Nat} {s : Nat} (h : s ≤ n) : Bf n P s [s] 0 :=
  ⟨by simp, fun x hx => by rw [List.mem_singleton.mp hx]; exact ⟨h, .refl s⟩, List.mem_singleton.mpr rfl, fun j x h => absurd h (Nat.not_lt_zero _)⟩
theorem Bf.len {n : Nat} {P : Nat → Nat} {s i : Nat} {F : List Nat} (B : Bf n P s F i) : F.length ≤ n + 1 := by
  have := lst_perm (M := n + 1) (S := fun x => x ∈ F) B.nd fun x => ⟨fun h => ⟨by have := (B.cn x h).1; omega, h⟩, fun h => h.2⟩
  rw [this.length_eq]
  exact lst_len _ _
theorem bf_add {n : Nat} {P : Nat → Nat} {s i x k : Nat} {F : List Nat} (B : Bf n P s F i) (hx : F[i]? = some x) (hk : k ≤ n) (hn : k ∉ F) (hc : cr P x k) : Bf n P s (F ++ [k]) i := by
  have hxF := List.mem_of_getElem? hx
  have hi := (List.getElem?_eq_some_iff.mp hx).1
  refine ⟨?_, ?_, List.mem_append.mpr (.inl B.st), ?_⟩
  · rw [List.nodup_append]
    refine ⟨B.nd, by simp, fun a ha b hb e => ?_⟩
    rw [List.mem_singleton.mp hb] at e
    exact hn (e ▸ ha)
  · intro y hy
    rcases List.mem_append.mp hy with h | h
    · exact B.cn y h
    · rw [List.mem_singleton.mp h]
      exact ⟨hk, .step (B.cn x hxF).2 (.inl ⟨(B.cn x hxF).1, hk, hc⟩)⟩
  · intro j y hj hy z hz hc'
    rw [List.getElem?_append_left (by omega)] at hy
    exact List.mem_append.mpr (.inl (B.cl j y hj hy z hz hc'))
theorem bf_next {n : Nat} {P : Nat → Nat} {s i x : Nat} {F : List Nat} (B : Bf n P s F i) (hx : F[i]? = some x) (h : ∀ y, y ≤ n → cr P x y → y ∈ F) : Bf n P s F (i + 1) := by
  refine ⟨B.nd, B.cn, B.st, fun j y hj hy z hz hc => ?_⟩
  by_cases e : j = i
  · subst e
    rw [hx] at hy
    cases hy
    exact h z hz hc
  · exact B.cl j y (by omega) hy z hz hc
theorem bf_end {n : Nat} {P M : Nat → Nat} (W : Dr n P M) {s i : Nat} {F : List Nat} (B : Bf n P s F i) (h : F.length ≤ i) (x : Nat) : x ∈ F ↔ x < n + 1 ∧ Cn n P s x := by
  have main : ∀ x, Cn n P s x → x ∈ F := fun x hc => by
    induction hc with
    | refl => exact B.st
    | @step y z hy hs ih =>
      have hyz := ec_or W hs
      obtain ⟨j, hj⟩ := List.getElem?_of_mem ih
      have hjl := (List.getElem?_eq_some_iff.mp hj).1
      exact B.cl j y (by omega) hj z hyz.2.1 hyz.2.2
  exact ⟨fun hx => ⟨by have := (B.cn x hx).1; omega, (B.cn x hx).2⟩, fun h => main x h.2⟩

/-! ### all parts -/
def Sk (n : Nat) (P : Nat → Nat) (k x : Nat) : Prop := ∃ t, t < k ∧ Cn n P t x
theorem sk_rp {n : Nat} {P : Nat → Nat} {k : Nat} (hk : k ≤ n) : ¬ Sk n P k k ↔ rp n P k :=
  ⟨fun h => ⟨hk, fun t ht hc => h ⟨t, ht, hc⟩⟩, fun h ⟨t, ht, hc⟩ => h.2 t ht hc⟩
theorem sk_succ {n : Nat} {P : Nat → Nat} {k x : Nat} : Sk n P (k + 1) x ↔ Sk n P k x ∨ Cn n P k x := by
  refine ⟨fun ⟨t, ht, hc⟩ => ?_, ?_⟩
  · by_cases e : t = k
    · exact .inr (e ▸ hc)
    · exact .inl ⟨t, by omega, hc⟩
  · rintro (⟨t, ht, hc⟩ | hc)
    · exact ⟨t, by omega, hc⟩
    · exact ⟨k, by omega, hc⟩
theorem sk_old {n : Nat} {P : Nat → Nat} {k x : Nat} (h : Sk n P k k) : Sk n P (k + 1) x ↔ Sk n P k x := by
  rw [sk_succ]
  refine ⟨fun q => q.elim id fun c => ?_, .inl⟩
  obtain ⟨t, ht, hc⟩ := h
  exact ⟨t, ht, hc.trans c⟩

/-! ### bad parts -/
theorem cn_first {n : Nat} {P M : Nat → Nat} (W : Dr n P M) {k l : Nat} (h : Cn n P k l) (hne : l ≠ k) : ∃ m, m ≤ n ∧ cr P k m := by
  have main : ∀ l, Cn n P k l → l = k ∨ ∃ m, m ≤ n ∧ cr P k m := fun l h => by
    induction h with
    | refl => exact .inl rfl
    | @step y z hy hs ih =>
      rcases ih with e | e
      · subst e
        have := ec_or W hs
        exact .inr ⟨z, this.2.1, this.2.2⟩
      · exact .inr e
  exact (main l h).resolve_left hne
theorem bad_iff {n : Nat} {P M : Nat → Nat} (W : Dr n P M) {k : Nat} (hr : rp n P k) :
    bad n P k ↔ (¬ ∃ l ∈ cls n P k, ori P l) ∧ (1 < (cls n P k).length ∨ ¬ (min (P (2 * k)) (P (2 * k + 1)) % 2 = 0 ∧ max (P (2 * k)) (P (2 * k + 1)) = min (P (2 * k)) (P (2 * k + 1)) + 1)) := by
  have kc : k ∈ cls n P k := mem_cls.mpr ⟨hr.1, .refl k⟩
  constructor
  · rintro ⟨h1, l, hl, hc⟩
    refine ⟨fun ⟨m, hm, ho⟩ => h1 m (mem_cls.mp hm).1 (mem_cls.mp hm).2 ho, .inl ?_⟩
    have lc : l ∈ cls n P k := mem_cls.mpr ⟨hl, .one ⟨hr.1, hl, hc⟩⟩
    match hq : cls n P k with
    | [] => rw [hq] at kc; cases kc
    | [a] =>
      rw [hq] at kc lc
      exact absurd ((List.mem_singleton.mp kc).trans (List.mem_singleton.mp lc).symm) hc.1
    | a :: b :: t => simp
  · rintro ⟨h1, h2⟩
    refine ⟨fun l hl hc ho => h1 ⟨l, mem_cls.mpr ⟨hl, hc⟩, ho⟩, ?_⟩
    rcases h2 with h2 | h2
    · have nd : (cls n P k).Nodup := nd_rf _ _
      have : ∃ l ∈ cls n P k, l ≠ k := by
        match hq : cls n P k with
        | [] => rw [hq] at kc; cases kc
        | [a] => rw [hq] at h2; simp at h2
        | a :: b :: t =>
          rw [hq] at nd
          have hab : a ≠ b := fun e => by subst e; simp at nd
          by_cases e : a = k
          · exact ⟨b, by simp, fun z => hab (e.trans z.symm)⟩
          · exact ⟨a, by simp, e⟩
      obtain ⟨l, hl, hne⟩ := this
      exact cn_first W (mem_cls.mp hl).2 hne
    · apply Classical.byContradiction
      intro hno
      obtain ⟨i, hi⟩ := short W hr.1 (fun l hl hc => hno ⟨l, hl, hc⟩) (fun ho => h1 ⟨k, kc, ho⟩)
      apply h2
      rcases hi with ⟨a, b⟩ | ⟨a, b⟩ <;> rw [a, b] <;> omega

/-! ### runs around a circle -/
def prv (T : List Nat) (a : Nat) : Nat := if a = 0 then T.length - 1 else a - 1
def rs (T : List Nat) (X a : Nat) : Prop := T[a]? = some X ∧ T[prv T a]? ≠ some X
theorem cnt_le_one {M : Nat} {S : Nat → Prop} : cnt M S ≤ 1 ↔ ¬ ∃ a b, a < b ∧ b < M ∧ S a ∧ S b := by
  constructor
  · rintro h ⟨a, b, hab, hb, sa, sb⟩
    have h1 := cnt_one (M := M) (S := S) (a := a) (by omega) sa
    have h2 := cnt_one (M := M) (S := fun x => S x ∧ x ≠ a) (a := b) hb ⟨sb, by omega⟩
    omega
  · intro h
    apply Nat.le_of_not_lt
    intro q
    apply h
    have hasc := lst_asc M S
    have hm : ∀ x ∈ lst M S, x < M ∧ S x := fun x hx => mem_rf.mp hx
    unfold cnt at q
    generalize lst M S = l at q hasc hm
    match l with
    | [] => simp at q
    | [a] => simp at q
    | a :: b :: t =>
      have hb := hm b (by simp)
      exact ⟨a, b, (List.pairwise_cons.mp hasc).1 b (by simp), hb.1, (hm a (by simp)).2, hb.2⟩
theorem rise_in {T : List Nat} {X i : Nat} (hi : T[i]? ≠ some X) : ∀ {j : Nat}, i < j → T[j]? = some X → ∃ a, i < a ∧ a ≤ j ∧ rs T X a := by
  intro j hij hj
  induction j with
  | zero => omega
  | succ j ih =>
    by_cases h : T[j]? = some X
    · have hne : i ≠ j := fun z => hi (z ▸ h)
      obtain ⟨a, a1, a2, a3⟩ := ih (by omega) h
      exact ⟨a, a1, by omega, a3⟩
    · refine ⟨j + 1, hij, Nat.le_refl _, hj, ?_⟩
      unfold prv
      rw [if_neg (by omega)]
      exact h
/-- X, not X, X, not X around the circle -/
def alt (T : List Nat) (X : Nat) : Prop := ∃ i j k l, i < j ∧ j < k ∧ k < l ∧ l < T.length ∧
  ((T[i]? = some X ∧ T[j]? ≠ some X ∧ T[k]? = some X ∧ T[l]? ≠ some X) ∨ (T[i]? ≠ some X ∧ T[j]? = some X ∧ T[k]? ≠ some X ∧ T[l]? = some X))
theorem rs_alt {T : List Nat} {X : Nat} : (∃ a b, a < b ∧ b < T.length ∧ rs T X a ∧ rs T X b) ↔ alt T X := by
  constructor
  · rintro ⟨a, b, hab, hb, ⟨a1, a2⟩, ⟨b1, b2⟩⟩
    unfold prv at a2 b2
    rw [if_neg (by omega)] at b2
    have hne : a ≠ b - 1 := fun z => b2 (z ▸ a1)
    by_cases h : a = 0
    · rw [if_pos h] at a2
      have hl : b ≠ T.length - 1 := fun z => a2 (z ▸ b1)
      exact ⟨a, b - 1, b, T.length - 1, by omega, by omega, by omega, by omega, .inl ⟨a1, b2, b1, a2⟩⟩
    · rw [if_neg h] at a2
      exact ⟨a - 1, a, b - 1, b, by omega, by omega, by omega, hb, .inr ⟨a2, a1, b2, b1⟩⟩
  · rintro ⟨i, j, k, l, h1, h2, h3, h4, ⟨q1, q2, q3, q4⟩ | ⟨q1, q2, q3, q4⟩⟩
    · obtain ⟨b, b1, b2, b3⟩ := rise_in q2 h2 q3
      by_cases h0 : T[0]? = some X
      · by_cases hn : T[T.length - 1]? = some X
        · have hne : l ≠ T.length - 1 := fun z => q4 (z ▸ hn)
          obtain ⟨a, a1, a2, a3⟩ := rise_in q4 (j := T.length - 1) (by omega) hn
          exact ⟨b, a, by omega, by omega, b3, a3⟩
        · exact ⟨0, b, by omega, by omega, ⟨h0, by unfold prv; rw [if_pos rfl]; exact hn⟩, b3⟩
      · have hne : i ≠ 0 := fun z => h0 (z ▸ q1)
        obtain ⟨a, a1, a2, a3⟩ := rise_in h0 (j := i) (by omega) q1
        exact ⟨a, b, by omega, by omega, a3, b3⟩
    · obtain ⟨a, a1, a2, a3⟩ := rise_in q1 h1 q2
      obtain ⟨b, b1, b2, b3⟩ := rise_in q3 h3 q4
      exact ⟨a, b, by omega, by omega, a3, b3⟩

/-! ### the round of some parts -/
structure Rn (n : Nat) (P M : Nat → Nat) (G : List Nat) (Z : List (Nat × Nat)) : Prop where
  mem : ∀ s X, (s, X) ∈ Z ↔ X ∈ G ∧ s < 2 * n + 2 ∧ Cn n P X (M s / 2)
  asc : Z.Pairwise fun a b => a.1 < b.1
theorem asc_lt {Z : List (Nat × Nat)} (h : Z.Pairwise fun a b => a.1 < b.1) {i j : Nat} {a b : Nat × Nat} (hi : Z[i]? = some a) (hj : Z[j]? = some b) : a.1 < b.1 ↔ i < j := by
  obtain ⟨i1, i2⟩ := List.getElem?_eq_some_iff.mp hi
  obtain ⟨j1, j2⟩ := List.getElem?_eq_some_iff.mp hj
  have hp := List.pairwise_iff_getElem.mp h
  constructor
  · intro q
    apply Nat.lt_of_not_le
    intro c
    by_cases e : i = j
    · subst e
      rw [i2] at j2
      subst j2
      omega
    · have := hp j i j1 i1 (by omega)
      rw [i2, j2] at this
      omega
  · intro q
    have := hp i j i1 j1 q
    rw [i2, j2] at this
    exact this
section
variable {n : Nat} {P M : Nat → Nat} (W : Dr n P M)
include W
/-- spots of X between and without two others: X parts these two -/
theorem parts_of {X U V u v x y : Nat} (hX : rp n P X) (hU : rp n P U) (hV : rp n P V) (nU : U ≠ X) (nV : V ≠ X) (su : u < 2 * n + 2) (sv : v < 2 * n + 2) (sx : x < 2 * n + 2) (sy : y < 2 * n + 2)
    (cu : Cn n P U (M u / 2)) (cv : Cn n P V (M v / 2)) (cx : Cn n P X (M x / 2)) (cy : Cn n P X (M y / 2)) (h1 : u < x) (h2 : x < v) (h3 : y < u ∨ v < y) : RX n P X (pt P U) (pt P V) := by
  apply Classical.byContradiction
  intro hno
  have hn : ∀ e, Cn n P X e → ¬ Str u (v - 1) (P (2 * e)) (P (2 * e + 1)) := fun e he hs => by
    have hen := cn_le he hX.1
    rw [← str_sp (by omega), show v - 1 + 1 = v by omega] at hs
    have nUe : ¬ Cn n P U e := fun c => nU (rp_uniq hU hX (c.trans he.sym))
    have nVe : ¬ Cn n P V e := fun c => nV (rp_uniq hV hX (c.trans he.sym))
    have s1 := side2 W hen hU.1 nUe su cu
    have s2 := side2 W hen hV.1 nVe sv cv
    refine hno ⟨e, he, hen, ?_⟩
    show Sp _ _ (P (2 * U)) (P (2 * V))
    rcases sp_cot (P (2 * U)) hs with q | q
    · exact absurd (sp_sym q) s1
    · rcases sp_cot (P (2 * V)) q with q | q
      · exact q
      · exact absurd q s2
  have a := straddle W hX.1 hn sx cx
  have b := straddle W hX.1 hn sy cy
  have c := a.symm.trans b
  omega
theorem rn_hur {G : List Nat} {Z : List (Nat × Nat)} (hG : ∀ X ∈ G, rp n P X) (R : Rn n P M G Z) {X : Nat} (hX : X ∈ G) :
    cnt (Z.map (·.2)).length (rs (Z.map (·.2)) X) ≤ 1 ↔ Hur (RX n P) (pt P) G X := by
  have rX := hG X hX
  have get : ∀ {i Y : Nat}, (Z.map (·.2))[i]? = some Y → ∃ s, Z[i]? = some (s, Y) ∧ Y ∈ G ∧ s < 2 * n + 2 ∧ Cn n P Y (M s / 2) := fun {i Y} h => by
    rw [List.getElem?_map] at h
    obtain ⟨⟨s, Y'⟩, h1, h2⟩ := Option.map_eq_some_iff.mp h
    simp only at h2
    subst h2
    exact ⟨s, h1, (R.mem s Y').mp (List.mem_of_getElem? h1)⟩
  have oth : ∀ {i : Nat}, i < (Z.map (·.2)).length → (Z.map (·.2))[i]? ≠ some X → ∃ Y, Y ≠ X ∧ (Z.map (·.2))[i]? = some Y := fun {i} h1 h2 =>
    ⟨_, fun z => h2 ((List.getElem?_eq_getElem h1).trans (congrArg some z)), List.getElem?_eq_getElem h1⟩
  rw [cnt_le_one, rs_alt]
  constructor
  · intro hno
    refine ⟨hX, fun U hU V hV nU nV ⟨e, he, hen, hs⟩ => hno ?_⟩
    have rU := hG U hU
    have rV := hG V hV
    have neU : U ≠ e := fun z => nU (rp_uniq rU rX (z ▸ he.sym))
    have neV : V ≠ e := fun z => nV (rp_uniq rV rX (z ▸ he.sym))
    obtain ⟨a1, a2, a3, a4⟩ := W.ne hen rU.1 neU.symm
    obtain ⟨b1, b2, b3, b4⟩ := W.ne hen rV.1 neV.symm
    have ne2 := W.ne2 hen
    have l1 := W.pl (m := 2 * e) (by omega)
    have l2 := W.pl (m := 2 * e + 1) (by omega)
    have l3 := W.pl (m := 2 * U) (by have := rU.1; omega)
    have l4 := W.pl (m := 2 * V) (by have := rV.1; omega)
    obtain ⟨i1, g1⟩ := List.getElem?_of_mem ((R.mem (P (2 * e)) X).mpr ⟨hX, l1, by rw [m_even W hen]; exact he⟩)
    obtain ⟨i2, g2⟩ := List.getElem?_of_mem ((R.mem (P (2 * e + 1)) X).mpr ⟨hX, l2, by rw [m_odd W hen]; exact he⟩)
    obtain ⟨i3, g3⟩ := List.getElem?_of_mem ((R.mem (P (2 * U)) U).mpr ⟨hU, l3, by rw [m_even W rU.1]; exact .refl U⟩)
    obtain ⟨i4, g4⟩ := List.getElem?_of_mem ((R.mem (P (2 * V)) V).mpr ⟨hV, l4, by rw [m_even W rV.1]; exact .refl V⟩)
    have m : ∀ {i : Nat} {z : Nat × Nat}, Z[i]? = some z → (Z.map (·.2))[i]? = some z.2 := fun {i z} h => by rw [List.getElem?_map, h]; rfl
    have c1 := m g1
    have c2 := m g2
    have c3 : (Z.map (·.2))[i3]? ≠ some X := by rw [m g3]; exact fun z => nU (Option.some.inj z)
    have c4 : (Z.map (·.2))[i4]? ≠ some X := by rw [m g4]; exact fun z => nV (Option.some.inj z)
    have len : ∀ {i : Nat} {z : Nat × Nat}, Z[i]? = some z → i < (Z.map (·.2)).length := fun h => by rw [List.length_map]; exact (List.getElem?_eq_some_iff.mp h).1
    have e1 := len g1
    have e2 := len g2
    have e3 := len g3
    have e4 := len g4
    have lt : ∀ {i j : Nat} {a b : Nat × Nat}, Z[i]? = some a → Z[j]? = some b → a.1 < b.1 → i < j := fun ha hb h => (asc_lt R.asc ha hb).mp h
    change Sp (P (2 * e)) (P (2 * e + 1)) (P (2 * U)) (P (2 * V)) at hs
    have o12 := lt g1 g2
    have o21 := lt g2 g1
    have o13 := lt g1 g3
    have o31 := lt g3 g1
    have o14 := lt g1 g4
    have o41 := lt g4 g1
    have o23 := lt g2 g3
    have o32 := lt g3 g2
    have o24 := lt g2 g4
    have o42 := lt g4 g2
    simp only at o12 o21 o13 o31 o14 o41 o23 o32 o24 o42
    unfold Sp In at hs
    rcases Nat.lt_or_gt_of_ne ne2 with q | q
    · rcases Nat.lt_or_gt_of_ne a1 with q1 | q1 <;> rcases Nat.lt_or_gt_of_ne a3 with q2 | q2 <;> rcases Nat.lt_or_gt_of_ne b1 with q3 | q3 <;> rcases Nat.lt_or_gt_of_ne b3 with q4 | q4 <;> first | omega | skip
      · exact ⟨i1, i4, i2, i3, o14 q3, o42 q4, o23 q2, e3, .inl ⟨c1, c4, c2, c3⟩⟩
      · exact ⟨i1, i3, i2, i4, o13 q1, o32 q2, o24 q4, e4, .inl ⟨c1, c3, c2, c4⟩⟩
      · exact ⟨i4, i1, i3, i2, o41 q3, o13 q1, o32 q2, e2, .inr ⟨c4, c1, c3, c2⟩⟩
      · exact ⟨i3, i1, i4, i2, o31 q1, o14 q3, o42 q4, e2, .inr ⟨c3, c1, c4, c2⟩⟩
    · rcases Nat.lt_or_gt_of_ne a1 with q1 | q1 <;> rcases Nat.lt_or_gt_of_ne a3 with q2 | q2 <;> rcases Nat.lt_or_gt_of_ne b1 with q3 | q3 <;> rcases Nat.lt_or_gt_of_ne b3 with q4 | q4 <;> first | omega | skip
      · exact ⟨i2, i4, i1, i3, o24 q4, o41 q3, o13 q1, e3, .inl ⟨c2, c4, c1, c3⟩⟩
      · exact ⟨i2, i3, i1, i4, o23 q2, o31 q1, o14 q3, e4, .inl ⟨c2, c3, c1, c4⟩⟩
      · exact ⟨i4, i2, i3, i1, o42 q4, o23 q2, o31 q1, e1, .inr ⟨c4, c2, c3, c1⟩⟩
      · exact ⟨i3, i2, i4, i1, o32 q2, o24 q4, o41 q3, e1, .inr ⟨c3, c2, c4, c1⟩⟩
  · rintro ⟨_, hh⟩ ⟨i, j, k, l, h1, h2, h3, h4, ⟨q1, q2, q3, q4⟩ | ⟨q1, q2, q3, q4⟩⟩
    · obtain ⟨U, nU, u1⟩ := oth (by omega) q2
      obtain ⟨V, nV, v1⟩ := oth (by omega) q4
      obtain ⟨u, gu, mu, su, cu⟩ := get u1
      obtain ⟨v, gv, mv, sv, cv⟩ := get v1
      obtain ⟨y, gy, my, sy, cy⟩ := get q1
      obtain ⟨x, gx, mx, sx, cx⟩ := get q3
      exact hh U mu V mv nU nV (parts_of W rX (hG U mu) (hG V mv) nU nV su sv sx sy cu cv cx cy ((asc_lt R.asc gu gx).mpr h2) ((asc_lt R.asc gx gv).mpr h3) (.inl ((asc_lt R.asc gy gu).mpr h1)))
    · obtain ⟨U, nU, u1⟩ := oth (by omega) q1
      obtain ⟨V, nV, v1⟩ := oth (by omega) q3
      obtain ⟨u, gu, mu, su, cu⟩ := get u1
      obtain ⟨v, gv, mv, sv, cv⟩ := get v1
      obtain ⟨x, gx, mx, sx, cx⟩ := get q2
      obtain ⟨y, gy, my, sy, cy⟩ := get q4
      exact hh U mu V mv nU nV (parts_of W rX (hG U mu) (hG V mv) nU nV su sv sx sy cu cv cx cy ((asc_lt R.asc gu gx).mpr h1) ((asc_lt R.asc gx gv).mpr h2) (.inr ((asc_lt R.asc gv gy).mpr h3)))

/-- the round before it is sorted -/
noncomputable def tl0 (n : Nat) (P : Nat → Nat) (G : List Nat) : List (Nat × Nat) :=
  G.flatMap fun X => (cls n P X).flatMap fun k => [(min (P (2 * k)) (P (2 * k + 1)), X), (max (P (2 * k)) (P (2 * k + 1)), X)]
omit W in
theorem mem_tl {G : List Nat} {s X : Nat} : (s, X) ∈ tl0 n P G ↔ X ∈ G ∧ ∃ k, k ≤ n ∧ Cn n P X k ∧ (s = P (2 * k) ∨ s = P (2 * k + 1)) := by
  unfold tl0
  simp only [List.mem_flatMap, List.mem_cons, Prod.mk.injEq, List.not_mem_nil, or_false, mem_cls]
  constructor
  · rintro ⟨Y, hY, k, ⟨hk, hc⟩, ⟨e1, e2⟩ | ⟨e1, e2⟩⟩
    · subst e2
      exact ⟨hY, k, hk, hc, by omega⟩
    · subst e2
      exact ⟨hY, k, hk, hc, by omega⟩
  · rintro ⟨hX, k, hk, hc, e⟩
    refine ⟨X, hX, k, ⟨hk, hc⟩, ?_⟩
    rcases Nat.le_total (P (2 * k)) (P (2 * k + 1)) with q | q
    · rw [Nat.min_eq_left q, Nat.max_eq_right q]
      exact e.imp (fun z => ⟨z, rfl⟩) (fun z => ⟨z, rfl⟩)
    · rw [Nat.min_eq_right q, Nat.max_eq_left q]
      exact e.symm.imp (fun z => ⟨z, rfl⟩) (fun z => ⟨z, rfl⟩)
theorem tl_ne {G : List Nat} (hG : ∀ X ∈ G, rp n P X) (nd : G.Nodup) : (tl0 n P G).Pairwise fun a b => a.1 ≠ b.1 := by
  have mm : ∀ k l, k ≤ n → l ≤ n → k ≠ l → ∀ a b, (a = min (P (2 * k)) (P (2 * k + 1)) ∨ a = max (P (2 * k)) (P (2 * k + 1))) → (b = min (P (2 * l)) (P (2 * l + 1)) ∨ b = max (P (2 * l)) (P (2 * l + 1))) → a ≠ b := fun k l hk hl h a b ha hb => by
    have := W.ne hk hl h
    omega
  unfold tl0
  rw [List.pairwise_flatMap]
  refine ⟨fun X hX => ?_, ?_⟩
  · rw [List.pairwise_flatMap]
    refine ⟨fun k hk => ?_, ?_⟩
    · have := W.ne2 (mem_cls.mp hk).1
      simp
      omega
    · refine (lst_asc (n + 1) _).imp_of_mem ?_
      intro k l hk hl hlt x hx y hy
      have hk' := (mem_rf.mp hk).1
      have hl' := (mem_rf.mp hl).1
      simp only [List.mem_cons, List.not_mem_nil, or_false] at hx hy
      exact mm k l (by omega) (by omega) (by omega) _ _ (hx.imp (congrArg Prod.fst) (congrArg Prod.fst)) (hy.imp (congrArg Prod.fst) (congrArg Prod.fst))
  · refine (List.Pairwise.imp_of_mem ?_ nd)
    intro X Y hX hY hne x hx y hy
    simp only [List.mem_flatMap, List.mem_cons, List.not_mem_nil, or_false] at hx hy
    obtain ⟨k, hk, hx⟩ := hx
    obtain ⟨l, hl, hy⟩ := hy
    have ck := mem_cls.mp hk
    have cl := mem_cls.mp hl
    have hkl : k ≠ l := fun z => hne (rp_uniq (hG X hX) (hG Y hY) (ck.2.trans (z ▸ cl.2.sym)))
    exact mm k l ck.1 cl.1 hkl _ _ (hx.imp (congrArg Prod.fst) (congrArg Prod.fst)) (hy.imp (congrArg Prod.fst) (congrArg Prod.fst))
theorem tl_rn {G : List Nat} (hG : ∀ X ∈ G, rp n P X) (nd : G.Nodup) {Z : List (Nat × Nat)} (hp : Z.Perm (tl0 n P G)) (ha : Z.Pairwise fun a b => a.1 ≤ b.1) : Rn n P M G Z := by
  refine ⟨fun s X => ?_, ?_⟩
  · rw [hp.mem_iff, mem_tl]
    constructor
    · rintro ⟨hX, k, hk, hc, e⟩
      rcases e with e | e
      · subst e
        exact ⟨hX, W.pl (by omega), by rw [m_even W hk]; exact hc⟩
      · subst e
        exact ⟨hX, W.pl (by omega), by rw [m_odd W hk]; exact hc⟩
    · rintro ⟨hX, hs, hc⟩
      exact ⟨hX, M s / 2, half_le W hs, hc, spot_of W hs⟩
  · have h1 : Z.Pairwise fun a b => a.1 ≠ b.1 := (hp.symm.pairwise_iff (fun {a b} h => Ne.symm h)).mp (tl_ne W hG nd)
    have := ha.and h1
    exact this.imp fun {a b} h => by omega
end
end TR

/-! from W0 -/
set_option maxRecDepth 100000
set_option maxHeartbeats 4000000
/-! own rules and short words for this proof -/
namespace TW
open PySem PySem.Spec PyProof.Rows L2 Evl

/-! ### t[::-1] of a tuple -/
section
variable {prog : Program} {w : World} {A : Around} {E : Value → Shared → Prop} {s : Shared}
theorem rev_places (n : Nat) : Builtin.Slice.slicePlaces ((n : Int) - 1) (-1) (-1) = n := by
  unfold Builtin.Slice.slicePlaces
  rw [if_neg (by decide : ¬ ((-1 : Int) > 0)), show (-(-1) : Int) = 1 from rfl]
  by_cases h : (n : Int) - 1 > -1
  · rw [if_pos h, Int.ediv_one]; omega
  · rw [if_neg h]; omega
theorem rev_adjust (n : Nat) : Builtin.Slice.sliceAdjust none none (-1) (n : Int) = ((n : Int) - 1, -1) := rfl
theorem rev_applied {sl : Addr} {u : Tok} {n : Nat} {Q : Int × Int × Nat → Shared → Prop} (hs : s.heap.IsSliceOf sl .none .none (.int (-1) u)) (h : Q ((n : Int) - 1, -1, n) s) :
    wpAny (model prog w) A (Builtin.Slice.sliceApplied (.ref sl) (pure (n : Int))) Q E s := by
  obtain ⟨o, ho, hc, hd⟩ := id hs
  unfold Builtin.Slice.sliceApplied Builtin.Slice.sliceFields
  refine wpAny_bind (wpAny_bind (wpAny_field ho hd (x := .none) rfl (wpAny_bind (wpAny_field ho hd (x := .none) rfl (wpAny_bind (wpAny_field ho hd (x := .int (-1) u) rfl (wpAny_pure ?_)))))))
  refine wpAny_bind (slicePart_int ?_)
  show wpAny _ _ (if ((-1 : Int) == 0) = true then _ else _) _ _ s
  rw [if_neg (by decide)]
  refine wpAny_bind (slicePart_none (wpAny_bind (slicePart_none (wpAny_bind (wpAny_pure ?_)))))
  show wpAny _ _ (match Builtin.Slice.sliceAdjust none none (-1) (n : Int) with | (a, b) => pure (a, (-1 : Int), Builtin.Slice.slicePlaces a b (-1))) _ _ s
  rw [rev_adjust]
  show wpAny _ _ (pure ((n : Int) - 1, (-1 : Int), Builtin.Slice.slicePlaces ((n : Int) - 1) (-1) (-1))) _ _ s
  rw [rev_places]
  exact wpAny_pure h
theorem rev_pick (xs : Array Value) : ((List.range xs.size).filterMap fun (m : Nat) => xs[(((xs.size : Nat) : Int) - 1 + (m : Int) * -1).toNat]?).toArray = xs.toList.reverse.toArray := by
  have e : (fun (m : Nat) => xs[(((xs.size : Nat) : Int) - 1 + (m : Int) * -1).toNat]?) = fun m => xs[xs.size - 1 - m]? := by
    funext m
    congr 1
    omega
  rw [e]
  have h := PySem.W.krv_all xs
  have e2 : ((List.range xs.size).map (fun k => xs.size - 1 - k)).filterMap (xs[·]?) = xs.toList.reverse := by
    rw [PySem.W.krv_range, List.filterMap_reverse, h]
  rw [List.filterMap_map] at e2
  have e3 : (List.range xs.size).filterMap (fun m => xs[xs.size - 1 - m]?) = (List.range xs.size).filterMap ((fun x => xs[x]?) ∘ fun k => xs.size - 1 - k) := rfl
  rw [e3, e2]
theorem getItem_rev {t sl : Addr} {items : Array Value} {u : Tok} {Q : Value → Shared → Prop} (ht : IsTup s.heap t items) (hs : s.heap.IsSliceOf sl .none .none (.int (-1) u))
    (h : Q (.ref s.heap.objs.size) { s with heap := s.heap.push { cls := .type "tuple", data := .seq items.toList.reverse.toArray } }) (hz : items.size ≤ sizeLine) :
    wpAny (model prog w) A (getItem (.ref t) (.ref sl)) Q E s := by
  have hok : sizeOk (.seq items.toList.reverse.toArray) := by
    show items.toList.reverse.toArray.size ≤ sizeLine
    rw [List.size_toArray, List.length_reverse, Array.length_toList]
    exact hz
  obtain ⟨o, ho, hc, hd⟩ := id hs
  have hT : s.TypeIs (.ref sl) "slice" := ⟨o, ho, hc⟩
  unfold getItem
  try with_reducible refine wpAny_holding ?_
  first | (refine wpAny_bind (wpAny_pure ?_)) | skip
  refine wpAny_bind (wpAny_sequenceKey ht.typeIs (by decide) (wpAny_bind (wpAny_callSpecial?_slot (name := Str.ofString "__getitem__") ht.typeIs PyProof.Rows.slot_tuple_getitem
    (wpAny_call_entry PyProof.Rows.slot_tuple_getitem ht.typeIs entry_tuple_getitem ?_ (args_tuple_getitem _ _)))))
  show wpAny _ _ (Builtin.Tuple.tupleItemsOf (.ref t) >>= _) _ _ s
  refine wpAny_bind (tupleItemsOf_ ht (wpAny_bind (wpAny_typeOf hT ?_)))
  rw [if_pos (by decide)]
  refine wpAny_bind (rev_applied hs ?_)
  have hno : ¬ ((((items.size : Nat) : Int) - 1 == 0 && (-1 : Int) == 1 && items.size == items.size) = true) := by
    intro q
    rw [Bool.and_eq_true, Bool.and_eq_true] at q
    exact absurd q.1.2 (by decide)
  show wpAny _ _ (if (((items.size : Nat) : Int) - 1 == 0 && (-1 : Int) == 1 && items.size == items.size) = true then _ else _) _ _ s
  rw [if_neg hno, rev_pick]
  first
    | exact wpAny_bind (m := Builtin.Tuple.tupleExact _) (wpAny_newObj_type (wpAny_pure ⟨_, rfl, wpAny_pure h⟩) hok)
    | exact wpAny_bind (m := Builtin.Tuple.tupleExact _) (wpAny_newObj_type (wpAny_bind (wpAny_pure (wpAny_pure ⟨_, rfl, wpAny_pure h⟩))) hok)
    | exact wpAny_bind (wpAny_bind (m := Builtin.Tuple.tupleExact _) (wpAny_newObj_type (wpAny_pure (wpAny_pure ⟨_, rfl, wpAny_pure h⟩)) hok))
    | exact wpAny_bind (wpAny_bind (m := Builtin.Tuple.tupleExact _) (wpAny_newObj_type (wpAny_pure ⟨_, rfl, wpAny_pure h⟩) hok))
end
section
variable {X : Cx}
def tRevT (K : PySem.W.Frag) (te : TE) : TE := fun σ H Q => te σ H fun x H1 => ∃ a xs, x = .ref a ∧ SqT K H1 a xs ∧ ∀ p, H1 p = none → Q (.ref p) (upd H1 p (.tup xs.reverse))
theorem pe_revT {e : Expr} {te : TE} {k : Nat} {p1 p2 p3 pos : Pos} (he : PE X e te) :
    PE X (.Subscript e (.Slice none none (some (.UnaryOp .USub (.Constant (.int 1) k p1) p2)) p3) pos) (tRevT X.K te) := by
  refine ⟨fun pins s σ H Q I h => Subscript_ (thn (he.run pins s σ H _ I h) fun v s1 ⟨x, H1, I1, r1, a, xs, ex, hx, q⟩ => ?_)⟩
  subst ex
  cases r1
  have hst : PO X (some (.UnaryOp .USub (.Constant (.int 1) k p1) p2)) (tPart (tUn (rU fun i => .int (-i)) (tC (.int 1)))) := po_some (pe_un un_neg pe_int)
  refine wpAny_Slice (thn (po_none.run pins s1 σ H1 (fun o H2 => o = none ∧ H2 = H1) I1 ⟨rfl, rfl⟩) fun vl s2 ⟨l, H2, I2, pl, el, e2⟩ => ?_)
  subst el e2
  refine thn (po_none.run pins s2 σ H2 (fun o H3 => o = none ∧ H3 = H2) I2 ⟨rfl, rfl⟩) fun vu s3 ⟨u, H3, I3, pu, eu, e3⟩ => ?_
  subst eu e3
  refine thn (hst.run pins s3 σ H3 (fun o H4 => o = some (-1) ∧ H4 = H3) I3 ⟨1, rfl, -1, rfl, rfl, rfl⟩) fun vs s4 ⟨o, H4, I4, ps, eo, e4⟩ => ?_
  subst eo e4
  have I5 : Inv X pins σ H4 { s4 with heap := s4.heap.push { cls := .type "slice", data := .fields #[vl, vu, vs] } } := I4.kept (t' := s4.toks) fun b ob q => Heap.get?_push_of_some _ q
  cases pl
  cases pu
  obtain ⟨tk, rfl⟩ : ∃ t, vs = Value.int (-1) t := by
    cases ps
    exact ⟨_, rfl⟩
  obtain ⟨its, r, ht, hz⟩ := I5.tuple hx
  have hlen := r.length
  refine tail_any (ops := [.ref a, .ref s4.heap.objs.size]) ht.typeIs (PyProof.Rows.slot_tuple_getitem.lookup) ?_ (by with_unfolding_all rfl)
  refine getItem_rev ht (Heap.IsSliceOf.new _ .none .none (.int (-1) tk)) ?_ (by rw [List.size_toArray]; omega)
  refine ⟨.ref _, _, I5.laid (t' := s4.toks) (o := .tup xs.reverse) (fun b ob q => Heap.get?_push_of_some _ q) (Nat.le_refl _) ?_, rfl, q _ (I5.hok.fresh (Nat.le_refl _))⟩
  exact ⟨by rw [List.length_reverse]; exact hz, _, r.reverse, IsTup.new _ _⟩
end
end TW

/-! from W0b -/
set_option maxRecDepth 100000
set_option maxHeartbeats 4000000
/-! dict comprehensions whose keys are ints, texts or tuples of them; stored into a local name, too -/
namespace TW
open PySem PySem.Spec PyProof.Rows L2 Evl

theorem put_of {X : Cx} {pins : List (Addr × Obj)} {σ : L2.St} {H Hn : Hp} {s : Shared} {E : Value → Shared → Prop} {c : Addr} {y v : V} {u r : Value} {Q : Unit → Shared → Prop}
    (hu : X.A.units + 1 < cLine) (I : L2.Inv X pins σ H s) (g : DPut H c y v Hn) (ry : RelV y u) (rv : RelV v r) (go : ∀ s', L2.Inv X pins σ Hn s' → Q () s') : wpAny (model X.prog X.w) X.A (dictSet c u r) Q E s := by
  rcases g with ⟨kvs, k, hc, ey, hl, en⟩ | ⟨kvs, k, b, hc, ey, hb, hl, en⟩
  · rw [ey] at ry
    rw [en] at go
    exact d_dictSet I hc hl ry rv go
  · rw [ey] at ry
    rw [en] at go
    have eu : u = Value.ref b := ry
    rw [eu]
    obtain ⟨_, hsys, xs, rl, hdct⟩ := dt_of I.hok hc
    have small : xs.length ≤ sizeLine := (Paired.length rl) ▸ Nat.le_of_lt hl
    refine wpAny_dictSet_heap (hsz := small) (show (tupleKind (mixKind X.prog X.w)).room X.A by show X.A.units < cLine; omega) (key_of I.hok hb) hdct fun hp newD keepD => go _ ?_
    obtain ⟨ob, es, ep, g1, g2, g3, g4, _, g6⟩ := newD
    refine d_write I (by rw [hc]; trivial) keepD ⟨ob, g1⟩ ⟨Nat.le_trans (length_putK kvs k v) hl, hsys, _, (rl.put k hb rv).keeps fun t ys et => (upd_ne (ne_of et hc (fun z => nomatch z))).trans et, ob, es, ep, g1, g2, g3, g4, g6⟩

section
variable {X : Cx}
/-- {key: value for target in walk if ..}: the new dict begins as o0 (its keys ints and texts, or tuples of them) -/
def tDg (o0 : HO) (wi : L2.TI) (g : TG) (tt : TT) (tk tv : TE) (own : List Nat) : TE := fun σ H Q => wi σ H fun J Ha => ∀ dd, Ha dd = none → ∃ Wd : Nat → Nat → Hp → Prop, (∃ m, Wd 0 m (upd Ha dd o0)) ∧
  ∀ i m Hb, Wd i m Hb → (J.stop i Hb ∧ Q (.ref dd) Hb) ∨ (J.go i Hb ∧ ∃ Nx : Hp → Prop, (∀ Hc, Nx Hc → ∃ m', m' < m ∧ Wd (i + 1) m' Hc) ∧
    ∀ x Hc, J.yld i Hb x Hc → g x (wipe σ own) Hc fun σ2 Hd => wipe σ2 own = wipe σ own ∧ tt σ2 Hd fun b He => if b = true then tk σ2 He fun y Hf => tv σ2 Hf fun z Hg => ∃ Hh, DPut Hg dd y z Hh ∧ Nx Hh else Nx He)
def Empt (P : Program) (w : World) (o0 : HO) : Prop := ∀ (H : Hp) (h : Heap), sysModules < h.objs.size → ObjOk P w H (h.push { cls := .type "dict", data := .dict #[] }) h.objs.size o0
theorem dg_core {o0 : HO} (h0 : Empt X.prog X.w o0) (hu : X.A.units + 1 < cLine) {pins : List (Addr × Obj)} {s : Shared} {σ : L2.St} {H : Hp} {Q : VK} {kx vx tg iter : Expr} {ifs : List Expr} {scope : Scope} {own : List (Str × Nat)} {pos pos' : Pos} {wi : L2.TI} {g : TG} {tt : TT} {tk tv : TE} {use : Option (Value → Sem Unit)} {Qf : Value → Shared → Prop}
    (calm : X.calm = true) (nodup : X.N.Nodup) (I : L2.Inv X pins σ H s) (walk : PI X tg iter wi) (blk : BlkOk X.N X.env.scope scope own)
    (rg : ∀ (s : Shared) (H : Hp) (C : Addr) (cl : List (Str × Addr)) (fp : List Addr), PG (X.blk s H scope (compEnvC scope cl C X.env) fp) tg g)
    (rt : ∀ (s : Shared) (H : Hp) (C : Addr) (cl : List (Str × Addr)) (fp : List Addr), PTs (X.blk s H scope (compEnvC scope cl C X.env) fp) ifs tt)
    (rk : ∀ (s : Shared) (H : Hp) (C : Addr) (cl : List (Str × Addr)) (fp : List Addr), PE (X.blk s H scope (compEnvC scope cl C X.env) fp) kx tk)
    (rv : ∀ (s : Shared) (H : Hp) (C : Addr) (cl : List (Str × Addr)) (fp : List Addr), PE (X.blk s H scope (compEnvC scope cl C X.env) fp) vx tv)
    (fold : ∀ x, foldedSetIterable iter X.env x = pure x) (h : tDg o0 wi g tt tk tv (own.map (·.2)) σ H Q)
    (fin : ∀ D C s' m H', L2.Inv X pins σ H' s' → Q (.ref D) H' → s'.heap.Ns C m → FpOk X pins H' C → compPost (model X.prog X.w) X.A X.xe use Qf (.ref D) C (.ok .next) s') :
    wpAny (model X.prog X.w) X.A (comprehension (.DictComp kx vx [⟨tg, iter, ifs, 0⟩] scope pos) scope X.env pos' newDict false (eval iter X.env) use) Qf X.xe s := by
  have caught : ∀ y ∈ scope.names, y.2 = .free → ∃ c, X.env.cells.lookup y.1 = some c := fun y hy e => (blk.free y hy e).elim (fun k => I.ok.has _ (.inl k)) (fun k => I.ok.has _ (.inr k))
  refine wpAny_comprehension_free (use := use) rfl fold (closure_ok caught) blk.kind (fun y hy e => by rw [blk.uniq y hy, e]) (thn (walk.run pins s σ H _ I h) fun xv sa hx => thn hx fun itv sb hb => ?_)
  obtain ⟨it, fp, tn, J, Ha, e, Ia, T, sta, fa, q⟩ := hb
  subst e
  refine wpAny_newObj_type (newEnv_comp ?_)
  generalize hD : sb.heap.objs.size = dd
  have fresh : Ha dd = none := Ia.hok.fresh (Nat.le_of_eq hD)
  obtain ⟨Wd, ⟨m0, w0⟩, turn⟩ := q dd fresh
  -- the dict is laid
  generalize hsc : ({ sb with heap := sb.heap.push { cls := .type "dict", data := .dict #[] } } : Shared) = sc
  have Ic : L2.Inv X pins σ (upd Ha dd o0) sc := by
    rw [← hsc]
    refine Ia.laid (t' := sb.toks) (fun b o e => Heap.get?_push_of_some _ e) (Nat.le_of_eq hD) (hD ▸ h0 _ sb.heap Ia.big)
  have heapc : sc.heap = sb.heap.push { cls := .type "dict", data := .dict #[] } := by rw [← hsc]
  have below : ∀ b ∈ fp, b < sb.heap.objs.size := fun b hb => let ⟨_, e, _⟩ := T.obj _ _ sta b hb; Heap.lt_size e
  have fc : ∀ b ∈ fp, FpOk X pins (upd Ha dd o0) b ∧ b < sc.heap.objs.size := fun b hb => by
    have lt := below b hb
    exact ⟨⟨(upd_ne (hD ▸ Nat.ne_of_lt lt)).trans (fa b hb).1, (fa b hb).2⟩, by rw [heapc, Heap.size_push]; exact Nat.lt_succ_of_lt lt⟩
  have stc : tn 0 sc.heap := T.keep _ _ _ sta fun b _ o e => by rw [heapc]; exact Heap.get?_push_of_some _ e
  have Id := block_start Ic blk nodup fc
  have pg := rg sc (upd Ha dd o0) sc.heap.objs.size (cellsFrom (sc.heap.objs.size + 1) scope.names (cloFrom X.env.cells scope.names [])) fp
  have pt := rt sc (upd Ha dd o0) sc.heap.objs.size (cellsFrom (sc.heap.objs.size + 1) scope.names (cloFrom X.env.cells scope.names [])) fp
  have pk := rk sc (upd Ha dd o0) sc.heap.objs.size (cellsFrom (sc.heap.objs.size + 1) scope.names (cloFrom X.env.cells scope.names [])) fp
  have pvv := rv sc (upd Ha dd o0) sc.heap.objs.size (cellsFrom (sc.heap.objs.size + 1) scope.names (cloFrom X.env.cells scope.names [])) fp
  show codeAny _ _ (.compStart (.DictComp kx vx [⟨tg, iter, ifs, 0⟩] scope pos) 0 (.ref it) (.ref dd) (compEnvC scope (cellsFrom (sc.heap.objs.size + 1) scope.names (cloFrom X.env.cells scope.names [])) sc.heap.objs.size X.env)) (compPost (model X.prog X.w) X.A X.xe use Qf (.ref dd) sc.heap.objs.size) { sc with heap := pushCells (sc.heap.push { cls := .type "dict", data := .dict #[] }) scope.names }
  have none0 : ∀ b ∈ fp, (upd Ha dd o0) b = none := fun b hb => (fc b hb).1.1
  generalize henv : compEnvC scope (cellsFrom (sc.heap.objs.size + 1) scope.names (cloFrom X.env.cells scope.names [])) sc.heap.objs.size X.env = ev at Id pg pt pk pvv ⊢
  have evL : ev.locals = sc.heap.objs.size := by rw [← henv] <;> rfl
  generalize hHc : upd Ha dd o0 = Hc at Ic Id pg pt pk pvv w0 none0 fc
  generalize hsd : ({ sc with heap := pushCells (sc.heap.push { cls := .type "dict", data := .dict #[] }) scope.names } : Shared) = sd at Id ⊢
  have std : tn 0 sd.heap := T.keep _ _ _ stc fun b _ o e => by rw [← hsd]; exact pushCells_keeps _ _ _ _ (Heap.get?_push_of_some _ e)
  have stays : ∀ {σ' : L2.St} {H' : Hp} {s' : Shared}, L2.Inv (X.blk sc Hc scope ev fp) [] σ' H' s' → (∀ b ∈ fp, H' b = none) → ∀ b ∈ fp, FpOk (X.blk sc Hc scope ev fp) [] H' b := fun {σ' H' s'} I' hn b hb =>
    ⟨hn b hb, (I'.ok.exf b hb).1, I'.ok.exfs b hb, .inl hb, fun x c e => (I'.ok.exf b hb).2 x c e, fun p hp => absurd (show p ∈ ([] : List (Addr × Obj)) ++ [] from hp) (by simp)⟩
  refine codeAny_compStart_dict (?loop : codeAny (model X.prog X.w) X.A (.compLoop (.DictComp kx vx [⟨tg, iter, ifs, 0⟩] scope pos) 0 (.ref it) (.ref dd) ev) (compPost (model X.prog X.w) X.A X.xe use Qf (.ref dd) sc.heap.objs.size) sd) (T.self X.A 0 _ _ _ std ?loop)
  refine compLoop_anyD (fun n s' => ∃ i H', L2.Inv (X.blk sc Hc scope ev fp) [] (wipe σ (own.map (·.2))) H' s' ∧ tn i s'.heap ∧ (∀ b ∈ fp, H' b = none) ∧ Wd i n H') ?_ m0 ⟨0, Hc, Id, std, none0, w0⟩
  rintro n se ⟨i, He, Ie, ste, ne, we⟩
  rcases turn i n He we with ⟨stop, qq⟩ | ⟨go, Nx, hNx, step⟩
  · refine thnF (T.done (X.blk sc Hc scope ev fp) rfl rfl rfl calm i [] se _ He (fun _ _ => False) Ie (stays Ie ne) ste stop) fun r sf ⟨hr, If⟩ => ?_
    subst hr
    have back : L2.Inv X pins σ He sf := Ic.call' (ch := fp) If.os If.base If.hok If.bare fun b hb => let z := (fc b hb).1.2; ⟨z.2.2.1, z.1, z.2.2.2.1, z.2.2.2.2⟩
    have nC : He sc.heap.objs.size = none := evL ▸ (show He ev.locals = none from If.free)
    obtain ⟨m, hn, _⟩ := If.loc
    exact fin dd sc.heap.objs.size sf m He back qq (evL ▸ (show sf.heap.Ns ev.locals m from hn)) (Ic.fpOk (Nat.le_refl _) nC)
  · refine thnF (T.item (X.blk sc Hc scope ev fp) rfl rfl rfl calm i [] se _ He (fun _ _ => False) Ie (stays Ie ne) ste go) fun r sf ⟨u, hr, hf⟩ => ?_
    subst hr
    refine thnF hf fun _ sg ⟨x, Hg, Ig, rx, yx, stg, ng⟩ => ?_
    have pinned := Ig.pinned (stays Ig ng) (T.obj _ _ stg)
    refine thnF (pg.run _ sg _ Hg x u _ pinned rx (step x Hg yx)) fun _ sh ⟨σh, Hh, Ih, hw, qh⟩ => ?_
    refine thnF (pt.run _ sh σh Hh _ Ih qh) fun b si ⟨Hi, Ii, qi⟩ => ?_
    have turned : ∀ {s' : Shared} {H' : Hp}, L2.Inv (X.blk sc Hc scope ev fp) ([] ++ pinsAt fp sg.heap) σh H' s' → Nx H' → ∃ m, m < n ∧ ∃ i H', L2.Inv (X.blk sc Hc scope ev fp) [] (wipe σ (own.map (·.2))) H' s' ∧ tn i s'.heap ∧ (∀ b ∈ fp, H' b = none) ∧ Wd i m H' := fun {s' H'} I' nx => by
      obtain ⟨m', hm, w'⟩ := hNx H' nx
      have held : ∀ b ∈ fp, ∀ o, sg.heap.get? b = some o → s'.heap.get? b = some o ∧ H' b = none := fun b hb o e => let z := I'.pin (b, o) (List.mem_append_right _ (List.mem_append_right _ (mem_pinsAt hb e))); ⟨z.1, z.2.1⟩
      refine ⟨m', hm, i + 1, H', (I'.unpinned (pins := [])).weak (by rw [← hw, wipe_length]) (fun j v e => (wipe_some (hw.symm ▸ e)).1), T.keep _ _ _ stg fun b hb o e => (held b hb o e).1, fun b hb => let ⟨o, e, _⟩ := T.obj _ _ stg b hb; (held b hb o e).2, w'⟩
    cases b with
    | false => exact turned Ii (by simpa using qi)
    | true =>
      have qi' : tk σh Hi fun y Hf => tv σh Hf fun z Hg => ∃ Hh, DPut Hg dd y z Hh ∧ Nx Hh := by simpa using qi
      simp only [if_true]
      refine thnF (pk.run _ si σh Hi _ Ii qi') fun z sj ⟨yk, Hj, Ij, rj, qj⟩ => thnF (pvv.run _ sj σh Hj _ Ij qj) fun z2 sk ⟨yv, Hk, Ik, rk2, Hl, put, nx⟩ => ?_
      exact put_of (X := X.blk sc Hc scope ev fp) hu Ik put rj rk2 fun sl Il => turned Il nx
/-- as a value -/
theorem pe_dg {o0 : HO} (h0 : Empt X.prog X.w o0) (hu : X.A.units + 1 < cLine) {kx vx tg iter : Expr} {ifs : List Expr} {scope : Scope} {own : List (Str × Nat)} {pos : Pos} {wi : L2.TI} {g : TG} {tt : TT} {tk tv : TE} (calm : X.calm = true) (nodup : X.N.Nodup) (walk : PI X tg iter wi) (blk : BlkOk X.N X.env.scope scope own)
    (rg : ∀ (s : Shared) (H : Hp) (C : Addr) (cl : List (Str × Addr)) (fp : List Addr), PG (X.blk s H scope (compEnvC scope cl C X.env) fp) tg g)
    (rt : ∀ (s : Shared) (H : Hp) (C : Addr) (cl : List (Str × Addr)) (fp : List Addr), PTs (X.blk s H scope (compEnvC scope cl C X.env) fp) ifs tt)
    (rk : ∀ (s : Shared) (H : Hp) (C : Addr) (cl : List (Str × Addr)) (fp : List Addr), PE (X.blk s H scope (compEnvC scope cl C X.env) fp) kx tk)
    (rv : ∀ (s : Shared) (H : Hp) (C : Addr) (cl : List (Str × Addr)) (fp : List Addr), PE (X.blk s H scope (compEnvC scope cl C X.env) fp) vx tv)
    (fold : ∀ x, foldedSetIterable iter X.env x = pure x := by intro _; rfl) : PE X (.DictComp kx vx [⟨tg, iter, ifs, 0⟩] scope pos) (tDg o0 wi g tt tk tv (own.map (·.2))) := by
  refine ⟨fun pins s σ H Q I h => ?_⟩
  rw [arm_eval_DictComp]
  refine dg_core h0 hu calm nodup I walk blk rg rt rk rv fold h fun D C s' m H' I' q hn f => ⟨m, hn, fun h2 sb => ?_⟩
  obtain ⟨g0, g1, g2, g3, g4, g5⟩ := f
  exact ⟨.ref D, H', I'.turned (t' := s'.toks) (fun b o hb e => (sb.2 b hb).trans e) g0 g1 g3 g4 g5, rfl, q⟩
/-- name = {..} on one line, the name a local -/
theorem ps_setDg {o0 : HO} (h0 : Empt X.prog X.w o0) (hu : X.A.units + 1 < cLine) {i : Nat} {y : Str} {py : Pos} {kx vx tg iter : Expr} {ifs : List Expr} {scope : Scope} {own : List (Str × Nat)} {pos spos : Pos} {wi : L2.TI} {g : TG} {tt : TT} {tk tv : TE} (calm : X.calm = true) (nodup : X.N.Nodup)
    (hy : X.N[i]? = some y) (hloc : X.env.scope.names.lookup y = some .local) (swaps : swapsWith (.DictComp kx vx [⟨tg, iter, ifs, 0⟩] scope pos) (some (.Name y py)) spos.line X.env = pure true) (walk : PI X tg iter wi) (blk : BlkOk X.N X.env.scope scope own)
    (rg : ∀ (s : Shared) (H : Hp) (C : Addr) (cl : List (Str × Addr)) (fp : List Addr), PG (X.blk s H scope (compEnvC scope cl C X.env) fp) tg g)
    (rt : ∀ (s : Shared) (H : Hp) (C : Addr) (cl : List (Str × Addr)) (fp : List Addr), PTs (X.blk s H scope (compEnvC scope cl C X.env) fp) ifs tt)
    (rk : ∀ (s : Shared) (H : Hp) (C : Addr) (cl : List (Str × Addr)) (fp : List Addr), PE (X.blk s H scope (compEnvC scope cl C X.env) fp) kx tk)
    (rv : ∀ (s : Shared) (H : Hp) (C : Addr) (cl : List (Str × Addr)) (fp : List Addr), PE (X.blk s H scope (compEnvC scope cl C X.env) fp) vx tv)
    (fold : ∀ x, foldedSetIterable iter X.env x = pure x := by intro _; rfl) : PS X (.Assign [.Name y py] (.DictComp kx vx [⟨tg, iter, ifs, 0⟩] scope pos) spos) (tAsg (tDg o0 wi g tt tk tv (own.map (·.2))) (gName i)) := by
  refine ⟨fun pins s σ H D I h => ?_⟩
  rw [exec_Assign_Name_used _ _ _ _ swaps]
  refine wpAny_bind (wpAny_standAt (wpAny_bind ?_))
  show wpAny _ X.A (do let _ ← comprehension (.DictComp kx vx [⟨tg, iter, ifs, 0⟩] scope pos) scope X.env (firstIterPos [⟨tg, iter, ifs, 0⟩] pos) newDict false (eval iter X.env) (some (assign (.Name y py) X.env))) _ _ s
  have hq : tDg o0 wi g tt tk tv (own.map (·.2)) σ H (fun x Ha => gName i x σ Ha D.nx) := h
  refine wpAny_bind (thn (dg_core (Qf := fun _ s' => SP X pins D .next s') h0 hu calm nodup I walk blk rg rt rk rv fold hq fun dd C s' m H' I' q hn f => ?_) fun _ s' z => wpAny_pure (wpAny_pure z))
  show wpAny _ _ (assign (.Name y py) X.env (.ref dd)) _ _ _
  refine wpAny_assign_Name (store_ok2 (v := V.ref dd) I' nodup hy (.inl hloc) rfl (fun sx Ix ⟨a, sb, ha⟩ => ?_) (.inr hloc))
  obtain ⟨g0, g1, g2, g3, g4, g5⟩ := f
  have apart : C ≠ a := ha.elim (fun z => z ▸ g1) (fun z => fun e => g4 y a z e.symm)
  exact ⟨m, hn.sameBut sb apart, fun h3 sb3 => ⟨_, H', Ix.turned (t' := sx.toks) (fun b o hb e => (sb3.2 b hb).trans e) g0 g1 g3 g4 g5, q⟩⟩
theorem swd_true {kx vx : Expr} {gs : List Comprehension} {scope : Scope} {pos py : Pos} {y : Str} {l : Nat} {env : Env} (hk : env.scope.kind = .function) (hy : env.scope.names.lookup y = some .local) (hl : (py.line == pos.line) = true)
    (ha : (scope.names.any fun (n, k) => n == y && (k == .local || k == .cell)) = false) : swapsWith (.DictComp kx vx gs scope pos) (some (.Name y py)) l env = pure true := by
  have k1 : env.kindOf y = some .local := hy
  have k2 : env.blockKind = .function := by unfold Env.blockKind; rw [hk] <;> rfl
  unfold swapsWith
  simp only [k2, k1, ha, Expr.pos, hl]
  rfl
theorem empt_k {P : Program} {w : World} : Empt P w (.dK []) := fun _ h hb => dk_empty h hb
theorem empt_t {P : Program} {w : World} : Empt P w (.dT []) := fun _ h hb => dt_empty h hb
end
end TW

/-! from W1 -/
set_option maxRecDepth 100000
set_option maxHeartbeats 4000000
namespace TW
open PySem PySem.Spec PyProof.Rows L2 Evl

/-! ### what the top has: the text, the names -/
def topS (i : Nat) : Stmt := PySem.Challenge.pw_turnedrows_k25_whole_closed_turns_none_f.main.body.getD i (.Pass ⟨0, 0, 0, 0⟩)
def Dfn (K : PySem.W.Frag) (mg : Str → Option Value) (x : Str) (st : Stmt) : Prop :=
  ∃ f fd, FunD K x x (defArgs st) (defBody st) (defScope st) [] [] f fd ∧ mg x = some (.ref f)
/-- the built-in names are free, the constants stand -/
structure Bi (mg : Str → Option Value) : Prop where
  b_abs : mg "abs" = none
  b_any : mg "any" = none
  b_bool : mg "bool" = none
  b_int : mg "int" = none
  b_isi : mg "isinstance" = none
  b_len : mg "len" = none
  b_list : mg "list" = none
  b_max : mg "max" = none
  b_min : mg "min" = none
  b_range : mg "range" = none
  b_sorted : mg "sorted" = none
  b_tuple : mg "tuple" = none
  c40 : ∃ t, mg "MOST_PIECES" = some (.int 40 t)
  c12 : ∃ t, mg "MOST_FOR_SCRIPTS" = some (.int 12 t)
/-- a def that may be called by its name -/
def Cl (P : Program) (w : World) (K : PySem.W.Frag) (mg : Str → Option Value) (base : Heap) (k : Nat) (x : Str) (sp : Sp) : Prop :=
  ∃ f fd ps, FnOk P w K mg base CX0 k f fd ps sp ∧ mg x = some (.ref f) ∧ PySem.W.keepIn K (.ref f) = true ∧ Binds K fd ps []
section
variable {P : Program} {w : World} {K : PySem.W.Frag} {mg : Str → Option Value} {base : Heap}
theorem cl_of {x : Str} {st : Stmt} {N ps : List Str} {k : Nat} {sp : Sp} (D : Dfn K mg x st) (S : FnScope N ps (defScope st))
    (hb : ∀ (kV doc pm : Value) (an : Option Addr) (cdv ct : Value) (us : List Value), us.length = ps.length → bindArgs (PySem.W.fnOf x x (defArgs st) (defBody st) (defScope st) .none kV doc pm an cdv ct) ⟨us, []⟩ = pure (ps.zip us))
    (len : ∀ vs H Q E, sp vs H Q E → vs.length = ps.length)
    (body : ∀ (f : Addr) (cdv : Value) (A : Around) (outer : List Env) (s : Shared) (H : Hp) (vs : List V) (Q : VK) (E : XK), Room k (A.deeper (envOfC x (defScope st) s.heap.objs.size f cdv)) → sp vs H Q E →
      ∃ t, PSs (cxOf CX0 P w K mg base N x (defScope st) f cdv A outer s H E).nox (defBody st) t ∧ t { nx := fun _ H' => Q .non H', rt := Q } (start N vs) H) : Cl P w K mg base (k + 1) x sp := by
  obtain ⟨f, fd, F, g⟩ := D
  refine ⟨f, fd, ps, F.ok S len fun cdv A outer s H vs Q E hr h => ?_, g, F.kp, F.bindsN hb⟩
  obtain ⟨t, h1, h2⟩ := body f cdv A outer s H vs Q E hr h
  exact ⟨t, h1.nox, h2⟩
end
section
variable {X : Cx} {x : Str} {k j : Nat} {sp : Sp} {e : Expr} {es : List Expr} {t : TA} {p pos : Pos}
theorem pe_cl (c : Cl X.prog X.w X.K X.mg X.base k x sp) (hr : Room j X.A) (hk : k ≤ j) (hg : Gl X x) (ha : PA X (e :: es) t)
    (hdb : (x == ("__debug__" : Str)) = false := by decide) (he : starEach (e :: es) X.env = (false, eval e X.env) :: starEach es X.env := by rfl) (hpl : (backTo pos (starEach es X.env)).any (·.1) = false := by rfl) :
    PE X (.Call (.Name x p) (e :: es) [] pos) (tCall sp [] E0 t) := by
  obtain ⟨f, fd, ps, F, hm, kp, b⟩ := c
  exact pe_call F (hr.mono hk) hg hm kp b .nil pass0 ha hdb he hpl
end

/-! ### rows of ints, at an address -/
/-- a tuple of ints -/
def TI (H : Hp) (v : V) (r : List Int) : Prop := ∃ a, v = .ref a ∧ H a = some (.tup (r.map V.int))
theorem TI.ex {H H' : Hp} {v : V} {r : List Int} (h : TI H v r) (e : Ex H H') : TI H' v r := by
  obtain ⟨a, rfl, h⟩ := h
  exact ⟨a, rfl, e a _ h⟩
theorem TI.new {H : Hp} {p : Addr} {r : List Int} (h : H p = some (.tup (r.map V.int))) : TI H (.ref p) r := ⟨p, rfl, h⟩
def RetT (H : Hp) (Q : VK) (r : List Int) : Prop := ∀ v H', Ex H H' → TI H' v r → Q v H'

/-! ### readings, forward -/
section
variable {K : PySem.W.Frag} {σ : L2.St} {H : Hp}
/-- the term gives some v with this of it -/
def Yl (te : TE) (σ : L2.St) (H : Hp) (Φ : V → Hp → Prop) : Prop := ∀ R : VK, (∀ v H1, Ex H H1 → Φ v H1 → R v H1) → te σ H R
theorem y_var {i : Nat} {v : V} (h : σ[i]? = some (some v)) {Φ : V → Hp → Prop} (p : Φ v H) : Yl (tVar i) σ H Φ := fun R k => ⟨v, h, k v H (Ex.refl H) p⟩
/-- a slice of a tuple of ints -/
theorem y_slT {te : TE} {tl th : TO} {r : List Int} {lo hi : Option Int} (h : Yl te σ H fun v H1 => TI H1 v r) (h1 : ∀ H1, Ex H H1 → ∀ R, R lo H1 → tl σ H1 R) (h2 : ∀ H1, Ex H H1 → ∀ R, R hi H1 → th σ H1 R) {r' : List Int} (he : cutV (r.map V.int) lo hi = r'.map V.int) :
    Yl (tSl (rSlA K) te tl th) σ H fun v H1 => TI H1 v r' := fun R k => h _ fun v H1 e1 ⟨a, ev, ha⟩ => by
  subst ev
  refine h1 H1 e1 _ (h2 H1 e1 _ ⟨a, r.map V.int, rfl, st_of ha, fun hw => ?_, fun _ p hp => ?_⟩)
  · have : r.map V.int = r'.map V.int := by
      rw [← he]
      unfold cutV
      rw [hw.1, hw.2, List.drop_zero, Nat.sub_zero, List.take_length]
    exact k _ _ e1 ⟨a, rfl, by rw [← this]; exact ha⟩
  · exact k _ _ (e1.trans (Ex.new hp)) (TI.new (by rw [← he]; exact upd_same))
theorem po_n {R : Option Int → Hp → Prop} (h : R none H) : tNoPart σ H R := h
theorem po_v {te : TE} {i : Int} {R : Option Int → Hp → Prop} (h : te σ H fun x H1 => x = .int i ∧ H1 = H) (hm : ∀ (Q Q' : VK), (∀ v H1, Q v H1 → Q' v H1) → te σ H Q → te σ H Q') (hr : R (some i) H) : tPart te σ H R := by
  refine hm _ _ (fun v H1 q => ?_) h
  obtain ⟨rfl, rfl⟩ := q
  exact ⟨i, rfl, hr⟩
theorem y_cat {ta tb : TE} {r r' : List Int} (ha : Yl ta σ H fun v H1 => TI H1 v r) (hb : ∀ H1, Ex H H1 → Yl tb σ H1 fun v H2 => TI H2 v r') (hz : r.length + r'.length ≤ 100000) :
    Yl (tOp (rCatA K) ta tb) σ H fun v H1 => TI H1 v (r ++ r') := fun R k => ha _ fun v H1 e1 ⟨a, ev, ha⟩ => hb H1 e1 _ fun v2 H2 e2 ⟨b, ev2, hb⟩ => by
  subst ev ev2
  refine ⟨a, b, r.map V.int, r'.map V.int, rfl, rfl, st_of (e2 a _ ha), st_of hb, sz_of (by simp; omega), fun h0 => ?_, fun _ h0 => ?_, fun _ _ p hp => ?_⟩
  · have : r = [] := List.map_eq_nil_iff.mp h0
    subst this
    exact k _ _ (e1.trans e2) ⟨b, rfl, hb⟩
  · have : r' = [] := List.map_eq_nil_iff.mp h0
    subst this
    rw [List.append_nil] at k
    exact k _ _ (e1.trans e2) ⟨a, rfl, e2 a _ ha⟩
  · exact k _ _ ((e1.trans e2).trans (Ex.new hp)) (TI.new (by rw [List.map_append]; exact upd_same))
theorem y_rev {te : TE} {r : List Int} (h : Yl te σ H fun v H1 => TI H1 v r) : Yl (tRevT K te) σ H fun v H1 => TI H1 v r.reverse := fun R k => h _ fun v H1 e1 ⟨a, ev, ha⟩ =>
  ⟨a, r.map V.int, ev, st_of ha, fun p hp => k _ _ (e1.trans (Ex.new hp)) (TI.new (by rw [List.map_reverse]; exact upd_same))⟩
/-- tuple(x), x a new list of ints -/
theorem y_tupleL {r : List V → Hp → VK → Prop} {te : TE} {xs : List V} (hr : ∀ vs H Q, r vs H Q ↔ ∃ p ys, vs = [V.ref p] ∧ ((SqL K H p ys ∧ ∀ l, H l = none → Q (.ref l) (upd H l (.tup ys))) ∨ (SqT K H p ys ∧ Q (.ref p) H)))
    (h : Yl te σ H fun v H1 => ∃ D, v = .ref D ∧ H1 D = some (.lst xs)) : Yl (tCB r (tCons te tNil)) σ H fun v H1 => ∃ D, v = .ref D ∧ H1 D = some (.tup xs) := fun R k => h _ fun v H1 e1 ⟨D, ev, hD⟩ => by
  subst ev
  exact (hr _ _ _).mpr ⟨D, xs, rfl, .inl ⟨sq_of hD, fun l hl => k _ _ (e1.trans (Ex.new hl)) ⟨l, rfl, upd_same⟩⟩⟩
end

/-! ### one step into a reading -/
section
variable {K : PySem.W.Frag} {σ : L2.St} {H : Hp} {D : Ends}
theorem u_test {te : TE} {Q : Bool → Hp → Prop} (h : te σ H fun x H' => ∃ k, x = .bl k ∧ Q k H') : tTest te σ H Q := h
theorem u_op {r : R2} {ta tb : TE} {Q : VK} (h : ta σ H fun x H1 => tb σ H1 fun y H2 => r x y H2 Q) : tOp r ta tb σ H Q := h
theorem u_un {r : V → Hp → VK → Prop} {ta : TE} {Q : VK} (h : ta σ H fun x H1 => r x H1 Q) : tUn r ta σ H Q := h
theorem u_cb {r : List V → Hp → VK → Prop} {t : TA} {Q : VK} (h : t σ H fun vs H1 => r vs H1 Q) : tCB r t σ H Q := h
theorem u_cons {ta : TE} {tr : TA} {Q : List V → Hp → Prop} (h : ta σ H fun x H1 => tr σ H1 fun xs H2 => Q (x :: xs) H2) : tCons ta tr σ H Q := h
theorem u_call {sp : Sp} {E : XK} {t : TA} {Q : VK} (h : t σ H fun vs H1 => sp (vs ++ []) H1 Q E) : tCall sp [] E t σ H Q := h
theorem u_seq {t u : TS} (h : t { D with nx := u D } σ H) : tSeq t u D σ H := h
theorem u_set {i : Nat} {te : TE} (h : te σ H fun x H1 => D.nx (σ.set i (some x)) H1) : tAsg te (gName i) D σ H := h
theorem u_ret {te : TE} (h : te σ H D.rt) : tRet te D σ H := h
theorem u_drop {te : TE} (h : te σ H fun _ H1 => D.nx σ H1) : tDrop te D σ H := h
theorem u_if {tc : TT} {t u : TS} (h : tc σ H fun b H1 => if b = true then t D σ H1 else u D σ H1) : tIfS tc t u D σ H := h
theorem u_for {wi : L2.TI} {g : TG} {tb : TS} (h : wi σ H fun J H1 => ∃ W : Nat → Nat → L2.St → Hp → Prop, (∃ m, W 0 m σ H1) ∧ ∀ i m σ H, W i m σ H →
    (J.stop i H ∧ D.nx σ H) ∨ (J.go i H ∧ ∃ N : L2.St → Hp → Prop, (∀ σ' H', N σ' H' → ∃ m', m' < m ∧ W (i + 1) m' σ' H') ∧ ∀ x H', J.yld i H x H' → g x σ H' fun σ2 H2 => tb { D with nx := N, ct := N, bk := D.nx } σ2 H2)) : tFor wi g tb D σ H := h
end

/-! ### comprehensions -/
section
variable {K : PySem.W.Frag} {σ : L2.St} {H : Hp} {α : Type}
theorem take_ft {l : List α} {i : Nat} {x : α} (h : l[i]? = some x) (p : α → Bool) (F : α → V) :
    ((l.take (i + 1)).filter p).map F = if p x = true then ((l.take i).filter p).map F ++ [F x] else ((l.take i).filter p).map F := by
  rw [List.take_add_one, h, List.filter_append, List.map_append]
  cases hp : p x <;> simp [hp]
theorem ft_len (l : List α) (i : Nat) (p : α → Bool) (F : α → V) : (((l.take i).filter p).map F).length ≤ l.length := by
  rw [List.length_map]
  exact Nat.le_trans (List.length_filter_le _ _) (by rw [List.length_take]; omega)
/-- what a turn of a comprehension gives -/
def LcT (g : TG) (t : TT) (te : TE) (vs : List Nat) (σ : L2.St) (H1 : Hp) (l : List α) (G : α → V) (p : α → Bool) (F : α → V) : Prop :=
  ∀ x, x ∈ l → ∀ H', Ex H1 H' → ∀ R : L2.St → Hp → Prop, (∀ σ2 H2, wipe σ2 vs = wipe σ vs → Ex H' H2 → EvT t σ2 H2 (p x) → (p x = true → Ev te σ2 H2 (F x)) → R σ2 H2) → g (G x) (wipe σ vs) H' R
theorem lcTurn {g : TG} {t : TT} {te : TE} {vs : List Nat} {H1 : Hp} {l : List α} {G : α → V} {p : α → Bool} {F : α → V} (hs : LcT g t te vs σ H1 l G p F) (hz : l.length ≤ 40000) {D : Addr} {i : Nat} {x : α} (hx : l[i]? = some x) {H' : Hp}
    (hP : H1 D = none ∧ Ex H1 H' ∧ H' D = some (.lst (((l.take i).filter p).map F))) :
    g (G x) (wipe σ vs) H' fun σ2 H2 => wipe σ2 vs = wipe σ vs ∧ t σ2 H2 fun b H3 => if b = true then te σ2 H3 fun y H4 => ∃ acc, H4 D = some (.lst acc) ∧ acc.length < sizeLine ∧
      (H1 D = none ∧ Ex H1 (upd H4 D (.lst (acc ++ [y]))) ∧ (upd H4 D (.lst (acc ++ [y]))) D = some (.lst (((l.take (i + 1)).filter p).map F))) else (H1 D = none ∧ Ex H1 H3 ∧ H3 D = some (.lst (((l.take (i + 1)).filter p).map F))) := by
  obtain ⟨p1, p2, p3⟩ := hP
  refine hs x (List.mem_of_getElem? hx) H' p2 _ fun σ2 H2 hw e2 ht he => ⟨hw, ht H2 (Ex.refl H2) _ fun H3 e3 => ?_⟩
  rw [take_ft hx]
  cases hp : p x with
  | true =>
    rw [if_pos rfl, if_pos rfl]
    refine he hp H3 e3 _ fun H4 e4 => ⟨_, e4 D _ (e3 D _ (e2 D _ p3)), sz_lt (by have := ft_len l i p F; omega), p1, Ex.mut (((p2.trans e2).trans e3).trans e4) p1, upd_same⟩
  | false =>
    rw [if_neg Bool.false_ne_true, if_neg Bool.false_ne_true]
    exact ⟨p1, (p2.trans e2).trans e3, e3 D _ (e2 D _ p3)⟩
theorem y_lcT {tl : TE} {g : TG} {t : TT} {te : TE} {vs : List Nat} (l : List α) (G : α → V) (p : α → Bool) (F : α → V) (hz : l.length ≤ 40000) (hl : Yl tl σ H fun v H1 => ∃ a, v = .ref a ∧ SqT K H1 a (l.map G))
    (hs : ∀ H1, Ex H H1 → LcT g t te vs σ H1 l G p F) : Yl (tLc (iTup K tl) g t te vs) σ H fun v H1 => ∃ D, v = .ref D ∧ H D = none ∧ H1 D = some (.lst ((l.filter p).map F)) := fun R k => hl _ fun v H1 e1 ⟨a, ev, ha⟩ => by
  refine ⟨a, ev, ⟨_, ha⟩, fun D hD => lc_tup (xs := l.map G) (fun i H' => H1 D = none ∧ Ex H1 H' ∧ H' D = some (.lst (((l.take i).filter p).map F))) ⟨hD, Ex.new hD, upd_same⟩ (fun i H' _ q => ex_t q.2.1 ha) (fun i x H' hi q => ?_) fun H' q => ?_⟩
  · rw [List.getElem?_map] at hi
    obtain ⟨y, hy, rfl⟩ := Option.map_eq_some_iff.mp hi
    exact lcTurn (hs H1 e1) hz hy q
  · rw [List.length_map, List.take_length] at q
    exact k _ _ (e1.trans q.2.1) ⟨D, rfl, fresh_back e1 hD, q.2.2⟩
theorem y_lcL {tl : TE} {g : TG} {t : TT} {te : TE} {vs : List Nat} (l : List α) (G : α → V) (p : α → Bool) (F : α → V) (hz : l.length ≤ 40000) (hl : Yl tl σ H fun v H1 => ∃ a, v = .ref a ∧ SqL K H1 a (l.map G))
    (hs : ∀ H1, Ex H H1 → LcT g t te vs σ H1 l G p F) : Yl (tLc (iList K tl) g t te vs) σ H fun v H1 => ∃ D, v = .ref D ∧ H D = none ∧ H1 D = some (.lst ((l.filter p).map F)) := fun R k => hl _ fun v H1 e1 ⟨a, ev, ha⟩ => by
  refine ⟨a, ev, ⟨_, ha⟩, fun D hD => lc_list (xs := l.map G) (fun i H' => H1 D = none ∧ Ex H1 H' ∧ H' D = some (.lst (((l.take i).filter p).map F))) ⟨hD, Ex.new hD, upd_same⟩ (fun i H' _ q => ex_l q.2.1 ha) (fun i x H' hi q => ?_) fun H' q => ?_⟩
  · rw [List.getElem?_map] at hi
    obtain ⟨y, hy, rfl⟩ := Option.map_eq_some_iff.mp hi
    exact lcTurn (hs H1 e1) hz hy q
  · rw [List.length_map, List.take_length] at q
    exact k _ _ (e1.trans q.2.1) ⟨D, rfl, fresh_back e1 hD, q.2.2⟩
theorem y_lcR {ta : TA} {g : TG} {t : TT} {te : TE} {vs : List Nat} (n : Nat) (p : Nat → Bool) (F : Nat → V) (hz : n ≤ 40000) (hl : ∀ R, (∀ H1, Ex H H1 → R [V.int (n : Int)] H1) → ta σ H R)
    (hs : ∀ H1, Ex H H1 → LcT g t te vs σ H1 (List.range n) (fun i => V.int (i : Int)) p F) : Yl (tLc (iRng1 ta) g t te vs) σ H fun v H1 => ∃ D, v = .ref D ∧ H D = none ∧ H1 D = some (.lst (((List.range n).filter p).map F)) := fun R k => hl _ fun H1 e1 => by
  refine ⟨n, rfl, by omega, by omega, fun D hD => lc_range (lo := 0) (n := (n : Int).toNat) (fun i H' => H1 D = none ∧ Ex H1 H' ∧ H' D = some (.lst ((((List.range n).take i).filter p).map F))) ⟨hD, Ex.new hD, upd_same⟩ (fun i H' hi q => ?_) fun H' q => ?_⟩
  · have hi' : i < n := by omega
    have := lcTurn (hs H1 e1) (by rw [List.length_range]; exact hz) (List.getElem?_range hi') q
    rw [show (0 : Int) + (i : Int) = (i : Int) by omega]
    exact this
  · rw [Int.toNat_natCast, List.take_of_length_le (by rw [List.length_range]; exact Nat.le_refl _)] at q
    exact k _ _ (e1.trans q.2.1) ⟨D, rfl, fresh_back e1 hD, q.2.2⟩
/-- a target that is a name -/
theorem lc_name {t : TT} {te : TE} {vs : List Nat} {H1 : Hp} {l : List α} {G : α → V} {p : α → Bool} {F : α → V} {j : Nat} (hw : ∀ x : V, wipe ((wipe σ vs).set j (some x)) vs = wipe σ vs)
    (ht : ∀ x, x ∈ l → ∀ H', Ex H1 H' → EvT t ((wipe σ vs).set j (some (G x))) H' (p x)) (he : ∀ x, x ∈ l → ∀ H', Ex H1 H' → p x = true → Ev te ((wipe σ vs).set j (some (G x))) H' (F x)) : LcT (gName j) t te vs σ H1 l G p F :=
  fun x hx H' e R k => k _ H' (hw _) (Ex.refl H') (ht x hx H' e) (he x hx H' e)
theorem et_yes {σ : L2.St} {H : Hp} : EvT tYes σ H true := fun H1 _ _ q => q H1 (Ex.refl H1)
end
end TW

/-! from W2 -/
set_option maxRecDepth 100000
set_option maxHeartbeats 4000000
namespace TW
open PySem PySem.Spec PyProof.Rows L2 Evl

theorem iteF' {b : Bool} {A B : Prop} (h : b = false) (k : B) : if b = true then A else B := by rw [if_neg (by rw [h]; exact Bool.false_ne_true)]; exact k
theorem iteT' {b : Bool} {A B : Prop} (h : b = true) (k : A) : if b = true then A else B := by rw [if_pos h]; exact k
/-! ### data of ints -/
theorem all_ints (K : PySem.W.Frag) (H : Hp) : ∀ ns : List Int, DpAll K H (ns.map V.int) (ns.map PyData.int)
  | [] => .nil
  | n :: ns => .cons (.int n) (all_ints K H ns)
theorem eqv_ints : ∀ ns ms : List Int, PyData.eqvAll (ns.map PyData.int) (ms.map PyData.int) = decide (ns = ms)
  | [], [] => by simp [PyData.eqvAll]
  | [], m :: ms => by simp [PyData.eqvAll]
  | n :: ns, [] => by simp [PyData.eqvAll]
  | n :: ns, m :: ms => by
    rw [List.map_cons, List.map_cons, PyData.eqvAll, eqv_ints ns ms, PyData.eqv]
    by_cases h1 : n = m
    · by_cases h2 : ns = ms
      · simp [h1, h2]
      · simp [h1, h2]
    · simp [h1]
theorem lay_ints : ∀ ns : List Int, PyData.canLayAll0 (ns.map PyData.int) = true
  | [] => by simp [PyData.canLayAll0]
  | n :: ns => by simp [PyData.canLayAll0, PyData.canLay0, lay_ints ns]
theorem dep_ints : ∀ ns : List Int, PyData.depthAll (ns.map PyData.int) = 0
  | [] => by simp [PyData.depthAll]
  | n :: ns => by simp [PyData.depthAll, PyData.depth, dep_ints ns]
theorem shT (ns : List Int) : SeqAt.shaped (.tuple (ns.map PyData.int)) = true := by
  show ((PyData.tuple (ns.map PyData.int)).canLay0 && decide ((PyData.tuple (ns.map PyData.int)).depth ≤ 64)) = true
  rw [Bool.and_eq_true]
  refine ⟨by simp only [PyData.canLay0]; exact lay_ints ns, decide_eq_true ?_⟩
  simp only [PyData.depth, dep_ints]
  omega
theorem shL (ns : List Int) : SeqAt.shaped (.list (ns.map PyData.int)) = true := by
  show ((PyData.list (ns.map PyData.int)).canLay0 && decide ((PyData.list (ns.map PyData.int)).depth ≤ 64)) = true
  rw [Bool.and_eq_true]
  refine ⟨by simp only [PyData.canLay0]; exact lay_ints ns, decide_eq_true ?_⟩
  simp only [PyData.depth, dep_ints]
  omega
section
variable {K : PySem.W.Frag} {H : Hp} {x y : V} {ns ms : List Int} {Q : VK}
theorem eqT (hx : TI H x ns) (hy : TI H y ms) (q : Q (.bl (decide (ns = ms))) H) : rEqD K x y H Q := by
  obtain ⟨a, rfl, ha⟩ := hx
  obtain ⟨b, rfl, hb⟩ := hy
  refine ⟨_, _, .tup (st_of ha) (all_ints K H ns), .tup (st_of hb) (all_ints K H ms), shT ns, shT ms, ?_⟩
  rw [PyData.eqv, eqv_ints]
  exact q
theorem neT (hx : TI H x ns) (hy : TI H y ms) (q : Q (.bl (!decide (ns = ms))) H) : rNeD K x y H Q := by
  obtain ⟨a, rfl, ha⟩ := hx
  obtain ⟨b, rfl, hb⟩ := hy
  refine ⟨_, _, .tup (st_of ha) (all_ints K H ns), .tup (st_of hb) (all_ints K H ms), shT ns, shT ms, ?_⟩
  rw [PyData.eqv, eqv_ints]
  exact q
theorem neL {a b : Addr} (ha : SqL K H a (ns.map V.int)) (hb : SqL K H b (ms.map V.int)) (q : Q (.bl (!decide (ns = ms))) H) : rNeD K (.ref a) (.ref b) H Q := by
  refine ⟨_, _, .lst ha (all_ints K H ns), .lst hb (all_ints K H ms), shL ns, shL ms, ?_⟩
  rw [PyData.eqv, eqv_ints]
  exact q
end
theorem rg_srt (n : Nat) : rgV 1 ((n : Int) + 1) = (TR.srt n).map V.int := by
  unfold rgV TR.srt
  rw [show ((n : Int) + 1 - 1).toNat = n by omega, List.map_map]
  apply List.map_congr_left
  intro i _
  show V.int (1 + (i : Int)) = V.int ((i : Int) + 1)
  rw [Int.add_comm]

section
variable {P : Program} {w : World} {K : PySem.W.Frag} {mg : Str → Option Value} {base : Heap}

/-! ### sorted_row -/
theorem sc6 : FnScope ["n"] ["n"] (defScope (topS 6)) := ⟨rfl, rfl, rfl, by decide +kernel, rfl, by decide +kernel, by decide +kernel⟩
def spSorted (K : PySem.W.Frag) : Sp := fun vs H Q _ => ∃ n : Nat, vs = [.int (n : Int)] ∧ n ≤ 1000 ∧ RetT H Q (TR.srt n)
theorem cl_sorted (D : Dfn K mg "sorted_row" (topS 6)) (B : Bi mg) : Cl P w K mg base 1 "sorted_row" (spSorted K) := by
  refine cl_of (ps := ["n"]) D sc6 (fun _ _ _ _ _ _ us hl => match us, hl with | [_], _ => rfl) (fun vs H Q E h => by obtain ⟨n, rfl, _⟩ := h; rfl) fun f cdv A outer s H vs Q E hr h => ?_
  obtain ⟨n, rfl, hn, k⟩ := h
  refine ⟨_, pss_one (ps_ret (pe_tupRg rfl (by rfl) B.b_tuple (prg_2 (by rfl) B.b_range pe_int (pe_op op_add (pv 0) pe_int)))), ?_⟩
  refine ⟨_, rfl, _, _, rfl, rfl, _, _, rfl, rfl, .of_le (by omega) (by omega) (by omega) (by omega), fun q hq => ?_⟩
  exact k _ _ (Ex.new hq) (TI.new (by rw [← rg_srt]; exact upd_same))

/-! ### need_same_length -/
theorem sc7 : FnScope ["first", "second"] ["first", "second"] (defScope (topS 7)) := ⟨rfl, rfl, rfl, by decide +kernel, rfl, by decide +kernel, by decide +kernel⟩
def spNeed (K : PySem.W.Frag) : Sp := fun vs H Q _ => ∃ (a b : Addr) (r s : List Int), vs = [.ref a, .ref b] ∧ SqT K H a (r.map V.int) ∧ SqT K H b (s.map V.int) ∧ r.length = s.length ∧ ∀ v, Q v H
theorem cl_need (D : Dfn K mg "need_same_length" (topS 7)) (B : Bi mg) : Cl P w K mg base 1 "need_same_length" (spNeed K) := by
  refine cl_of (ps := ["first", "second"]) D sc7 (fun _ _ _ _ _ _ us hl => match us, hl with | [_, _], _ => rfl) (fun vs H Q E h => by obtain ⟨a, b, r, s, rfl, _⟩ := h; rfl) fun f cdv A outer s H vs Q E hr h => ?_
  obtain ⟨a, b, r, s, rfl, ha, hb, hl, k⟩ := h
  refine ⟨_, pss_one (ps_if (pt_cmpR op_ne (pe_callB call_len_seq (by rfl) B.b_len PySem.boot_len (pa_cons (pv 0) pa_nil)) (pe_callB call_len_seq (by rfl) B.b_len PySem.boot_len (pa_cons (pv 1) pa_nil)) (nomark _)) (pss_one ps_never) pss_nil), ?_⟩
  refine ⟨_, rfl, a, _, rfl, .inr ha, _, rfl, b, _, rfl, .inr hb, rfl, _, rfl, ?_⟩
  refine iteNS (by rw [List.length_map, List.length_map, hl]) (k _)

/-! ### check_signed -/
theorem sc9 : FnScope ["row", "n", "number"] ["row"] (defScope (topS 9)) := ⟨rfl, rfl, rfl, by decide +kernel, rfl, by decide +kernel, by decide +kernel⟩
def spCheck (K : PySem.W.Frag) : Sp := fun vs H Q _ => ∃ (a : Addr) (r : List Int), vs = [.ref a] ∧ SqT K H a (r.map V.int) ∧ TR.Sg r ∧ r.length ≤ 40 ∧ ∀ H', Ex H H' → Q (.ref a) H'
theorem perm_srt {ns : List Int} {r : List Int} (h : TR.Sg r) (hp : ns.Perm (r.map fun x => if x < 0 then -x else x)) (hs : ns.Pairwise (· ≤ ·)) : ns = TR.srt r.length := by
  have e : (r.map fun x => if x < 0 then -x else x) = (r.map Int.natAbs).map (fun n : Nat => (n : Int)) := by
    rw [List.map_map]
    apply List.map_congr_left
    intro x _
    show (if x < 0 then -x else x) = ((x.natAbs : Nat) : Int)
    split <;> omega
  have h2 : (TR.srt r.length).Perm (r.map fun x => if x < 0 then -x else x) := by
    rw [e]
    have := (List.Perm.map (fun n : Nat => (n : Int)) h).symm
    rw [List.map_map] at this
    exact this
  refine (hp.trans h2.symm).eq_of_pairwise (le := (· ≤ ·)) (fun a b _ _ h1 h2 => Int.le_antisymm h1 h2) hs ?_
  unfold TR.srt
  rw [List.pairwise_map]
  exact (List.pairwise_lt_range).imp fun h => by omega
theorem cl_check (D : Dfn K mg "check_signed" (topS 9)) (B : Bi mg) : Cl P w K mg base 1 "check_signed" (spCheck K) := by
  refine cl_of (ps := ["row"]) D sc9 (fun _ _ _ _ _ _ us hl => match us, hl with | [_], _ => rfl) (fun vs H Q E h => by obtain ⟨a, r, rfl, _⟩ := h; rfl) fun f cdv A outer s H vs Q E hr h => ?_
  obtain ⟨a, r, rfl, ha, hs, hl, k⟩ := h
  obtain ⟨t40, c40⟩ := B.c40
  refine ⟨_, pss_cons (ps_set (i := 1) sc9.nd rfl (.inl rfl) (pe_callB call_len_seq (by rfl) B.b_len PySem.boot_len (pa_cons (pv 0) pa_nil)))
    (pss_cons (ps_if (PW.pt (pw_or (pt_cmpR op_gt (pv 1) (pe_glob (v := .int 40) rfl c40 ⟨_, rfl⟩) (nomark _)) (pw_or1 (pt_cmpR (op_neD hr.units)
        (pe_callB cr_sortedI (by rfl) B.b_sorted (by decide +kernel) (pa_cons (pe_lc (own := [("number", 2)]) (g := gName 2) (tt := tYes) rfl sc9.nd (pi_tup (pv 0)) (blkOk_by (own := [("number", 2)]) (N := ["row", "n", "number"]) (sc := defScope (topS 9)) (by decide +kernel))
          (fun _ _ _ _ _ => pg_name (i := 2) sc9.nd rfl (.inl rfl)) (fun _ _ _ _ _ => pts_nil) (fun _ _ _ _ _ => pe_callB call_abs (by rfl) B.b_abs (by decide +kernel) (pa_cons (pv 2) pa_nil))) pa_nil))
        (pe_listRg rfl (by rfl) B.b_list (prg_2 (by rfl) B.b_range pe_int (pe_op op_add (pv 1) pe_int))) (nomark _))))) (pss_one ps_never) pss_nil)
    (pss_one (ps_ret (pv 0)))), ?_⟩
  refine ⟨_, rfl, a, _, rfl, .inr ha, ?_⟩
  rw [List.length_map]
  refine ⟨_, rfl, _, _, rfl, rfl, _, rfl, iteF' (decide_eq_false (by omega)) ?_⟩
  refine u_test (u_op (u_cb (u_cons (y_lcT r V.int (fun _ => true) (fun x => V.int (if x < 0 then -x else x)) (by omega) (y_var rfl ⟨a, rfl, ha⟩) (fun H1 e1 => lc_name (fun _ => by rfl) (fun _ _ _ _ => et_yes) fun x _ H' e _ H2 e2 Q2 q => ?_) _ fun v H1 e1 ⟨D, ev, hD, hD1⟩ => ?_))))
  · exact ⟨_, rfl, x, rfl, q H2 (Ex.refl _)⟩
  · subst ev
    rw [show (r.filter fun _ => true) = r from List.filter_eq_self.mpr fun _ _ => rfl] at hD1
    refine ⟨D, r.map fun x => if x < 0 then -x else x, rfl, sq_of (by rw [hD1, List.map_map]; rfl), fun ns p hp hs' hn => ?_⟩
    have e : ns = TR.srt r.length := perm_srt hs hp hs'
    refine ⟨_, rfl, _, _, rfl, rfl, _, _, rfl, rfl, .of_le (by omega) (by omega) (by omega) (by omega), fun q hq => ?_⟩
    have npq : p ≠ q := fun z => by rw [← z, upd_same] at hq; cases hq
    refine neL (ns := ns) (ms := TR.srt r.length) (sq_of ((upd_ne npq).trans upd_same)) (sq_of (by rw [← rg_srt]; exact upd_same)) ?_
    refine ⟨_, rfl, iteNS e ⟨_, rfl, k _ ?_⟩⟩
    exact (e1.trans (Ex.new hn)).trans (Ex.new hq)
end
end TW

/-! from W3 -/
set_option maxRecDepth 100000
set_option maxHeartbeats 4000000
namespace TW
open PySem PySem.Spec PyProof.Rows L2 Evl

theorem cut_ij {α : Type} (f : α → V) {r : List α} {i j : Nat} (h : i ≤ r.length) (h2 : j ≤ r.length) : cutV (r.map f) (some (i : Int)) (some (j : Int)) = ((r.drop i).take (j - i)).map f := by
  unfold cutV
  rw [HT.sIx_nat, HT.sIx_nat, List.length_map, Nat.min_eq_left h, Nat.min_eq_left h2, List.map_take, List.map_drop]
theorem cut_0j {α : Type} (f : α → V) {r : List α} {j : Nat} (h2 : j ≤ r.length) : cutV (r.map f) none (some (j : Int)) = (r.take j).map f := by
  unfold cutV
  rw [HT.sIx_none, HT.sIx_nat, List.length_map, Nat.min_eq_left h2, List.drop_zero, Nat.sub_zero, List.map_take]
theorem cut_i0 {α : Type} (f : α → V) {r : List α} {i : Nat} (h : i ≤ r.length) : cutV (r.map f) (some (i : Int)) none = (r.drop i).map f := by
  unfold cutV
  rw [HT.sIx_none, HT.sIx_nat, List.length_map, Nat.min_eq_left h, List.take_of_length_le (by rw [List.length_drop, List.length_map]; exact Nat.le_refl _), List.map_drop]
theorem succ_i (j : Nat) : (j : Int) + 1 = ((j + 1 : Nat) : Int) := by omega
theorem ft_all {α β : Type} (l : List α) (F : α → β) : ((l.filter fun _ => true).map F) = l.map F := by
  rw [List.filter_eq_self.mpr fun _ _ => rfl]

section
variable {P : Program} {w : World} {K : PySem.W.Frag} {mg : Str → Option Value} {base : Heap}

/-! ### turned -/
theorem sc10 : FnScope ["row", "i", "j", "stretch", "number"] ["row", "i", "j"] (defScope (topS 10)) := ⟨rfl, rfl, rfl, by decide +kernel, rfl, by decide +kernel, by decide +kernel⟩
def spTurned : Sp := fun vs H Q _ => ∃ (v : V) (r : List Int) (i j : Nat), vs = [v, .int (i : Int), .int (j : Int)] ∧ TI H v r ∧ r.length ≤ 1000 ∧ i ≤ j ∧ j < r.length ∧ RetT H Q (TR.tnr r i j)
theorem cl_turned (D : Dfn K mg "turned" (topS 10)) (B : Bi mg) : Cl P w K mg base 1 "turned" spTurned := by
  refine cl_of (ps := ["row", "i", "j"]) D sc10 (fun _ _ _ _ _ _ us hl => match us, hl with | [_, _, _], _ => rfl) (fun vs H Q E h => by obtain ⟨v, r, i, j, rfl, _⟩ := h; rfl) fun f cdv A outer s H vs Q E hr h => ?_
  obtain ⟨v, r, i, j, rfl, hv, hz, hij, hj, k⟩ := h
  refine ⟨_, pss_cons (ps_set (i := 3) sc10.nd rfl (.inl rfl) (pe_callTy call_tuple_of (by rfl) B.b_tuple (by decide +kernel) (pa_cons
      (pe_lc (own := [("number", 4)]) (g := gName 4) (tt := tYes) rfl sc10.nd (pi_tup (pe_slice sl_tupA (pv 0) (po_some (pv 1)) (po_some (pe_op op_add (pv 2) pe_int))))
        (blkOk_by (own := [("number", 4)]) (N := ["row", "i", "j", "stretch", "number"]) (sc := defScope (topS 10)) (by decide +kernel)) (fun _ _ _ _ _ => pg_name (i := 4) sc10.nd rfl (.inl rfl)) (fun _ _ _ _ _ => pts_nil) (fun _ _ _ _ _ => pe_un un_neg (pv 4))) pa_nil)))
    (pss_one (ps_ret (pe_op op_catA (pe_op op_catA (pe_slice sl_tupA (pv 0) po_none (po_some (pv 1))) (pe_revT (pv 3))) (pe_slice sl_tupA (pv 0) (po_some (pe_op op_add (pv 2) pe_int)) po_none)))), ?_⟩
  have c1 : cutV (r.map V.int) (some (i : Int)) (some ((j : Int) + 1)) = ((r.drop i).take (j + 1 - i)).map V.int := by rw [succ_i, cut_ij V.int (by omega) (by omega)]
  refine u_seq (u_set (u_cb (u_cons (y_lcT ((r.drop i).take (j + 1 - i)) V.int (fun _ => true) (fun x => V.int (-x)) (by simp; omega) ?_ ?_ _ fun v1 H1 e1 ⟨D, ev, hD, hD1⟩ => ?_))))
  · intro R k
    exact y_slT (y_var rfl hv) (fun H1 e R hR => ⟨_, rfl, _, rfl, hR⟩) (fun H1 e R hR => ⟨_, rfl, _, _, rfl, rfl, _, rfl, hR⟩) c1 _ fun v H1 e1 ⟨a, ev, ha⟩ => k _ _ e1 ⟨a, ev, st_of ha⟩
  · intro H1 e1
    refine lc_name (fun _ => by rfl) (fun _ _ _ _ => et_yes) fun x _ H' e _ H2 e2 Q2 q => ?_
    exact ⟨_, rfl, x, rfl, q H2 (Ex.refl _)⟩
  · subst ev
    rw [ft_all] at hD1
    refine ⟨D, _, rfl, .inl ⟨sq_of hD1, fun l hl => ?_⟩⟩
    have e2 : Ex H (upd H1 l (.tup (((r.drop i).take (j + 1 - i)).map fun x => V.int (-x)))) := e1.trans (Ex.new hl)
    have hstr : TI (upd H1 l (.tup (((r.drop i).take (j + 1 - i)).map fun x => V.int (-x)))) (.ref l) (((r.drop i).take (j + 1 - i)).map fun x => -x) := TI.new (by rw [upd_same, List.map_map]; rfl)
    generalize upd H1 l (.tup (((r.drop i).take (j + 1 - i)).map fun x => V.int (-x))) = H2 at e2 hstr ⊢
    have t1 : (r.take i).length ≤ 1000 := by rw [List.length_take]; omega
    have t2 : (TR.fl ((r.drop i).take (j + 1 - i))).length ≤ 1000 := by rw [TR.fl_len, List.length_take, List.length_drop]; omega
    have t3 : (r.drop (j + 1)).length ≤ 1000 := by rw [List.length_drop]; omega
    refine u_ret (y_cat (r := r.take i ++ TR.fl ((r.drop i).take (j + 1 - i))) (r' := r.drop (j + 1)) (y_cat (y_slT (y_var rfl (hv.ex e2)) (fun H1 e R hR => hR) (fun H1 e R hR => ⟨_, rfl, _, rfl, hR⟩) (cut_0j V.int (by omega))) (fun H3 e3 => y_rev (y_var rfl (hstr.ex e3))) ?_)
      (fun H3 e3 => y_slT (y_var rfl (hv.ex (e2.trans e3))) (fun H1 e R hR => ⟨_, rfl, _, _, rfl, rfl, _, rfl, hR⟩) (fun H1 e R hR => hR) (by rw [succ_i, cut_i0 V.int (by omega)])) ?_ _ fun v H3 e3 h3 => k v H3 (e2.trans e3) h3)
    · exact Nat.le_trans (Nat.add_le_add t1 t2) (by omega)
    · rw [List.length_append]; omega

/-! ### relative_signed -/
theorem sc11 : FnScope ["first", "second", "places", "place", "number"] ["first", "second"] (defScope (topS 11)) := ⟨rfl, rfl, rfl, by decide +kernel, rfl, by decide +kernel, by decide +kernel⟩
def spRel : Sp := fun vs H Q _ => ∃ (u v : V) (f s : List Int), vs = [u, v] ∧ TI H u f ∧ TI H v s ∧ TR.Sg f ∧ TR.Sg s ∧ f.length = s.length ∧ s.length ≤ 40 ∧ RetT H Q (TR.rel f s)
theorem cl_rel (D : Dfn K mg "relative_signed" (topS 11)) (B : Bi mg) (C1 : Cl P w K mg base 1 "check_signed" (spCheck K)) (C2 : Cl P w K mg base 1 "need_same_length" (spNeed K)) : Cl P w K mg base 2 "relative_signed" spRel := by
  refine cl_of (ps := ["first", "second"]) D sc11 (fun _ _ _ _ _ _ us hl => match us, hl with | [_, _], _ => rfl) (fun vs H Q E h => by obtain ⟨u, v, f, s, rfl, _⟩ := h; rfl) fun f0 cdv A outer s0 H vs Q E hr h => ?_
  obtain ⟨u, v, f, s, rfl, ⟨a, rfl, ha⟩, ⟨b, rfl, hb⟩, sf, ss, hl, hz, k⟩ := h
  refine ⟨_, pss_cons (ps_expr (pe_cl C1 hr (Nat.le_refl _) (by rfl) (pa_cons (pv 0) pa_nil))) (pss_cons (ps_expr (pe_cl C1 hr (Nat.le_refl _) (by rfl) (pa_cons (pv 1) pa_nil)))
    (pss_cons (ps_expr (pe_cl C2 hr (Nat.le_refl _) (by rfl) (pa_cons (pv 0) (pa_cons (pv 1) pa_nil))))
    (pss_cons (ps_set (i := 2) sc11.nd rfl (.inr rfl) pe_dnewK)
    (pss_cons (ps_for PassesOwn.never rfl (pi_range1 (by rfl) B.b_range (pa_cons (pe_callB call_len_seq (by rfl) B.b_len PySem.boot_len (pa_cons (pv 1) pa_nil)) pa_nil)) (pg_name (i := 3) sc11.nd rfl (.inl rfl))
      (pss_cons (ps_dput (hu_of hr) (pv 2) (pe_ix ix_tup (pv 1) (pv 3) (fun _ _ => rfl)) (pe_op op_add (pv 3) pe_int) rfl)
        (pss_one (ps_dput (hu_of hr) (pv 2) (pe_un un_neg (pe_ix ix_tup (pv 1) (pv 3) (fun _ _ => rfl))) (pe_un un_neg (pe_op op_add (pv 3) pe_int)) rfl))))
    (pss_one (ps_ret (pe_callTy call_tuple_of (by rfl) B.b_tuple (by decide +kernel) (pa_cons
      (pe_lc (own := [("number", 4)]) (g := gName 4) (tt := tYes) rfl sc11.nd (pi_tup (pv 0))
        (blkOk_by (own := [("number", 4)]) (N := ["first", "second", "places", "place", "number"]) (sc := defScope (topS 11)) (by decide +kernel)) (fun _ _ _ _ _ => pg_name (i := 4) sc11.nd rfl (.inl rfl)) (fun _ _ _ _ _ => pts_nil)
        (fun _ _ _ _ _ => pe_dget (hu_of hr) (pv 2) (pv 4) (fun _ _ => rfl))) pa_nil)))))))), ?_⟩
  refine ⟨_, rfl, a, f, rfl, st_of ha, sf, by omega, fun H1 e1 => ?_⟩
  refine ⟨_, rfl, b, s, rfl, st_of (e1 b _ hb), ss, hz, fun H2 e2 => ?_⟩
  have e12 := e1.trans e2
  refine ⟨_, rfl, _, rfl, a, b, f, s, rfl, st_of (e12 a _ ha), st_of (e12 b _ hb), hl, fun _ => ?_⟩
  intro d hd
  have e3 : Ex H (upd H2 d (.dK [])) := e12.trans (Ex.new hd)
  have nd : H d = none := fresh_back e12 hd
  refine ⟨_, rfl, b, _, rfl, .inr (st_of (e3 b _ hb)), ((s.map V.int).length : Int), rfl, by simp <;> omega, by simp <;> omega, for_range (lo := 0) (n := ((s.map V.int).length : Int).toNat)
    (fun i σ H' => ∃ y kvs, σ = [some (.ref a), some (.ref b), some (.ref d), y, none] ∧ Ex H H' ∧ H' d = some (.dK kvs) ∧ kvs.length ≤ 2 * i ∧
      ∀ p x, p < i → s[p]? = some x → valV kvs (Sum.inl x) = some (.int ((p : Int) + 1)) ∧ valV kvs (Sum.inl (-x)) = some (.int (-((p : Int) + 1))))
    ⟨none, [], rfl, e3, upd_same, Nat.zero_le _, fun p x hp => absurd hp (Nat.not_lt_zero _)⟩ ?_ ?_⟩
  · rintro i σ H' hi ⟨y, kvs, rfl, eH, hd', hlen, hval⟩
    have hi' : i < s.length := by simpa using hi
    have hx : s[i]? = some s[i] := List.getElem?_eq_getElem hi'
    have hxv : (s.map V.int)[i]? = some (.int s[i]) := by rw [List.getElem?_map, hx]; rfl
    have e0 : (0 : Int) + (i : Int) = (i : Int) := Int.zero_add _
    have hne : (0 : Int) ≠ s[i] := fun z => TR.sg_ne0 ss _ (List.getElem_mem hi') z.symm
    refine ⟨_, rfl, _, _, rfl, rfl, _, rfl, _, rfl, _, rfl, b, _, _, _, rfl, rfl, st_of (eH b _ hb), by rw [e0]; exact atI_nat hxv, d, _, rfl, DPut.k (k := Sum.inl s[i]) hd' (sz_lt (by omega)), ?_⟩
    have hp1 : kvs.length ≤ 2 * i := hlen
    have hl1 : ∀ v, (putK kvs (Sum.inl s[i]) v).length ≤ kvs.length + 1 := fun v => length_putK kvs (Sum.inl s[i]) v
    have eH2 : Ex H (upd H' d (.dK (putK kvs (Sum.inl s[i]) (V.int ((0 : Int) + (i : Int) + 1))))) := Ex.mut eH nd
    refine ⟨_, rfl, _, _, rfl, rfl, _, rfl, _, rfl, _, rfl, _, rfl, b, _, _, _, rfl, rfl, st_of (eH2 b _ hb), by rw [e0]; exact atI_nat hxv, _, rfl, d, _, rfl, DPut.k (k := Sum.inl (-s[i])) upd_same (sz_lt (Nat.lt_of_le_of_lt (hl1 _) (by omega))), ?_⟩
    refine ⟨_, _, rfl, Ex.mut eH2 nd, upd_same, ?_, fun p x hp hpx => ?_⟩
    · exact Nat.le_trans (length_putK _ _ _) (Nat.le_trans (Nat.succ_le_succ (hl1 _)) (by omega))
    · rw [valV_put, valV_put, valV_put, valV_put, e0]
      have hxm := List.mem_of_getElem? hpx
      have sm : s[i] ∈ s := List.getElem_mem hi'
      by_cases hpi : p = i
      · subst hpi
        have : x = s[p] := by rw [hx] at hpx; exact (Option.some.inj hpx).symm
        subst this
        refine ⟨?_, ?_⟩
        · rw [if_neg (fun z => by have := Sum.inl.inj z; omega), if_pos rfl]
        · rw [if_pos rfl]
      · have hne1 : x ≠ s[i] := fun z => hpi (nd_ix (TR.sg_nd' ss) (z ▸ hpx) hx)
        have hne2 : x ≠ -s[i] := fun z => TR.sg_neg ss sm (z ▸ hxm)
        obtain ⟨v1, v2⟩ := hval p x (by omega) hpx
        refine ⟨?_, ?_⟩
        · rw [if_neg (fun z => hne2 (Sum.inl.inj z)), if_neg (fun z => hne1 (Sum.inl.inj z)), v1]
        · rw [if_neg (fun z => hne1 (by have := Sum.inl.inj z; omega)), if_neg (fun z => hne2 (by have := Sum.inl.inj z; omega)), v2]
  · rintro σ H' ⟨y, kvs, rfl, eH, hd', hlen, hval⟩
    have hval' : ∀ x ∈ f, valV kvs (Sum.inl x) = some (.int (TR.plc s x)) := fun x hx => by
      have hp := TR.sg_pos sf hx
      obtain ⟨p, hp1, q | q⟩ := TR.sg_has ss hp.1 (by omega)
      · rw [(hval p x (by simpa using hp1) q).1, (TR.plc_get ss q).1]
      · have h1 := (hval p (-x) (by simpa using hp1) q).2
        have h2 := (TR.plc_get ss q).2
        rw [Int.neg_neg] at h1 h2
        rw [h1, h2]
    dsimp only
    refine u_ret (u_cb (u_cons (y_lcT f V.int (fun _ => true) (fun x => V.int (TR.plc s x)) (by omega) ?_ ?_ _ fun v1 H1 e1 ⟨D, ev, hD, hD1⟩ => ?_)))
    · exact y_var rfl ⟨a, rfl, st_of (eH a _ ha)⟩
    · intro H1 e1
      refine lc_name (fun _ => by rfl) (fun _ _ _ _ => et_yes) fun x hx H4 e4 _ H5 e5 Q2 q => ?_
      have hd5 : H5 d = some (.dK kvs) := e5 d _ (e4 d _ (e1 d _ hd'))
      refine ⟨_, rfl, _, rfl, d, .int (TR.plc s x), rfl, ?_, q H5 (Ex.refl _)⟩
      rw [← hval' x hx]
      exact DGet.k (k := Sum.inl x) hd5
    · subst ev
      rw [ft_all] at hD1
      refine ⟨D, _, rfl, .inl ⟨sq_of hD1, fun l hl' => k _ _ ((eH.trans e1).trans (Ex.new hl')) (TI.new ?_)⟩⟩
      rw [upd_same]
      unfold TR.rel
      rw [List.map_map]
      rfl
end
end TW

/-! from W4 -/
set_option maxRecDepth 100000
set_option maxHeartbeats 4000000
namespace TW
open PySem PySem.Spec PyProof.Rows L2 Evl

/-- lines: a tuple of pairs -/
def TL (H : Hp) (v : V) (L : List (Nat × Nat)) : Prop := ∃ (a : Addr) (ps : List Addr), v = .ref a ∧ H a = some (.tup (ps.map V.ref)) ∧ ps.length = L.length ∧
  ∀ (i : Nat) (p : Addr) (z : Nat × Nat), ps[i]? = some p → L[i]? = some z → H p = some (.tup [.int (z.1 : Int), .int (z.2 : Int)])
theorem TL.ex {H H' : Hp} {v : V} {L : List (Nat × Nat)} (h : TL H v L) (e : Ex H H') : TL H' v L := by
  obtain ⟨a, ps, h1, h2, h3, h4⟩ := h
  exact ⟨a, ps, h1, e a _ h2, h3, fun i p z x y => e p _ (h4 i p z x y)⟩
def lnP (P : Nat → Nat) (k : Nat) : Nat × Nat := (min (P (2 * k)) (P (2 * k + 1)), max (P (2 * k)) (P (2 * k + 1)))
def lineL (r : List Int) : List (Nat × Nat) := (List.range (r.length + 1)).map (lnP (TR.Pf r))
theorem lineL_len (r : List Int) : (lineL r).length = r.length + 1 := by simp [lineL]
theorem lineL_get {r : List Int} {k : Nat} (h : k < r.length + 1) : (lineL r)[k]? = some (lnP (TR.Pf r) k) := by
  unfold lineL
  rw [List.getElem?_map, List.getElem?_range h]
  rfl
def mkI (r : List Int) : List Int := (TR.mk r).map fun m : Nat => (m : Int)
def fmI (r : List Int) : List Int := (TR.fm r).map fun m : Nat => (m : Int)

section
variable {K : PySem.W.Frag} {σ : L2.St} {H : Hp}
/-- {key: value for i in range(n)}, the keys ints -/
theorem y_dcR {ta : TA} {t : TT} {tk tv : TE} {vs : List Nat} {j : Nat} (n : Nat) (Kf : Nat → Int) (Vf : Nat → V) (hz : n ≤ 40000) (inj : ∀ a b, a < n → b < n → Kf a = Kf b → a = b) (hl : ∀ R, (∀ H1, Ex H H1 → R [V.int (n : Int)] H1) → ta σ H R)
    (hw : ∀ x : V, wipe ((wipe σ vs).set j (some x)) vs = wipe σ vs)
    (hs : ∀ H1, Ex H H1 → ∀ i : Nat, i < n → EvT t ((wipe σ vs).set j (some (.int (i : Int)))) H1 true ∧ Ev tk ((wipe σ vs).set j (some (.int (i : Int)))) H1 (.int (Kf i)) ∧ Ev tv ((wipe σ vs).set j (some (.int (i : Int)))) H1 (Vf i)) :
    Yl (tDg (.dK []) (iRng1 ta) (gName j) t tk tv vs) σ H fun v H1 => ∃ D kvs, v = .ref D ∧ H D = none ∧ H1 D = some (.dK kvs) ∧ ∀ i, i < n → valV kvs (Sum.inl (Kf i)) = some (Vf i) := fun R k => hl _ fun H1 e1 => by
  refine ⟨n, rfl, by omega, by omega, fun D hD => ?_⟩
  let Pv : Nat → Hp → Prop := fun i H' => Ex H1 H' ∧ ∃ kvs, H' D = some (.dK kvs) ∧ kvs.length ≤ i ∧ ∀ a, a < i → valV kvs (Sum.inl (Kf a)) = some (Vf a)
  refine ⟨fun i m H' => m = n - i ∧ i ≤ n ∧ Pv i H', ⟨n, rfl, Nat.zero_le _, Ex.new hD, [], upd_same, Nat.le_refl _, fun a ha => absurd ha (Nat.not_lt_zero _)⟩, ?_⟩
  rintro i m H' ⟨rfl, hi, eH, kvs, hk, hlen, hval⟩
  by_cases hlt : i < n
  · refine .inr ⟨show i < (n : Int).toNat by omega, Pv (i + 1), fun H2 q => ⟨n - (i + 1), by omega, rfl, hlt, q⟩, fun x H2 y => ?_⟩
    obtain ⟨y1, y2⟩ := y
    subst y1 y2
    rw [show (0 : Int) + (i : Int) = (i : Int) by omega]
    obtain ⟨s1, s2, s3⟩ := hs H2 (e1.trans eH) i hlt
    refine ⟨hw _, s1 H2 (Ex.refl _) _ fun H3 e3 => ?_⟩
    rw [if_pos rfl]
    refine s2 H3 e3 _ fun H4 e4 => s3 H4 (e3.trans e4) _ fun H5 e5 => ?_
    have e25 := (e3.trans e4).trans e5
    refine ⟨_, DPut.k (k := Sum.inl (Kf i)) (e25 D _ hk) (sz_lt (by omega)), Ex.mut (eH.trans e25) hD, _, upd_same, ?_, fun a ha => ?_⟩
    · have := length_putK kvs (Sum.inl (Kf i)) (Vf i)
      omega
    · rw [valV_put]
      by_cases q : a = i
      · rw [q, if_pos rfl]
      · rw [if_neg (fun z => q (inj a i (by omega) hlt (Sum.inl.inj z)))]
        exact hval a (by omega)
  · have : i = n := by omega
    subst this
    exact .inl ⟨show (i : Int).toNat ≤ i by omega, k _ _ (e1.trans eH) ⟨D, kvs, rfl, fresh_back e1 hD, hk, hval⟩⟩
end

section
variable {P : Program} {w : World} {K : PySem.W.Frag} {mg : Str → Option Value} {base : Heap}

/-! ### marks -/
theorem sc13 : FnScope ["row", "found", "number"] ["row"] (defScope (topS 13)) := ⟨rfl, rfl, rfl, by decide +kernel, rfl, by decide +kernel, by decide +kernel⟩
def spMarks : Sp := fun vs H Q _ => ∃ (v : V) (r : List Int), vs = [v] ∧ TI H v r ∧ TR.Sg r ∧ r.length ≤ 40 ∧ RetT H Q (mkI r)
theorem fm_take {r : List Int} {i : Nat} {x : Int} (h : r[i]? = some x) : fmI (r.take (i + 1)) = fmI (r.take i) ++ (TR.pm x).map fun m : Nat => (m : Int) := by
  unfold fmI
  rw [List.take_add_one, h, TR.fm_append, List.map_append]
  congr 1
  show (TR.pm x ++ TR.fm []).map _ = _
  rw [TR.fm_nil, List.append_nil]
theorem cl_marks (D : Dfn K mg "marks" (topS 13)) (B : Bi mg) (C1 : Cl P w K mg base 1 "check_signed" (spCheck K)) : Cl P w K mg base 2 "marks" spMarks := by
  refine cl_of (ps := ["row"]) D sc13 (fun _ _ _ _ _ _ us hl => match us, hl with | [_], _ => rfl) (fun vs H Q E h => by obtain ⟨v, r, rfl, _⟩ := h; rfl) fun f0 cdv A outer s0 H vs Q E hr h => ?_
  obtain ⟨v, r, rfl, ⟨a, rfl, ha⟩, sr, hz, k⟩ := h
  refine ⟨_, pss_cons (ps_expr (pe_cl C1 hr (Nat.le_refl _) (by rfl) (pa_cons (pv 0) pa_nil)))
    (pss_cons (ps_set (i := 1) sc13.nd rfl (.inl rfl) (pe_lst (pa_cons pe_int pa_nil)))
    (pss_cons (ps_for PassesOwn.never rfl (pi_tup (pv 0)) (pg_name (i := 2) sc13.nd rfl (.inl rfl))
      (pss_one (ps_if (pt_cmpR op_gt (pv 2) pe_int (nomark _))
        (pss_one (ps_expr (pe_bm PySem.F.plainAttrs_list PySem.F.slot_list_extend PySem.F.type_list_extend mt_extend (pv 1) (pa_cons (pe_lst (pa_cons (pe_op op_sub (pe_op op_mul pe_int (pv 2)) pe_int) (pa_cons (pe_op op_mul pe_int (pv 2)) pa_nil))) pa_nil))))
        (pss_one (ps_expr (pe_bm PySem.F.plainAttrs_list PySem.F.slot_list_extend PySem.F.type_list_extend mt_extend (pv 1) (pa_cons (pe_lst (pa_cons (pe_op op_mul (pe_un un_neg pe_int) (pv 2)) (pa_cons (pe_op op_sub (pe_op op_mul (pe_un un_neg pe_int) (pv 2)) pe_int) pa_nil))) pa_nil)))))))
    (pss_cons (ps_expr (pe_bm PySem.F.plainAttrs_list PySem.F.slot_list_append PySem.F.type_list_append mt_append (pv 1) (pa_cons (pe_op op_add (pe_op op_mul pe_int (pe_callB call_len_seq (by rfl) B.b_len PySem.boot_len (pa_cons (pv 0) pa_nil))) pe_int) pa_nil)))
    (pss_one (ps_ret (pe_callTy call_tuple_of (by rfl) B.b_tuple (by decide +kernel) (pa_cons (pv 1) pa_nil))))))), ?_⟩
  refine ⟨_, rfl, a, r, rfl, st_of ha, sr, hz, fun H1 e1 => ?_⟩
  refine ⟨by show 1 ≤ sizeLine; decide, fun l hl => ?_⟩
  have nl : H l = none := fresh_back e1 hl
  refine ⟨_, rfl, a, rfl, ⟨_, st_of ((e1.trans (Ex.new hl)) a _ ha)⟩, for_tup (K := K) (a := a) (xs := r.map V.int)
    (fun i σ H' => ∃ y, σ = [some (.ref a), some (.ref l), y] ∧ Ex H H' ∧ H' l = some (.lst ((0 :: fmI (r.take i)).map V.int))) ⟨none, rfl, e1.trans (Ex.new hl), upd_same⟩ (fun i σ H' _ ⟨y, _, eH, _⟩ => st_of (eH a _ ha)) ?_ ?_⟩
  · rintro i x σ H' hi ⟨y, rfl, eH, hL⟩
    rw [List.getElem?_map] at hi
    obtain ⟨z, hzi, rfl⟩ := Option.map_eq_some_iff.mp hi
    have hm : 1 ≤ z.natAbs ∧ z.natAbs ≤ r.length := TR.sg_pos sr (List.mem_of_getElem? hzi)
    have hlen : ((0 :: fmI (r.take i)).map V.int).length ≤ 100 := by
      rw [List.length_map, List.length_cons]
      unfold fmI
      rw [List.length_map, TR.fm_len, List.length_take]
      omega
    have fin : ∀ xs : List Int, xs = (TR.pm z).map (fun m : Nat => (m : Int)) → (0 :: fmI (r.take i)).map V.int ++ xs.map V.int = (0 :: fmI (r.take (i + 1))).map V.int := fun xs e => by
      rw [fm_take hzi, e, ← List.map_append]
      rfl
    refine ⟨_, rfl, z, 0, rfl, rfl, _, rfl, ite2 (fun hpos => ?_) (fun hneg => ?_)⟩
    · have hpos : 0 < z := of_decide_eq_true hpos
      refine ⟨_, rfl, .inl ⟨rfl, _, sq_of hL⟩, _, rfl, 2, z, rfl, rfl, .inl ⟨by omega, by omega⟩, _, _, rfl, rfl, _, rfl, 2, z, rfl, rfl, .inl ⟨by omega, by omega⟩, by show 2 ≤ sizeLine; decide, fun b hb => ?_⟩
      have nlb : l ≠ b := ne_of_none hL hb
      refine ⟨l, b, _, _, rfl, rfl, (upd_ne nlb).trans hL, upd_same, sz_of (by simp at hlen ⊢; omega), _, rfl, Ex.mut (eH.trans (Ex.new hb)) nl, ?_⟩
      rw [upd_same]
      congr 2
      refine fin [2 * z - 1, 2 * z] ?_
      unfold TR.pm
      rw [if_pos hpos]
      simp only [List.map_cons, List.map_nil]
      congr 1
      · omega
      · congr 1; omega
    · have hneg : ¬ 0 < z := fun q => hneg (decide_eq_true q)
      refine ⟨_, rfl, .inl ⟨rfl, _, sq_of hL⟩, 2, rfl, _, rfl, -2, z, rfl, rfl, .inl ⟨by omega, by omega⟩, 2, rfl, _, rfl, -2, z, rfl, rfl, .inl ⟨by omega, by omega⟩, _, _, rfl, rfl, by show 2 ≤ sizeLine; decide, fun b hb => ?_⟩
      have nlb : l ≠ b := ne_of_none hL hb
      refine ⟨l, b, _, _, rfl, rfl, (upd_ne nlb).trans hL, upd_same, sz_of (by simp at hlen ⊢; omega), _, rfl, Ex.mut (eH.trans (Ex.new hb)) nl, ?_⟩
      rw [upd_same]
      congr 2
      refine fin [-2 * z, -2 * z - 1] ?_
      unfold TR.pm
      rw [if_neg hneg]
      simp only [List.map_cons, List.map_nil]
      congr 1
      · omega
      · congr 1; omega
  · rintro σ H' ⟨y, rfl, eH, hL⟩
    rw [List.length_map, List.take_length] at hL
    have hlen : ((0 :: fmI r).map V.int).length ≤ 100 := by
      rw [List.length_map, List.length_cons]
      unfold fmI
      rw [List.length_map, TR.fm_len]
      omega
    refine ⟨_, rfl, .inl ⟨rfl, _, sq_of hL⟩, _, rfl, a, _, rfl, .inr (st_of (eH a _ ha)), 2, _, rfl, rfl, .inl ⟨by omega, by omega⟩, _, _, rfl, rfl, l, _, _, rfl, rfl, hL, sz_lt (by omega), ?_⟩
    refine ⟨_, rfl, l, _, rfl, .inl ⟨sq_of upd_same, fun q hq => k _ _ ((Ex.mut eH nl).trans (Ex.new hq)) (TI.new ?_)⟩⟩
    rw [upd_same]
    congr 2
    unfold mkI TR.mk fmI
    simp
end
end TW

/-! from W5 -/
set_option maxRecDepth 100000
set_option maxHeartbeats 4000000
namespace TW
open PySem PySem.Spec PyProof.Rows L2 Evl

section
variable {P : Program} {w : World} {K : PySem.W.Frag} {mg : Str → Option Value} {base : Heap}

theorem mkI_len (r : List Int) : (mkI r).length = 2 * r.length + 2 := by
  unfold mkI
  rw [List.length_map, TR.mk_len]
theorem mkI_get {r : List Int} {s : Nat} (h : s < 2 * r.length + 2) : (mkI r)[s]? = some ((TR.Mf r s : Nat) : Int) := by
  unfold mkI
  rw [List.getElem?_map, TR.mf_get h]
  rfl
theorem minI (a b : Nat) : (if (b : Int) < (a : Int) then (b : Int) else (a : Int)) = ((min a b : Nat) : Int) := by split <;> omega
theorem maxI (a b : Nat) : (if (b : Int) > (a : Int) then (b : Int) else (a : Int)) = ((max a b : Nat) : Int) := by split <;> omega
theorem pf_lt {r : List Int} (h : TR.Sg r) {m : Nat} (hm : m < 2 * r.length + 2) : TR.Pf r m < 2 * r.length + 2 := (TR.dr_row h).pl hm
/-! ### light_lines -/
theorem sc14 : FnScope ["row", "told", "spots", "lines", "k", "one", "two", "spot"] ["row"] (defScope (topS 14)) := ⟨rfl, rfl, rfl, by decide +kernel, rfl, by decide +kernel, by decide +kernel⟩
def spLight : Sp := fun vs H Q _ => ∃ (v : V) (r : List Int), vs = [v] ∧ TI H v r ∧ TR.Sg r ∧ r.length ≤ 40 ∧ ∀ u H', Ex H H' → TL H' u (lineL r) → Q u H'
theorem cl_light (D : Dfn K mg "light_lines" (topS 14)) (B : Bi mg) (C1 : Cl P w K mg base 2 "marks" spMarks) : Cl P w K mg base 3 "light_lines" spLight := by
  refine cl_of (ps := ["row"]) D sc14 (fun _ _ _ _ _ _ us hl => match us, hl with | [_], _ => rfl) (fun vs H Q E h => by obtain ⟨v, r, rfl, _⟩ := h; rfl) fun f0 cdv A outer s0 H vs Q E hr h => ?_
  obtain ⟨v, r, rfl, hv, sr, hz, k⟩ := h
  refine ⟨_, pss_cons (ps_set (i := 1) sc14.nd rfl (.inr rfl) (pe_cl C1 hr (Nat.le_refl _) (by rfl) (pa_cons (pv 0) pa_nil)))
    (pss_cons (ps_setDg (i := 2) (own := [("spot", 7)]) (g := gName 7) (tt := tYes) empt_k (hu_of hr) rfl sc14.nd rfl rfl (swd_true rfl rfl rfl (by decide +kernel)) (pi_range1 (by rfl) B.b_range (pa_cons (pe_callB call_len_seq (by rfl) B.b_len PySem.boot_len (pa_cons (pv 1) pa_nil)) pa_nil))
      (blkOk_by (own := [("spot", 7)]) (N := ["row", "told", "spots", "lines", "k", "one", "two", "spot"]) (sc := defScope (topS 14)) (by decide +kernel)) (fun _ _ _ _ _ => pg_name (i := 7) sc14.nd rfl (.inl rfl)) (fun _ _ _ _ _ => pts_nil)
      (fun _ _ _ _ _ => pe_ix (r := rIxT K) ix_tup (pv 1) (pv 7) (fun _ _ => rfl)) (fun _ _ _ _ _ => pv 7))
    (pss_cons (ps_set (i := 3) sc14.nd rfl (.inl rfl) (pe_lst pa_nil))
    (pss_cons (ps_for PassesOwn.never rfl (pi_range1 (by rfl) B.b_range (pa_cons (pe_op op_add (pe_callB call_len_seq (by rfl) B.b_len PySem.boot_len (pa_cons (pv 0) pa_nil)) pe_int) pa_nil)) (pg_name (i := 4) sc14.nd rfl (.inl rfl))
      (pss_cons (ps_set (i := 5) sc14.nd rfl (.inl rfl) (pe_dget (hu_of hr) (pv 2) (pe_op op_mul pe_int (pv 4)) (fun _ _ => rfl)))
      (pss_cons (ps_set (i := 6) sc14.nd rfl (.inl rfl) (pe_dget (hu_of hr) (pv 2) (pe_op op_add (pe_op op_mul pe_int (pv 4)) pe_int) (fun _ _ => rfl)))
      (pss_one (ps_expr (pe_bm PySem.F.plainAttrs_list PySem.F.slot_list_append PySem.F.type_list_append mt_append (pv 3) (pa_cons (pe_tup (pa_cons (pe_callB (call_min2 rfl) (by rfl) B.b_min (by decide +kernel) (pa_cons (pv 5) (pa_cons (pv 6) pa_nil)))
        (pa_cons (pe_callB (call_max2 rfl) (by rfl) B.b_max (by decide +kernel) (pa_cons (pv 5) (pa_cons (pv 6) pa_nil))) pa_nil))) pa_nil)))))))
    (pss_one (ps_ret (pe_callTy call_tuple_of (by rfl) B.b_tuple (by decide +kernel) (pa_cons (pv 3) pa_nil))))))), ?_⟩
  refine ⟨_, rfl, v, r, rfl, hv, sr, hz, fun t H1 e1 ⟨b, eb, hb⟩ => ?_⟩
  subst eb
  obtain ⟨a, rfl, ha⟩ := hv
  dsimp only
  refine u_seq (u_set (y_dcR (2 * r.length + 2) (fun s => ((TR.Mf r s : Nat) : Int)) (fun s => V.int (s : Int)) (by omega) ?_ ?_ (fun _ => by rfl) ?_ _ fun v2 H2 e2 ⟨d, kvs, ev2, hd0, hd, hval⟩ => ?_))
  · intro x y hx hy e
    have W := TR.dr_row sr
    have e' : TR.Mf r x = TR.Mf r y := by
      have : ((TR.Mf r x : Nat) : Int) = ((TR.Mf r y : Nat) : Int) := e
      omega
    rw [← W.pm hx, ← W.pm hy, e']
  · intro R k
    refine ⟨_, rfl, b, _, rfl, .inr (st_of hb), ?_⟩
    rw [List.length_map, mkI_len]
    exact k H1 (Ex.refl _)
  · intro H3 e3 i hi
    refine ⟨et_yes, fun H4 e4 Q2 q => ?_, fun H4 e4 Q2 q => ⟨_, rfl, q H4 (Ex.refl _)⟩⟩
    refine ⟨_, rfl, _, rfl, b, _, _, _, rfl, rfl, st_of (e4 b _ (e3 b _ hb)), atI_nat ?_, q H4 (Ex.refl _)⟩
    rw [List.getElem?_map, mkI_get hi]
    rfl
  · subst ev2
    refine ⟨Nat.zero_le _, fun l hl => ?_⟩
    have nl2 : H1 l = none := fresh_back e2 hl
    have nl : H l = none := fresh_back e1 nl2
    have e3 : Ex H (upd H2 l (.lst [])) := (e1.trans e2).trans (Ex.new hl)
    have e13 : Ex H1 (upd H2 l (.lst [])) := e2.trans (Ex.new hl)
    have nld : d ≠ l := ne_of_none hd hl
    refine ⟨_, rfl, a, _, rfl, .inr (st_of (e3 a _ ha)), _, _, rfl, rfl, ((r.length : Int) + 1), by rw [List.length_map], by omega, by omega, for_range (lo := 0) (n := ((r.length : Int) + 1).toNat)
      (fun i σ H' => ∃ y1 y2 y3 ps, σ = [some (.ref a), some (.ref b), some (.ref d), some (.ref l), y1, y2, y3, none] ∧ Ex H H' ∧ H' d = some (.dK kvs) ∧ H' l = some (.lst (ps.map V.ref)) ∧ ps.length = i ∧ (∀ p ∈ ps, H' p ≠ none ∧ p ≠ l) ∧
        ∀ (j : Nat) (p : Addr), ps[j]? = some p → H' p = some (.tup [.int ((lnP (TR.Pf r) j).1 : Int), .int ((lnP (TR.Pf r) j).2 : Int)]))
      ⟨none, none, none, [], rfl, e3, (upd_ne nld).trans hd, upd_same, rfl, (by intro p hp; cases hp), (by intro j p hp; cases hp)⟩ ?_ ?_⟩
    · rintro i σ H' hi ⟨y1, y2, y3, ps, rfl, eH, hd', hL, hlen, hne, hps⟩
      have hi' : i < r.length + 1 := by omega
      have W := TR.dr_row sr
      have hv1 : valV kvs (Sum.inl (2 * (i : Int))) = some (.int ((TR.Pf r (2 * i) : Nat) : Int)) := by
        have := hval (TR.Pf r (2 * i)) (W.pl (by omega))
        rw [W.mp (by omega)] at this
        rw [show 2 * (i : Int) = ((2 * i : Nat) : Int) by omega]
        exact this
      have hv2 : valV kvs (Sum.inl (2 * (i : Int) + 1)) = some (.int ((TR.Pf r (2 * i + 1) : Nat) : Int)) := by
        have := hval (TR.Pf r (2 * i + 1)) (W.pl (by omega))
        rw [W.mp (by omega)] at this
        rw [show 2 * (i : Int) + 1 = ((2 * i + 1 : Nat) : Int) by omega]
        exact this
      rw [show (0 : Int) + (i : Int) = (i : Int) by omega]
      refine ⟨_, rfl, _, rfl, 2, (i : Int), rfl, rfl, .inl ⟨by omega, by omega⟩, d, _, rfl, by rw [← hv1]; exact DGet.k (k := Sum.inl (2 * (i : Int))) hd', ?_⟩
      refine ⟨_, rfl, _, rfl, 2, (i : Int), rfl, rfl, .inl ⟨by omega, by omega⟩, _, _, rfl, rfl, d, _, rfl, by rw [← hv2]; exact DGet.k (k := Sum.inl (2 * (i : Int) + 1)) hd', ?_⟩
      have hlen2 : (ps.map V.ref).length < 100000 := by rw [List.length_map]; omega
      refine ⟨_, rfl, .inl ⟨rfl, _, sq_of hL⟩, _, rfl, _, rfl, _, _, rfl, _, rfl, _, rfl, _, _, rfl, by show 2 ≤ sizeLine; decide, fun p hp => ?_⟩
      have npl : l ≠ p := ne_of_none hL hp
      have npd : d ≠ p := ne_of_none hd' hp
      refine ⟨l, _, _, rfl, rfl, (upd_ne npl).trans hL, sz_lt hlen2, ?_⟩
      refine ⟨_, _, _, ps ++ [p], rfl, Ex.mut (eH.trans (Ex.new hp)) nl, ?_, ?_, by simp [hlen], ?_, ?_⟩
      · rw [upd_ne nld, upd_ne npd]; exact hd'
      · rw [upd_same, List.map_append]; rfl
      · intro q hq
        rcases List.mem_append.mp hq with h1 | h1
        · obtain ⟨h2, h3⟩ := hne q h1
          refine ⟨?_, h3⟩
          rw [upd_ne h3]
          by_cases qp : q = p
          · rw [qp, upd_same]; exact fun z => by cases z
          · rw [upd_ne qp]; exact h2
        · rw [List.mem_singleton.mp h1]
          refine ⟨?_, npl.symm⟩
          rw [upd_ne npl.symm, upd_same]
          exact fun z => by cases z
      · intro j q hq
        by_cases hj : j < ps.length
        · rw [List.getElem?_append_left hj] at hq
          have hqm := List.mem_of_getElem? hq
          obtain ⟨h2, h3⟩ := hne q hqm
          have hqp : q ≠ p := fun z => h2 (z ▸ hp)
          rw [upd_ne h3, upd_ne hqp]
          exact hps j q hq
        · rw [List.getElem?_append_right (by omega)] at hq
          have hj2 : j - ps.length = 0 := by
            apply Classical.byContradiction
            intro z
            rw [List.getElem?_eq_none (by simp; omega)] at hq
            cases hq
          rw [hj2] at hq
          have hq' : p = q := by simpa using hq
          subst hq'
          have hji : j = i := by omega
          subst hji
          rw [upd_ne npl.symm, upd_same]
          show some (HO.tup [V.int (if ((TR.Pf r (2 * j + 1) : Nat) : Int) < ((TR.Pf r (2 * j) : Nat) : Int) then ((TR.Pf r (2 * j + 1) : Nat) : Int) else ((TR.Pf r (2 * j) : Nat) : Int)), V.int (if ((TR.Pf r (2 * j + 1) : Nat) : Int) > ((TR.Pf r (2 * j) : Nat) : Int) then ((TR.Pf r (2 * j + 1) : Nat) : Int) else ((TR.Pf r (2 * j) : Nat) : Int))]) = _
          rw [minI, maxI]
          rfl
    · rintro σ H' ⟨y1, y2, y3, ps, rfl, eH, hd', hL, hlen, hne, hps⟩
      refine ⟨_, rfl, l, _, rfl, .inl ⟨sq_of hL, fun q hq => k _ _ (eH.trans (Ex.new hq)) ⟨q, ps, rfl, upd_same, ?_, ?_⟩⟩⟩
      · rw [hlen, lineL_len]; omega
      · intro j p z hp hz
        have hj : j < r.length + 1 := by
          have := (List.getElem?_eq_some_iff.mp hz).1
          rw [lineL_len] at this
          exact this
        rw [lineL_get hj] at hz
        cases hz
        have := hps j p hp
        have hpq : p ≠ q := ne_of_none this hq
        rw [upd_ne hpq]
        exact this
end
end TW

/-! from W6 -/
set_option maxRecDepth 100000
set_option maxHeartbeats 4000000
namespace TW
open PySem PySem.Spec PyProof.Rows L2 Evl

section
variable {P : Program} {w : World} {K : PySem.W.Frag} {mg : Str → Option Value} {base : Heap}

/-! ### dark_partner -/
theorem sc15 : FnScope ["spot"] ["spot"] (defScope (topS 15)) := ⟨rfl, rfl, rfl, by decide +kernel, rfl, by decide +kernel, by decide +kernel⟩
def spDark : Sp := fun vs H Q _ => ∃ s : Nat, vs = [.int (s : Int)] ∧ Q (.int ((TR.mate s : Nat) : Int)) H
theorem cl_dark (D : Dfn K mg "dark_partner" (topS 15)) (B : Bi mg) : Cl P w K mg base 1 "dark_partner" spDark := by
  refine cl_of (ps := ["spot"]) D sc15 (fun _ _ _ _ _ _ us hl => match us, hl with | [_], _ => rfl) (fun vs H Q E h => by obtain ⟨s, rfl, _⟩ := h; rfl) fun f0 cdv A outer s0 H vs Q E hr h => ?_
  obtain ⟨s, rfl, k⟩ := h
  refine ⟨_, pss_cons (ps_if (pt_cmpR op_eq (pe_op op_mod (pv 0) pe_int) pe_int (nomark _)) (pss_one (ps_ret (pe_op op_add (pv 0) pe_int))) pss_nil) (pss_one (ps_ret (pe_op op_sub (pv 0) pe_int))), ?_⟩
  refine ⟨_, rfl, _, _, rfl, rfl, (by show (0 : Int) < 2; decide), rfl, _, rfl, ite2 (fun h => ?_) (fun h => ?_)⟩
  · have h := of_decide_eq_true h
    have h' : (s : Int) % 2 = 0 := by injection h
    refine ⟨_, rfl, _, _, rfl, rfl, ?_⟩
    have : TR.mate s = s + 1 := by unfold TR.mate; rw [if_pos (by omega)]
    rw [this] at k
    exact k
  · have h' : ¬ (s : Int) % 2 = 0 := fun q => h (decide_eq_true (show V.int ((s : Int) % 2) = V.int 0 by rw [q]))
    refine ⟨_, rfl, _, _, rfl, rfl, ?_⟩
    have : ((TR.mate s : Nat) : Int) = (s : Int) - 1 := by unfold TR.mate; rw [if_neg (by omega)]; omega
    rw [this] at k
    exact k

/-! ### light_partners -/
/-- a dict from the spots to their light partners -/
def DLt (H : Hp) (d : Addr) (r : List Int) : Prop := ∃ kvs : List (Key × V), H d = some (.dK kvs) ∧ kvs.length = 2 * r.length + 2 ∧ ∀ s : Nat, s < 2 * r.length + 2 → valV kvs (Sum.inl (s : Int)) = some (.int ((TR.Lt (TR.Pf r) (TR.Mf r) s : Nat) : Int))
theorem sc16 : FnScope ["row", "partners", "p", "q"] ["row"] (defScope (topS 16)) := ⟨rfl, rfl, rfl, by decide +kernel, rfl, by decide +kernel, by decide +kernel⟩
def spPart : Sp := fun vs H Q _ => ∃ (v : V) (r : List Int), vs = [v] ∧ TI H v r ∧ TR.Sg r ∧ r.length ≤ 40 ∧ ∀ d H', Ex H H' → DLt H' d r → Q (.ref d) H'
/-- the two spots of a line, one behind the other -/
theorem line_two {r : List Int} (h : TR.Sg r) {i : Nat} (hi : i ≤ r.length) : (lnP (TR.Pf r) i).1 < 2 * r.length + 2 ∧ (lnP (TR.Pf r) i).2 < 2 * r.length + 2 ∧ (lnP (TR.Pf r) i).1 ≠ (lnP (TR.Pf r) i).2 ∧
    TR.Lt (TR.Pf r) (TR.Mf r) (lnP (TR.Pf r) i).1 = (lnP (TR.Pf r) i).2 ∧ TR.Lt (TR.Pf r) (TR.Mf r) (lnP (TR.Pf r) i).2 = (lnP (TR.Pf r) i).1 ∧
    TR.Mf r (lnP (TR.Pf r) i).1 / 2 = i ∧ TR.Mf r (lnP (TR.Pf r) i).2 / 2 = i := by
  have W := TR.dr_row h
  have h1 := W.pl (m := 2 * i) (by omega)
  have h2 := W.pl (m := 2 * i + 1) (by omega)
  have h3 := W.ne2 hi
  have h4 := TR.lt_even W hi
  have h5 := TR.lt_odd W hi
  have h6 := TR.m_even W hi
  have h7 := TR.m_odd W hi
  unfold lnP
  show min _ _ < _ ∧ max _ _ < _ ∧ min _ _ ≠ max _ _ ∧ TR.Lt _ _ (min _ _) = max _ _ ∧ TR.Lt _ _ (max _ _) = min _ _ ∧ TR.Mf r (min _ _) / 2 = i ∧ TR.Mf r (max _ _) / 2 = i
  rcases Nat.lt_or_gt_of_ne h3 with q | q
  · rw [Nat.min_eq_left (Nat.le_of_lt q), Nat.max_eq_right (Nat.le_of_lt q)]
    exact ⟨h1, h2, h3, h4, h5, h6, h7⟩
  · rw [Nat.min_eq_right (Nat.le_of_lt q), Nat.max_eq_left (Nat.le_of_lt q)]
    exact ⟨h2, h1, h3.symm, h5, h4, h7, h6⟩
theorem cl_part (D : Dfn K mg "light_partners" (topS 16)) (B : Bi mg) (C1 : Cl P w K mg base 3 "light_lines" spLight) : Cl P w K mg base 4 "light_partners" spPart := by
  refine cl_of (ps := ["row"]) D sc16 (fun _ _ _ _ _ _ us hl => match us, hl with | [_], _ => rfl) (fun vs H Q E h => by obtain ⟨v, r, rfl, _⟩ := h; rfl) fun f0 cdv A outer s0 H vs Q E hr h => ?_
  obtain ⟨v, r, rfl, hv, sr, hz, k⟩ := h
  refine ⟨_, pss_cons (ps_set (i := 1) sc16.nd rfl (.inl rfl) pe_dnewK)
    (pss_cons (ps_for PassesOwn.never rfl (pi_tup (pe_cl C1 hr (Nat.le_refl _) (by rfl) (pa_cons (pv 0) pa_nil))) (pg_tup rfl (pgs_cons (pg_name (i := 2) sc16.nd rfl (.inl rfl)) (pgs_cons (pg_name (i := 3) sc16.nd rfl (.inl rfl)) pgs_nil)))
      (pss_cons (ps_dput (hu_of hr) (pv 1) (pv 2) (pv 3) rfl) (pss_one (ps_dput (hu_of hr) (pv 1) (pv 3) (pv 2) rfl))))
    (pss_one (ps_ret (pv 1)))), ?_⟩
  intro d hd
  refine ⟨_, rfl, v, r, rfl, hv.ex (Ex.new hd), sr, hz, fun t H1 e1 ⟨a, ps, et, ha, hpl, hps⟩ => ?_⟩
  subst et
  have e01 : Ex H H1 := (Ex.new hd).trans e1
  have hd1 : H1 d = some (.dK []) := e1 d _ upd_same
  refine ⟨a, rfl, ⟨_, st_of ha⟩, for_tup (K := K) (a := a) (xs := ps.map V.ref)
    (fun i σ H' => ∃ y2 y3 kvs, σ = [some v, some (.ref d), y2, y3] ∧ Ex H H' ∧ (∀ b o, b ≠ d → H1 b = some o → H' b = some o) ∧ H' d = some (.dK kvs) ∧ kvs.length = 2 * i ∧ ∀ s : Nat, s < 2 * r.length + 2 → valV kvs (Sum.inl (s : Int)) = if TR.Mf r s / 2 < i then some (.int ((TR.Lt (TR.Pf r) (TR.Mf r) s : Nat) : Int)) else none)
    ⟨none, none, [], rfl, e01, fun _ _ _ h => h, hd1, rfl, fun s _ => by rw [if_neg (Nat.not_lt_zero _)]; rfl⟩ (fun i σ H' _ ⟨y2, y3, kvs, _, _, eb, _⟩ => st_of (eb a _ (ne_of ha hd1 (fun z => nomatch z)) ha)) ?_ ?_⟩
  · rintro i x σ H' hi ⟨y2, y3, kvs, rfl, eH, eb, hd', hlen, hval⟩
    rw [List.getElem?_map] at hi
    obtain ⟨p, hp, rfl⟩ := Option.map_eq_some_iff.mp hi
    have hil : i < r.length + 1 := by
      have := (List.getElem?_eq_some_iff.mp hp).1
      rw [hpl, lineL_len] at this
      exact this
    have hpt := hps i p _ hp (lineL_get hil)
    obtain ⟨l1, l2, l3, l4, l5, l6, l7⟩ := line_two sr (i := i) (by omega)
    generalize (lnP (TR.Pf r) i).1 = b1 at hpt l1 l2 l3 l4 l5 l6 l7
    generalize (lnP (TR.Pf r) i).2 = b2 at hpt l1 l2 l3 l4 l5 l6 l7
    have hpt' := eb p _ (ne_of hpt hd1 (fun z => nomatch z)) hpt
    have v1 : valV kvs (Sum.inl (b1 : Int)) = none := by rw [hval b1 l1, if_neg (by omega)]
    have v2 : valV (putK kvs (Sum.inl (b1 : Int)) (V.int (b2 : Int))) (Sum.inl (b2 : Int)) = none := by
      rw [valV_put, if_neg (fun z => l3 (by have := Sum.inl.inj z; omega)), hval b2 l2, if_neg (by omega)]
    refine ⟨p, _, rfl, st_of hpt', rfl, _, _, rfl, _, _, rfl, rfl, ?_⟩
    refine ⟨_, rfl, _, rfl, _, rfl, d, _, rfl, DPut.k (k := Sum.inl (b1 : Int)) hd' (sz_lt (by omega)), ?_⟩
    refine ⟨_, rfl, _, rfl, _, rfl, d, _, rfl, DPut.k (k := Sum.inl (b2 : Int)) upd_same (sz_lt ?_), ?_⟩
    · have := length_putK kvs (Sum.inl (b1 : Int)) (V.int (b2 : Int))
      omega
    · refine ⟨_, _, _, rfl, Ex.mut (Ex.mut eH hd) hd, fun b o hb h => ?_, upd_same, ?_, fun s hs => ?_⟩
      · rw [upd_ne hb, upd_ne hb]
        exact eb b o hb h
      · rw [putK_new _ v2, putK_new _ v1]
        simp
        omega
      · rw [valV_put, valV_put]
        by_cases q2 : s = b2
        · subst q2
          rw [if_pos rfl, l5, if_pos (by omega)]
        · rw [if_neg (fun z => q2 (by have := Sum.inl.inj z; omega))]
          by_cases q1 : s = b1
          · subst q1
            rw [if_pos rfl, l4, if_pos (by omega)]
          · rw [if_neg (fun z => q1 (by have := Sum.inl.inj z; omega)), hval s hs]
            have W := TR.dr_row sr
            have key : TR.Mf r s / 2 ≠ i := fun z => by
              rcases TR.lt_line_eq W l1 with ⟨w1, w2⟩ | ⟨w1, w2⟩ <;> rcases TR.spot_of W hs with w3 | w3 <;> rw [l6] at w1 w2 <;> rw [z] at w3 <;> rw [l4] at w2
              · exact q1 (w3.trans w1.symm)
              · exact q2 (w3.trans w2.symm)
              · exact q2 (w3.trans w2.symm)
              · exact q1 (w3.trans w1.symm)
            by_cases c : TR.Mf r s / 2 < i
            · rw [if_pos c, if_pos (by omega)]
            · rw [if_neg c, if_neg (by omega)]
  · rintro σ H' ⟨y2, y3, kvs, rfl, eH, eb, hd', hlen, hval⟩
    rw [List.length_map, hpl, lineL_len] at hlen hval
    refine ⟨_, rfl, k d H' eH ⟨kvs, hd', by omega, fun s hs => ?_⟩⟩
    rw [hval s hs, if_pos]
    have := TR.half_le (TR.dr_row sr) hs
    omega
end
end TW

/-! from W7 -/
set_option maxRecDepth 100000
set_option maxHeartbeats 4000000
namespace TW
open PySem PySem.Spec PyProof.Rows L2 Evl

section
variable {P : Program} {w : World} {K : PySem.W.Frag} {mg : Str → Option Value} {base : Heap}

/-! ### drawing_rings -/
theorem sc17 : FnScope ["row", "partners", "found", "seen", "start", "ring", "spot", "other"] ["row"] (defScope (topS 17)) := ⟨rfl, rfl, rfl, by decide +kernel, rfl, by decide +kernel, by decide +kernel⟩
def spRings : Sp := fun vs H Q _ => ∃ (v : V) (r : List Int), vs = [v] ∧ TI H v r ∧ TR.Sg r ∧ r.length ≤ 40 ∧
  ∀ a xs H', Ex H H' → H' a = some (.tup xs) → xs.length = TR.rings r.length (TR.Pf r) (TR.Mf r) → Q (.ref a) H'
theorem cnt_le_M (M : Nat) (S : Nat → Prop) : TR.cnt M S ≤ M := by
  unfold TR.cnt TR.lst
  exact Nat.le_trans (List.length_filter_le _ _) (by rw [List.length_range]; exact Nat.le_refl _)
theorem cnt_none (M : Nat) : TR.cnt M (fun _ => ¬ False) ≤ M := cnt_le_M M _
theorem cl_rings (D : Dfn K mg "drawing_rings" (topS 17)) (B : Bi mg) (C1 : Cl P w K mg base 4 "light_partners" spPart) (C2 : Cl P w K mg base 1 "dark_partner" spDark) : Cl P w K mg base 5 "drawing_rings" spRings := by
  refine cl_of (ps := ["row"]) D sc17 (fun _ _ _ _ _ _ us hl => match us, hl with | [_], _ => rfl) (fun vs H Q E h => by obtain ⟨v, r, rfl, _⟩ := h; rfl) fun f0 cdv A outer s0 H vs Q E hr h => ?_
  obtain ⟨v, r, rfl, hv, sr, hz, k⟩ := h
  refine ⟨_, pss_cons (ps_set (i := 1) sc17.nd rfl (.inl rfl) (pe_cl C1 hr (Nat.le_refl _) (by rfl) (pa_cons (pv 0) pa_nil)))
    (pss_cons (ps_set (i := 2) sc17.nd rfl (.inl rfl) (pe_lst pa_nil))
    (pss_cons (ps_set (i := 3) sc17.nd rfl (.inl rfl) pe_dnewK)
    (pss_cons (ps_for PassesOwn.never rfl (pi_range1 (by rfl) B.b_range (pa_cons (pe_callB call_lenD (by rfl) B.b_len PySem.boot_len (pa_cons (pv 1) pa_nil)) pa_nil)) (pg_name (i := 4) sc17.nd rfl (.inl rfl))
      (pss_cons (ps_set (i := 5) sc17.nd rfl (.inl rfl) (pe_lst pa_nil))
      (pss_cons (ps_set (i := 6) sc17.nd rfl (.inl rfl) (pv 4))
      (pss_cons (ps_while PassesOwn.never (pt_cmp (pc_dnotin (hu_of hr) (pv 6) (pv 3)))
        (pss_cons (ps_set (i := 7) sc17.nd rfl (.inl rfl) (pe_cl C2 hr (by decide) (by rfl) (pa_cons (pv 6) pa_nil)))
        (pss_cons (ps_dput (hu_of hr) (pv 3) (pv 6) pe_bl rfl)
        (pss_cons (ps_dput (hu_of hr) (pv 3) (pv 7) pe_bl rfl)
        (pss_cons (ps_expr (pe_bm PySem.F.plainAttrs_list PySem.F.slot_list_extend PySem.F.type_list_extend mt_extend (pv 5) (pa_cons (pe_lst (pa_cons (pv 6) (pa_cons (pv 7) pa_nil))) pa_nil)))
        (pss_one (ps_set (i := 6) sc17.nd rfl (.inl rfl) (pe_dget (hu_of hr) (pv 1) (pv 7) (fun _ _ => rfl)))))))))
      (pss_one (ps_if (pt_cmpR (op_neD hr.units) (pv 5) (pe_lst pa_nil) (nomark _)) (pss_one (ps_expr (pe_bm PySem.F.plainAttrs_list PySem.F.slot_list_append PySem.F.type_list_append mt_append (pv 2) (pa_cons (pe_callTy call_tuple_of (by rfl) B.b_tuple (by decide +kernel) (pa_cons (pv 5) pa_nil)) pa_nil)))) pss_nil))))))
    (pss_one (ps_ret (pe_callTy call_tuple_of (by rfl) B.b_tuple (by decide +kernel) (pa_cons (pv 2) pa_nil))))))), ?_⟩
  refine ⟨_, rfl, v, r, rfl, hv, sr, hz, fun d H1 e1 ⟨kd, hd, hkl, hkd⟩ => ?_⟩
  have W := TR.dr_row sr
  generalize hn : r.length = n at *
  generalize hPf : TR.Pf r = Pf at *
  generalize hMf : TR.Mf r = Mf at *
  refine ⟨by show 0 ≤ sizeLine; decide, fun f hf => ?_⟩
  intro sn hsn
  have nf : H1 f = none := hf
  have nsn : H1 sn = none := fresh_back (Ex.new hf) hsn
  have fsn : f ≠ sn := ne_of_none upd_same hsn
  have e2 : Ex H1 (upd (upd H1 f (.lst [])) sn (.dK [])) := (Ex.new hf).trans (Ex.new hsn)
  have hf2 : (upd (upd H1 f (.lst [])) sn (.dK [])) f = some (.lst []) := (upd_ne fsn).trans upd_same
  have hsn2 : (upd (upd H1 f (.lst [])) sn (.dK [])) sn = some (.dK []) := upd_same
  generalize upd (upd H1 f (.lst [])) sn (.dK []) = H2 at e2 hf2 hsn2 ⊢
  refine ⟨_, rfl, d, kd, rfl, e2 d _ hd, (kd.length : Int), rfl, by omega, by omega, for_range (lo := 0) (n := (kd.length : Int).toNat)
    (fun i σ H' => ∃ y4 y5 y6 y7 xs kvs, σ = [some v, some (.ref d), some (.ref f), some (.ref sn), y4, y5, y6, y7] ∧ Ex H1 H' ∧ H' f = some (.lst xs) ∧ xs.length = TR.Fn n Pf Mf i ∧ xs.length ≤ i ∧ H' sn = some (.dK kvs) ∧
      (∀ s : Nat, s < 2 * n + 2 → ((valV kvs (Sum.inl (s : Int))).isSome = true ↔ TR.Sn n Pf Mf i s)) ∧ kvs.length + 2 * TR.cnt (2 * n + 2) (fun x => ¬ TR.Sn n Pf Mf i x) ≤ 2 * (2 * n + 2))
    ⟨none, none, none, none, [], [], rfl, e2, hf2, TR.fn_zero.symm, Nat.le_refl _, hsn2, (fun s _ => ⟨(fun z => by cases z), (fun ⟨t, ht, _⟩ => absurd ht (Nat.not_lt_zero _))⟩), ?_⟩ ?_ ?_⟩
  · have := cnt_le_M (2 * n + 2) (fun x => ¬ TR.Sn n Pf Mf 0 x)
    simp only [List.length_nil]
    omega
  · rintro i σ H' hi ⟨y4, y5, y6, y7, xs, kvs, rfl, eH, hf', hxl, hxi, hs', hin, hkc⟩
    have hi' : i < 2 * n + 2 := by omega
    rw [show (0 : Int) + (i : Int) = (i : Int) by omega]
    refine ⟨by show 0 ≤ sizeLine; decide, fun l hl => ?_⟩
    have nl : H1 l = none := fresh_back eH hl
    have lf : l ≠ f := (ne_of_none hf' hl).symm
    have ls : l ≠ sn := (ne_of_none hs' hl).symm
    refine ⟨_, rfl, ?_⟩
    refine ⟨fun m σ H3 => ∃ (s : Nat) (Vs : Nat → Prop) (z7 : Option V) (kv : List (Key × V)) (ys : List Int), σ = [some v, some (.ref d), some (.ref f), some (.ref sn), some (.int (i : Int)), some (.ref l), some (.int (s : Int)), z7] ∧ Ex H1 H3 ∧ H3 f = some (.lst xs) ∧ H3 sn = some (.dK kv) ∧
        H3 l = some (.lst (ys.map V.int)) ∧ TR.Rg n Pf Mf i Vs s ∧ (∀ s : Nat, s < 2 * n + 2 → ((valV kv (Sum.inl (s : Int))).isSome = true ↔ TR.Sn n Pf Mf i s ∨ Vs s)) ∧ (ys = [] ↔ ∀ x, ¬ Vs x) ∧
        m = TR.cnt (2 * n + 2) (fun x => ¬ (TR.Sn n Pf Mf i x ∨ Vs x)) ∧ kv.length + 2 * m ≤ 2 * (2 * n + 2) ∧ ys.length + 2 * m ≤ 2 * (2 * n + 2),
      ⟨_, i, fun _ => False, y7, kvs, [], rfl, Ex.mut eH nl, ?_, ?_, upd_same, TR.rg_start W hi', ?_, ⟨fun _ _ h => h, fun _ => rfl⟩, rfl, ?_, ?_⟩, ?_⟩
    · rw [upd_ne lf.symm]; exact hf'
    · rw [upd_ne ls.symm]; exact hs'
    · intro s hs
      rw [hin s hs]
      exact ⟨.inl, fun h => h.elim id False.elim⟩
    · have e : (fun x => ¬ (TR.Sn n Pf Mf i x ∨ False)) = fun x => ¬ TR.Sn n Pf Mf i x := funext fun x => by rw [or_false]
      rw [e]
      exact hkc
    · have := cnt_le_M (2 * n + 2) (fun x => ¬ (TR.Sn n Pf Mf i x ∨ False))
      simp only [List.length_nil]
      omega
    · rintro m σ H3 ⟨s, Vs, z7, kv, ys, rfl, e3, hf3, hs3, hl3, R, hin3, hye, hm, hk3, hy3⟩
      refine ⟨_, rfl, _, rfl, sn, valV kv (Sum.inl (s : Int)), rfl, DGet.k (k := Sum.inl (s : Int)) hs3, _, rfl, ite2 (fun hnot => ?_) (fun hyes => ?_)⟩
      · have hno : ¬ (TR.Sn n Pf Mf i s ∨ Vs s) := fun q => by
          rw [(hin3 s R.lt).mpr q] at hnot
          cases hnot
        have h1 : ¬ Vs s := fun q => hno (.inr q)
        have h2 : ¬ TR.Sn n Pf Mf i s := fun q => hno (.inl q)
        have R2 := TR.rg_step W R h1 h2
        have L := TR.rg_less W R h1 h2
        have ml : TR.mate s < 2 * n + 2 := TR.mate_lt' W R.lt
        refine ⟨_, fun _ _ q => q, ?_⟩
        refine ⟨_, rfl, s, rfl, ?_⟩
        have k1 := length_putK kv (Sum.inl (s : Int)) (.bl true)
        have k2 := length_putK (putK kv (Sum.inl (s : Int)) (.bl true)) (Sum.inl ((TR.mate s : Nat) : Int)) (.bl true)
        refine ⟨_, rfl, _, rfl, sn, _, rfl, DPut.k (k := Sum.inl (s : Int)) hs3 (sz_lt (by omega)), ?_⟩
        refine ⟨_, rfl, _, rfl, sn, _, rfl, DPut.k (k := Sum.inl ((TR.mate s : Nat) : Int)) upd_same (sz_lt (by omega)), ?_⟩
        have e4 := Ex.mut (o := .dK (putK (putK kv (Sum.inl (s : Int)) (.bl true)) (Sum.inl ((TR.mate s : Nat) : Int)) (.bl true))) (Ex.mut (o := .dK (putK kv (Sum.inl (s : Int)) (.bl true))) e3 nsn) nsn
        have hf4 : (upd (upd H3 sn (.dK (putK kv (Sum.inl (s : Int)) (.bl true)))) sn (.dK (putK (putK kv (Sum.inl (s : Int)) (.bl true)) (Sum.inl ((TR.mate s : Nat) : Int)) (.bl true)))) f = some (.lst xs) := by rw [upd_ne fsn, upd_ne fsn]; exact hf3
        have hl4 : (upd (upd H3 sn (.dK (putK kv (Sum.inl (s : Int)) (.bl true)))) sn (.dK (putK (putK kv (Sum.inl (s : Int)) (.bl true)) (Sum.inl ((TR.mate s : Nat) : Int)) (.bl true)))) l = some (.lst (ys.map V.int)) := by rw [upd_ne ls, upd_ne ls]; exact hl3
        have hs4 : (upd (upd H3 sn (.dK (putK kv (Sum.inl (s : Int)) (.bl true)))) sn (.dK (putK (putK kv (Sum.inl (s : Int)) (.bl true)) (Sum.inl ((TR.mate s : Nat) : Int)) (.bl true)))) sn = some (.dK (putK (putK kv (Sum.inl (s : Int)) (.bl true)) (Sum.inl ((TR.mate s : Nat) : Int)) (.bl true))) := upd_same
        have hin4 : ∀ t : Nat, t < 2 * n + 2 → ((valV (putK (putK kv (Sum.inl (s : Int)) (.bl true)) (Sum.inl ((TR.mate s : Nat) : Int)) (.bl true)) (Sum.inl (t : Int))).isSome = true ↔ TR.Sn n Pf Mf i t ∨ (Vs t ∨ t = s ∨ t = TR.mate s)) := fun t ht => by
          rw [valV_put, valV_put]
          by_cases q2 : t = TR.mate s
          · subst q2
            rw [if_pos rfl]
            exact ⟨fun _ => .inr (.inr (.inr rfl)), fun _ => rfl⟩
          · rw [if_neg (fun z => q2 (by have := Sum.inl.inj z; omega))]
            by_cases q1 : t = s
            · subst q1
              rw [if_pos rfl]
              exact ⟨fun _ => .inr (.inr (.inl rfl)), fun _ => rfl⟩
            · rw [if_neg (fun z => q1 (by have := Sum.inl.inj z; omega)), hin3 t ht]
              exact ⟨fun z => z.elim .inl (fun z => .inr (.inl z)), fun z => z.elim .inl (fun z => z.elim .inr (fun z => z.elim (fun z => absurd z q1) (fun z => absurd z q2)))⟩
        generalize upd (upd H3 sn (.dK (putK kv (Sum.inl (s : Int)) (.bl true)))) sn (.dK (putK (putK kv (Sum.inl (s : Int)) (.bl true)) (Sum.inl ((TR.mate s : Nat) : Int)) (.bl true))) = H4 at e4 hf4 hl4 hs4 ⊢
        refine ⟨_, rfl, .inl ⟨rfl, _, sq_of hl4⟩, _, rfl, _, rfl, by show 2 ≤ sizeLine; decide, fun b hb => ?_⟩
        have lb : l ≠ b := ne_of_none hl4 hb
        have fb : f ≠ b := ne_of_none hf4 hb
        have sb : sn ≠ b := ne_of_none hs4 hb
        have e5 := Ex.mut (o := .lst ((ys ++ [(s : Int), ((TR.mate s : Nat) : Int)]).map V.int)) (e4.trans (Ex.new (o := .lst [.int (s : Int), .int ((TR.mate s : Nat) : Int)]) hb)) nl
        refine ⟨l, b, _, _, rfl, rfl, (upd_ne lb).trans hl4, upd_same, sz_of (by simp; omega), ?_⟩
        have hx : (ys ++ [(s : Int), ((TR.mate s : Nat) : Int)]).map V.int = ys.map V.int ++ [.int (s : Int), .int ((TR.mate s : Nat) : Int)] := by rw [List.map_append]; rfl
        rw [hx] at e5
        refine ⟨_, rfl, _, rfl, d, .int ((TR.Lt Pf Mf (TR.mate s) : Nat) : Int), rfl, ?_, ?_⟩
        · have := hkd (TR.mate s) ml
          rw [← this]
          exact DGet.k (k := Sum.inl ((TR.mate s : Nat) : Int)) (e5 d _ hd)
        · refine ⟨_, by rw [hm]; exact L, TR.Lt Pf Mf (TR.mate s), _, _, _, ys ++ [(s : Int), ((TR.mate s : Nat) : Int)], rfl, e5, ?_, ?_, by rw [hx]; exact upd_same, R2, hin4, ?_, rfl, ?_, ?_⟩
          · rw [upd_ne lf.symm, upd_ne fb]; exact hf4
          · rw [upd_ne ls.symm, upd_ne sb]; exact hs4
          · refine ⟨fun z => ?_, fun z => absurd (z s) (fun q => q (.inr (.inl rfl)))⟩
            have := congrArg List.length z
            simp at this
          · omega
          · simp only [List.length_append, List.length_cons, List.length_nil]
            omega
      · have hseen : TR.Sn n Pf Mf i s ∨ Vs s := (hin3 s R.lt).mp (by
          cases hq : (valV kv (Sum.inl (s : Int))).isSome
          · rw [hq] at hyes; exact absurd rfl hyes
          · rfl)
        refine ⟨_, rfl, by show 0 ≤ sizeLine; decide, fun b hb => ?_⟩
        have lb : l ≠ b := ne_of_none hl3 hb
        have fb : f ≠ b := ne_of_none hf3 hb
        have sb : sn ≠ b := ne_of_none hs3 hb
        have e4 := e3.trans (Ex.new (o := .lst []) hb)
        have hf4 : (upd H3 b (.lst [])) f = some (.lst xs) := by rw [upd_ne fb]; exact hf3
        have hs4 : (upd H3 b (.lst [])) sn = some (.dK kv) := by rw [upd_ne sb]; exact hs3
        have hl4 : (upd H3 b (.lst [])) l = some (.lst (ys.map V.int)) := by rw [upd_ne lb]; exact hl3
        refine neL (ms := []) (sq_of hl4) (sq_of upd_same) ⟨_, rfl, ?_⟩
        generalize upd H3 b (.lst []) = H4 at e4 hf4 hs4 hl4 ⊢
        rcases TR.rg_end W hi' R hseen with ⟨c1, c2⟩ | ⟨c1, c2, c3⟩
        · have y0 := hye.mpr c1
          subst y0
          refine iteF' rfl ⟨_, _, _, _, xs, kv, rfl, e4, hf4, ?_, by omega, hs4, fun t ht => ?_, ?_⟩
          · rw [TR.fn_seen c2]; exact hxl
          · rw [hin3 t ht, TR.sn_seen c2]
            exact ⟨fun z => z.elim id (fun z => absurd z (c1 t)), .inl⟩
          · have e : (fun x => ¬ TR.Sn n Pf Mf (i + 1) x) = fun x => ¬ (TR.Sn n Pf Mf i x ∨ Vs x) := funext fun x => by
              rw [TR.sn_seen c2]
              exact propext ⟨fun z q => q.elim z (c1 x), fun z q => z (.inl q)⟩
            rw [e, ← hm]
            exact hk3
        · have y0 : ys ≠ [] := fun z => hye.mp z i c1
          refine iteT' (by rw [decide_eq_false y0]; rfl) ?_
          refine ⟨_, rfl, .inl ⟨rfl, _, sq_of hf4⟩, _, rfl, l, _, rfl, .inl ⟨sq_of hl4, fun q hq => ?_⟩⟩
          have fq : f ≠ q := ne_of_none hf4 hq
          have sq' : sn ≠ q := ne_of_none hs4 hq
          refine ⟨f, _, _, rfl, rfl, (upd_ne fq).trans hf4, sz_lt (by omega), ?_⟩
          refine ⟨_, _, _, _, _, kv, rfl, Ex.mut (e4.trans (Ex.new hq)) nf, upd_same, ?_, ?_, ?_, fun t ht => ?_, ?_⟩
          · rw [TR.fn_new c2, List.length_append, hxl]; rfl
          · simp only [List.length_append, List.length_cons, List.length_nil]; omega
          · rw [upd_ne fsn.symm, upd_ne sq']; exact hs4
          · rw [hin3 t ht]; exact c3 t ht
          · have e : TR.cnt (2 * n + 2) (fun x => ¬ TR.Sn n Pf Mf (i + 1) x) = TR.cnt (2 * n + 2) (fun x => ¬ (TR.Sn n Pf Mf i x ∨ Vs x)) := by
              unfold TR.cnt TR.lst
              congr 1
              refine List.filter_congr fun x hx => ?_
              have := c3 x (List.mem_range.mp hx)
              rw [decide_eq_decide]; exact not_congr this.symm
            rw [e, ← hm]
            exact hk3
  · rintro σ H' ⟨y4, y5, y6, y7, xs, kvs, rfl, eH, hf', hxl, hxi, hs', hin, hkc⟩
    refine ⟨_, rfl, f, xs, rfl, .inl ⟨sq_of hf', fun q hq => k q xs _ ((e1.trans eH).trans (Ex.new hq)) upd_same ?_⟩⟩
    rw [hxl, show ((kd.length : Int).toNat) = 2 * n + 2 by omega, TR.fn_all]
end
end TW

/-! from W8 -/
set_option maxRecDepth 100000
set_option maxHeartbeats 4000000
namespace TW
open PySem PySem.Spec PyProof.Rows L2 Evl SrtO Srt

/-! ### sorted of pairs (int, object), the ints distinct -/
section
variable {prog : Program} {w : World} {A : Around} {E : Value → Shared → Prop} {s : Shared}
def IsSp (h : Heap) (v : Value) (x : Int) : Prop := ∃ a o t u n, v = .ref a ∧ h.get? a = some o ∧ o.cls = .type "tuple" ∧ o.data = .seq #[.int x t, u] n
theorem IsSp.keeps {h h' : Heap} {v : Value} {x : Int} (p : IsSp h v x) (k : ∀ b o, h.get? b = some o → o.cls = .type "tuple" → h'.get? b = some o) : IsSp h' v x := by
  obtain ⟨a, o, t, u, n, e, ho, hc, hd⟩ := p
  exact ⟨a, o, t, u, n, e, k _ _ ho hc, hc, hd⟩
theorem sp_firsts {h : Heap} : ∀ {vs : List Value}, (∀ v ∈ vs, ∃ x, IsSp h v x) → ∃ fs : List Value, PySem.W.KatTups h vs fs ∧ fs.length = vs.length ∧ ∀ f ∈ fs, ∃ x t, f = Value.int x t
  | [], _ => ⟨[], PySem.W.KatTups.nil, rfl, fun _ hm => by simp at hm⟩
  | v :: vs, hp => by
    obtain ⟨fs, h1, h2, h3⟩ := sp_firsts (vs := vs) fun v' hm => hp v' (List.mem_cons_of_mem _ hm)
    obtain ⟨x, a, o, t, u, n, rfl, ho, hc, hd⟩ := hp v (List.mem_cons_self ..)
    refine ⟨.int x t :: fs, PySem.W.KatTups.cons ho hc hd rfl h1, by simp [h2], ?_⟩
    intro f hm
    rcases List.mem_cons.mp hm with e | hm
    · exact ⟨x, t, e⟩
    · exact h3 f hm
theorem sp_swo (k : Value → Int) : Swo fun v u => decide (k v < k u) := by
  refine ⟨fun x y h => ?_, fun x y z h1 h2 => ?_⟩
  · have a := of_decide_eq_true h
    exact decide_eq_false (by omega)
  · have a := of_decide_eq_false h1
    have b := of_decide_eq_false h2
    exact decide_eq_false (by omega)
theorem sp_cmp {vs : List Value} {k : Value → Int} (hp : ∀ v ∈ vs, IsSp s.heap v (k v)) (inj : ∀ v ∈ vs, ∀ u ∈ vs, k v = k u → v = u) :
    Cmp prog w A s (tuples' true) (fun p => p.1 ∈ vs) (lt2 fun v u => decide (k v < k u)) := by
  intro p q hm hm'
  show wpAny (model prog w) A (keyLt' (tuples' true) p.1 q.1) (fun r s' => s' = s ∧ r = decide (k p.1 < k q.1)) (fun _ _ => False) s
  obtain ⟨a, o, t, u, n, e, ho, hc, hd⟩ := hp _ hm
  by_cases hk : k p.1 = k q.1
  · have eq := inj _ hm _ hm' hk
    rw [← eq, e]
    refine PySem.W.kat_lt ho hd ho hd ?_
    refine PySem.W.kat_cons (SeqAt.EqAt.same (Value.int (k p.1) t) prog w _ _ ?_)
    refine PySem.W.kat_yes (PySem.W.kat_cons (SeqAt.EqAt.same u prog w _ _ ?_))
    exact PySem.W.kat_yes (PySem.W.kat_nil ⟨rfl, by rw [← e]; exact (decide_eq_false (Int.lt_irrefl _)).symm⟩)
  · obtain ⟨a', o', t', u', n', e', ho', hc', hd'⟩ := hp _ hm'
    generalize hx : k p.1 = x at *
    generalize hy : k q.1 = y at *
    rw [e, e']
    refine PySem.W.kat_lt ho hd ho' hd' ?_
    refine PySem.W.kat_cons (SeqAt.EqAt.int_int x t y t' prog w _ _ ?_)
    refine PySem.W.kat_go (fun e1 => absurd (by simpa using e1) hk) (fun _ => ?_)
    exact PySem.W.kat_no (oneLt_int ⟨rfl, rfl⟩)
theorem sp_sortable {a : Addr} {vs : List Value} {k : Value → Int} (h0 : 0 < vs.length) (hp : ∀ v ∈ vs, IsSp s.heap v (k v)) (inj : ∀ v ∈ vs, ∀ u ∈ vs, k v = k u → v = u) (ha : ∀ o, s.heap.get? a = some o → o.cls ≠ .type "tuple") :
    SortableO prog w A s a vs fun v u => decide (k v < k u) := by
  intro h' keep
  have hp' : ∀ v ∈ vs, IsSp h' v (k v) := fun v hm => (hp v hm).keeps fun b o e c => keep b o (fun z => by subst z; exact ha o e c) e
  obtain ⟨fs, h1, h2, h3⟩ := sp_firsts fun v hm => ⟨_, hp' v hm⟩
  refine ⟨tuples' true, fun Q E hq => ?_, sp_cmp hp' inj⟩
  refine PySem.W.kat_kind (T := .type "int") h1 (by omega) (fun f hm => ?_) (by rfl) ?_
  · obtain ⟨x, t, rfl⟩ := h3 f hm
    exact PySem.W.Looks.now
  · rw [show (Value.type "int" != Value.type "tuple") = true by decide +kernel]
    exact hq
end

section
variable {X : Cx}
def rSortSp (K : PySem.W.Frag) : List V → Hp → VK → Prop := fun vs H Q => ∃ (a : Addr) (xs : List V) (k : V → Int), vs = [V.ref a] ∧ SqL K H a xs ∧ (∀ x ∈ xs, ∃ t p, x = V.ref t ∧ H t = some (.tup [.int (k x), .ref p])) ∧
  (∀ x ∈ xs, ∀ y ∈ xs, k x = k y → x = y) ∧ ∀ ys p, ys.Perm xs → ys.Pairwise (fun x y => k x ≤ k y) → H p = none → Q (.ref p) (upd H p (.lst ys))
theorem cr_sortSp : CallR X (.builtin "sorted") (rSortSp X.K) := by
  intro pins s σ H vs us Q I r h
  obtain ⟨a, xs, k, rfl, hs, hx, inj, q⟩ := h
  obtain ⟨its, rv, hl, hz⟩ := I.list hs
  rw [Vals.ref1 r]
  obtain ⟨e1, e2⟩ := refs_back rv fun x m => by
    obtain ⟨t, p, e, _⟩ := hx x m
    exact ⟨t, e⟩
  have hm : ∀ v ∈ its, backV v ∈ xs := fun v hv => by rw [e1]; exact List.mem_map.mpr ⟨_, hv, rfl⟩
  have hp : ∀ v ∈ its, IsSp s.heap v (k (backV v)) := fun v hv => by
    obtain ⟨t, rfl⟩ := e2 v hv
    obtain ⟨t', p, e, ht⟩ := hx _ (hm _ hv)
    cases e
    obtain ⟨_, its2, r2, o, ho, hc, n, hd⟩ := I.hok _ _ ht
    obtain ⟨u1, u2, rfl, ri, rj⟩ := vals2 r2
    obtain ⟨t1, rfl⟩ := ri
    exact ⟨t, o, t1, u2, n, rfl, ho, hc, hd⟩
  have inj' : ∀ v ∈ its, ∀ u ∈ its, k (backV v) = k (backV u) → v = u := fun v hv u hu e => by
    have := inj _ (hm v hv) _ (hm u hu) e
    obtain ⟨t, rfl⟩ := e2 v hv
    obtain ⟨t', rfl⟩ := e2 u hu
    cases this
    rfl
  refine sorted_ord (sp_swo fun v => k (backV v)) hl.isList (by rw [← rv.length]; exact hz) (fun h2 h₁ a' ha kk => ?_) fun out h1 h2 => ?_
  · refine sp_sortable (s := { s with heap := h₁ }) (by omega) (fun v hv => (hp v hv).keeps fun b o e _ => (kk b o e).2) inj' fun o e => ?_
    have e' : some o = some (seqObj "list" its.toArray 0) := e.symm.trans ha
    cases e'
    intro c
    exact absurd (Value.type.inj c) (by decide)
  · obtain ⟨ep, he'⟩ := sortedAll_at s.heap its out.toArray
    have h3 : ∀ u ∈ out, ∃ a, u = Value.ref a := fun u hu => e2 u (h2.perm.mem_iff.mp hu)
    have hpm : (out.map backV).Perm xs := by rw [e1]; exact h2.perm.map backV
    have hlen : (out.map backV).length ≤ sizeLine := by rw [hpm.length_eq]; exact hz
    exact ⟨.ref _, upd H (s.heap.objs.size + 1) (.lst (out.map backV)), I.laid (t' := s.toks) (fun _ _ => sortedAll_old) (Nat.le_succ _) ⟨hlen, out, ep, vals_back h3, he'⟩, rfl,
      q _ _ hpm (List.pairwise_map.mpr (h1.imp fun {x y} h => by have := of_decide_eq_false h; omega)) (I.hok.fresh (Nat.le_succ _))⟩

/-! ### x not in t, t a tuple of data -/
def rNotInT (K : PySem.W.Frag) : R2 := fun x y H Q => ∃ d ds, Dp K H x d ∧ Dp K H y (.tuple ds) ∧ SeqAt.shaped d = true ∧ SeqAt.shaped (.tuple ds) = true ∧ Q (.bl (!ds.any fun z => PyData.eqv z d)) H
theorem op_notInT (hu : X.A.units + 65 < cLine) : OpR X (compareOp .NotIn) (rNotInT X.K) := by
  intro pins s σ H x y v u Q I rx ry h
  obtain ⟨d, ds, hd, he, sd, se, q⟩ := h
  obtain ⟨as, ra⟩ := Dp.reads I d x v hd rx
  obtain ⟨bs, rb⟩ := Dp.reads I (.tuple ds) y u he ry
  exact SeqAt.notIn_tuple_reads rb ra (SeqAt.canLay_of_shaped se) (SeqAt.canLay_of_shaped sd) (room_in_shaped sd hu) ⟨.bl _, H, I, rfl, q⟩

/-! ### t.index(x), ints -/
def rTIndex (K : PySem.W.Frag) : V → List V → Hp → VK → Prop := fun x xs H Q => ∃ (a : Addr) (ns : List Int) (i : Int), x = .ref a ∧ xs = [.int i] ∧ SqT K H a (ns.map V.int) ∧ i ∈ ns ∧ Q (.int (ns.idxOf i : Nat)) H
theorem mt_tindex : MtR X "tuple.index" (rTIndex X.K) := by
  intro pins s σ H x xs v us Q I rx rxs h
  obtain ⟨a, ns, i, rfl, rfl, hs, hi, q⟩ := h
  cases rx
  obtain ⟨u, rfl, ru⟩ := vals1 rxs
  obtain ⟨t, rfl⟩ := ru
  obtain ⟨its, r, ht, hz⟩ := I.tuple hs
  obtain ⟨o, ho, hc, n, hd⟩ := ht
  exact SeqAt.tuple_index_ints ⟨o, ho, hc, n, hd⟩ r.ints hi ⟨.int _, H, I.tok _, ⟨_, rfl⟩, q⟩
end
end TW

/-! from W9 -/
set_option maxRecDepth 100000
set_option maxHeartbeats 4000000
namespace TW
open PySem PySem.Spec PyProof.Rows L2 Evl

/-- a pair of two spots -/
def PP (H : Hp) (v : V) (z : Nat × Nat) : Prop := ∃ p, v = .ref p ∧ H p = some (.tup [.int (z.1 : Int), .int (z.2 : Int)])
theorem PP.ex {H H' : Hp} {v : V} {z : Nat × Nat} (h : PP H v z) (e : Ex H H') : PP H' v z := by
  obtain ⟨p, rfl, h⟩ := h
  exact ⟨p, rfl, e p _ h⟩
/-- lines[k] -/
theorem TL.get {H : Hp} {v : V} {L : List (Nat × Nat)} (h : TL H v L) {k : Nat} {z : Nat × Nat} (hk : L[k]? = some z) : ∃ a xs u, v = .ref a ∧ H a = some (.tup xs) ∧ xs.length = L.length ∧ xs[k]? = some u ∧ PP H u z := by
  obtain ⟨a, ps, rfl, h2, h3, h4⟩ := h
  have hk' := (List.getElem?_eq_some_iff.mp hk).1
  have hp : ps[k]? = some ps[k] := List.getElem?_eq_getElem (by omega)
  exact ⟨a, ps.map V.ref, .ref ps[k], rfl, h2, by rw [List.length_map, h3], by rw [List.getElem?_map, hp]; rfl, ps[k], rfl, h4 k _ z hp hk⟩

section
variable {K : PySem.W.Frag} {σ : L2.St} {H : Hp}
theorem ev_ix {ta tb : TE} {xs : List V} {p : Addr} {i : Nat} {v : V} (ha : Ev ta σ H (.ref p)) (hb : Ev tb σ H (.int (i : Int))) (hp : H p = some (.tup xs)) (hi : xs[i]? = some v) : Ev (tOp (rIxT K) ta tb) σ H v :=
  ev_op ha hb (rv_ixT (st_of hp) (atI_nat hi))
theorem ev_int {i : Int} : Ev (tC (.int i)) σ H (.int i) := ev_c
end

section
variable {P : Program} {w : World} {K : PySem.W.Frag} {mg : Str → Option Value} {base : Heap}

theorem dI (a b : Int) : decide (V.int a = V.int b) = decide (a = b) := by
  by_cases h : a = b
  · subst h; simp
  · rw [decide_eq_false h, decide_eq_false (fun z => h (V.int.inj z))]
/-! ### is_oriented, is_short, crosses -/
theorem sc19 : FnScope ["line"] ["line"] (defScope (topS 19)) := ⟨rfl, rfl, rfl, by decide +kernel, rfl, by decide +kernel, by decide +kernel⟩
def spOri : Sp := fun vs H Q _ => ∃ (v : V) (z : Nat × Nat), vs = [v] ∧ PP H v z ∧ ∀ H', Ex H H' → Q (.bl (decide ((z.1 + z.2) % 2 = 0))) H'
theorem cl_ori (D : Dfn K mg "is_oriented" (topS 19)) (B : Bi mg) : Cl P w K mg base 1 "is_oriented" spOri := by
  refine cl_of (ps := ["line"]) D sc19 (fun _ _ _ _ _ _ us hl => match us, hl with | [_], _ => rfl) (fun vs H Q E h => by obtain ⟨v, z, rfl, _⟩ := h; rfl) fun f cdv A outer s H vs Q E hr h => ?_
  obtain ⟨v, z, rfl, ⟨p, rfl, hp⟩, k⟩ := h
  refine ⟨_, pss_one (ps_ret (pe_cmpR op_eq (pe_op op_mod (pe_op op_add (pe_ix (r := rIxT K) ix_tup (pv 0) pe_int (fun _ _ => rfl)) (pe_ix (r := rIxT K) ix_tup (pv 0) pe_int (fun _ _ => rfl))) pe_int) pe_int (nomark _))), ?_⟩
  have h0 : Ev (tOp (rIxT K) (tVar 0) (tC (.int 0))) (start ["line"] [.ref p]) H (.int (z.1 : Int)) := ev_ix (i := 0) (ev_var rfl) ev_int hp rfl
  have h1 : Ev (tOp (rIxT K) (tVar 0) (tC (.int 1))) (start ["line"] [.ref p]) H (.int (z.2 : Int)) := ev_ix (i := 1) (ev_var rfl) ev_int hp rfl
  refine s_ret (ev_op (ev_op (ev_op h0 h1 rv_I0) ev_int (rv_I (by decide))) ev_int (rv_eq rfl)) fun H1 e1 => ?_
  have e : decide (V.int (((z.1 : Int) + (z.2 : Int)) % 2) = V.int 0) = decide ((z.1 + z.2) % 2 = 0) := by
    rw [dI, decide_eq_decide]
    omega
  have := k H1 e1
  rw [← e] at this
  exact this
theorem sc21 : FnScope ["line"] ["line"] (defScope (topS 21)) := ⟨rfl, rfl, rfl, by decide +kernel, rfl, by decide +kernel, by decide +kernel⟩
def spShort : Sp := fun vs H Q _ => ∃ (v : V) (z : Nat × Nat), vs = [v] ∧ PP H v z ∧ ∀ H', Ex H H' → Q (.bl (decide (z.1 % 2 = 0 ∧ z.2 = z.1 + 1))) H'
theorem cl_short (D : Dfn K mg "is_short" (topS 21)) (B : Bi mg) : Cl P w K mg base 1 "is_short" spShort := by
  refine cl_of (ps := ["line"]) D sc21 (fun _ _ _ _ _ _ us hl => match us, hl with | [_], _ => rfl) (fun vs H Q E h => by obtain ⟨v, z, rfl, _⟩ := h; rfl) fun f cdv A outer s H vs Q E hr h => ?_
  obtain ⟨v, z, rfl, ⟨p, rfl, hp⟩, k⟩ := h
  refine ⟨_, pss_one (ps_ret (pe_and (pe_cmpR op_eq (pe_op op_mod (pe_ix (r := rIxT K) ix_tup (pv 0) pe_int (fun _ _ => rfl)) pe_int) pe_int (nomark _))
    (pe_one (pe_cmpR op_eq (pe_ix (r := rIxT K) ix_tup (pv 0) pe_int (fun _ _ => rfl)) (pe_op op_add (pe_ix (r := rIxT K) ix_tup (pv 0) pe_int (fun _ _ => rfl)) pe_int) (nomark _))))), ?_⟩
  have h0 : Ev (tOp (rIxT K) (tVar 0) (tC (.int 0))) (start ["line"] [.ref p]) H (.int (z.1 : Int)) := ev_ix (i := 0) (ev_var rfl) ev_int hp rfl
  have h1 : Ev (tOp (rIxT K) (tVar 0) (tC (.int 1))) (start ["line"] [.ref p]) H (.int (z.2 : Int)) := ev_ix (i := 1) (ev_var rfl) ev_int hp rfl
  refine s_ret (ev_andV (ev_op (ev_op h0 ev_int (rv_I (by decide))) ev_int (rv_eq rfl)) fun _ => ev_op h1 (ev_op h0 ev_int rv_I0) (rv_eq rfl)) fun H1 e1 => ?_
  have e : (decide (V.int ((z.1 : Int) % 2) = V.int 0) && decide (V.int (z.2 : Int) = V.int ((z.1 : Int) + 1))) = decide (z.1 % 2 = 0 ∧ z.2 = z.1 + 1) := by
    rw [dI, dI, ← Bool.decide_and, decide_eq_decide]
    omega
  have := k H1 e1
  rw [← e] at this
  exact this
def crB (x y : Nat × Nat) : Bool := decide (([y.1, y.2].filter fun s => decide (x.1 < s) && decide (s < x.2)).length = 1)
theorem sc20 : FnScope ["line", "other", "within", "spot"] ["line", "other"] (defScope (topS 20)) := ⟨rfl, rfl, rfl, by decide +kernel, rfl, by decide +kernel, by decide +kernel⟩
def spCrosses : Sp := fun vs H Q _ => ∃ (u v : V) (x y : Nat × Nat), vs = [u, v] ∧ PP H u x ∧ PP H v y ∧ ∀ H', Ex H H' → Q (.bl (crB x y)) H'
theorem cl_crosses (D : Dfn K mg "crosses" (topS 20)) (B : Bi mg) : Cl P w K mg base 1 "crosses" spCrosses := by
  refine cl_of (ps := ["line", "other"]) D sc20 (fun _ _ _ _ _ _ us hl => match us, hl with | [_, _], _ => rfl) (fun vs H Q E h => by obtain ⟨u, v, x, y, rfl, _⟩ := h; rfl) fun f cdv A outer s H vs Q E hr h => ?_
  obtain ⟨u, v, x, y, rfl, ⟨p, rfl, hp⟩, ⟨q, rfl, hq⟩, k⟩ := h
  refine ⟨_, pss_cons (ps_setLc (i := 2) (own := [("spot", 3)]) (g := gName 3) rfl sc20.nd rfl rfl (sw_true rfl rfl rfl (by decide +kernel)) (pi_tup (pv 1))
      (blkOk_by (own := [("spot", 3)]) (N := ["line", "other", "within", "spot"]) (sc := defScope (topS 20)) (by decide +kernel)) (fun _ _ _ _ _ => pg_name (i := 3) sc20.nd rfl (.inl rfl))
      (fun _ _ _ _ _ => pts_one (pt_chain op_lt op_lt (pe_ix (r := rIxT K) ix_tup (pv 0) pe_int (fun _ _ => rfl)) (pv 3) (pe_ix (r := rIxT K) ix_tup (pv 0) pe_int (fun _ _ => rfl)))) (fun _ _ _ _ _ => pv 3))
    (pss_one (ps_ret (pe_cmpR op_eq (pe_callB call_len_seq (by rfl) B.b_len PySem.boot_len (pa_cons (pv 2) pa_nil)) pe_int (nomark _)))), ?_⟩
  refine u_seq (u_set (y_lcT [y.1, y.2] (fun s : Nat => V.int (s : Int)) (fun s => decide (x.1 < s) && decide (s < x.2)) (fun s => V.int (s : Int)) (by simp) ?_ ?_ _ fun v1 H1 e1 ⟨D, ev, hD, hD1⟩ => ?_))
  · exact y_var rfl ⟨q, rfl, st_of hq⟩
  · intro H1 e1
    refine lc_name (fun _ => by rfl) (fun s _ H' e => ?_) fun s _ H' e _ => ev_var rfl
    have hp' := e p _ (e1 p _ hp)
    have h0 : Ev (tOp (rIxT K) (tVar 0) (tC (.int 0))) ((wipe (start ["line", "other", "within", "spot"] [.ref p, .ref q]) [3]).set 3 (some (.int (s : Int)))) H' (.int (x.1 : Int)) := ev_ix (i := 0) (ev_var rfl) ev_int hp' rfl
    have h1 : Ev (tOp (rIxT K) (tVar 0) (tC (.int 1))) ((wipe (start ["line", "other", "within", "spot"] [.ref p, .ref q]) [3]).set 3 (some (.int (s : Int)))) H' (.int (x.2 : Int)) := ev_ix (i := 1) (ev_var rfl) ev_int hp' rfl
    intro H2 e2 R hR
    refine h0 H2 e2 _ fun H3 e3 => ⟨_, rfl, _, _, rfl, rfl, _, rfl, ?_⟩
    have d1 : decide ((x.1 : Int) < (s : Int)) = decide (x.1 < s) := by rw [decide_eq_decide]; omega
    have d2 : decide ((s : Int) < (x.2 : Int)) = decide (s < x.2) := by rw [decide_eq_decide]; omega
    show if decide ((x.1 : Int) < (s : Int)) = true then _ else _
    rw [d1]
    by_cases hl : x.1 < s
    · rw [if_pos (decide_eq_true hl)]
      refine h1 H3 (e2.trans e3) _ fun H4 e4 => ⟨_, _, rfl, rfl, _, rfl, ?_⟩
      show R (decide ((s : Int) < (x.2 : Int))) H4
      rw [d2]
      have := hR H4 (e3.trans e4)
      rw [decide_eq_true hl, Bool.true_and] at this
      exact this
    · rw [if_neg (fun z => hl (of_decide_eq_true z))]
      refine ⟨_, rfl, ?_⟩
      have := hR H3 e3
      rw [decide_eq_false hl, Bool.false_and] at this
      exact this
  · subst ev
    dsimp only
    refine u_ret ?_
    refine ⟨_, rfl, D, _, rfl, .inl (sq_of hD1), rfl, ?_⟩
    have := k H1 e1
    unfold crB at this
    rw [show decide (V.int (((([y.1, y.2].filter fun s => decide (x.1 < s) && decide (s < x.2)).map fun s : Nat => V.int (s : Int)).length : Nat) : Int) = V.int 1) = decide (([y.1, y.2].filter fun s => decide (x.1 < s) && decide (s < x.2)).length = 1) by
      rw [dI, List.length_map, decide_eq_decide]; omega]
    exact this
theorem crB_iff {n : Nat} {Pf Mf : Nat → Nat} (W : TR.Dr n Pf Mf) {k l : Nat} (hk : k ≤ n) (hl : l ≤ n) : crB (lnP Pf k) (lnP Pf l) = true ↔ TR.cr Pf k l := by
  unfold crB lnP
  rw [decide_eq_true_iff]
  have n1 := W.ne2 hk
  have n2 := W.ne2 hl
  by_cases e : k = l
  · subst e
    constructor
    · intro h
      exfalso
      revert h
      simp only [List.filter_cons, List.filter_nil]
      split <;> split <;> simp_all <;> omega
    · intro h
      exact absurd rfl h.1
  · obtain ⟨a, b, c, d⟩ := W.ne hk hl e
    unfold TR.cr TR.Sp TR.In
    generalize Pf (2 * k) = p at *
    generalize Pf (2 * k + 1) = q at *
    generalize Pf (2 * l) = u at *
    generalize Pf (2 * l + 1) = v at *
    simp only [List.filter_cons, List.filter_nil]
    have h1 : (decide (min p q < min u v) && decide (min u v < max p q)) = decide (min p q < min u v ∧ min u v < max p q) := by rw [Bool.decide_and]
    have h2 : (decide (min p q < max u v) && decide (max u v < max p q)) = decide (min p q < max u v ∧ max u v < max p q) := by rw [Bool.decide_and]
    rw [h1, h2]
    by_cases c1 : min p q < min u v ∧ min u v < max p q <;> by_cases c2 : min p q < max u v ∧ max u v < max p q <;> simp only [c1, c2, decide_true, decide_false, if_true, if_false, Bool.false_eq_true, List.length_cons, List.length_nil, and_self] <;> simp [e] <;> omega
end
end TW

/-! from W10 -/
set_option maxRecDepth 100000
set_option maxHeartbeats 4000000
namespace TW
open PySem PySem.Spec PyProof.Rows L2 Evl

def cI (l : List Nat) : List Int := l.map fun m : Nat => (m : Int)
theorem mem_cI {l : List Nat} {k : Nat} : (k : Int) ∈ cI l ↔ k ∈ l := by
  unfold cI
  rw [List.mem_map]
  exact ⟨fun ⟨m, hm, e⟩ => by have : m = k := by omega
                              rwa [← this], fun h => ⟨k, h, rfl⟩⟩
theorem inV_cI (k : Nat) (l : List Nat) : inV (.int (k : Int)) ((cI l).map V.int) = decide (k ∈ l) := by
  unfold inV cI
  rw [List.map_map, List.any_map]
  induction l with
  | nil => simp
  | cons a t ih =>
    rw [List.any_cons, ih]
    have e : ((fun y => eqV y (.int (k : Int))) ∘ V.int ∘ fun m : Nat => (m : Int)) a = decide (k = a) := by
      show ((a : Int) == (k : Int)) = decide (k = a)
      rw [Bool.beq_eq_decide_eq, decide_eq_decide]
      omega
    rw [e, ← Bool.decide_or, decide_eq_decide, List.mem_cons]
theorem flat_ints (l : List Int) : (l.map V.int).all flatV = true := by
  rw [List.all_map, List.all_eq_true]
  intro x _
  rfl
noncomputable def ci (r : List Int) (X : Nat) : List Int := cI (TR.cls r.length (TR.Pf r) X)
theorem cI_inj {l m : List Nat} (h : cI l = cI m) : l = m := by
  induction l generalizing m with
  | nil => cases m with
    | nil => rfl
    | cons a t => cases h
  | cons b t ih => cases m with
    | nil => cases h
    | cons a t' =>
      have h1 : (b : Int) = (a : Int) := (List.cons.inj h).1
      have h2 := ih (List.cons.inj h).2
      have : b = a := by omega
      rw [this, h2]
/-- a tuple of parts -/
def PL (c : Nat → List Int) (H : Hp) (v : V) (G : List Nat) : Prop := ∃ (a : Addr) (zs : List (Addr × Nat)), v = .ref a ∧ H a = some (.tup (zs.map fun z => V.ref z.1)) ∧ zs.map (·.2) = G ∧ ∀ z ∈ zs, H z.1 = some (.tup ((c z.2).map V.int))
theorem PL.ex {c : Nat → List Int} {H H' : Hp} {v : V} {G : List Nat} (h : PL c H v G) (e : Ex H H') : PL c H' v G := by
  obtain ⟨a, zs, h1, h2, h3, h4⟩ := h
  exact ⟨a, zs, h1, e a _ h2, h3, fun z hz => e z.1 _ (h4 z hz)⟩

section
variable {P : Program} {w : World} {K : PySem.W.Frag} {mg : Str → Option Value} {base : Heap}

/-! ### connected_with -/
theorem sc22 : FnScope ["lines", "start", "found", "at", "k"] ["lines", "start"] (defScope (topS 22)) := ⟨rfl, rfl, rfl, by decide +kernel, rfl, by decide +kernel, by decide +kernel⟩
def spConn : Sp := fun vs H Q _ => ∃ (v : V) (r : List Int) (s : Nat), vs = [v, .int (s : Int)] ∧ TL H v (lineL r) ∧ TR.Sg r ∧ r.length ≤ 40 ∧ s ≤ r.length ∧ RetT H Q (ci r s)
theorem cl_conn (D : Dfn K mg "connected_with" (topS 22)) (B : Bi mg) (C1 : Cl P w K mg base 1 "crosses" spCrosses) : Cl P w K mg base 2 "connected_with" spConn := by
  refine cl_of (ps := ["lines", "start"]) D sc22 (fun _ _ _ _ _ _ us hl => match us, hl with | [_, _], _ => rfl) (fun vs H Q E h => by obtain ⟨v, r, s, rfl, _⟩ := h; rfl) fun f0 cdv A outer s0 H vs Q E hr h => ?_
  obtain ⟨v, r, s, rfl, hv, sr, hz, hs, k⟩ := h
  refine ⟨_, pss_cons (ps_set (i := 2) sc22.nd rfl (.inl rfl) (pe_lst (pa_cons (pv 1) pa_nil)))
    (pss_cons (ps_set (i := 3) sc22.nd rfl (.inl rfl) pe_int)
    (pss_cons (ps_while PassesOwn.never (pt_cmpR op_lt (pv 3) (pe_callB call_len_seq (by rfl) B.b_len PySem.boot_len (pa_cons (pv 2) pa_nil)) (nomark _))
      (pss_cons (ps_for PassesOwn.never rfl (pi_range1 (by rfl) B.b_range (pa_cons (pe_callB call_len_seq (by rfl) B.b_len PySem.boot_len (pa_cons (pv 0) pa_nil)) pa_nil)) (pg_name (i := 4) sc22.nd rfl (.inl rfl))
        (pss_one (ps_if (PW.pt (pw_and (pt_cmpR op_notIn_seq (pv 4) (pv 2) rfl) (pw_and1 (pt_val (pe_cl C1 hr (Nat.le_refl _) (by rfl)
            (pa_cons (pe_ix (r := rIxT K) ix_tup (pv 0) (pe_ix (r := rIxL K) ix_list (pv 2) (pv 3) (fun _ _ => rfl)) (fun _ _ => rfl)) (pa_cons (pe_ix (r := rIxT K) ix_tup (pv 0) (pv 4) (fun _ _ => rfl)) pa_nil)))))))
          (pss_one (ps_expr (pe_bm PySem.F.plainAttrs_list PySem.F.slot_list_append PySem.F.type_list_append mt_append (pv 2) (pa_cons (pv 4) pa_nil)))) pss_nil)))
      (pss_one (ps_aug (i := 3) sc22.nd rfl (.inl rfl) pe_int ip_add))))
    (pss_one (ps_ret (pe_callTy call_tuple_of (by rfl) B.b_tuple (by decide +kernel) (pa_cons (pe_callB cr_sortedI (by rfl) B.b_sorted (by decide +kernel) (pa_cons (pv 2) pa_nil)) pa_nil)))))), ?_⟩
  have W := TR.dr_row sr
  unfold ci at k
  have lnn : ∀ {i : Nat}, i ≤ r.length → ∃ a xs u, v = .ref a ∧ H a = some (.tup xs) ∧ xs.length = r.length + 1 ∧ xs[i]? = some u ∧ PP H u (lnP (TR.Pf r) i) := fun {i} hi => by
    obtain ⟨a, xs, u, h1, h2, h3, h4, h5⟩ := hv.get (lineL_get (r := r) (k := i) (by omega))
    exact ⟨a, xs, u, h1, h2, by rw [h3, lineL_len], h4, h5⟩
  generalize hn : r.length = n at *
  generalize hPf : TR.Pf r = Pf at *
  generalize hMf : TR.Mf r = Mf at *
  refine ⟨_, rfl, by show 1 ≤ sizeLine; decide, fun l hl => ?_⟩
  refine ⟨fun m σ H' => ∃ (F : List Nat) (i : Nat) (y4 : Option V), σ = [some v, some (.int (s : Int)), some (.ref l), some (.int (i : Int)), y4] ∧ Ex H H' ∧ H' l = some (.lst ((cI F).map V.int)) ∧ TR.Bf n Pf s F i ∧ i ≤ F.length ∧ m = n + 1 - i,
    ⟨_, [s], 0, none, rfl, Ex.new hl, upd_same, TR.bf_start hs, Nat.zero_le _, rfl⟩, ?_⟩
  rintro m σ H' ⟨F, i, y4, rfl, eH, hL, hB, hi, rfl⟩
  have hFl := hB.len
  refine ⟨_, rfl, _, rfl, l, _, rfl, .inl (sq_of hL), _, _, rfl, rfl, _, rfl, ite2 (fun hlt => ?_) (fun hge => ?_)⟩
  · have hlt' : i < F.length := by
      have := of_decide_eq_true hlt
      unfold cI at this
      rw [List.length_map, List.length_map] at this
      omega
    obtain ⟨x, hx⟩ : ∃ x, F[i]? = some x := ⟨_, List.getElem?_eq_getElem hlt'⟩
    have hxn : x ≤ n := (hB.cn x (List.mem_of_getElem? hx)).1
    obtain ⟨a, xs, ux, ev, ha, hxs, hux, pux⟩ := lnn hxn
    subst ev
    refine ⟨_, fun _ _ q => q, ?_⟩
    refine ⟨_, rfl, a, _, rfl, .inr (st_of (eH a _ ha)), (xs.length : Int), rfl, by omega, by omega, for_range (lo := 0) (n := (xs.length : Int).toNat)
      (fun j σ H'' => ∃ (F : List Nat) (y4 : Option V), σ = [some (.ref a), some (.int (s : Int)), some (.ref l), some (.int (i : Int)), y4] ∧ Ex H H'' ∧ H'' l = some (.lst ((cI F).map V.int)) ∧ TR.Bf n Pf s F i ∧ F[i]? = some x ∧ ∀ y, y < j → TR.cr Pf x y → y ∈ F)
      ⟨F, y4, rfl, eH, hL, hB, hx, fun y hy => absurd hy (Nat.not_lt_zero _)⟩ ?_ ?_⟩
    · rintro j σ H2 hj ⟨F, y4, rfl, eH, hL, hB, hx, hy⟩
      have hj' : j ≤ n := by omega
      have hil := (List.getElem?_eq_some_iff.mp hx).1
      have hFl := hB.len
      obtain ⟨a', xs', uj, ev', ha', hxs', huj, puj⟩ := lnn hj'
      cases ev'
      cases (Option.some.inj (ha.symm.trans ha'))
      rw [show (0 : Int) + (j : Int) = (j : Int) by omega]
      have hxI : ((cI F).map V.int)[i]? = some (.int (x : Int)) := by
        unfold cI
        rw [List.getElem?_map, List.getElem?_map, hx]
        rfl
      have e1 : Ev (tOp (rIxT K) (tVar 0) (tOp (rIxL K) (tVar 2) (tVar 3))) [some (.ref a), some (.int (s : Int)), some (.ref l), some (.int (i : Int)), some (.int (j : Int))] H2 ux :=
        ev_ix (i := x) (ev_var rfl) (ev_op (ev_var rfl) (ev_var rfl) (rv_ixL (sq_of hL) (atI_nat hxI))) (eH a _ ha) hux
      have e2 : Ev (tOp (rIxT K) (tVar 0) (tVar 4)) [some (.ref a), some (.int (s : Int)), some (.ref l), some (.int (i : Int)), some (.int (j : Int))] H2 uj :=
        ev_ix (i := j) (ev_var rfl) (ev_var rfl) (eH a _ ha) huj
      refine s_when (et_and (et_test (ev_op (ev_var rfl) (ev_var rfl) (rv_niL (sq_of hL) rfl (flat_ints _)))) fun _ => et_B (ev_call (z := .bl (crB (lnP Pf x) (lnP Pf j))) (ea_cons e1 (ea_cons e2 ea_nil)) fun H3 e3 Q3 q3 E3 => ⟨ux, uj, _, _, rfl, pux.ex (eH.trans e3), puj.ex (eH.trans e3), q3⟩)) (fun hb H3 e3 => ?_) (fun hb H3 e3 => ?_)
      · rw [inV_cI, Bool.and_eq_true, Bool.not_eq_true', decide_eq_false_iff_not] at hb
        have hc := (crB_iff W hxn hj').mp hb.2
        refine s_app (e3 l _ hL) (ev_var rfl) (ev_var rfl) (by unfold cI; rw [List.length_map, List.length_map]; omega) fun H4 e4 => ?_
        refine ⟨F ++ [j], _, rfl, Ex.mut ((eH.trans e3).trans e4) hl, ?_, TR.bf_add hB hx hj' hb.1 hc, ?_, fun y hy' hcy => ?_⟩
        · rw [upd_same]
          unfold cI
          simp
        · rw [List.getElem?_append_left hil]; exact hx
        · by_cases e : y = j
          · rw [e]; simp
          · exact List.mem_append.mpr (.inl (hy y (by omega) hcy))
      · rw [inV_cI, Bool.and_eq_false_iff, Bool.not_eq_false', decide_eq_true_iff] at hb
        refine ⟨F, _, rfl, eH.trans e3, e3 l _ hL, hB, hx, fun y hy' hcy => ?_⟩
        by_cases e : y = j
        · subst e
          rcases hb with hb | hb
          · exact hb
          · rw [(crB_iff W hxn hj').mpr hcy] at hb
            cases hb
        · exact hy y (by omega) hcy
    · rintro σ H2 ⟨F, y4, rfl, eH, hL, hB, hx, hy⟩
      have hil := (List.getElem?_eq_some_iff.mp hx).1
      have hFl := hB.len
      refine ⟨_, rfl, _, _, rfl, rfl, n + 1 - (i + 1), by omega, F, i + 1, y4, rfl, eH, hL, TR.bf_next hB hx fun y hy' hc => hy y (by omega) hc, by omega, rfl⟩
  · have hge' : F.length ≤ i := by
      have : ¬ _ := fun q => hge (decide_eq_true q)
      unfold cI at this
      rw [List.length_map, List.length_map] at this
      omega
    refine ⟨_, rfl, l, _, rfl, sq_of hL, fun ns' p hp1 hp2 hp => ?_⟩
    have e := TR.lst_uniq hB.nd (TR.bf_end W hB hge') hp1 hp2
    refine ⟨p, _, rfl, .inl ⟨sq_of upd_same, fun q hq => k _ _ ((eH.trans (Ex.new hp)).trans (Ex.new hq)) (TI.new ?_)⟩⟩
    rw [upd_same, e]
    rfl
end
end TW

/-! from W11 -/
set_option maxRecDepth 100000
set_option maxHeartbeats 4000000
namespace TW
open PySem PySem.Spec PyProof.Rows L2 Evl

section
variable {P : Program} {w : World} {K : PySem.W.Frag} {mg : Str → Option Value} {base : Heap}

theorem TL.all {H : Hp} {v : V} {r : List Int} (hv : TL H v (lineL r)) {i : Nat} (hi : i ≤ r.length) : ∃ a xs u, v = .ref a ∧ H a = some (.tup xs) ∧ xs.length = r.length + 1 ∧ xs[i]? = some u ∧ PP H u (lnP (TR.Pf r) i) := by
  obtain ⟨a, xs, u, h1, h2, h3, h4, h5⟩ := hv.get (lineL_get (r := r) (k := i) (by omega))
  exact ⟨a, xs, u, h1, h2, by rw [h3, lineL_len], h4, h5⟩
theorem ci_len (r : List Int) (X : Nat) : (ci r X).length ≤ r.length + 1 := by
  unfold ci cI
  rw [List.length_map]
  exact TR.lst_len _ _
/-! ### parts_of -/
theorem sc23 : FnScope ["lines", "found", "seen", "k", "part", "number"] ["lines"] (defScope (topS 23)) := ⟨rfl, rfl, rfl, by decide +kernel, rfl, by decide +kernel, by decide +kernel⟩
def spParts : Sp := fun vs H Q _ => ∃ (v : V) (r : List Int), vs = [v] ∧ TL H v (lineL r) ∧ TR.Sg r ∧ r.length ≤ 40 ∧ ∀ u H', Ex H H' → PL (ci r) H' u (TR.lst (r.length + 1) (TR.rp r.length (TR.Pf r))) → Q u H'
theorem cl_parts (D : Dfn K mg "parts_of" (topS 23)) (B : Bi mg) (C1 : Cl P w K mg base 2 "connected_with" spConn) : Cl P w K mg base 3 "parts_of" spParts := by
  refine cl_of (ps := ["lines"]) D sc23 (fun _ _ _ _ _ _ us hl => match us, hl with | [_], _ => rfl) (fun vs H Q E h => by obtain ⟨v, r, rfl, _⟩ := h; rfl) fun f0 cdv A outer s0 H vs Q E hr h => ?_
  obtain ⟨v, r, rfl, hv, sr, hz, k⟩ := h
  refine ⟨_, pss_cons (ps_set (i := 1) sc23.nd rfl (.inl rfl) (pe_lst pa_nil))
    (pss_cons (ps_set (i := 2) sc23.nd rfl (.inl rfl) pe_dnewK)
    (pss_cons (ps_for PassesOwn.never rfl (pi_range1 (by rfl) B.b_range (pa_cons (pe_callB call_len_seq (by rfl) B.b_len PySem.boot_len (pa_cons (pv 0) pa_nil)) pa_nil)) (pg_name (i := 3) sc23.nd rfl (.inl rfl))
      (pss_one (ps_if (pt_cmp (pc_dnotin (hu_of hr) (pv 3) (pv 2)))
        (pss_cons (ps_set (i := 4) sc23.nd rfl (.inl rfl) (pe_cl C1 hr (Nat.le_refl _) (by rfl) (pa_cons (pv 0) (pa_cons (pv 3) pa_nil))))
        (pss_cons (ps_for PassesOwn.never rfl (pi_tup (pv 4)) (pg_name (i := 5) sc23.nd rfl (.inl rfl)) (pss_one (ps_dput (hu_of hr) (pv 2) (pv 5) pe_bl rfl)))
        (pss_one (ps_expr (pe_bm PySem.F.plainAttrs_list PySem.F.slot_list_append PySem.F.type_list_append mt_append (pv 1) (pa_cons (pv 4) pa_nil)))))) pss_nil)))
    (pss_one (ps_ret (pe_callTy call_tuple_of (by rfl) B.b_tuple (by decide +kernel) (pa_cons (pv 1) pa_nil)))))), ?_⟩
  obtain ⟨a, xs, _, rfl, ha, hxs, _⟩ := hv.all (Nat.zero_le _)
  refine ⟨by show 0 ≤ sizeLine; decide, fun f hf => ?_⟩
  intro sn hsn
  have nsn : H sn = none := fresh_back (Ex.new hf) hsn
  have fsn : f ≠ sn := ne_of_none upd_same hsn
  have e2 : Ex H (upd (upd H f (.lst [])) sn (.dK [])) := (Ex.new hf).trans (Ex.new hsn)
  have hf2 : (upd (upd H f (.lst [])) sn (.dK [])) f = some (.lst []) := (upd_ne fsn).trans upd_same
  have hsn2 : (upd (upd H f (.lst [])) sn (.dK [])) sn = some (.dK []) := upd_same
  generalize upd (upd H f (.lst [])) sn (.dK []) = H2 at e2 hf2 hsn2 ⊢
  refine ⟨_, rfl, a, _, rfl, .inr (st_of (e2 a _ ha)), (xs.length : Int), rfl, by omega, by omega, for_range (lo := 0) (n := (xs.length : Int).toNat)
    (fun i σ H' => ∃ (y3 y4 y5 : Option V) (zs : List (Addr × Nat)) (kvs : List (Key × V)), σ = [some (.ref a), some (.ref f), some (.ref sn), y3, y4, y5] ∧ Ex H H' ∧ H' f = some (.lst (zs.map fun z => V.ref z.1)) ∧ H' sn = some (.dK kvs) ∧
      zs.map (·.2) = TR.lst i (TR.rp r.length (TR.Pf r)) ∧ (∀ z ∈ zs, H' z.1 = some (.tup ((ci r z.2).map V.int))) ∧
      (∀ s : Nat, s < r.length + 1 → ((valV kvs (Sum.inl (s : Int))).isSome = true ↔ TR.Sk r.length (TR.Pf r) i s)) ∧ kvs.length ≤ i * 50)
    ⟨none, none, none, [], [], rfl, e2, hf2, hsn2, rfl, (by intro z hz; cases hz), (fun s _ => ⟨(fun z => by cases z), (fun ⟨t, ht, _⟩ => absurd ht (Nat.not_lt_zero _))⟩), Nat.zero_le _⟩ ?_ ?_⟩
  · rintro i σ H' hi ⟨y3, y4, y5, zs, kvs, rfl, eH, hf', hs', hzs, hz1, hin, hkl⟩
    have hi' : i ≤ r.length := by omega
    have hzl : zs.length ≤ i := by
      have := congrArg List.length hzs
      rw [List.length_map] at this
      rw [this]
      exact TR.lst_len _ _
    rw [show (0 : Int) + (i : Int) = (i : Int) by omega]
    refine ⟨_, rfl, _, rfl, sn, valV kvs (Sum.inl (i : Int)), rfl, DGet.k (k := Sum.inl (i : Int)) hs', _, rfl, ite2 (fun hnot => ?_) (fun hyes => ?_)⟩
    · have hno : ¬ TR.Sk r.length (TR.Pf r) i i := fun q => by
        rw [(hin i (by omega)).mpr q] at hnot
        cases hnot
      have hrp := (TR.sk_rp hi').mp hno
      refine ⟨_, rfl, _, rfl, _, r, i, rfl, hv.ex eH, sr, hz, hi', fun u H3 e3 ⟨b, eb, hb⟩ => ?_⟩
      subst eb
      have hf3 := e3 f _ hf'
      have hs3 := e3 sn _ hs'
      have hz3 : ∀ z ∈ zs, H3 z.1 = some (.tup ((ci r z.2).map V.int)) := fun z hz => e3 z.1 _ (hz1 z hz)
      have hcl := ci_len r i
      refine ⟨_, rfl, b, rfl, ⟨_, st_of hb⟩, for_tup (K := K) (a := b) (xs := (ci r i).map V.int)
        (fun j σ H4 => ∃ (y5 : Option V) (kv : List (Key × V)), σ = [some (.ref a), some (.ref f), some (.ref sn), some (.int (i : Int)), some (.ref b), y5] ∧ Ex H H4 ∧ H4 f = some (.lst (zs.map fun z => V.ref z.1)) ∧ H4 sn = some (.dK kv) ∧
          (∀ z ∈ zs, H4 z.1 = some (.tup ((ci r z.2).map V.int))) ∧ H4 b = some (.tup ((ci r i).map V.int)) ∧
          (∀ s : Nat, s < r.length + 1 → ((valV kv (Sum.inl (s : Int))).isSome = true ↔ TR.Sk r.length (TR.Pf r) i s ∨ s ∈ (TR.cls r.length (TR.Pf r) i).take j)) ∧ kv.length ≤ i * 50 + j)
        ⟨y5, kvs, rfl, eH.trans e3, hf3, hs3, hz3, hb, fun s hs => by rw [hin s hs, List.take_zero]; exact ⟨.inl, fun h => h.elim id (fun h => by cases h)⟩, hkl⟩ (fun j σ H4 _ ⟨y5, kv, _, _, _, _, _, hb4, _⟩ => st_of hb4) ?_ ?_⟩
      · rintro j x σ H4 hj ⟨y5, kv, rfl, eH4, hf4, hs4, hz4, hb4, hin4, hk4⟩
        have hj2 : ∃ m : Nat, (TR.cls r.length (TR.Pf r) i)[j]? = some m ∧ x = V.int (m : Int) := by
          unfold ci cI at hj
          rw [List.getElem?_map, List.getElem?_map] at hj
          obtain ⟨y, hy, rfl⟩ := Option.map_eq_some_iff.mp hj
          obtain ⟨m, hm, rfl⟩ := Option.map_eq_some_iff.mp hy
          exact ⟨m, hm, rfl⟩
        obtain ⟨m, hm, rfl⟩ := hj2
        have hjl : j < (ci r i).length := by
          have := (List.getElem?_eq_some_iff.mp hj).1
          rw [List.length_map] at this
          exact this
        refine ⟨_, rfl, _, rfl, sn, _, rfl, DPut.k (k := Sum.inl (m : Int)) hs4 (sz_lt (by omega)), ?_⟩
        refine ⟨_, _, rfl, Ex.mut eH4 nsn, ?_, upd_same, fun z hz => ?_, ?_, fun s hs => ?_, ?_⟩
        · rw [upd_ne fsn]; exact hf4
        · rw [upd_ne (ne_of (hz4 z hz) hs4 (fun z => nomatch z))]; exact hz4 z hz
        · rw [upd_ne (ne_of hb4 hs4 (fun z => nomatch z))]; exact hb4
        · rw [valV_put, List.take_add_one, hm]
          by_cases q : s = m
          · subst q
            rw [if_pos rfl]
            exact ⟨fun _ => .inr (by simp), fun _ => rfl⟩
          · rw [if_neg (fun z => q (by have := Sum.inl.inj z; omega)), hin4 s hs]
            simp [q]
        · have := length_putK kv (Sum.inl (m : Int)) (.bl true)
          omega
      · rintro σ H4 ⟨y5, kv, rfl, eH4, hf4, hs4, hz4, hb4, hin4, hk4⟩
        refine ⟨_, rfl, .inl ⟨rfl, _, sq_of hf4⟩, _, rfl, f, _, _, rfl, rfl, hf4, sz_lt (by rw [List.length_map]; omega), ?_⟩
        refine ⟨_, _, _, zs ++ [(b, i)], kv, rfl, Ex.mut eH4 hf, ?_, ?_, ?_, fun z hz => ?_, fun s hs => ?_, ?_⟩
        · rw [upd_same, List.map_append]; rfl
        · rw [upd_ne fsn.symm]; exact hs4
        · rw [List.map_append, hzs, TR.lst_succ, if_pos hrp]; rfl
        · rcases List.mem_append.mp hz with h | h
          · rw [upd_ne (ne_of (hz4 z h) hf4 (fun z => nomatch z))]; exact hz4 z h
          · rw [List.mem_singleton.mp h]
            show (upd _ _ _) b = _
            rw [upd_ne (ne_of hb4 hf4 (fun z => nomatch z))]
            exact hb4
        · rw [hin4 s hs, List.take_of_length_le (by unfold ci cI; simp), TR.mem_cls, TR.sk_succ]
          exact ⟨fun h => h.imp id (fun h => h.2), fun h => h.imp id (fun h => ⟨by omega, h⟩)⟩
        · rw [List.length_map] at hk4
          omega
    · have hseen : TR.Sk r.length (TR.Pf r) i i := (hin i (by omega)).mp (by
        cases hq : (valV kvs (Sum.inl (i : Int))).isSome
        · rw [hq] at hyes; exact absurd rfl hyes
        · rfl)
      refine ⟨_, _, _, zs, kvs, rfl, eH, hf', hs', ?_, hz1, fun s hs => ?_, by omega⟩
      · rw [hzs, TR.lst_succ, if_neg (fun q => (TR.sk_rp hi').mpr q hseen)]
      · rw [hin s hs, TR.sk_old hseen]
  · rintro σ H' ⟨y3, y4, y5, zs, kvs, rfl, eH, hf', hs', hzs, hz1, hin, hkl⟩
    refine ⟨_, rfl, f, _, rfl, .inl ⟨sq_of hf', fun q hq => k _ _ (eH.trans (Ex.new hq)) ⟨q, zs, rfl, upd_same, ?_, fun z hz => ?_⟩⟩⟩
    · rw [hzs, show (xs.length : Int).toNat = r.length + 1 by omega]
    · rw [upd_ne (ne_of_none (hz1 z hz) hq)]
      exact hz1 z hz

/-! ### is_bad -/
theorem sc24 : FnScope ["lines", "part", "k"] ["lines", "part"] (defScope (topS 24)) := ⟨rfl, rfl, rfl, by decide +kernel, rfl, by decide +kernel, by decide +kernel⟩
open Classical in
def spIsBad : Sp := fun vs H Q _ => ∃ (v u : V) (r : List Int) (X : Nat), vs = [v, u] ∧ TL H v (lineL r) ∧ TI H u (ci r X) ∧ TR.Sg r ∧ r.length ≤ 40 ∧ TR.rp r.length (TR.Pf r) X ∧ ∀ H', Ex H H' → Q (.bl (decide (TR.bad r.length (TR.Pf r) X))) H'
open Classical in
theorem cl_isbad (D : Dfn K mg "is_bad" (topS 24)) (B : Bi mg) (C1 : Cl P w K mg base 1 "is_oriented" spOri) (C2 : Cl P w K mg base 1 "is_short" spShort) : Cl P w K mg base 2 "is_bad" spIsBad := by
  refine cl_of (ps := ["lines", "part"]) D sc24 (fun _ _ _ _ _ _ us hl => match us, hl with | [_, _], _ => rfl) (fun vs H Q E h => by obtain ⟨v, u, r, X, rfl, _⟩ := h; rfl) fun f0 cdv A outer s0 H vs Q E hr h => ?_
  obtain ⟨v, u, r, X, rfl, hv, hu, sr, hz, hX, k⟩ := h
  refine ⟨_, pss_cons (ps_if (pt_val (pe_callB (cr_any rfl) (by rfl) B.b_any (by decide +kernel) (pa_cons
      (pe_lc (own := [("k", 2)]) (g := gName 2) (tt := tYes) rfl sc24.nd (pi_tup (pv 1)) (blkOk_by (own := [("k", 2)]) (N := ["lines", "part", "k"]) (sc := defScope (topS 24)) (by decide +kernel)) (fun _ _ _ _ _ => pg_name (i := 2) sc24.nd rfl (.inl rfl)) (fun _ _ _ _ _ => pts_nil)
        (fun _ _ _ _ _ => pe_cl C1 hr (Nat.le_refl _) (by rfl) (pa_cons (pe_ix (r := rIxT K) ix_tup (pv 0) (pv 2) (fun _ _ => rfl)) pa_nil))) pa_nil))) (pss_one (ps_ret pe_bl)) pss_nil)
    (pss_one (ps_ret (pe_or (pe_cmpR op_gt (pe_callB call_len_seq (by rfl) B.b_len PySem.boot_len (pa_cons (pv 1) pa_nil)) pe_int (nomark _))
      (pe_one (pe_not (pe_cl C2 hr (Nat.le_refl _) (by rfl) (pa_cons (pe_ix (r := rIxT K) ix_tup (pv 0) (pe_ix (r := rIxT K) ix_tup (pv 1) pe_int (fun _ _ => rfl)) (fun _ _ => rfl)) pa_nil))))))), ?_⟩
  have W := TR.dr_row sr
  obtain ⟨a, xs, _, rfl, ha, hxs, _⟩ := hv.all (Nat.zero_le _)
  obtain ⟨b, rfl, hb⟩ := hu
  have hcl := ci_len r X
  have bi := TR.bad_iff W hX
  refine u_seq (u_if ?_)
  refine u_cb (u_cons (y_lcT (TR.cls r.length (TR.Pf r) X) (fun s : Nat => V.int (s : Int)) (fun _ => true) (fun l => V.bl (decide (TR.ori (TR.Pf r) l))) (Nat.le_trans (TR.lst_len _ _) (by omega)) ?_ ?_ _ fun v1 H1 e1 ⟨D, ev, hD, hD1⟩ => ?_))
  · refine y_var rfl ⟨b, rfl, st_of ?_⟩
    rw [hb]
    unfold ci cI
    rw [List.map_map]
    rfl
  · intro H1 e1
    refine lc_name (fun _ => by rfl) (fun _ _ _ _ => et_yes) fun l hl H' e' _ => ?_
    have hln := (TR.mem_cls.mp hl).1
    obtain ⟨a', xs', ul, ev', ha', hxs', hul, pul⟩ := hv.all hln
    cases ev'
    refine ev_call (ea_cons (ev_ix (i := l) (ev_var rfl) (ev_var rfl) (e' a _ (e1 a _ ha')) hul) ea_nil) fun H3 e3 Q3 q3 E3 => ⟨ul, _, rfl, pul.ex ((e1.trans e').trans e3), fun H4 e4 => ?_⟩
    have : decide (((lnP (TR.Pf r) l).1 + (lnP (TR.Pf r) l).2) % 2 = 0) = decide (TR.ori (TR.Pf r) l) := by
      rw [decide_eq_decide]
      unfold TR.ori lnP
      omega
    rw [this]
    exact q3 H4 e4
  · subst ev
    rw [ft_all] at hD1
    refine ⟨D, (TR.cls r.length (TR.Pf r) X).map fun l => decide (TR.ori (TR.Pf r) l), rfl, sq_of (by rw [hD1, List.map_map]; rfl), _, rfl, ite2 (fun hy => ?_) (fun hn => ?_)⟩
    · rw [List.any_map, List.any_eq_true] at hy
      obtain ⟨l, hl, ho⟩ := hy
      have : decide (TR.bad r.length (TR.Pf r) X) = false := decide_eq_false fun q => (bi.mp q).1 ⟨l, hl, of_decide_eq_true ho⟩
      have kk := k H1 e1
      rw [this] at kk
      exact kk
    · have hno : ¬ ∃ l ∈ TR.cls r.length (TR.Pf r) X, TR.ori (TR.Pf r) l := fun ⟨l, hl, ho⟩ => hn (by
        rw [List.any_map, List.any_eq_true]
        exact ⟨l, hl, decide_eq_true ho⟩)
      have hd := TR.cls_head hX
      have hdI : ((ci r X).map V.int)[0]? = some (.int (X : Int)) := by
        unfold ci cI
        rw [List.getElem?_map, List.getElem?_map, hd]
        rfl
      obtain ⟨a', xs', ul, ev', ha', hxs', hul, pul⟩ := hv.all hX.1
      cases ev'
      refine ⟨_, rfl, b, _, rfl, .inr (st_of (e1 b _ hb)), _, _, rfl, rfl, _, rfl, ?_⟩
      have hlen : ((ci r X).map V.int).length = (TR.cls r.length (TR.Pf r) X).length := by unfold ci cI; simp
      rw [hlen]
      refine ite2 (fun hgt => ?_) (fun hng => ?_)
      · have hgt := of_decide_eq_true hgt
        have : decide (TR.bad r.length (TR.Pf r) X) = true := decide_eq_true (bi.mpr ⟨hno, .inl (by omega)⟩)
        have kk := k H1 e1
        rw [this] at kk
        exact kk
      · have hng : ¬ _ := fun q => hng (decide_eq_true q)
        refine (ev_ix (K := K) (tb := tOp (rIxT K) (tVar 1) (tC (.int 0))) (i := X) (ev_var rfl) (ev_ix (i := 0) (ev_var rfl) ev_int (e1 b _ hb) hdI) (e1 a _ ha') hul) H1 (Ex.refl H1) _ fun H2 e2 => ?_
        refine ⟨ul, _, rfl, pul.ex (e1.trans e2), fun H3 e3 => ⟨_, rfl, ?_⟩⟩
        have : decide (TR.bad r.length (TR.Pf r) X) = !decide ((lnP (TR.Pf r) X).1 % 2 = 0 ∧ (lnP (TR.Pf r) X).2 = (lnP (TR.Pf r) X).1 + 1) := by
          rw [← decide_not, decide_eq_decide, bi]
          unfold lnP
          exact ⟨fun h => h.2.resolve_left (by omega), fun h => ⟨hno, .inr h⟩⟩
        have kk := k H3 ((e1.trans e2).trans e3)
        rw [this] at kk
        exact kk
end
end TW

/-! from W12 -/
set_option maxRecDepth 100000
set_option maxHeartbeats 4000000
namespace TW
open PySem PySem.Spec PyProof.Rows L2 Evl

section
variable {K : PySem.W.Frag} {σ : L2.St} {H : Hp} {α : Type}
/-- the list is known when it is made -/
theorem y_lcTx {tl : TE} {g : TG} {t : TT} {te : TE} {vs : List Nat} (G : α → V) (p : α → Bool) (F : α → V) (Ψ : List α → Hp → Prop) (hl : Yl tl σ H fun v H1 => ∃ a l, v = .ref a ∧ SqT K H1 a (l.map G) ∧ l.length ≤ 40000 ∧ Ψ l H1)
    (hs : ∀ l H1, Ex H H1 → Ψ l H1 → LcT g t te vs σ H1 l G p F) : Yl (tLc (iTup K tl) g t te vs) σ H fun v H2 => ∃ l H1 D, Ex H H1 ∧ Ex H1 H2 ∧ Ψ l H1 ∧ v = .ref D ∧ H2 D = some (.lst ((l.filter p).map F)) := fun R k => hl _ fun v H1 e1 ⟨a, l, ev, ha, hz, ψ⟩ => by
  subst ev
  exact (y_lcT (K := K) (σ := σ) (H := H1) (tl := fun _ H Q => Q (.ref a) H) (g := g) (t := t) (te := te) (vs := vs) l G p F hz (fun R kk => kk _ _ (Ex.refl _) ⟨a, rfl, ha⟩) fun H2 e2 x hx H3 e3 => hs l H1 e1 ψ x hx H3 (e2.trans e3)) R
    fun v2 H2 e2 ⟨D, ev, _, hD⟩ => k v2 H2 (e1.trans e2) ⟨l, H1, D, e1, e2, ψ, ev, hD⟩
theorem y_lcLx {tl : TE} {g : TG} {t : TT} {te : TE} {vs : List Nat} (G : α → V) (p : α → Bool) (F : α → V) (Ψ : List α → Hp → Prop) (hl : Yl tl σ H fun v H1 => ∃ a l, v = .ref a ∧ SqL K H1 a (l.map G) ∧ l.length ≤ 40000 ∧ Ψ l H1)
    (hs : ∀ l H1, Ex H H1 → Ψ l H1 → LcT g t te vs σ H1 l G p F) : Yl (tLc (iList K tl) g t te vs) σ H fun v H2 => ∃ l H1 D, Ex H H1 ∧ Ex H1 H2 ∧ Ψ l H1 ∧ v = .ref D ∧ H2 D = some (.lst ((l.filter p).map F)) := fun R k => hl _ fun v H1 e1 ⟨a, l, ev, ha, hz, ψ⟩ => by
  subst ev
  exact (y_lcL (K := K) (σ := σ) (H := H1) (tl := fun _ H Q => Q (.ref a) H) (g := g) (t := t) (te := te) (vs := vs) l G p F hz (fun R kk => kk _ _ (Ex.refl _) ⟨a, rfl, ha⟩) fun H2 e2 x hx H3 e3 => hs l H1 e1 ψ x hx H3 (e2.trans e3)) R
    fun v2 H2 e2 ⟨D, ev, _, hD⟩ => k v2 H2 (e1.trans e2) ⟨l, H1, D, e1, e2, ψ, ev, hD⟩
end
section
variable {P : Program} {w : World} {K : PySem.W.Frag} {mg : Str → Option Value} {base : Heap}
/-! ### bad_parts -/
theorem sc25 : FnScope ["row", "lines", "part"] ["row"] (defScope (topS 25)) := ⟨rfl, rfl, rfl, by decide +kernel, rfl, by decide +kernel, by decide +kernel⟩
def spBad : Sp := fun vs H Q _ => ∃ (v : V) (r : List Int), vs = [v] ∧ TI H v r ∧ TR.Sg r ∧ r.length ≤ 40 ∧ ∀ u H', Ex H H' → PL (ci r) H' u (TR.FF r.length (TR.Pf r)) → Q u H'
open Classical in
theorem ff_of (n : Nat) (Pf : Nat → Nat) : (TR.lst (n + 1) (TR.rp n Pf)).filter (fun X => decide (TR.bad n Pf X)) = TR.FF n Pf := by
  unfold TR.FF TR.lst
  rw [List.filter_filter]
  refine List.filter_congr fun X _ => ?_
  rw [← Bool.decide_and, decide_eq_decide]
  exact and_comm
open Classical in
theorem cl_bad (D : Dfn K mg "bad_parts" (topS 25)) (B : Bi mg) (C1 : Cl P w K mg base 3 "light_lines" spLight) (C2 : Cl P w K mg base 3 "parts_of" spParts) (C3 : Cl P w K mg base 2 "is_bad" spIsBad) : Cl P w K mg base 4 "bad_parts" spBad := by
  refine cl_of (ps := ["row"]) D sc25 (fun _ _ _ _ _ _ us hl => match us, hl with | [_], _ => rfl) (fun vs H Q E h => by obtain ⟨v, r, rfl, _⟩ := h; rfl) fun f0 cdv A outer s0 H vs Q E hr h => ?_
  obtain ⟨v, r, rfl, hv, sr, hz, k⟩ := h
  refine ⟨_, pss_cons (ps_set (i := 1) sc25.nd rfl (.inr rfl) (pe_cl C1 hr (Nat.le_refl _) (by rfl) (pa_cons (pv 0) pa_nil)))
    (pss_one (ps_ret (pe_callTy call_tuple_of (by rfl) B.b_tuple (by decide +kernel) (pa_cons
      (pe_lc (own := [("part", 2)]) (g := gName 2) rfl sc25.nd (pi_tup (pe_cl C2 hr (Nat.le_refl _) (by rfl) (pa_cons (pv 1) pa_nil))) (blkOk_by (own := [("part", 2)]) (N := ["row", "lines", "part"]) (sc := defScope (topS 25)) (by decide +kernel))
        (fun _ _ _ _ _ => pg_name (i := 2) sc25.nd rfl (.inl rfl)) (fun _ _ _ _ _ => pts_one (pt_val (pe_cl C3 hr (by decide) (by rfl) (pa_cons (pv 1) (pa_cons (pv 2) pa_nil))))) (fun _ _ _ _ _ => pv 2)) pa_nil)))), ?_⟩
  refine ⟨_, rfl, v, r, rfl, hv, sr, hz, fun t H1 e1 ht => ?_⟩
  dsimp only
  refine u_ret (u_cb (u_cons (y_lcTx (α := Addr × Nat) (fun z => V.ref z.1) (fun z => decide (TR.bad r.length (TR.Pf r) z.2)) (fun z => V.ref z.1)
    (fun zs H2 => Ex H1 H2 ∧ zs.map (·.2) = TR.lst (r.length + 1) (TR.rp r.length (TR.Pf r)) ∧ ∀ z ∈ zs, H2 z.1 = some (.tup ((ci r z.2).map V.int))) ?_ ?_ _ fun v1 H3 e3 ⟨zs, H2, D, e2, e23, ⟨_, hz2, hz4⟩, ev, hD1⟩ => ?_)))
  · intro R kk
    refine ⟨_, rfl, t, r, rfl, ht, sr, hz, fun u H2 e2 ⟨a, zs, eu, ha, hz2, hz4⟩ => kk _ _ e2 ⟨a, zs, eu, st_of ha, ?_, e2, hz2, hz4⟩⟩
    have := congrArg List.length hz2
    rw [List.length_map] at this
    rw [this]
    exact Nat.le_trans (TR.lst_len _ _) (by omega)
  · intro zs H2 e2 ⟨_, hz2, hz4⟩
    refine lc_name (fun _ => by rfl) (fun z hz' H' e' => ?_) fun _ _ _ _ _ => ev_var rfl
    have hrp : TR.rp r.length (TR.Pf r) z.2 := by
      have : z.2 ∈ zs.map (·.2) := List.mem_map.mpr ⟨z, hz', rfl⟩
      rw [hz2] at this
      exact (TR.mem_rf.mp this).2
    exact et_B (ev_call (ea_cons (ev_var rfl) (ea_cons (ev_var rfl) ea_nil)) fun H4 e4 Q4 q4 E4 => ⟨t, .ref z.1, r, z.2, rfl, ht.ex ((e2.trans e').trans e4), TI.ex ⟨z.1, rfl, hz4 z hz'⟩ (e'.trans e4), sr, hz, hrp, q4⟩)
  · subst ev
    refine ⟨D, _, rfl, .inl ⟨sq_of hD1, fun l hl => k _ _ (((e1.trans e2).trans e23).trans (Ex.new hl)) ⟨l, zs.filter fun z => decide (TR.bad r.length (TR.Pf r) z.2), rfl, upd_same, ?_, fun z hz' => ?_⟩⟩⟩
    · rw [← ff_of, ← hz2, List.filter_map]
      rfl
    · exact (Ex.new hl) z.1 _ (e23 z.1 _ (hz4 z (List.mem_filter.mp hz').1))

/-! ### round_of -/
theorem perm_lift {α β : Type} {f : α → β} {ys zs : List β} (h : ys.Perm zs) : ∀ {l : List α}, zs = l.map f → ∃ l' : List α, l'.Perm l ∧ l'.map f = ys := by
  induction h with
  | nil =>
    intro l e
    rw [List.map_eq_nil_iff.mp e.symm]
    exact ⟨[], .refl _, rfl⟩
  | cons x _ ih =>
    intro l e
    obtain ⟨a, t, rfl, rfl, e2⟩ := List.map_eq_cons_iff.mp e.symm
    obtain ⟨l', p, q⟩ := ih e2.symm
    exact ⟨a :: l', p.cons a, by rw [List.map_cons, q]⟩
  | swap x y t =>
    intro l e
    obtain ⟨a, t1, rfl, rfl, e2⟩ := List.map_eq_cons_iff.mp e.symm
    obtain ⟨b, t2, rfl, rfl, e3⟩ := List.map_eq_cons_iff.mp e2
    exact ⟨b :: a :: t2, .swap a b t2, by rw [List.map_cons, List.map_cons, e3]⟩
  | trans _ _ ih1 ih2 =>
    intro l e
    obtain ⟨l2, p2, q2⟩ := ih2 e
    obtain ⟨l1, p1, q1⟩ := ih1 q2.symm
    exact ⟨l1, p1.trans p2, q1⟩
def kof (H : Hp) : V → Int
  | .ref t => match H t with
    | some (.tup (.int i :: _)) => i
    | _ => 0
  | _ => 0
/-- an item of the round: its place, its spot, its part and that part's number -/
abbrev Wt := Addr × Nat × Addr × Nat
def WtOk (r : List Int) (H : Hp) (z : Wt) : Prop := H z.1 = some (.tup [.int (z.2.1 : Int), .ref z.2.2.1]) ∧ H z.2.2.1 = some (.tup ((ci r z.2.2.2).map V.int))
theorem WtOk.ex {r : List Int} {H H' : Hp} {z : Wt} (h : WtOk r H z) (e : Ex H H') : WtOk r H' z := ⟨e _ _ h.1, e _ _ h.2⟩
theorem WtOk.upd {r : List Int} {H : Hp} {z : Wt} (h : WtOk r H z) {l : Addr} {xs ys : List V} (hl : H l = some (.lst xs)) : WtOk r (upd H l (.lst ys)) z :=
  ⟨by rw [upd_ne (ne_of h.1 hl (fun z => nomatch z))]; exact h.1, by rw [upd_ne (ne_of h.2 hl (fun z => nomatch z))]; exact h.2⟩
theorem kof_wt {r : List Int} {H : Hp} {z : Wt} (h : WtOk r H z) : kof H (.ref z.1) = (z.2.1 : Int) := by
  simp only [kof, h.1]
def wp (z : Wt) : Nat × Nat := (z.2.1, z.2.2.2)
/-- a sorted round -/
theorem round_sort {r : List Int} (sr : TR.Sg r) {H : Hp} {G : List Nat} (hG : ∀ X ∈ G, TR.rp r.length (TR.Pf r) X) (nd : G.Nodup) {ws : List Wt} (hw : ∀ z ∈ ws, WtOk r H z) (hp : ws.map wp = TR.tl0 r.length (TR.Pf r) G) :
    (∀ x ∈ ws.map (fun z => V.ref z.1), ∃ t p, x = V.ref t ∧ H t = some (.tup [.int (kof H x), .ref p])) ∧ (∀ x ∈ ws.map (fun z => V.ref z.1), ∀ y ∈ ws.map (fun z => V.ref z.1), kof H x = kof H y → x = y) ∧
    ∀ ys : List V, ys.Perm (ws.map fun z => V.ref z.1) → ys.Pairwise (fun x y => kof H x ≤ kof H y) → ∃ wz : List Wt, ys = wz.map (fun z => V.ref z.1) ∧ (∀ z ∈ wz, WtOk r H z) ∧ TR.Rn r.length (TR.Pf r) (TR.Mf r) G (wz.map wp) := by
  have W := TR.dr_row sr
  refine ⟨fun x hx => ?_, fun x hx y hy e => ?_, fun ys h1 h2 => ?_⟩
  · obtain ⟨z, hz, rfl⟩ := List.mem_map.mp hx
    exact ⟨z.1, z.2.2.1, rfl, by rw [kof_wt (hw z hz)]; exact (hw z hz).1⟩
  · obtain ⟨z, hz, rfl⟩ := List.mem_map.mp hx
    obtain ⟨z', hz', rfl⟩ := List.mem_map.mp hy
    rw [kof_wt (hw z hz), kof_wt (hw z' hz')] at e
    have hne := TR.tl_ne W hG nd
    rw [← hp, List.pairwise_map] at hne
    obtain ⟨i, hi⟩ := List.getElem?_of_mem hz
    obtain ⟨j, hj⟩ := List.getElem?_of_mem hz'
    obtain ⟨i1, i2⟩ := List.getElem?_eq_some_iff.mp hi
    obtain ⟨j1, j2⟩ := List.getElem?_eq_some_iff.mp hj
    have hpp := List.pairwise_iff_getElem.mp hne
    have e' : z.2.1 = z'.2.1 := by omega
    rcases Nat.lt_trichotomy i j with q | q | q
    · have := hpp i j i1 j1 q
      rw [i2, j2] at this
      exact absurd e' this
    · subst q
      rw [← i2, ← j2]
    · have := hpp j i j1 i1 q
      rw [i2, j2] at this
      exact absurd e'.symm this
  · obtain ⟨wz, p1, p2⟩ := perm_lift h1 rfl
    have hw' : ∀ z ∈ wz, WtOk r H z := fun z hz => hw z (p1.mem_iff.mp hz)
    refine ⟨wz, p2.symm, hw', TR.tl_rn W hG nd (by rw [← hp]; exact p1.map wp) ?_⟩
    rw [← p2, List.pairwise_map] at h2
    rw [List.pairwise_map]
    refine h2.imp_of_mem ?_
    intro a b ha hb h
    rw [kof_wt (hw' a ha), kof_wt (hw' b hb)] at h
    show a.2.1 ≤ b.2.1
    omega
theorem sc27 : FnScope ["lines", "some", "told", "part", "k", "_"] ["lines", "some"] (defScope (topS 27)) := ⟨rfl, rfl, rfl, by decide +kernel, rfl, by decide +kernel, by decide +kernel⟩
def spRound : Sp := fun vs H Q _ => ∃ (v u : V) (r : List Int) (G : List Nat), vs = [v, u] ∧ TL H v (lineL r) ∧ PL (ci r) H u G ∧ TR.Sg r ∧ r.length ≤ 40 ∧ (∀ X ∈ G, TR.rp r.length (TR.Pf r) X) ∧ G.Nodup ∧
  ∀ D (wz : List Wt) H', Ex H H' → H' D = some (.lst (wz.map fun z => V.ref z.2.2.1)) → (∀ z ∈ wz, WtOk r H' z) → TR.Rn r.length (TR.Pf r) (TR.Mf r) G (wz.map wp) → wz.length ≤ 10000 → Q (.ref D) H'
theorem cl_round (D : Dfn K mg "round_of" (topS 27)) (B : Bi mg) : Cl P w K mg base 1 "round_of" spRound := by
  refine cl_of (ps := ["lines", "some"]) D sc27 (fun _ _ _ _ _ _ us hl => match us, hl with | [_, _], _ => rfl) (fun vs H Q E h => by obtain ⟨v, u, r, G, rfl, _⟩ := h; rfl) fun f0 cdv A outer s0 H vs Q E hr h => ?_
  obtain ⟨v, u, r, G, rfl, hv, hu, sr, hz, hG, nd, k⟩ := h
  refine ⟨_, pss_cons (ps_set (i := 2) sc27.nd rfl (.inl rfl) (pe_lst pa_nil))
    (pss_cons (ps_for PassesOwn.never rfl (pi_tup (pv 1)) (pg_name (i := 3) sc27.nd rfl (.inl rfl))
      (pss_one (ps_for PassesOwn.never rfl (pi_tup (pv 3)) (pg_name (i := 4) sc27.nd rfl (.inl rfl))
        (pss_cons (ps_expr (pe_bm PySem.F.plainAttrs_list PySem.F.slot_list_append PySem.F.type_list_append mt_append (pv 2) (pa_cons (pe_tup (pa_cons (pe_ix (r := rIxT K) ix_tup (pe_ix (r := rIxT K) ix_tup (pv 0) (pv 4) (fun _ _ => rfl)) pe_int (fun _ _ => rfl)) (pa_cons (pv 3) pa_nil))) pa_nil)))
        (pss_one (ps_expr (pe_bm PySem.F.plainAttrs_list PySem.F.slot_list_append PySem.F.type_list_append mt_append (pv 2) (pa_cons (pe_tup (pa_cons (pe_ix (r := rIxT K) ix_tup (pe_ix (r := rIxT K) ix_tup (pv 0) (pv 4) (fun _ _ => rfl)) pe_int (fun _ _ => rfl)) (pa_cons (pv 3) pa_nil))) pa_nil))))))))
    (pss_one (ps_ret (pe_lc (own := [("_", 5), ("part", 3)]) (g := gTup K 2 (gCons (gName 5) (gCons (gName 3) gNil))) (tt := tYes) rfl sc27.nd (pi_list (pe_callB cr_sortSp (by rfl) B.b_sorted (by decide +kernel) (pa_cons (pv 2) pa_nil)))
        (blkOk_by (own := [("_", 5), ("part", 3)]) (N := ["lines", "some", "told", "part", "k", "_"]) (sc := defScope (topS 27)) (by decide +kernel))
        (fun _ _ _ _ _ => pg_tup rfl (pgs_cons (pg_name (i := 5) sc27.nd rfl (.inl rfl)) (pgs_cons (pg_name (i := 3) sc27.nd rfl (.inl rfl) (.inr rfl)) pgs_nil))) (fun _ _ _ _ _ => pts_nil) (fun _ _ _ _ _ => pv 3))))), ?_⟩
  have W := TR.dr_row sr
  obtain ⟨a, xs, _, rfl, ha, hxs, _⟩ := hv.all (Nat.zero_le _)
  obtain ⟨b, zs, rfl, hb, hz2, hz4⟩ := hu
  have hzl : zs.length ≤ 41 := by
    have h1 := congrArg List.length hz2
    rw [List.length_map] at h1
    have h2 := TR.lst_perm (M := r.length + 1) (S := fun x => x ∈ G) nd fun x => ⟨fun h => ⟨by have := (hG x h).1; omega, h⟩, fun h => h.2⟩
    have h3 := TR.lst_len (r.length + 1) (fun x => x ∈ G)
    rw [h1, h2.length_eq]
    omega
  refine ⟨by show 0 ≤ sizeLine; decide, fun l hl => ?_⟩
  have e1 := Ex.new (o := .lst []) hl
  have hl1 : (upd H l (.lst [])) l = some (.lst []) := upd_same
  generalize upd H l (.lst []) = H1 at e1 hl1 ⊢
  refine ⟨_, rfl, b, rfl, ⟨_, st_of (e1 b _ hb)⟩, for_tup (K := K) (a := b) (xs := zs.map fun z => V.ref z.1)
    (fun i σ H' => ∃ (y3 y4 : Option V) (ws : List Wt), σ = [some (.ref a), some (.ref b), some (.ref l), y3, y4, none] ∧ Ex H H' ∧ H' l = some (.lst (ws.map fun z => V.ref z.1)) ∧ (∀ z ∈ ws, WtOk r H' z) ∧
      ws.map wp = TR.tl0 r.length (TR.Pf r) ((zs.take i).map (·.2)) ∧ ws.length ≤ i * 100)
    ⟨none, none, [], rfl, e1, hl1, (by intro z hz; cases hz), rfl, Nat.zero_le _⟩ (fun i σ H' _ ⟨_, _, _, _, eH, _⟩ => st_of (eH b _ hb)) ?_ ?_⟩
  · rintro i x σ H' hi ⟨y3, y4, ws, rfl, eH, hL, hW, hwp, hwl⟩
    rw [List.getElem?_map] at hi
    obtain ⟨z, hzi, rfl⟩ := Option.map_eq_some_iff.mp hi
    have hil := (List.getElem?_eq_some_iff.mp hzi).1
    have hzm := List.mem_of_getElem? hzi
    have hrp : TR.rp r.length (TR.Pf r) z.2 := hG z.2 (by rw [← hz2]; exact List.mem_map.mpr ⟨z, hzm, rfl⟩)
    have hcl := ci_len r z.2
    refine ⟨_, rfl, z.1, rfl, ⟨_, st_of (eH z.1 _ (hz4 z hzm))⟩, for_tup (K := K) (a := z.1) (xs := (ci r z.2).map V.int)
      (fun j σ H2 => ∃ (y4 : Option V) (ws' : List Wt), σ = [some (.ref a), some (.ref b), some (.ref l), some (.ref z.1), y4, none] ∧ Ex H H2 ∧ H2 l = some (.lst (ws'.map fun z => V.ref z.1)) ∧ (∀ z ∈ ws', WtOk r H2 z) ∧
        ws'.map wp = ws.map wp ++ ((TR.cls r.length (TR.Pf r) z.2).take j).flatMap (fun k => [((lnP (TR.Pf r) k).1, z.2), ((lnP (TR.Pf r) k).2, z.2)]) ∧ ws'.length ≤ i * 100 + 2 * j)
      ⟨y4, ws, rfl, eH, hL, hW, by simp, by omega⟩ (fun j σ H2 _ ⟨_, _, _, eH2, _⟩ => st_of (eH2 z.1 _ (hz4 z hzm))) ?_ ?_⟩
    · rintro j x σ H2 hj ⟨y4, ws', rfl, eH2, hL2, hW2, hwp2, hwl2⟩
      have hj2 : ∃ m : Nat, (TR.cls r.length (TR.Pf r) z.2)[j]? = some m ∧ x = V.int (m : Int) := by
        unfold ci cI at hj
        rw [List.getElem?_map, List.getElem?_map] at hj
        obtain ⟨y, hy, rfl⟩ := Option.map_eq_some_iff.mp hj
        obtain ⟨m, hm, rfl⟩ := Option.map_eq_some_iff.mp hy
        exact ⟨m, hm, rfl⟩
      obtain ⟨m, hm, rfl⟩ := hj2
      have hmn := (TR.mem_cls.mp (List.mem_of_getElem? hm)).1
      have hjl : j < (ci r z.2).length := by
        have := (List.getElem?_eq_some_iff.mp hj).1
        rw [List.length_map] at this
        exact this
      obtain ⟨a', xs', ul, ev', ha', hxs', hul, pl, eul, hpl⟩ := hv.all hmn
      cases ev'
      subst eul
      have go : ∀ (H2 : Hp) (ws' : List Wt) (c : Int) (s : Nat), Ex H H2 → H2 l = some (.lst (ws'.map fun z => V.ref z.1)) → (∀ z ∈ ws', WtOk r H2 z) → ws'.length ≤ 50000 → ([V.int ((lnP (TR.Pf r) m).1 : Int), V.int ((lnP (TR.Pf r) m).2 : Int)])[c.toNat]? = some (V.int (s : Int)) → 0 ≤ c →
          ∀ (DD : Ends), (∀ H3 p, Ex H H3 → H3 l = some (.lst ((ws' ++ [((p, s, z.1, z.2) : Wt)]).map fun z => V.ref z.1)) → (∀ y ∈ ws' ++ [((p, s, z.1, z.2) : Wt)], WtOk r H3 y) → DD.nx [some (.ref a), some (.ref b), some (.ref l), some (.ref z.1), some (.int (m : Int)), none] H3) →
          tDrop (tBM K "list" rAppend (tVar 2) (tCons (tTup (tCons (tOp (rIxT K) (tOp (rIxT K) (tVar 0) (tVar 4)) (tC (.int c))) (tCons (tVar 3) tNil))) tNil)) DD [some (.ref a), some (.ref b), some (.ref l), some (.ref z.1), some (.int (m : Int)), none] H2 := by
        intro H2 ws' c s eH2 hL2 hW2 hlen hc hc0 DD kk
        obtain ⟨c', rfl⟩ : ∃ c' : Nat, c = (c' : Int) := ⟨c.toNat, by omega⟩
        refine ⟨_, rfl, .inl ⟨rfl, _, sq_of hL2⟩, ?_⟩
        refine (ev_ix (K := K) (i := c') (ev_ix (K := K) (i := m) (ev_var rfl) (ev_var rfl) (eH2 a _ ha') hul) ev_int (eH2 pl _ hpl) hc) H2 (Ex.refl H2) _ fun H3 e3 => ?_
        refine ⟨_, rfl, by show 2 ≤ sizeLine; decide, fun p hp => ?_⟩
        have hL3 := e3 l _ hL2
        have lp : l ≠ p := ne_of_none hL3 hp
        refine ⟨l, _, _, rfl, rfl, (upd_ne lp).trans hL3, sz_lt (by rw [List.length_map]; omega), kk _ p (Ex.mut ((eH2.trans e3).trans (Ex.new hp)) hl) ?_ fun y hy => ?_⟩
        · rw [upd_same, List.map_append]
          rfl
        · refine WtOk.upd ?_ ((upd_ne lp).trans hL3)
          rcases List.mem_append.mp hy with h | h
          · exact ((hW2 y h).ex e3).ex (Ex.new hp)
          · rw [List.mem_singleton.mp h]
            exact ⟨upd_same, (Ex.new hp) z.1 _ (e3 z.1 _ (eH2 z.1 _ (hz4 z hzm)))⟩
      refine go H2 ws' 0 (lnP (TR.Pf r) m).1 eH2 hL2 hW2 (by omega) rfl (by decide) _ fun H3 p e3 hL3 hW3 => ?_
      refine go H3 _ 1 (lnP (TR.Pf r) m).2 e3 hL3 hW3 (by simp; omega) rfl (by decide) _ fun H4 p2 e4 hL4 hW4 => ?_
      refine ⟨_, _, rfl, e4, hL4, hW4, ?_, ?_⟩
      · rw [List.take_add_one, hm, List.flatMap_append, ← List.append_assoc, ← hwp2, List.map_append, List.map_append, List.append_assoc]
        rfl
      · simp only [List.length_append, List.length_cons, List.length_nil]
        omega
    · rintro σ H2 ⟨y4, ws', rfl, eH2, hL2, hW2, hwp2, hwl2⟩
      refine ⟨_, _, ws', rfl, eH2, hL2, hW2, ?_, ?_⟩
      · rw [hwp2, hwp, List.take_of_length_le (l := TR.cls r.length (TR.Pf r) z.2) (by unfold ci cI; simp), List.take_add_one, hzi, List.map_append]
        unfold TR.tl0
        rw [List.flatMap_append]
        congr 1
        show _ = List.flatMap _ [z.2]
        rw [List.flatMap_singleton]
        rfl
      · rw [List.length_map] at hwl2
        omega
  · rintro σ H' ⟨y3, y4, ws, rfl, eH, hL, hW, hwp, hwl⟩
    rw [List.length_map, List.take_length, hz2] at hwp
    rw [List.length_map] at hwl
    obtain ⟨s1, s2, s3⟩ := round_sort sr hG nd hW hwp
    dsimp only
    refine u_ret (y_lcLx (α := Wt) (fun z => V.ref z.1) (fun _ => true) (fun z => V.ref z.2.2.1)
      (fun wz H2 => wz.length ≤ 10000 ∧ (∀ z ∈ wz, WtOk r H2 z) ∧ TR.Rn r.length (TR.Pf r) (TR.Mf r) G (wz.map wp)) ?_ ?_ _ fun v1 H3 e3 ⟨wz, H2, DD, e2, e23, ⟨hwl2, hwz, hR⟩, ev, hD1⟩ => ?_)
    · intro R kk
      refine ⟨_, rfl, l, _, kof H', rfl, sq_of hL, s1, s2, fun ys p hp1 hp2 hp => ?_⟩
      obtain ⟨wz, rfl, hwz, hR⟩ := s3 ys hp1 hp2
      have hwzl : wz.length = ws.length := by
        have := hp1.length_eq
        rw [List.length_map, List.length_map] at this
        exact this
      exact kk _ _ (Ex.new hp) ⟨p, wz, rfl, sq_of upd_same, by omega, by omega, fun z hz' => (hwz z hz').ex (Ex.new hp), hR⟩
    · intro wz H2 e2 ⟨_, hwz, _⟩ z hz' H4 e4 R kk
      exact ⟨z.1, _, rfl, st_of (e4 _ _ (hwz z hz').1), rfl, _, _, rfl, _, _, rfl, rfl, kk _ H4 rfl (Ex.refl _) et_yes fun _ => ev_var rfl⟩
    · subst ev
      rw [ft_all] at hD1
      exact k DD wz H3 ((eH.trans e2).trans e23) hD1 (fun z hz' => (hwz z hz').ex e23) hR hwl2
end
end TW

/-! from W13 -/
set_option maxRecDepth 100000
set_option maxHeartbeats 4000000
namespace TW
open PySem PySem.Spec PyProof.Rows L2 Evl

section
variable {K : PySem.W.Frag} {σ : L2.St} {H : Hp}
/-- {part: 0 for part in parts} -/
theorem y_dcT {tl : TE} {vs : List Nat} {j : Nat} {c : Nat → List Int} (zs : List (Addr × Nat)) (hz : zs.length ≤ 40000) (hz4 : ∀ z ∈ zs, H z.1 = some (.tup ((c z.2).map V.int))) (hl : Yl tl σ H fun v H1 => ∃ a, v = .ref a ∧ H1 a = some (.tup (zs.map fun z => V.ref z.1)))
    (hw : ∀ x : V, wipe ((wipe σ vs).set j (some x)) vs = wipe σ vs) (hj : ∀ x : V, ((wipe σ vs).set j (some x))[j]? = some (some x)) :
    Yl (tDg (.dT []) (iTup K tl) (gName j) tYes (tVar j) (tC (.int 0)) vs) σ H fun v H1 => ∃ D kvs, v = .ref D ∧ H D = none ∧ H1 D = some (.dT kvs) ∧ kvs.length ≤ zs.length ∧ ∀ z ∈ zs, valV kvs ((c z.2).map Sum.inl) = some (.int 0) := fun R k => hl _ fun v H1 e1 ⟨a, ev, ha⟩ => by
  subst ev
  refine ⟨a, rfl, ⟨_, st_of ha⟩, fun D hD => ?_⟩
  let Pv : Nat → Hp → Prop := fun i H' => Ex H1 H' ∧ ∃ kvs : List (List Key × V), H' D = some (.dT kvs) ∧ kvs.length ≤ i ∧ ∀ z ∈ zs.take i, valV kvs ((c z.2).map Sum.inl) = some (.int 0)
  refine ⟨fun i m H' => m = zs.length - i ∧ i ≤ zs.length ∧ Pv i H', ⟨zs.length, rfl, Nat.zero_le _, Ex.new hD, [], upd_same, Nat.le_refl _, fun z hz => by rw [List.take_zero] at hz; cases hz⟩, ?_⟩
  rintro i m H' ⟨rfl, hi, eH, kvs, hk, hlen, hval⟩
  have ha' := eH a _ ha
  by_cases hlt : i < zs.length
  · have hzi : zs[i]? = some zs[i] := List.getElem?_eq_getElem hlt
    have hxi : (zs.map fun z => V.ref z.1)[i]? = some (V.ref zs[i].1) := by rw [List.getElem?_map, hzi]; rfl
    refine .inr ⟨⟨_, _, st_of ha', hxi⟩, Pv (i + 1), fun H2 q => ⟨zs.length - (i + 1), by omega, rfl, hlt, q⟩, fun x H2 y => ?_⟩
    obtain ⟨y1, y2⟩ := y
    subst y1
    have := y2 _ (st_of ha')
    rw [hxi] at this
    cases this
    refine ⟨hw _, ?_⟩
    unfold tYes
    dsimp only
    rw [if_pos rfl]
    have hm : zs[i] ∈ zs := List.getElem_mem hlt
    have hb := eH _ _ (e1 _ _ (hz4 _ hm))
    refine ⟨_, hj _, _, DPut.t (k := (c zs[i].2).map Sum.inl) hk (by rw [List.map_map]; exact hb) (sz_lt (by omega)), Ex.mut eH hD, _, upd_same, ?_, fun z hz => ?_⟩
    · have := length_putK kvs ((c zs[i].2).map Sum.inl) (V.int 0)
      omega
    · rw [valV_put]
      rw [List.take_add_one, hzi] at hz
      split
      · rfl
      · rename_i hne
        rcases List.mem_append.mp hz with h | h
        · exact hval z h
        · exact absurd (by rw [List.mem_singleton.mp h]) hne
  · have : i = zs.length := by omega
    subst this
    refine .inl ⟨⟨_, st_of ha', by rw [List.length_map]; exact Nat.le_refl _⟩, k _ _ (e1.trans eH) ⟨D, kvs, rfl, fresh_back e1 hD, hk, hlen, fun z hz => hval z (by rw [List.take_length]; exact hz)⟩⟩
theorem atI_prv {xs : List V} {i : Nat} {v : V} (hi : i < xs.length) (h : xs[if i = 0 then xs.length - 1 else i - 1]? = some v) : atI xs ((i : Int) - 1) = some v := by
  by_cases e : i = 0
  · subst e
    rw [if_pos rfl] at h
    obtain ⟨h1, h2⟩ := List.getElem?_eq_some_iff.mp h
    have : xs = xs.take (xs.length - 1) ++ [v] := by
      have h3 := List.take_add_one (l := xs) (i := xs.length - 1)
      rw [h, show xs.length - 1 + 1 = xs.length by omega, List.take_length] at h3
      exact h3
    rw [this]
    exact atI_last _ v
  · rw [if_neg e] at h
    rw [show (i : Int) - 1 = ((i - 1 : Nat) : Int) by omega]
    exact atI_nat h
theorem inl_inj {l m : List Int} (h : l.map (Sum.inl : Int → Key) = m.map Sum.inl) : l = m := by
  induction l generalizing m with
  | nil => cases m with
    | nil => rfl
    | cons a t => cases h
  | cons b t ih => cases m with
    | nil => cases h
    | cons a t' =>
      have h1 : (Sum.inl b : Key) = Sum.inl a := (List.cons.inj h).1
      rw [Sum.inl.inj h1, ih (List.cons.inj h).2]
end

section
variable {P : Program} {w : World} {K : PySem.W.Frag} {mg : Str → Option Value} {base : Heap}
/-! ### hurdles_among -/
theorem sc28 : FnScope ["lines", "some", "told", "begun", "at", "part"] ["lines", "some"] (defScope (topS 28)) := ⟨rfl, rfl, rfl, by decide +kernel, rfl, by decide +kernel, by decide +kernel⟩
def spHa : Sp := fun vs H Q _ => ∃ (v u : V) (r : List Int) (G : List Nat), vs = [v, u] ∧ TL H v (lineL r) ∧ PL (ci r) H u G ∧ TR.Sg r ∧ r.length ≤ 40 ∧ (∀ X ∈ G, TR.rp r.length (TR.Pf r) X) ∧ G.Nodup ∧
  ∀ x H', Ex H H' → PL (ci r) H' x (TR.hur (TR.RX r.length (TR.Pf r)) (TR.pt (TR.Pf r)) G) → Q x H'
open Classical in
theorem cl_ha (D : Dfn K mg "hurdles_among" (topS 28)) (B : Bi mg) (C1 : Cl P w K mg base 1 "round_of" spRound) : Cl P w K mg base 2 "hurdles_among" spHa := by
  refine cl_of (ps := ["lines", "some"]) D sc28 (fun _ _ _ _ _ _ us hl => match us, hl with | [_, _], _ => rfl) (fun vs H Q E h => by obtain ⟨v, u, r, G, rfl, _⟩ := h; rfl) fun f0 cdv A outer s0 H vs Q E hr h => ?_
  obtain ⟨v, u, r, G, rfl, hv, hu, sr, hz, hG, nd, k⟩ := h
  refine ⟨_, pss_cons (ps_set (i := 2) sc28.nd rfl (.inl rfl) (pe_cl C1 hr (Nat.le_refl _) (by rfl) (pa_cons (pv 0) (pa_cons (pv 1) pa_nil))))
    (pss_cons (ps_set (i := 3) sc28.nd rfl (.inr rfl) (pe_dg (own := [("part", 5)]) (g := gName 5) (tt := tYes) empt_t (hu_of hr) rfl sc28.nd (pi_tup (pv 1))
      (blkOk_by (own := [("part", 5)]) (N := ["lines", "some", "told", "begun", "at", "part"]) (sc := defScope (topS 28)) (by decide +kernel)) (fun _ _ _ _ _ => pg_name (i := 5) sc28.nd rfl (.inl rfl)) (fun _ _ _ _ _ => pts_nil) (fun _ _ _ _ _ => pv 5) (fun _ _ _ _ _ => pe_int)))
    (pss_cons (ps_for PassesOwn.never rfl (pi_range1 (by rfl) B.b_range (pa_cons (pe_callB call_len_seq (by rfl) B.b_len PySem.boot_len (pa_cons (pv 2) pa_nil)) pa_nil)) (pg_name (i := 4) sc28.nd rfl (.inl rfl))
      (pss_one (ps_if (pt_cmpR (op_neD hr.units) (pe_ix (r := rIxL K) ix_list (pv 2) (pv 4) (fun _ _ => rfl)) (pe_ix (r := rIxL K) ix_list (pv 2) (pe_op op_sub (pv 4) pe_int) (fun _ _ => rfl)) (nomark _))
        (pss_one (ps_daug (hu_of hr) (pv 3) (pe_ix (r := rIxL K) ix_list (pv 2) (pv 4) (fun _ _ => rfl)) pe_int in_add (by intros; rfl))) pss_nil)))
    (pss_one (ps_ret (pe_callTy call_tuple_of (by rfl) B.b_tuple (by decide +kernel) (pa_cons
      (pe_lc (own := [("part", 5)]) (g := gName 5) rfl sc28.nd (pi_tup (pv 1)) (blkOk_by (own := [("part", 5)]) (N := ["lines", "some", "told", "begun", "at", "part"]) (sc := defScope (topS 28)) (by decide +kernel))
        (fun _ _ _ _ _ => pg_name (i := 5) sc28.nd rfl (.inl rfl)) (fun _ _ _ _ _ => pts_one (pt_cmpR op_le (pe_dget (hu_of hr) (pv 3) (pv 5) (fun _ _ => rfl)) pe_int (nomark _))) (fun _ _ _ _ _ => pv 5)) pa_nil)))))), ?_⟩
  have W := TR.dr_row sr
  refine ⟨_, rfl, _, rfl, v, u, r, G, rfl, hv, hu, sr, hz, hG, nd, fun D wz H1 e1 hD hwz hR hwl => ?_⟩
  obtain ⟨b, zs, rfl, hb, hz2, hz4⟩ := hu
  have hzl : zs.length ≤ 41 := by
    have h1 := congrArg List.length hz2
    rw [List.length_map] at h1
    have h2 := TR.lst_perm (M := r.length + 1) (S := fun x => x ∈ G) nd fun x => ⟨fun h => ⟨by have := (hG x h).1; omega, h⟩, fun h => h.2⟩
    have h3 := TR.lst_len (r.length + 1) (fun x => x ∈ G)
    rw [h1, h2.length_eq]
    omega
  obtain ⟨T, hT⟩ : ∃ T, T = (wz.map wp).map (·.2) := ⟨_, rfl⟩
  have hTl : T.length = wz.length := by rw [hT, List.length_map, List.length_map]
  have hTg : ∀ {i : Nat} {z : Wt}, wz[i]? = some z → T[i]? = some z.2.2.2 := fun {i z} h => by
    rw [hT, List.getElem?_map, List.getElem?_map, h]
    rfl
  have hrn : ∀ {X : Nat}, X ∈ G → (TR.cnt T.length (TR.rs T X) ≤ 1 ↔ TR.Hur (TR.RX r.length (TR.Pf r)) (TR.pt (TR.Pf r)) G X) := fun {X} hX => by
    rw [hT]
    exact TR.rn_hur W hG hR hX
  have hzG : ∀ {z : Wt}, z ∈ wz → z.2.2.2 ∈ G := fun {z} hz' => ((hR.mem z.2.1 z.2.2.2).mp (List.mem_map.mpr ⟨z, hz', rfl⟩)).1
  have cin : ∀ {X Y : Nat}, X ∈ G → Y ∈ G → ci r X = ci r Y → X = Y := fun {X Y} hX hY e => TR.cls_inj (hG X hX) (hG Y hY) (cI_inj e)
  dsimp only
  refine u_seq (u_set (y_dcT (c := ci r) zs (by omega) (fun z hz' => e1 z.1 _ (hz4 z hz')) (y_var rfl ⟨b, rfl, e1 b _ hb⟩) (fun _ => by rfl) (fun _ => by rfl) _ fun v2 H2 e2 ⟨bg, kv0, ev2, nbg, hbg, hkl, hk0⟩ => ?_))
  subst ev2
  have hD2 := e2 D _ hD
  refine ⟨_, rfl, D, _, rfl, .inl (sq_of hD2), _, rfl, by rw [List.length_map]; omega, by rw [List.length_map]; omega, for_range (lo := 0) (n := (((wz.map fun z : Wt => V.ref z.2.2.1).length : Nat) : Int).toNat)
    (fun i σ H' => ∃ (y4 : Option V) (kvs : List (List Key × V)), σ = [some v, some (.ref b), some (.ref D), some (.ref bg), y4, none] ∧ Ex H1 H' ∧ H' bg = some (.dT kvs) ∧ kvs.length ≤ 41 + i ∧
      ∀ X ∈ G, valV kvs ((ci r X).map Sum.inl) = some (.int ((TR.cnt i (TR.rs T X) : Nat) : Int)))
    ⟨none, kv0, rfl, e2, hbg, by omega, fun X hX => ?_⟩ ?_ ?_⟩
  · rw [← hz2] at hX
    obtain ⟨z, hz', rfl⟩ := List.mem_map.mp hX
    exact hk0 z hz'
  · rintro i σ H' hi ⟨y4, kvs, rfl, eH, hbg', hkl', hval⟩
    have hi' : i < wz.length := by rw [List.length_map] at hi; omega
    rw [show (0 : Int) + (i : Int) = (i : Int) by omega]
    have hwi : wz[i]? = some wz[i] := List.getElem?_eq_getElem hi'
    obtain ⟨j, hj⟩ : ∃ j, j = (if i = 0 then wz.length - 1 else i - 1) := ⟨_, rfl⟩
    have hjl : j < wz.length := by rw [hj]; split <;> omega
    have hwj : wz[j]? = some wz[j] := List.getElem?_eq_getElem hjl
    have hpv : TR.prv T i = j := by
      unfold TR.prv
      rw [hTl, hj]
    generalize hzi : wz[i] = zi at hwi
    generalize hzj : wz[j] = zj at hwj
    have mi := List.mem_of_getElem? hwi
    have mj := List.mem_of_getElem? hwj
    have gi := hzG mi
    have gj := hzG mj
    have ti := hTg hwi
    have tj := hTg hwj
    have xi : (wz.map fun z : Wt => V.ref z.2.2.1)[i]? = some (.ref zi.2.2.1) := by rw [List.getElem?_map, hwi]; rfl
    have xj : atI (wz.map fun z : Wt => V.ref z.2.2.1) ((i : Int) - 1) = some (.ref zj.2.2.1) := by
      refine atI_prv (by rw [List.length_map]; exact hi') ?_
      rw [List.length_map, ← hj, List.getElem?_map, hwj]
      rfl
    have hDH := eH D _ hD
    have cs : ∀ X, TR.cnt (i + 1) (TR.rs T X) = TR.cnt i (TR.rs T X) + if TR.rs T X i then 1 else 0 := fun X => TR.cnt_succ i _
    have hrs : ∀ X, TR.rs T X i ↔ X = zi.2.2.2 ∧ zj.2.2.2 ≠ X := fun X => by
      unfold TR.rs
      rw [hpv, ti, tj]
      exact ⟨fun h => ⟨(Option.some.inj h.1).symm, fun z => h.2 (congrArg some z)⟩, fun h => ⟨congrArg some h.1.symm, fun z => h.2 (Option.some.inj z)⟩⟩
    have ev1 : ∀ y : V, Ev (tOp (rIxL K) (tVar 2) (tVar 4)) [some v, some (.ref b), some (.ref D), some (.ref bg), some (.int (i : Int)), none] H' (.ref zi.2.2.1) := fun _ => ev_op (ev_var rfl) (ev_var rfl) (rv_ixL (sq_of hDH) (atI_nat xi))
    have ev2 : Ev (tOp (rIxL K) (tVar 2) (tOp (rI0 fun i j => .int (i - j)) (tVar 4) (tC (.int 1)))) [some v, some (.ref b), some (.ref D), some (.ref bg), some (.int (i : Int)), none] H' (.ref zj.2.2.1) :=
      ev_op (ev_var rfl) (ev_op (ev_var rfl) ev_int rv_I0) (rv_ixL (sq_of hDH) xj)
    refine ev1 .non H' (Ex.refl _) _ fun H3 e3 => ev2 H3 e3 _ fun H4 e4 => ?_
    have e34 := e3.trans e4
    have eH4 := eH.trans e34
    refine neT (ns := ci r zi.2.2.2) (ms := ci r zj.2.2.2) ⟨_, rfl, eH4 _ _ (hwz zi mi).2⟩ ⟨_, rfl, eH4 _ _ (hwz zj mj).2⟩ ⟨_, rfl, ?_⟩
    have hbg4 := e34 bg _ hbg'
    by_cases heq : ci r zi.2.2.2 = ci r zj.2.2.2
    · rw [decide_eq_true heq]
      refine iteF' rfl ⟨_, kvs, rfl, eH4, hbg4, by omega, fun X hX => ?_⟩
      have : ¬ TR.rs T X i := fun h => by
        obtain ⟨h1, h2⟩ := (hrs X).mp h
        exact h2 ((cin gi gj heq).symm.trans h1.symm)
      rw [cs, if_neg this]
      exact hval X hX
    · rw [decide_eq_false heq]
      refine iteT' rfl ?_
      have hne : zj.2.2.2 ≠ zi.2.2.2 := fun z => heq (by rw [z])
      refine ⟨_, rfl, ?_⟩
      refine (ev1 .non).mono e34 H4 (Ex.refl _) _ fun H5 e5 => ?_
      have hbg5 := e5 bg _ hbg4
      have hk5 := (eH4.trans e5) _ _ (hwz zi mi).2
      have hkk : H5 zi.2.2.1 = some (.tup (((ci r zi.2.2.2).map Sum.inl : List Key).map kV)) := by rw [hk5, List.map_map]; rfl
      refine ⟨bg, .int ((TR.cnt i (TR.rs T zi.2.2.2) : Nat) : Int), rfl, ?_, _, _, rfl, rfl, _, DPut.t hbg5 hkk (sz_lt (by omega)), _, _, rfl, Ex.mut (eH4.trans e5) nbg, upd_same, ?_, fun X hX => ?_⟩
      · rw [← hval _ gi]
        exact DGet.t hbg5 hkk
      · have := length_putK kvs ((ci r zi.2.2.2).map Sum.inl : List Key) (V.int (((TR.cnt i (TR.rs T zi.2.2.2) : Nat) : Int) + 1))
        omega
      · rw [valV_put, cs]
        by_cases hX0 : X = zi.2.2.2
        · subst hX0
          rw [if_pos rfl, if_pos ((hrs _).mpr ⟨rfl, hne⟩)]
          rfl
        · rw [if_neg (fun z => hX0 (cin hX gi (inl_inj z))), if_neg (fun h => hX0 ((hrs X).mp h).1)]
          exact hval X hX
  · rintro σ H' ⟨y4, kvs, rfl, eH, hbg', hkl', hval⟩
    rw [show (((wz.map fun z : Wt => V.ref z.2.2.1).length : Nat) : Int).toNat = T.length by rw [List.length_map, hTl]; omega] at hval
    have e1H := e1.trans eH
    dsimp only
    refine u_ret (u_cb (u_cons (y_lcT zs (fun z => V.ref z.1) (fun z => decide (TR.cnt T.length (TR.rs T z.2) ≤ 1)) (fun z => V.ref z.1) (by omega) (y_var rfl ⟨b, rfl, st_of (e1H b _ hb)⟩) ?_ _ fun v3 H3 e3 ⟨DD, ev, _, hD3⟩ => ?_)))
    · intro H3 e3
      refine lc_name (fun _ => by rfl) (fun z hz' H4 e4 => ?_) fun _ _ _ _ _ => ev_var rfl
      have gz : z.2 ∈ G := by rw [← hz2]; exact List.mem_map.mpr ⟨z, hz', rfl⟩
      intro H5 e5 R hR5
      have eb5 := (e3.trans e4).trans e5
      have hk5 : H5 z.1 = some (.tup (((ci r z.2).map Sum.inl : List Key).map kV)) := by rw [(e1H.trans eb5) _ _ (hz4 z hz'), List.map_map]; rfl
      refine ⟨_, rfl, _, rfl, bg, .int ((TR.cnt T.length (TR.rs T z.2) : Nat) : Int), rfl, ?_, _, _, rfl, rfl, _, rfl, ?_⟩
      · rw [← hval _ gz]
        exact DGet.t (eb5 bg _ hbg') hk5
      · have := hR5 H5 (Ex.refl _)
        rw [show decide (TR.cnt T.length (TR.rs T z.2) ≤ 1) = decide (((TR.cnt T.length (TR.rs T z.2) : Nat) : Int) ≤ 1) by rw [decide_eq_decide]; omega] at this
        exact this
    · subst ev
      refine ⟨DD, _, rfl, .inl ⟨sq_of hD3, fun l hl => k _ _ ((e1H.trans e3).trans (Ex.new hl)) ⟨l, zs.filter fun z => decide (TR.cnt T.length (TR.rs T z.2) ≤ 1), rfl, upd_same, ?_, fun z hz' => ?_⟩⟩⟩
      · unfold TR.hur
        rw [← hz2, show (zs.filter fun z => decide (TR.cnt T.length (TR.rs T z.2) ≤ 1)).map (·.2) = (zs.map (·.2)).filter (fun X => decide (TR.cnt T.length (TR.rs T X) ≤ 1)) by rw [List.filter_map]; rfl]
        refine List.filter_congr fun X hX => ?_
        rw [decide_eq_decide, hz2]
        rw [hz2] at hX
        exact hrn hX
      · exact ((e1H.trans e3).trans (Ex.new hl)) z.1 _ (hz4 z (List.mem_filter.mp hz').1)
end
end TW

/-! from W14 -/
set_option maxRecDepth 100000
set_option maxHeartbeats 4000000
namespace TW
open PySem PySem.Spec PyProof.Rows L2 Evl

/-! ### tuples and lists of parts, as data -/
def pD (l : List Int) : PyData := .tuple (l.map PyData.int)
theorem lay_pD : ∀ ls : List (List Int), PyData.canLayAll0 (ls.map pD) = true
  | [] => by simp [PyData.canLayAll0]
  | l :: ls => by simp [PyData.canLayAll0, PyData.canLay0, pD, lay_ints l]; exact lay_pD ls
theorem dep_pD : ∀ ls : List (List Int), PyData.depthAll (ls.map pD) ≤ 1
  | [] => by simp [PyData.depthAll]
  | l :: ls => by
    have := dep_pD ls
    simp only [List.map_cons, PyData.depthAll, pD, PyData.depth, dep_ints]
    exact Nat.max_le.mpr ⟨by omega, this⟩
theorem shPT (ls : List (List Int)) : SeqAt.shaped (.tuple (ls.map pD)) = true := by
  show ((PyData.tuple (ls.map pD)).canLay0 && decide ((PyData.tuple (ls.map pD)).depth ≤ 64)) = true
  rw [Bool.and_eq_true]
  refine ⟨by simp only [PyData.canLay0]; exact lay_pD ls, decide_eq_true ?_⟩
  have := dep_pD ls
  simp only [PyData.depth]
  omega
theorem shPL (ls : List (List Int)) : SeqAt.shaped (.list (ls.map pD)) = true := by
  show ((PyData.list (ls.map pD)).canLay0 && decide ((PyData.list (ls.map pD)).depth ≤ 64)) = true
  rw [Bool.and_eq_true]
  refine ⟨by simp only [PyData.canLay0]; exact lay_pD ls, decide_eq_true ?_⟩
  have := dep_pD ls
  simp only [PyData.depth]
  omega
theorem all_pD {K : PySem.W.Frag} {H : Hp} {c : Nat → List Int} : ∀ {zs : List (Addr × Nat)}, (∀ z ∈ zs, H z.1 = some (.tup ((c z.2).map V.int))) → DpAll K H (zs.map fun z => V.ref z.1) ((zs.map fun z => c z.2).map pD)
  | [], _ => .nil
  | z :: zs, h => .cons (.tup (st_of (h z List.mem_cons_self)) (all_ints K H _)) (all_pD fun y hy => h y (List.mem_cons_of_mem _ hy))
theorem any_pD (ls : List (List Int)) (l : List Int) : ((ls.map pD).any fun z => PyData.eqv z (pD l)) = decide (l ∈ ls) := by
  induction ls with
  | nil => simp
  | cons a t ih =>
    rw [List.map_cons, List.any_cons, ih]
    have : PyData.eqv (pD a) (pD l) = decide (l = a) := by
      unfold pD
      rw [PyData.eqv, eqv_ints, decide_eq_decide]
      exact eq_comm
    rw [this, ← Bool.decide_or, decide_eq_decide, List.mem_cons]
section
variable {K : PySem.W.Frag} {H : Hp} {Q : VK}
/-- a list of parts and an empty list -/
theorem neP {c : Nat → List Int} {a b : Addr} {zs : List (Addr × Nat)} (ha : SqL K H a (zs.map fun z => V.ref z.1)) (hz : ∀ z ∈ zs, H z.1 = some (.tup ((c z.2).map V.int))) (hb : SqL K H b []) (q : Q (.bl (!decide (zs = []))) H) : rNeD K (.ref a) (.ref b) H Q := by
  refine ⟨_, _, .lst ha (all_pD (c := c) hz), .lst hb .nil, shPL _, shL [], ?_⟩
  have : PyData.eqv (.list ((zs.map fun z => c z.2).map pD)) (.list []) = decide (zs = []) := by
    rw [PyData.eqv]
    cases zs with
    | nil => simp [PyData.eqvAll]
    | cons z t => simp [PyData.eqvAll]
  rw [this]
  exact q
theorem niP {c : Nat → List Int} {x y : V} {G : List Nat} {l : List Int} (hx : TI H x l) (hy : PL c H y G) (q : Q (.bl (!decide (l ∈ G.map c))) H) : rNotInT K x y H Q := by
  obtain ⟨a, rfl, ha⟩ := hx
  obtain ⟨b, zs, rfl, hb, rfl, hz⟩ := hy
  refine ⟨pD l, (zs.map fun z => c z.2).map pD, .tup (st_of ha) (all_ints K H l), .tup (st_of hb) (all_pD (c := c) hz), shT l, shPT _, ?_⟩
  rw [any_pD]
  rw [List.map_map] at q
  exact q
end

section
variable {P : Program} {w : World} {K : PySem.W.Frag} {mg : Str → Option Value} {base : Heap}
/-! ### hurdles -/
noncomputable def hG (r : List Int) : List Nat := TR.hur (TR.RX r.length (TR.Pf r)) (TR.pt (TR.Pf r)) (TR.FF r.length (TR.Pf r))
theorem ff_rp {n : Nat} {Pf : Nat → Nat} {X : Nat} (h : X ∈ TR.FF n Pf) : TR.rp n Pf X := (TR.mem_FF.mp h).1
theorem sc29 : FnScope ["row"] ["row"] (defScope (topS 29)) := ⟨rfl, rfl, rfl, by decide +kernel, rfl, by decide +kernel, by decide +kernel⟩
def spHur : Sp := fun vs H Q _ => ∃ (v : V) (r : List Int), vs = [v] ∧ TI H v r ∧ TR.Sg r ∧ r.length ≤ 40 ∧ ∀ u H', Ex H H' → PL (ci r) H' u (hG r) → Q u H'
theorem cl_hur (D : Dfn K mg "hurdles" (topS 29)) (B : Bi mg) (C1 : Cl P w K mg base 3 "light_lines" spLight) (C2 : Cl P w K mg base 4 "bad_parts" spBad) (C3 : Cl P w K mg base 2 "hurdles_among" spHa) : Cl P w K mg base 5 "hurdles" spHur := by
  refine cl_of (ps := ["row"]) D sc29 (fun _ _ _ _ _ _ us hl => match us, hl with | [_], _ => rfl) (fun vs H Q E h => by obtain ⟨v, r, rfl, _⟩ := h; rfl) fun f0 cdv A outer s0 H vs Q E hr h => ?_
  obtain ⟨v, r, rfl, hv, sr, hz, k⟩ := h
  refine ⟨_, pss_one (ps_ret (pe_cl C3 hr (by decide) (by rfl) (pa_cons (pe_cl C1 hr (by decide) (by rfl) (pa_cons (pv 0) pa_nil)) (pa_cons (pe_cl C2 hr (by decide) (by rfl) (pa_cons (pv 0) pa_nil)) pa_nil)))), ?_⟩
  refine ⟨_, rfl, v, r, rfl, hv, sr, hz, fun t H1 e1 ht => ?_⟩
  refine ⟨_, rfl, v, r, rfl, hv.ex e1, sr, hz, fun u H2 e2 hu => ?_⟩
  exact ⟨t, u, r, _, rfl, ht.ex e2, hu, sr, hz, fun X hX => ff_rp hX, TR.nd_FF _ _, fun x H3 e3 hx => k x H3 ((e1.trans e2).trans e3) hx⟩

/-! ### great_hurdles -/
theorem sc30 : FnScope ["row", "lines", "bad", "plain", "found", "hurdle", "others", "part"] ["row"] (defScope (topS 30)) := ⟨rfl, rfl, rfl, by decide +kernel, rfl, by decide +kernel, by decide +kernel⟩
open Classical in
noncomputable def gN (r : List Int) : List Nat := (hG r).filter fun X => decide (TR.Great (TR.RX r.length (TR.Pf r)) (TR.pt (TR.Pf r)) (TR.FF r.length (TR.Pf r)) X)
def spGreat : Sp := fun vs H Q _ => ∃ (v : V) (r : List Int), vs = [v] ∧ TI H v r ∧ TR.Sg r ∧ r.length ≤ 40 ∧ ∀ a xs H', Ex H H' → H' a = some (.tup xs) → xs.length = (gN r).length → Q (.ref a) H'
theorem great_iff {R : Nat → Nat → Nat → Prop} {p : Nat → Nat} {G : List Nat} {X : Nat} : TR.Great R p G X ↔ ∃ Z ∈ TR.hur R p (TR.del G X), Z ∉ TR.hur R p G := by
  unfold TR.Great TR.hur
  simp only [List.mem_filter, decide_eq_true_iff]
  constructor
  · rintro ⟨Z, a, b, c⟩
    exact ⟨Z, ⟨a, c⟩, fun h => b h.2⟩
  · rintro ⟨Z, ⟨a, c⟩, b⟩
    exact ⟨Z, a, fun h => b ⟨(TR.mem_del.mp a).1, h⟩, c⟩
open Classical in
theorem cl_great (D : Dfn K mg "great_hurdles" (topS 30)) (B : Bi mg) (C1 : Cl P w K mg base 3 "light_lines" spLight) (C2 : Cl P w K mg base 4 "bad_parts" spBad) (C3 : Cl P w K mg base 2 "hurdles_among" spHa) : Cl P w K mg base 5 "great_hurdles" spGreat := by
  refine cl_of (ps := ["row"]) D sc30 (fun _ _ _ _ _ _ us hl => match us, hl with | [_], _ => rfl) (fun vs H Q E h => by obtain ⟨v, r, rfl, _⟩ := h; rfl) fun f0 cdv A outer s0 H vs Q E hr h => ?_
  obtain ⟨v, r, rfl, hv, sr, hz, k⟩ := h
  have u65 : (A.deeper (envOfC "great_hurdles" (defScope (topS 30)) s0.heap.objs.size f0 cdv)).units + 65 < cLine := by have := hr.un; omega
  refine ⟨_, pss_cons (ps_set (i := 1) sc30.nd rfl (.inl rfl) (pe_cl C1 hr (by decide) (by rfl) (pa_cons (pv 0) pa_nil)))
    (pss_cons (ps_set (i := 2) sc30.nd rfl (.inl rfl) (pe_cl C2 hr (by decide) (by rfl) (pa_cons (pv 0) pa_nil)))
    (pss_cons (ps_set (i := 3) sc30.nd rfl (.inr rfl) (pe_cl C3 hr (by decide) (by rfl) (pa_cons (pv 1) (pa_cons (pv 2) pa_nil))))
    (pss_cons (ps_set (i := 4) sc30.nd rfl (.inl rfl) (pe_lst pa_nil))
    (pss_cons (ps_for PassesOwn.never rfl (pi_tup (pv 3)) (pg_name (i := 5) sc30.nd rfl (.inr rfl))
      (pss_cons (ps_set (i := 6) sc30.nd rfl (.inl rfl) (pe_callTy call_tuple_of (by rfl) B.b_tuple (by decide +kernel) (pa_cons
        (pe_lc (own := [("part", 7)]) (g := gName 7) rfl sc30.nd (pi_tup (pv 2)) (blkOk_by (own := [("part", 7)]) (N := ["row", "lines", "bad", "plain", "found", "hurdle", "others", "part"]) (sc := defScope (topS 30)) (by decide +kernel))
          (fun _ _ _ _ _ => pg_name (i := 7) sc30.nd rfl (.inl rfl)) (fun _ _ _ _ _ => pts_one (pt_cmpR (r := rNeD K) (op_neD hr.units) (pv 7) (pv 5) (nomark _))) (fun _ _ _ _ _ => pv 7)) pa_nil)))
      (pss_one (ps_if (pt_cmpR (op_neD hr.units)
        (pe_lc (own := [("part", 7)]) (g := gName 7) rfl sc30.nd (pi_tup (pe_cl C3 hr (by decide) (by rfl) (pa_cons (pv 1) (pa_cons (pv 6) pa_nil)))) (blkOk_by (own := [("part", 7)]) (N := ["row", "lines", "bad", "plain", "found", "hurdle", "others", "part"]) (sc := defScope (topS 30)) (by decide +kernel))
          (fun _ _ _ _ _ => pg_name (i := 7) sc30.nd rfl (.inl rfl)) (fun _ _ _ _ _ => pts_one (pt_cmpR (r := rNotInT K) (op_notInT u65) (pv 7) (pv 3) rfl)) (fun _ _ _ _ _ => pv 7))
        (pe_lst pa_nil) (nomark _)) (pss_one (ps_expr (pe_bm PySem.F.plainAttrs_list PySem.F.slot_list_append PySem.F.type_list_append mt_append (pv 4) (pa_cons (pv 5) pa_nil)))) pss_nil))))
    (pss_one (ps_ret (pe_callTy call_tuple_of (by rfl) B.b_tuple (by decide +kernel) (pa_cons (pv 4) pa_nil)))))))), ?_⟩
  refine ⟨_, rfl, v, r, rfl, hv, sr, hz, fun t H1 e1 ht => ?_⟩
  refine ⟨_, rfl, v, r, rfl, hv.ex e1, sr, hz, fun u H2 e2 hu => ?_⟩
  refine ⟨_, rfl, _, rfl, t, u, r, _, rfl, ht.ex e2, hu, sr, hz, fun X hX => ff_rp hX, TR.nd_FF _ _, fun x H3 e3 hx => ?_⟩
  have e13 := (e1.trans e2).trans e3
  have ht3 := ht.ex (e2.trans e3)
  have hu3 := hu.ex e3
  have hx3 := hx
  obtain ⟨b, zs, rfl, hb, hzb, hzz⟩ := hu3
  obtain ⟨c, ys, rfl, hc, hyc, hyy⟩ := hx
  have hFl : (TR.FF r.length (TR.Pf r)).length ≤ 41 := by
    have := TR.lst_len (r.length + 1) (fun k => TR.rp r.length (TR.Pf r) k ∧ TR.bad r.length (TR.Pf r) k)
    unfold TR.FF
    omega
  have hzl : zs.length ≤ 41 := by
    have := congrArg List.length hzb
    rw [List.length_map] at this
    omega
  have hyl : ys.length ≤ 41 := by
    have := congrArg List.length hyc
    rw [List.length_map] at this
    have h2 : (TR.hur (TR.RX r.length (TR.Pf r)) (TR.pt (TR.Pf r)) (TR.FF r.length (TR.Pf r))).length ≤ (TR.FF r.length (TR.Pf r)).length := List.length_filter_le _ _
    omega
  have cin : ∀ {X Y : Nat}, TR.rp r.length (TR.Pf r) X → TR.rp r.length (TR.Pf r) Y → (ci r X = ci r Y ↔ X = Y) := fun {X Y} hX hY => ⟨fun e => TR.cls_inj hX hY (cI_inj e), fun e => by rw [e]⟩
  refine ⟨by show 0 ≤ sizeLine; decide, fun f hf => ?_⟩
  have e4 := Ex.new (o := .lst []) hf
  have hf4 : (upd H3 f (.lst [])) f = some (.lst []) := upd_same
  generalize upd H3 f (.lst []) = H4 at e4 hf4 ⊢
  refine ⟨_, rfl, c, rfl, ⟨_, st_of (e4 c _ hc)⟩, for_tup (K := K) (a := c) (xs := ys.map fun z => V.ref z.1)
    (fun i σ H' => ∃ (y5 y6 : Option V) (xs : List V), σ = [some v, some t, some (.ref b), some (.ref c), some (.ref f), y5, y6, none] ∧ Ex H3 H' ∧ H' f = some (.lst xs) ∧ xs.length ≤ i ∧
      xs.length = (((ys.map (·.2)).take i).filter fun X => decide (TR.Great (TR.RX r.length (TR.Pf r)) (TR.pt (TR.Pf r)) (TR.FF r.length (TR.Pf r)) X)).length)
    ⟨none, none, [], rfl, e4, hf4, Nat.le_refl _, rfl⟩ (fun i σ H' _ ⟨_, _, _, _, eH, _⟩ => st_of (eH c _ hc)) ?_ ?_⟩
  · rintro i x σ H' hi ⟨y5, y6, xs, rfl, eH, hf', hxi, hxl⟩
    rw [List.getElem?_map] at hi
    obtain ⟨z, hzi, rfl⟩ := Option.map_eq_some_iff.mp hi
    have hil := (List.getElem?_eq_some_iff.mp hzi).1
    have hzm := List.mem_of_getElem? hzi
    have hzF : z.2 ∈ TR.FF r.length (TR.Pf r) := by
      have h1 : z.2 ∈ ys.map (·.2) := List.mem_map.mpr ⟨z, hzm, rfl⟩
      rw [hyc] at h1
      exact (List.mem_filter.mp h1).1
    refine u_seq (u_set (u_cb (u_cons (y_lcT zs (fun z => V.ref z.1) (fun y => decide (y.2 ≠ z.2)) (fun z => V.ref z.1) (by omega) (y_var rfl ⟨b, rfl, st_of (eH b _ hb)⟩) ?_ _ fun v5 H5 e5 ⟨DD, ev, _, hD5⟩ => ?_))))
    · intro H5 e5
      refine lc_name (fun _ => by rfl) (fun y hy H6 e6 => ?_) fun _ _ _ _ _ => ev_var rfl
      have hyF : y.2 ∈ TR.FF r.length (TR.Pf r) := by rw [← hzb]; exact List.mem_map.mpr ⟨y, hy, rfl⟩
      intro H7 e7 R hR
      have e37 := ((eH.trans e5).trans e6).trans e7
      refine ⟨_, rfl, _, rfl, neT (ns := ci r y.2) (ms := ci r z.2) ⟨_, rfl, e37 _ _ (hzz y hy)⟩ ⟨_, rfl, e37 _ _ (hyy z hzm)⟩ ⟨_, rfl, ?_⟩⟩
      have := hR H7 (Ex.refl _)
      rw [show decide (y.2 ≠ z.2) = !decide (ci r y.2 = ci r z.2) by rw [← decide_not, decide_eq_decide, cin (ff_rp hyF) (ff_rp hzF)]] at this
      exact this
    · subst ev
      refine ⟨DD, _, rfl, .inl ⟨sq_of hD5, fun o ho => ?_⟩⟩
      have e35 := eH.trans e5
      have e36 := e35.trans (Ex.new (o := .tup ((zs.filter fun y => decide (y.2 ≠ z.2)).map fun z => V.ref z.1)) ho)
      have hO : PL (ci r) (upd H5 o (.tup ((zs.filter fun y => decide (y.2 ≠ z.2)).map fun z => V.ref z.1))) (.ref o) (TR.del (TR.FF r.length (TR.Pf r)) z.2) :=
        ⟨o, zs.filter fun y => decide (y.2 ≠ z.2), rfl, upd_same, by unfold TR.del; rw [← hzb, List.filter_map]; rfl, fun y hy => e36 _ _ (hzz y (List.mem_filter.mp hy).1)⟩
      have hf6 : (upd H5 o (.tup ((zs.filter fun y => decide (y.2 ≠ z.2)).map fun z => V.ref z.1))) f = some (.lst xs) := (Ex.new ho) f _ (e5 f _ hf')
      generalize upd H5 o (.tup ((zs.filter fun y => decide (y.2 ≠ z.2)).map fun z => V.ref z.1)) = H6 at e36 hO hf6 ⊢
      dsimp only
      refine u_if (u_test (u_op (y_lcTx (α := Addr × Nat) (fun z => V.ref z.1) (fun y => !decide (ci r y.2 ∈ (hG r).map (ci r))) (fun z => V.ref z.1)
        (fun ws H7 => Ex H6 H7 ∧ ws.map (·.2) = TR.hur (TR.RX r.length (TR.Pf r)) (TR.pt (TR.Pf r)) (TR.del (TR.FF r.length (TR.Pf r)) z.2) ∧ ∀ y ∈ ws, H7 y.1 = some (.tup ((ci r y.2).map V.int))) ?_ ?_ _ fun v7 H8 e8 ⟨ws, H7, DL, e67, e78, ⟨_, hw2, hw4⟩, ev, hD8⟩ => ?_)))
      · intro R kk
        refine ⟨_, rfl, _, rfl, t, .ref o, r, _, rfl, ht3.ex e36, hO, sr, hz, fun X hX => ff_rp (TR.mem_del.mp hX).1, (TR.nd_FF _ _).filter _, fun u7 H7 e7 ⟨a7, ws, eu, ha7, hw2, hw4⟩ => kk _ _ e7 ⟨a7, ws, eu, st_of ha7, ?_, e7, hw2, hw4⟩⟩
        have h1 := congrArg List.length hw2
        rw [List.length_map] at h1
        rw [h1]
        exact Nat.le_trans (List.length_filter_le _ _) (Nat.le_trans (List.length_filter_le _ _) (by omega))
      · intro ws H7 e7 ⟨_, hw2, hw4⟩
        refine lc_name (fun _ => by rfl) (fun y hy H9 e9 => ?_) fun _ _ _ _ _ => ev_var rfl
        intro H10 e10 R hR
        refine ⟨_, rfl, _, rfl, niP (c := ci r) (l := ci r y.2) ⟨_, rfl, e10 _ _ (e9 _ _ (hw4 y hy))⟩ (hx3.ex (((e36.trans e7).trans e9).trans e10)) ⟨_, rfl, hR H10 (Ex.refl _)⟩⟩
      · subst ev
        have e38 := (e36.trans e67).trans e78
        refine ⟨by show 0 ≤ sizeLine; decide, fun q hq => ?_⟩
        have e39 := e38.trans (Ex.new (o := .lst []) hq)
        have hf9 : (upd H8 q (.lst [])) f = some (.lst xs) := (Ex.new hq) f _ (e78 f _ (e67 f _ hf6))
        refine neP (c := ci r) (zs := ws.filter fun y => !decide (ci r y.2 ∈ (hG r).map (ci r))) (sq_of ((Ex.new hq) DL _ hD8)) (fun y hy => (Ex.new hq) _ _ (e78 _ _ (hw4 y (List.mem_filter.mp hy).1))) (sq_of upd_same) ⟨_, rfl, ?_⟩
        generalize upd H8 q (.lst []) = H9 at e39 hf9 ⊢
        have key : (ws.filter fun y => !decide (ci r y.2 ∈ (hG r).map (ci r))) = [] ↔ ¬ TR.Great (TR.RX r.length (TR.Pf r)) (TR.pt (TR.Pf r)) (TR.FF r.length (TR.Pf r)) z.2 := by
          rw [great_iff, List.filter_eq_nil_iff]
          have mem : ∀ Z, TR.rp r.length (TR.Pf r) Z → (ci r Z ∈ (hG r).map (ci r) ↔ Z ∈ hG r) := fun Z hZ => by
            rw [List.mem_map]
            exact ⟨fun ⟨Y, hY, e⟩ => ((cin (ff_rp (List.mem_filter.mp hY).1) hZ).mp e) ▸ hY, fun h => ⟨Z, h, rfl⟩⟩
          constructor
          · rintro h ⟨Z, h1, h2⟩
            rw [← hw2] at h1
            obtain ⟨y, hy, rfl⟩ := List.mem_map.mp h1
            apply h y hy
            have hyr : TR.rp r.length (TR.Pf r) y.2 := by
              rw [hw2] at h1
              exact ff_rp (TR.mem_del.mp (List.mem_filter.mp h1).1).1
            rw [Bool.not_eq_true', decide_eq_false_iff_not, mem _ hyr]
            exact h2
          · intro h y hy q
            rw [Bool.not_eq_true', decide_eq_false_iff_not] at q
            have h1 : y.2 ∈ TR.hur (TR.RX r.length (TR.Pf r)) (TR.pt (TR.Pf r)) (TR.del (TR.FF r.length (TR.Pf r)) z.2) := by rw [← hw2]; exact List.mem_map.mpr ⟨y, hy, rfl⟩
            have hyr : TR.rp r.length (TR.Pf r) y.2 := ff_rp (TR.mem_del.mp (List.mem_filter.mp h1).1).1
            exact h ⟨y.2, h1, fun z => q ((mem _ hyr).mpr z)⟩
        have tk : ((ys.map (·.2)).take (i + 1)) = (ys.map (·.2)).take i ++ [z.2] := by
          rw [List.take_add_one, List.getElem?_map, hzi]
          rfl
        by_cases hg : TR.Great (TR.RX r.length (TR.Pf r)) (TR.pt (TR.Pf r)) (TR.FF r.length (TR.Pf r)) z.2
        · refine iteT' (by rw [decide_eq_false (fun z => key.mp z hg)]; rfl) ?_
          refine ⟨_, rfl, .inl ⟨rfl, _, sq_of hf9⟩, _, rfl, f, _, _, rfl, rfl, hf9, sz_lt (by omega), ?_⟩
          refine ⟨_, _, _, rfl, Ex.mut e39 hf, upd_same, by simp; omega, ?_⟩
          rw [tk, List.filter_append, List.length_append, List.length_append, hxl, List.filter_cons_of_pos (by simpa using hg)]
          rfl
        · refine iteF' (by rw [decide_eq_true (key.mpr hg)]; rfl) ?_
          refine ⟨_, _, xs, rfl, e39, hf9, by omega, ?_⟩
          rw [tk, List.filter_append, List.length_append, hxl, List.filter_cons_of_neg (by simpa using hg)]
          rfl
  · rintro σ H' ⟨y5, y6, xs, rfl, eH, hf', hxi, hxl⟩
    refine ⟨_, rfl, f, xs, rfl, .inl ⟨sq_of hf', fun q hq => k q xs _ ((e13.trans eH).trans (Ex.new hq)) upd_same ?_⟩⟩
    rw [hxl, List.take_of_length_le (by simp), hyc]
    rfl
end
end TW

/-! from W15 -/
set_option maxRecDepth 100000
set_option maxHeartbeats 4000000
namespace TW
open PySem PySem.Spec PyProof.Rows L2 Evl

section
variable {P : Program} {w : World} {K : PySem.W.Frag} {mg : Str → Option Value} {base : Heap}
/-! ### is_fortress, turns_to_sorted, least_turns -/
def frt (r : List Int) : Prop := TR.Fort (TR.RX r.length (TR.Pf r)) (TR.pt (TR.Pf r)) (TR.FF r.length (TR.Pf r))
theorem flt_all {α : Type} (p : α → Bool) : ∀ l : List α, (l.filter p).length = l.length ↔ ∀ x ∈ l, p x = true
  | [] => by simp
  | a :: l => by
    have ih := flt_all p l
    have hl := List.length_filter_le p l
    by_cases h : p a = true
    · rw [List.filter_cons_of_pos h, List.length_cons, List.length_cons]
      constructor
      · intro e x hx
        rcases List.mem_cons.mp hx with q | q
        · rw [q]; exact h
        · exact ih.mp (by omega) x q
      · intro e
        rw [ih.mpr fun x hx => e x (List.mem_cons_of_mem _ hx)]
    · rw [List.filter_cons_of_neg h, List.length_cons]
      constructor
      · intro e; omega
      · intro e; exact absurd (e a List.mem_cons_self) h
theorem frt_iff (r : List Int) : frt r ↔ (hG r).length % 2 = 1 ∧ (gN r).length = (hG r).length := by
  unfold frt TR.Fort gN hG
  refine and_congr Iff.rfl ?_
  rw [flt_all]
  simp only [decide_eq_true_iff]
theorem PL.len {c : Nat → List Int} {H : Hp} {v : V} {G : List Nat} (h : PL c H v G) : ∃ a xs, v = .ref a ∧ H a = some (.tup xs) ∧ xs.length = G.length := by
  obtain ⟨a, zs, h1, h2, h3, h4⟩ := h
  refine ⟨a, _, h1, h2, ?_⟩
  rw [List.length_map, ← h3, List.length_map]
theorem sc31 : FnScope ["row", "count"] ["row"] (defScope (topS 31)) := ⟨rfl, rfl, rfl, by decide +kernel, rfl, by decide +kernel, by decide +kernel⟩
open Classical in
def spFort : Sp := fun vs H Q _ => ∃ (v : V) (r : List Int), vs = [v] ∧ TI H v r ∧ TR.Sg r ∧ r.length ≤ 40 ∧ ∀ H', Ex H H' → Q (.bl (decide (frt r))) H'
open Classical in
theorem cl_fort (D : Dfn K mg "is_fortress" (topS 31)) (B : Bi mg) (C1 : Cl P w K mg base 5 "hurdles" spHur) (C2 : Cl P w K mg base 5 "great_hurdles" spGreat) : Cl P w K mg base 6 "is_fortress" spFort := by
  refine cl_of (ps := ["row"]) D sc31 (fun _ _ _ _ _ _ us hl => match us, hl with | [_], _ => rfl) (fun vs H Q E h => by obtain ⟨v, r, rfl, _⟩ := h; rfl) fun f0 cdv A outer s0 H vs Q E hr h => ?_
  obtain ⟨v, r, rfl, hv, sr, hz, k⟩ := h
  refine ⟨_, pss_cons (ps_set (i := 1) sc31.nd rfl (.inl rfl) (pe_callB call_len_seq (by rfl) B.b_len PySem.boot_len (pa_cons (pe_cl C1 hr (Nat.le_refl _) (by rfl) (pa_cons (pv 0) pa_nil)) pa_nil)))
    (pss_one (ps_ret (pe_and (pe_cmpR op_eq (pe_op op_mod (pv 1) pe_int) pe_int (nomark _)) (pe_one (pe_cmpR op_eq (pe_callB call_len_seq (by rfl) B.b_len PySem.boot_len (pa_cons (pe_cl C2 hr (Nat.le_refl _) (by rfl) (pa_cons (pv 0) pa_nil)) pa_nil)) (pv 1) (nomark _)))))), ?_⟩
  refine ⟨_, rfl, v, r, rfl, hv, sr, hz, fun u H1 e1 hu => ?_⟩
  obtain ⟨a, xs, rfl, ha, hxl⟩ := hu.len
  refine ⟨a, xs, rfl, .inr (st_of ha), ?_⟩
  refine ⟨_, rfl, _, _, rfl, rfl, (by show (0 : Int) < 2; decide), rfl, _, rfl, ?_⟩
  rw [dI]
  refine ite2 (fun h => ?_) (fun h => ?_)
  · have h := of_decide_eq_true h
    refine ⟨_, rfl, v, r, rfl, hv.ex e1, sr, hz, fun b ys H2 e2 hb hyl => ?_⟩
    refine ⟨b, ys, rfl, .inr (st_of hb), _, rfl, rfl, ?_⟩
    rw [dI]
    have kk := k H2 (e1.trans e2)
    have : decide (frt r) = decide ((ys.length : Int) = (xs.length : Int)) := by
      rw [decide_eq_decide, frt_iff, hyl, hxl]
      rw [hxl] at h
      omega
    rw [this] at kk
    exact kk
  · have h : ¬ _ := fun q => h (decide_eq_true q)
    have kk := k H1 e1
    have : decide (frt r) = false := decide_eq_false fun q => h (by have := ((frt_iff r).mp q).1; rw [hxl]; omega)
    rw [this] at kk
    exact kk
theorem sc34 : FnScope ["row"] ["row"] (defScope (topS 34)) := ⟨rfl, rfl, rfl, by decide +kernel, rfl, by decide +kernel, by decide +kernel⟩
def spTurns : Sp := fun vs H Q _ => ∃ (v : V) (r : List Int), vs = [v] ∧ TI H v r ∧ TR.Sg r ∧ r.length ≤ 40 ∧ ∀ H', Ex H H' → Q (.int ((TR.dR r : Nat) : Int)) H'
open Classical in
theorem cl_turns (D : Dfn K mg "turns_to_sorted" (topS 34)) (B : Bi mg) (C1 : Cl P w K mg base 5 "drawing_rings" spRings) (C2 : Cl P w K mg base 5 "hurdles" spHur) (C3 : Cl P w K mg base 6 "is_fortress" spFort) : Cl P w K mg base 7 "turns_to_sorted" spTurns := by
  refine cl_of (ps := ["row"]) D sc34 (fun _ _ _ _ _ _ us hl => match us, hl with | [_], _ => rfl) (fun vs H Q E h => by obtain ⟨v, r, rfl, _⟩ := h; rfl) fun f0 cdv A outer s0 H vs Q E hr h => ?_
  obtain ⟨v, r, rfl, hv, sr, hz, k⟩ := h
  refine ⟨_, pss_one (ps_ret (pe_op op_add (pe_op op_add (pe_op op_sub (pe_op op_add (pe_callB call_len_seq (by rfl) B.b_len PySem.boot_len (pa_cons (pv 0) pa_nil)) pe_int)
      (pe_callB call_len_seq (by rfl) B.b_len PySem.boot_len (pa_cons (pe_cl C1 hr (by decide) (by rfl) (pa_cons (pv 0) pa_nil)) pa_nil)))
      (pe_callB call_len_seq (by rfl) B.b_len PySem.boot_len (pa_cons (pe_cl C2 hr (by decide) (by rfl) (pa_cons (pv 0) pa_nil)) pa_nil)))
      (pe_callTy call_int1 (by rfl) B.b_int (by decide +kernel) (pa_cons (pe_cl C3 hr (by decide) (by rfl) (pa_cons (pv 0) pa_nil)) pa_nil)))), ?_⟩
  have W := TR.dr_row sr
  have rl := TR.rings_le W
  obtain ⟨a, rfl, ha⟩ := hv
  refine ⟨_, rfl, a, _, rfl, .inr (st_of ha), _, _, rfl, rfl, ?_⟩
  refine ⟨_, rfl, .ref a, r, rfl, ⟨a, rfl, ha⟩, sr, hz, fun b xs H1 e1 hb hxl => ?_⟩
  refine ⟨b, xs, rfl, .inr (st_of hb), _, _, rfl, rfl, ?_⟩
  refine ⟨_, rfl, .ref a, r, rfl, ⟨a, rfl, e1 a _ ha⟩, sr, hz, fun u H2 e2 hu => ?_⟩
  obtain ⟨c, ys, rfl, hc, hyl⟩ := hu.len
  refine ⟨c, ys, rfl, .inr (st_of hc), _, _, rfl, rfl, ?_⟩
  refine ⟨_, rfl, .ref a, r, rfl, ⟨a, rfl, (e1.trans e2) a _ ha⟩, sr, hz, fun H3 e3 => ?_⟩
  refine .inr ⟨_, rfl, _, _, rfl, rfl, ?_⟩
  have kk := k H3 ((e1.trans e2).trans e3)
  have : ((TR.dR r : Nat) : Int) = (((r.map V.int).length : Nat) : Int) + 1 - ((xs.length : Nat) : Int) + ((ys.length : Nat) : Int) + (if decide (frt r) = true then 1 else 0) := by
    unfold TR.dR TR.scP TR.sc
    rw [List.length_map, hxl, hyl]
    unfold hG frt
    by_cases hf : TR.Fort (TR.RX r.length (TR.Pf r)) (TR.pt (TR.Pf r)) (TR.FF r.length (TR.Pf r))
    · rw [if_pos hf, if_pos (decide_eq_true hf)]; omega
    · rw [if_neg hf, if_neg (fun z => hf (of_decide_eq_true z))]; omega
  rw [this] at kk
  exact kk
theorem sc35 : FnScope ["first", "second"] ["first", "second"] (defScope (topS 35)) := ⟨rfl, rfl, rfl, by decide +kernel, rfl, by decide +kernel, by decide +kernel⟩
def spLeast : Sp := fun vs H Q _ => ∃ (u v : V) (f s : List Int), vs = [u, v] ∧ TI H u f ∧ TI H v s ∧ TR.Sg f ∧ TR.Sg s ∧ f.length = s.length ∧ s.length ≤ 40 ∧ ∀ H', Ex H H' → Q (.int ((TR.dR (TR.rel f s) : Nat) : Int)) H'
theorem cl_least (D : Dfn K mg "least_turns" (topS 35)) (B : Bi mg) (C1 : Cl P w K mg base 7 "turns_to_sorted" spTurns) (C2 : Cl P w K mg base 2 "relative_signed" spRel) : Cl P w K mg base 8 "least_turns" spLeast := by
  refine cl_of (ps := ["first", "second"]) D sc35 (fun _ _ _ _ _ _ us hl => match us, hl with | [_, _], _ => rfl) (fun vs H Q E h => by obtain ⟨u, v, f, s, rfl, _⟩ := h; rfl) fun f0 cdv A outer s0 H vs Q E hr h => ?_
  obtain ⟨u, v, f, s, rfl, hu, hv, sf, ss, hl, hz, k⟩ := h
  refine ⟨_, pss_one (ps_ret (pe_cl C1 hr (by decide) (by rfl) (pa_cons (pe_cl C2 hr (by decide) (by rfl) (pa_cons (pv 0) (pa_cons (pv 1) pa_nil))) pa_nil))), ?_⟩
  refine ⟨_, rfl, _, rfl, u, v, f, s, rfl, hu, hv, sf, ss, hl, hz, fun x H1 e1 hx => ?_⟩
  exact ⟨x, _, rfl, hx, TR.sg_rel sf ss hl, by rw [TR.rel_len]; omega, fun H2 e2 => k H2 (e1.trans e2)⟩

/-! ### better_turn -/
theorem sc36 : FnScope ["row", "most", "i", "j"] ["row", "most"] (defScope (topS 36)) := ⟨rfl, rfl, rfl, by decide +kernel, rfl, by decide +kernel, by decide +kernel⟩
def spBetter : Sp := fun vs H Q _ => ∃ (v : V) (r : List Int) (m : Nat), vs = [v, .int (m : Int)] ∧ TI H v r ∧ TR.Sg r ∧ r.length ≤ 40 ∧ (∃ i j, i ≤ j ∧ j < r.length ∧ TR.dR (TR.tnr r i j) ≤ m) ∧
  ∀ (t : Addr) (i j : Nat) H', Ex H H' → H' t = some (.tup [.int (i : Int), .int (j : Int)]) → i ≤ j → j < r.length → TR.dR (TR.tnr r i j) ≤ m → Q (.ref t) H'
theorem cl_better (D : Dfn K mg "better_turn" (topS 36)) (B : Bi mg) (C1 : Cl P w K mg base 7 "turns_to_sorted" spTurns) (C2 : Cl P w K mg base 1 "turned" spTurned) : Cl P w K mg base 8 "better_turn" spBetter := by
  refine cl_of (ps := ["row", "most"]) D sc36 (fun _ _ _ _ _ _ us hl => match us, hl with | [_, _], _ => rfl) (fun vs H Q E h => by obtain ⟨v, r, m, rfl, _⟩ := h; rfl) fun f0 cdv A outer s0 H vs Q E hr h => ?_
  obtain ⟨v, r, m, rfl, hv, sr, hz, ⟨i0, j0, g1, g2, g3⟩, k⟩ := h
  refine ⟨_, pss_cons (ps_for PassesOwn.never rfl (pi_range1 (by rfl) B.b_range (pa_cons (pe_callB call_len_seq (by rfl) B.b_len PySem.boot_len (pa_cons (pv 0) pa_nil)) pa_nil)) (pg_name (i := 2) sc36.nd rfl (.inl rfl))
      (pss_one (ps_for PassesOwn.never rfl (pi_range2 (by rfl) B.b_range (pa_cons (pv 2) (pa_cons (pe_callB call_len_seq (by rfl) B.b_len PySem.boot_len (pa_cons (pv 0) pa_nil)) pa_nil))) (pg_name (i := 3) sc36.nd rfl (.inl rfl))
        (pss_one (ps_if (pt_cmpR op_le (pe_cl C1 hr (by decide) (by rfl) (pa_cons (pe_cl C2 hr (by decide) (by rfl) (pa_cons (pv 0) (pa_cons (pv 2) (pa_cons (pv 3) pa_nil)))) pa_nil)) (pv 1) (nomark _))
          (pss_one (ps_ret (pe_tup (pa_cons (pv 2) (pa_cons (pv 3) pa_nil))))) pss_nil)))))
    (pss_one ps_never), ?_⟩
  have hv' := hv
  obtain ⟨a, rfl, ha⟩ := hv
  refine ⟨_, rfl, a, _, rfl, .inr (st_of ha), _, rfl, by rw [List.length_map]; omega, by rw [List.length_map]; omega, for_range (lo := 0) (n := (((r.map V.int).length : Nat) : Int).toNat)
    (fun i σ H' => ∃ (y2 y3 : Option V), σ = [some (.ref a), some (.int (m : Int)), y2, y3] ∧ Ex H H' ∧ ∀ i' j, i' < i → i' ≤ j → j < r.length → ¬ TR.dR (TR.tnr r i' j) ≤ m)
    ⟨none, none, rfl, Ex.refl H, fun i' j h => absurd h (Nat.not_lt_zero _)⟩ ?_ ?_⟩
  · rintro i σ H' hi ⟨y2, y3, rfl, eH, hno⟩
    have hi' : i < r.length := by rw [List.length_map] at hi; omega
    rw [show (0 : Int) + (i : Int) = (i : Int) by omega]
    refine ⟨_, rfl, _, rfl, a, _, rfl, .inr (st_of (eH a _ ha)), (i : Int), (((r.map V.int).length : Nat) : Int), rfl, by rw [List.length_map]; omega, for_range (lo := (i : Int)) (n := ((((r.map V.int).length : Nat) : Int) - (i : Int)).toNat)
      (fun j σ H' => ∃ (y3 : Option V), σ = [some (.ref a), some (.int (m : Int)), some (.int (i : Int)), y3] ∧ Ex H H' ∧ ∀ j', i ≤ j' → j' < i + j → ¬ TR.dR (TR.tnr r i j') ≤ m)
      ⟨y3, rfl, eH, fun j' h1 h2 => by omega⟩ ?_ ?_⟩
    · rintro j σ H2 hj ⟨y3, rfl, e2, hno2⟩
      have hj' : i + j < r.length := by rw [List.length_map] at hj; omega
      rw [show (i : Int) + (j : Int) = ((i + j : Nat) : Int) by omega]
      refine ⟨_, rfl, _, rfl, _, rfl, .ref a, r, i, i + j, rfl, hv'.ex e2, by omega, by omega, hj', fun x H3 e3 hx => ?_⟩
      refine ⟨x, _, rfl, hx, TR.sg_tnr sr (by omega), by rw [TR.tnr_len (by omega)]; exact hz, fun H4 e4 => ?_⟩
      refine ⟨_, rfl, _, _, rfl, rfl, _, rfl, ite2 (fun h => ?_) (fun h => ?_)⟩
      · have h : ((TR.dR (TR.tnr r i (i + j)) : Nat) : Int) ≤ (m : Int) := of_decide_eq_true h
        refine ⟨_, rfl, _, rfl, by show 2 ≤ sizeLine; decide, fun t ht => ?_⟩
        exact k t i (i + j) _ (((e2.trans e3).trans e4).trans (Ex.new ht)) upd_same (by omega) hj' (by omega)
      · have h : ¬ ((TR.dR (TR.tnr r i (i + j)) : Nat) : Int) ≤ (m : Int) := fun q => h (decide_eq_true q)
        refine ⟨_, rfl, (e2.trans e3).trans e4, fun j' h1 h2 => ?_⟩
        by_cases e : j' = i + j
        · rw [e]; omega
        · exact hno2 j' h1 (by omega)
    · rintro σ H2 ⟨y3, rfl, e2, hno2⟩
      refine ⟨_, _, rfl, e2, fun i' j h1 h2 h3 => ?_⟩
      by_cases e : i' = i
      · subst e
        rw [List.length_map] at hno2
        exact hno2 j h2 (by omega)
      · exact hno i' j (by omega) h2 h3
  · rintro σ H' ⟨y2, y3, rfl, eH, hno⟩
    rw [List.length_map] at hno
    exact absurd g3 (hno i0 j0 (by omega) g1 g2)
end
end TW

/-! from W16 -/
set_option maxRecDepth 100000
set_option maxHeartbeats 4000000
namespace TW
open PySem PySem.Spec PyProof.Rows L2 Evl

section
variable {K : PySem.W.Frag} {σ : L2.St} {H : Hp} {α : Type}
/-- [tuple, for each of a tuple]: new tuples -/
theorem y_lcN {tl : TE} {g : TG} {te : TE} {vs : List Nat} (G : α → V) (c : α → List V) (Ψ : List α → Hp → Prop) (hl : Yl tl σ H fun v H1 => ∃ a l, v = .ref a ∧ SqT K H1 a (l.map G) ∧ l.length ≤ 40000 ∧ Ψ l H1)
    (hs : ∀ l H1, Ex H H1 → Ψ l H1 → ∀ x, x ∈ l → ∀ H', Ex H1 H' → ∀ R : L2.St → Hp → Prop, (∀ σ2 H2, wipe σ2 vs = wipe σ vs → Ex H' H2 → EvU te σ2 H2 (c x) → R σ2 H2) → g (G x) (wipe σ vs) H' R) :
    Yl (tLc (iTup K tl) g tYes te vs) σ H fun v H2 => ∃ (D : Addr) (ws : List (Addr × α)) (H1 : Hp), Ex H H1 ∧ Ex H1 H2 ∧ Ψ (ws.map (·.2)) H1 ∧ v = .ref D ∧ H2 D = some (.lst (ws.map fun w => V.ref w.1)) ∧ ∀ w ∈ ws, H2 w.1 = some (.tup (c w.2)) := fun R k => hl _ fun v H1 e1 ⟨a, l, ev, ha, hz, ψ⟩ => by
  subst ev
  refine ⟨a, rfl, ⟨_, ha⟩, fun D hD => lc_tup (xs := l.map G) (fun i H' => Ex H1 H' ∧ ∃ ws : List (Addr × α), ws.map (·.2) = l.take i ∧ H' D = some (.lst (ws.map fun w => V.ref w.1)) ∧ ∀ w ∈ ws, H' w.1 = some (.tup (c w.2)))
    ⟨Ex.new hD, [], rfl, upd_same, by intro w hw; cases hw⟩ (fun i H' _ q => ex_t q.1 ha) (fun i x H' hi q => ?_) fun H' q => ?_⟩
  · rw [List.getElem?_map] at hi
    obtain ⟨y, hy, rfl⟩ := Option.map_eq_some_iff.mp hi
    obtain ⟨eH, ws, w1, w2, w3⟩ := q
    have hwl : ws.length ≤ l.length := by
      have := congrArg List.length w1
      rw [List.length_map, List.length_take] at this
      omega
    refine hs l H1 e1 ψ y (List.mem_of_getElem? hy) H' eH _ fun σ2 H2 hw e2 hu => ⟨hw, ?_⟩
    unfold tYes
    dsimp only
    rw [if_pos rfl]
    refine hu H2 (Ex.refl _) _ fun p H3 hp e3 hp3 => ?_
    have hD3 := e3 D _ (e2 D _ w2)
    refine ⟨_, hD3, sz_lt (by rw [List.length_map]; omega), Ex.mut ((eH.trans e2).trans e3) hD, ws ++ [(p, y)], ?_, ?_, fun w hw' => ?_⟩
    · rw [List.map_append, w1, List.take_add_one, hy]
      rfl
    · rw [upd_same, List.map_append]
      rfl
    · rcases List.mem_append.mp hw' with h | h
      · have := e3 _ _ (e2 _ _ (w3 w h))
        rw [upd_ne (ne_of this hD3 (fun z => nomatch z))]
        exact this
      · rw [List.mem_singleton.mp h]
        rw [upd_ne (ne_of hp3 hD3 (fun z => nomatch z))]
        exact hp3
  · obtain ⟨eH, ws, w1, w2, w3⟩ := q
    rw [List.length_map, List.take_length] at w1
    exact k _ _ (e1.trans eH) ⟨D, ws, H1, e1, eH, by rw [w1]; exact ψ, rfl, w2, w3⟩
theorem inV_int (k : Int) (l : List Int) : inV (.int k) (l.map V.int) = decide (k ∈ l) := by
  unfold inV
  rw [List.any_map]
  induction l with
  | nil => simp
  | cons a t ih =>
    rw [List.any_cons, ih]
    have e : ((fun y => eqV y (.int k)) ∘ V.int) a = decide (k = a) := by
      show (a == k) = decide (k = a)
      rw [Bool.beq_eq_decide_eq, decide_eq_decide]
      exact eq_comm
    rw [e, ← Bool.decide_or, decide_eq_decide, List.mem_cons]
end

section
variable {P : Program} {w : World} {K : PySem.W.Frag} {mg : Str → Option Value} {base : Heap}
theorem dR_le (r : List Int) : TR.dR r ≤ 2 * r.length + 3 := by
  have h1 : (TR.FF r.length (TR.Pf r)).length ≤ r.length + 1 := TR.lst_len _ _
  have h2 : (TR.hur (TR.RX r.length (TR.Pf r)) (TR.pt (TR.Pf r)) (TR.FF r.length (TR.Pf r))).length ≤ (TR.FF r.length (TR.Pf r)).length := List.length_filter_le _ _
  unfold TR.dR TR.scP TR.sc
  split <;> omega
/-! ### turn_script -/
abbrev Mv := Addr × Nat × Nat
def mvT (d : Int) (m : Nat × Nat) : List V := [.str "turn", .int ((m.1 : Int) + d), .int ((m.2 : Int) + d)]
theorem sc37 : FnScope ["first", "second", "row", "left", "moves", "i", "j"] ["first", "second"] (defScope (topS 37)) := ⟨rfl, rfl, rfl, by decide +kernel, rfl, by decide +kernel, by decide +kernel⟩
def spScript : Sp := fun vs H Q _ => ∃ (u v : V) (f s : List Int), vs = [u, v] ∧ TI H u f ∧ TI H v s ∧ TR.Sg f ∧ TR.Sg s ∧ f.length = s.length ∧ s.length ≤ 12 ∧
  ∀ (a : Addr) (qs : List Mv) H', Ex H H' → H' a = some (.tup (qs.map fun q => V.ref q.1)) → (∀ q ∈ qs, H' q.1 = some (.tup (mvT 0 q.2)) ∧ q.2.1 ≤ q.2.2 ∧ q.2.2 < s.length) → TR.play (TR.rel f s) (qs.map (·.2)) = TR.srt s.length → qs.length = TR.dR (TR.rel f s) → Q (.ref a) H'
theorem cl_script (D : Dfn K mg "turn_script" (topS 37)) (B : Bi mg) (C1 : Cl P w K mg base 2 "relative_signed" spRel) (C2 : Cl P w K mg base 7 "turns_to_sorted" spTurns) (C3 : Cl P w K mg base 1 "sorted_row" (spSorted K)) (C4 : Cl P w K mg base 8 "better_turn" spBetter) (C5 : Cl P w K mg base 1 "turned" spTurned) :
    Cl P w K mg base 9 "turn_script" spScript := by
  refine cl_of (ps := ["first", "second"]) D sc37 (fun _ _ _ _ _ _ us hl => match us, hl with | [_, _], _ => rfl) (fun vs H Q E h => by obtain ⟨u, v, f, s, rfl, _⟩ := h; rfl) fun f0 cdv A outer s0 H vs Q E hr h => ?_
  obtain ⟨u, v, f, s, rfl, hu, hv, sf, ss, hl, hz, k⟩ := h
  obtain ⟨t12, c12⟩ := B.c12
  refine ⟨_, pss_cons (ps_set (i := 2) sc37.nd rfl (.inl rfl) (pe_cl C1 hr (by decide) (by rfl) (pa_cons (pv 0) (pa_cons (pv 1) pa_nil))))
    (pss_cons (ps_if (pt_cmpR op_gt (pe_callB call_len_seq (by rfl) B.b_len PySem.boot_len (pa_cons (pv 2) pa_nil)) (pe_glob (v := .int 12) rfl c12 ⟨_, rfl⟩) (nomark _)) (pss_one ps_never) pss_nil)
    (pss_cons (ps_set (i := 3) sc37.nd rfl (.inl rfl) (pe_cl C2 hr (by decide) (by rfl) (pa_cons (pv 2) pa_nil)))
    (pss_cons (ps_set (i := 4) sc37.nd rfl (.inl rfl) (pe_lst pa_nil))
    (pss_cons (ps_while PassesOwn.never (pt_cmpR (op_neD hr.units) (pv 2) (pe_cl C3 hr (by decide) (by rfl) (pa_cons (pe_callB call_len_seq (by rfl) B.b_len PySem.boot_len (pa_cons (pv 2) pa_nil)) pa_nil)) (nomark _))
      (pss_cons (ps_aug (i := 3) sc37.nd rfl (.inl rfl) pe_int ip_sub)
      (pss_cons (ps_asg (pe_cl C4 hr (by decide) (by rfl) (pa_cons (pv 2) (pa_cons (pv 3) pa_nil))) (pg_tup rfl (pgs_cons (pg_name (i := 5) sc37.nd rfl (.inl rfl)) (pgs_cons (pg_name (i := 6) sc37.nd rfl (.inl rfl)) pgs_nil))))
      (pss_cons (ps_set (i := 2) sc37.nd rfl (.inl rfl) (pe_cl C5 hr (by decide) (by rfl) (pa_cons (pv 2) (pa_cons (pv 5) (pa_cons (pv 6) pa_nil)))))
      (pss_one (ps_expr (pe_bm PySem.F.plainAttrs_list PySem.F.slot_list_append PySem.F.type_list_append mt_append (pv 4) (pa_cons (pe_tup (pa_cons pe_str (pa_cons (pv 5) (pa_cons (pv 6) pa_nil)))) pa_nil))))))))
    (pss_one (ps_ret (pe_callTy call_tuple_of (by rfl) B.b_tuple (by decide +kernel) (pa_cons (pv 4) pa_nil)))))))), ?_⟩
  have rl := TR.rel_len f s
  have sr := TR.sg_rel sf ss hl
  refine ⟨_, rfl, _, rfl, u, v, f, s, rfl, hu, hv, sf, ss, hl, by omega, fun vr H1 e1 hvr => ?_⟩
  generalize TR.rel f s = r0 at *
  have hvr' := hvr
  obtain ⟨a, rfl, ha⟩ := hvr
  refine ⟨_, rfl, a, _, rfl, .inr (st_of ha), _, _, rfl, rfl, _, rfl, ?_⟩
  refine iteF' (decide_eq_false (by rw [List.length_map]; omega)) ?_
  refine ⟨_, rfl, .ref a, r0, rfl, hvr', sr, by omega, fun H2 e2 => ?_⟩
  refine ⟨by show 0 ≤ sizeLine; decide, fun l hl' => ?_⟩
  have e3 := Ex.new (o := .lst []) hl'
  have hl3 : (upd H2 l (.lst [])) l = some (.lst []) := upd_same
  generalize upd H2 l (.lst []) = H3 at e3 hl3 ⊢
  refine ⟨fun m σ H' => ∃ (vr : V) (r : List Int) (qs : List Mv) (y5 y6 : Option V), σ = [some u, some v, some vr, some (.int ((TR.dR r : Nat) : Int)), some (.ref l), y5, y6] ∧ Ex H2 H' ∧ TI H' vr r ∧ TR.Sg r ∧ r.length = s.length ∧ H' l = some (.lst (qs.map fun q => V.ref q.1)) ∧
      (∀ q ∈ qs, H' q.1 = some (.tup (mvT 0 q.2)) ∧ q.2.1 ≤ q.2.2 ∧ q.2.2 < s.length) ∧ r = TR.play r0 (qs.map (·.2)) ∧ qs.length + TR.dR r = TR.dR r0 ∧ m = TR.dR r ∧ TR.dR r0 ≤ 1000,
    ⟨_, .ref a, r0, [], none, none, rfl, e3, hvr'.ex (e2.trans e3), sr, by omega, hl3, (by intro q hq; cases hq), rfl, by simp, rfl, ?_⟩, ?_⟩
  · have := dR_le r0
    omega
  · rintro m σ H' ⟨vr, r, qs, y5, y6, rfl, eH, hvr, sr', hrl, hL, hqs, hpl, hcnt, rfl, hb⟩
    have hvr' := hvr
    obtain ⟨b, rfl, hb'⟩ := hvr
    refine ⟨_, rfl, _, rfl, b, _, rfl, .inr (st_of hb'), ((r.map V.int).length), rfl, by rw [List.length_map]; omega, fun vs H4 e4 hvs => ?_⟩
    rw [List.length_map] at hvs
    refine neT (hvr'.ex e4) hvs ⟨_, rfl, ?_⟩
    have hL4 := e4 l _ hL
    by_cases hend : r = TR.srt r.length
    · rw [decide_eq_true hend]
      refine iteF' rfl ?_
      refine ⟨_, rfl, l, _, rfl, .inl ⟨sq_of hL4, fun q hq => ?_⟩⟩
      have h0 : TR.dR r = 0 := by rw [hend, TR.dR_srt]
      refine k q qs _ ((((e1.trans e2).trans eH).trans e4).trans (Ex.new hq)) upd_same (fun m hm => ⟨(Ex.new hq) _ _ (e4 _ _ (hqs m hm).1), (hqs m hm).2⟩) ?_ (by omega)
      rw [← hpl, ← hrl]
      exact hend
    · rw [decide_eq_false hend]
      refine iteT' rfl ⟨_, fun _ _ q => q, ?_⟩
      obtain ⟨i0, j0, g1, g2, g3⟩ := TR.dR_best sr' hend
      refine ⟨_, rfl, _, _, rfl, rfl, ?_⟩
      have ed : ((TR.dR r : Nat) : Int) - 1 = ((TR.dR r - 1 : Nat) : Int) := by omega
      dsimp only [List.set]
      rw [ed]
      refine ⟨_, rfl, _, rfl, .ref b, r, TR.dR r - 1, rfl, hvr'.ex e4, sr', by omega, ⟨i0, j0, g1, g2, by omega⟩, fun t i j H5 e5 ht hij hj hd => ?_⟩
      have low := TR.dR_tnr sr' (i := i) (j := j) (by omega)
      refine ⟨t, _, rfl, st_of ht, rfl, _, _, rfl, _, _, rfl, rfl, ?_⟩
      refine ⟨_, rfl, _, rfl, _, rfl, .ref b, r, i, j, rfl, hvr'.ex (e4.trans e5), by omega, hij, hj, fun x H6 e6 hx => ?_⟩
      have hL6 := e6 l _ (e5 l _ hL4)
      refine ⟨_, rfl, .inl ⟨rfl, _, sq_of hL6⟩, _, rfl, _, rfl, by show 3 ≤ sizeLine; decide, fun p hp => ?_⟩
      have lp : l ≠ p := ne_of_none hL6 hp
      have e26 := ((eH.trans e4).trans e5).trans e6
      have e27 := e26.trans (Ex.new (o := .tup [.str "turn", .int (i : Int), .int (j : Int)]) hp)
      have hL7 := (upd_ne lp (o := .tup [.str "turn", .int (i : Int), .int (j : Int)])).trans hL6
      refine ⟨l, _, _, rfl, rfl, hL7, sz_lt (by rw [List.length_map]; omega), ?_⟩
      have ed2 : TR.dR r - 1 = TR.dR (TR.tnr r i j) := by omega
      rw [ed2]
      obtain ⟨c, rfl, hc⟩ := hx
      have hc7 := (Ex.new (o := .tup [.str "turn", .int (i : Int), .int (j : Int)]) hp) c _ hc
      refine ⟨TR.dR (TR.tnr r i j), by omega, .ref c, TR.tnr r i j, qs ++ [((p, i, j) : Mv)], _, _, rfl, Ex.mut e27 hl', ⟨c, rfl, ?_⟩, TR.sg_tnr sr' (by omega), by rw [TR.tnr_len (by omega)]; exact hrl, ?_, fun q hq => ?_, ?_, ?_, rfl, hb⟩
      · rw [upd_ne (ne_of hc7 hL7 (fun z => nomatch z))]
        exact hc7
      · rw [upd_same, List.map_append]
        rfl
      · rcases List.mem_append.mp hq with h | h
        · have h1 := (Ex.new (o := .tup [.str "turn", .int (i : Int), .int (j : Int)]) hp) _ _ (e6 _ _ (e5 _ _ (e4 _ _ (hqs q h).1)))
          refine ⟨?_, (hqs q h).2⟩
          rw [upd_ne (ne_of h1 hL7 (fun z => nomatch z))]
          exact h1
        · rw [List.mem_singleton.mp h]
          refine ⟨?_, hij, (show j < s.length by omega)⟩
          show (upd _ _ _) p = _
          rw [upd_ne lp.symm, upd_same]
          show some (HO.tup [V.str "turn", V.int (i : Int), V.int (j : Int)]) = some (HO.tup [V.str "turn", V.int ((i : Int) + 0), V.int ((j : Int) + 0)])
          rw [Int.add_zero, Int.add_zero]
      · rw [List.map_append]
        unfold TR.play at hpl ⊢
        rw [List.foldl_append, ← hpl]
        rfl
      · rw [List.length_append]
        simp only [List.length_cons, List.length_nil]
        omega
end
end TW

/-! from W17 -/
set_option maxRecDepth 100000
set_option maxHeartbeats 4000000
namespace TW
open PySem PySem.Spec PyProof.Rows L2 Evl

/-! ### tuples of which the very object is known -/
/-- a tuple of ints, its object without a dict -/
def TF (H : Hp) (v : V) (r : List Int) : Prop := ∃ a o, v = .ref a ∧ H a = some (.frz o (.tup (r.map V.int))) ∧ o.cls = .type "tuple" ∧ o.dict = none
def TS (K : PySem.W.Frag) (H : Hp) (v : V) (r : List Int) : Prop := ∃ a, v = .ref a ∧ SqT K H a (r.map V.int)
theorem TF.ex {H H' : Hp} {v : V} {r : List Int} (h : TF H v r) (e : Ex H H') : TF H' v r := by
  obtain ⟨a, o, h1, h2, h3⟩ := h
  exact ⟨a, o, h1, e a _ h2, h3⟩
theorem TF.ts {K : PySem.W.Frag} {H : Hp} {v : V} {r : List Int} (h : TF H v r) : TS K H v r := by
  obtain ⟨a, o, h1, h2, h3⟩ := h
  exact ⟨a, h1, .inl (.inr ⟨o, h2⟩)⟩
theorem TI.ts {K : PySem.W.Frag} {H : Hp} {v : V} {r : List Int} (h : TI H v r) : TS K H v r := by
  obtain ⟨a, h1, h2⟩ := h
  exact ⟨a, h1, st_of h2⟩
theorem TS.ex {K : PySem.W.Frag} {H H' : Hp} {v : V} {r : List Int} (h : TS K H v r) (e : Ex H H') : TS K H' v r := by
  obtain ⟨a, h1, h2⟩ := h
  exact ⟨a, h1, ex_t e h2⟩
section
variable {X : Cx}
/-- tuple(l), l a list: the object is known -/
def rTupF (K : PySem.W.Frag) : List V → Hp → VK → Prop := fun xs H Q => ∃ p ys, xs = [.ref p] ∧ SqL K H p ys ∧ ∀ l o, H l = none → o.cls = .type "tuple" → o.dict = none → Q (.ref l) (upd H l (.frz o (.tup ys)))
theorem call_tupF : CallR X (.type "tuple") (rTupF X.K) := by
  intro pins s σ H xs us Q I r h
  obtain ⟨p, ys, rfl, hs, q⟩ := h
  obtain ⟨u, rfl, ru⟩ := vals1 r
  cases ru
  obtain ⟨its, rv, hl, hz⟩ := I.list hs
  have hn := rv.length
  refine call_tuple_list hl.isList (fun h' keep => ?_) (by simp only [List.size_toArray] <;> omega)
  have J : Inv X pins σ H { s with heap := h' } := I.kept (t' := s.toks) keep
  refine ⟨.ref h'.objs.size, _, J.laid (t' := s.toks) (o := .frz { cls := .type "tuple", data := .seq its.toArray } (.tup ys)) (fun b o e => Heap.get?_push_of_some _ e) (Nat.le_refl _) ?_, rfl, q _ _ (J.hok.fresh (Nat.le_refl _)) rfl rfl⟩
  exact ⟨Heap.get?_push_size _ rfl, hz, its, rv, IsTup.new _ _⟩
/-- a method of a tuple of which the object is known -/
def tBMF (r : V → List V → Hp → VK → Prop) (to : TE) (t : TA) : TE := fun σ H Q => to σ H fun x H1 => (∃ p o u, x = .ref p ∧ H1 p = some (.frz o u) ∧ o.cls = .type "tuple" ∧ o.dict = none) ∧ t σ H1 fun xs H2 => r x xs H2 Q
theorem pe_bmF {o e : Expr} {es : List Expr} {to : TE} {t : TA} {name : Str} {apos cpos : Pos} {id : String} {r : V → List V → Hp → VK → Prop} (slot : Slot "tuple" name id) (hty : typeOf (.builtin id) = pure (.type "method_descriptor")) (hm : MtR X id r) (ho : PE X o to) (ha : PA X (e :: es) t)
    (hbase : attributeBase o name X.env (eval o X.env) = eval o X.env := by rfl)
    (hfew : ((backTo cpos (starEach (e :: es) X.env)).all (fun x => !x.1) && (backToKw cpos (keywordEach [] X.env)).all (fun x => x.1.isSome) && decide ((e :: es).length + ([] : List Keyword).length + (if ([] : List Keyword).isEmpty then 0 else 1) < 30)) = true := by rfl)
    (hline : (apos.endLine == cpos.line) = true := by rfl) (hst : starEach (e :: es) X.env = (false, eval e X.env) :: starEach es X.env := by rfl) (hpl : (backTo cpos (starEach es X.env)).any (·.1) = false := by rfl) :
    PE X (.Call (.Attribute o name apos) (e :: es) [] cpos) (tBMF r to t) := by
  refine ⟨fun pins s σ H Q I h => ?_⟩
  refine wpAny_Call_method_late hbase hfew hline rfl (thn (ho.run pins s σ H _ I h) fun v sa ⟨x, Ha, Ia, ra, ⟨p, ob, u, ex, hp, hc, hd⟩, qa⟩ => ?_)
  subst ex
  cases ra
  have hg : sa.heap.get? p = some ob := (Ia.hok p _ hp).1
  refine ⟨"tuple", id, PySem.F.plainAttrs_tuple, slot, hty, ⟨ob, hg, hc⟩, fun b eb => ?_, ?_⟩
  · cases eb
    exact ⟨ob, hg, hd⟩
  · have hA := ha.run cpos pins sa σ Ha _ Ia qa
    rw [hst] at hA ⊢
    refine Calls.callWith_builtin (by show (false || (backTo cpos (starEach es X.env)).any (·.1)) = false; rw [hpl] <;> rfl) (Calls.evalArgs_plain ?_)
    exact thn hA fun us sb ⟨vs, Hb, Ib, rb, qb⟩ => hm pins sb σ Hb (.ref p) vs (.ref p) us Q Ib rfl rb qb
end

section
variable {K : PySem.W.Frag} {σ : L2.St} {H : Hp}
theorem y_slS {te : TE} {tl th : TO} {r : List Int} {lo hi : Option Int} (h : Yl te σ H fun v H1 => TS K H1 v r) (h1 : ∀ H1, Ex H H1 → ∀ R, R lo H1 → tl σ H1 R) (h2 : ∀ H1, Ex H H1 → ∀ R, R hi H1 → th σ H1 R) {r' : List Int} (he : cutV (r.map V.int) lo hi = r'.map V.int) :
    Yl (tSl (rSlA K) te tl th) σ H fun v H1 => TS K H1 v r' := fun R k => h _ fun v H1 e1 ⟨a, ev, ha⟩ => by
  subst ev
  refine h1 H1 e1 _ (h2 H1 e1 _ ⟨a, r.map V.int, rfl, ha, fun hw => ?_, fun _ p hp => ?_⟩)
  · have e : r.map V.int = r'.map V.int := by
      rw [← he]
      unfold cutV
      rw [hw.1, hw.2, List.drop_zero, Nat.sub_zero, List.take_length]
    exact k _ _ e1 ⟨a, rfl, by rw [← e]; exact ha⟩
  · exact k _ _ (e1.trans (Ex.new hp)) ⟨p, rfl, st_of (by rw [he]; exact upd_same)⟩
theorem y_tlS {te : TE} {th : TO} {r : List Int} {tl : TO} (h : Yl te σ H fun v H1 => TS K H1 v r) (h1 : ∀ H1, Ex H H1 → ∀ R, R (some 1) H1 → tl σ H1 R) (h2 : ∀ H1, Ex H H1 → ∀ R, R none H1 → th σ H1 R) (hn : 1 ≤ r.length) :
    Yl (tSl (rSlA K) te tl th) σ H fun v H1 => TI H1 v r.tail := fun R k => h _ fun v H1 e1 ⟨a, ev, ha⟩ => by
  subst ev
  refine h1 H1 e1 _ (h2 H1 e1 _ ⟨a, r.map V.int, rfl, ha, fun hw => ?_, fun _ p hp => ?_⟩)
  · exfalso
    have h3 := hw.1
    rw [show (1 : Int) = ((1 : Nat) : Int) from rfl, HT.sIx_nat, List.length_map] at h3
    omega
  · refine k _ _ (e1.trans (Ex.new hp)) ⟨p, rfl, ?_⟩
    rw [upd_same, show (1 : Int) = ((1 : Nat) : Int) from rfl, cut_i0 V.int hn, List.drop_one]
theorem y_catS {ta tb : TE} {r r' : List Int} (ha : Yl ta σ H fun v H1 => TS K H1 v r) (hb : ∀ H1, Ex H H1 → Yl tb σ H1 fun v H2 => TS K H2 v r') (hz : r.length + r'.length ≤ 100000) :
    Yl (tOp (rCatA K) ta tb) σ H fun v H1 => TS K H1 v (r ++ r') := fun R k => ha _ fun v H1 e1 ⟨a, ev, ha⟩ => hb H1 e1 _ fun v2 H2 e2 ⟨b, ev2, hb⟩ => by
  subst ev ev2
  refine ⟨a, b, r.map V.int, r'.map V.int, rfl, rfl, ex_t e2 ha, hb, sz_of (by simp; omega), fun h0 => ?_, fun _ h0 => ?_, fun _ _ p hp => ?_⟩
  · have e : r = [] := List.map_eq_nil_iff.mp h0
    subst e
    exact k _ _ (e1.trans e2) ⟨b, rfl, hb⟩
  · have e : r' = [] := List.map_eq_nil_iff.mp h0
    subst e
    rw [List.append_nil] at k
    exact k _ _ (e1.trans e2) ⟨a, rfl, ex_t e2 ha⟩
  · exact k _ _ ((e1.trans e2).trans (Ex.new hp)) ⟨p, rfl, st_of (by rw [List.map_append]; exact upd_same)⟩
end

section
variable {P : Program} {w : World} {K : PySem.W.Frag} {mg : Str → Option Value} {base : Heap}
/-! ### opened -/
theorem opn_mem {r : List Int} (h : TR.Sg r) (h1 : 1 ≤ r.length) (hn : (r.length : Int) ∉ r) : (r.length : Int) ∈ TR.fl r := by
  obtain ⟨p, hp, q | q⟩ := TR.sg_has h (x := (r.length : Int)) (by omega) (by omega)
  · exact absurd (List.mem_of_getElem? q) hn
  · unfold TR.fl
    rw [List.mem_reverse, List.mem_map]
    exact ⟨_, List.mem_of_getElem? q, by omega⟩
theorem sc39 : FnScope ["row", "n", "told", "place", "number"] ["row"] (defScope (topS 39)) := ⟨rfl, rfl, rfl, by decide +kernel, rfl, by decide +kernel, by decide +kernel⟩
def spOpened (K : PySem.W.Frag) : Sp := fun vs H Q _ => ∃ (v : V) (r : List Int), vs = [v] ∧ TF H v r ∧ TR.Sg r ∧ 1 ≤ r.length ∧ r.length ≤ 40 ∧ ∀ u H', Ex H H' → TS K H' u (TR.opn r) → Q u H'
theorem cl_opened (D : Dfn K mg "opened" (topS 39)) (B : Bi mg) (C1 : Cl P w K mg base 1 "check_signed" (spCheck K)) : Cl P w K mg base 2 "opened" (spOpened K) := by
  refine cl_of (ps := ["row"]) D sc39 (fun _ _ _ _ _ _ us hl => match us, hl with | [_], _ => rfl) (fun vs H Q E h => by obtain ⟨v, r, rfl, _⟩ := h; rfl) fun f0 cdv A outer s0 H vs Q E hr h => ?_
  obtain ⟨v, r, rfl, hv, sr, h1, hz, k⟩ := h
  refine ⟨_, pss_cons (ps_expr (pe_cl C1 hr (by decide) (by rfl) (pa_cons (pv 0) pa_nil)))
    (pss_cons (ps_set (i := 1) sc39.nd rfl (.inl rfl) (pe_callB call_len_seq (by rfl) B.b_len PySem.boot_len (pa_cons (pv 0) pa_nil)))
    (pss_cons (ps_if (pt_cmpR op_eq (pv 1) pe_int (nomark _)) (pss_one ps_never) pss_nil)
    (pss_cons (ps_set (i := 2) sc39.nd rfl (.inl rfl) (pe_callTy call_tuple_of (by rfl) B.b_tuple (by decide +kernel) (pa_cons (pv 0) pa_nil)))
    (pss_cut (ps_if (pt_cmpR op_notIn_seq (pv 1) (pv 2) rfl) (pss_one (ps_set (i := 2) sc39.nd rfl (.inl rfl) (pe_callTy call_tupF (by rfl) B.b_tuple (by decide +kernel) (pa_cons
        (pe_lc (own := [("number", 4)]) (g := gName 4) (tt := tYes) rfl sc39.nd (pi_tup (pe_revT (pv 2))) (blkOk_by (own := [("number", 4)]) (N := ["row", "n", "told", "place", "number"]) (sc := defScope (topS 39)) (by decide +kernel))
          (fun _ _ _ _ _ => pg_name (i := 4) sc39.nd rfl (.inl rfl)) (fun _ _ _ _ _ => pts_nil) (fun _ _ _ _ _ => pe_un un_neg (pv 4))) pa_nil)))) pss_nil)
    (pss_cons (ps_set (i := 3) sc39.nd rfl (.inl rfl) (pe_bmF PySem.F.slot_tuple_index PySem.F.type_tuple_index mt_tindex (pv 2) (pa_cons (pv 1) pa_nil)))
    (pss_one (ps_ret (pe_op op_catA (pe_slice sl_tupA (pv 2) (po_some (pv 3)) po_none) (pe_slice sl_tupA (pv 2) po_none (po_some (pv 3))))))))))), ?_⟩
  have hv' := hv
  obtain ⟨a, o, rfl, ha, hoc, hod⟩ := hv
  have hS : SqT K H a (r.map V.int) := .inl (.inr ⟨o, ha⟩)
  refine ⟨_, rfl, a, r, rfl, hS, sr, hz, fun H1 e1 => ?_⟩
  have hS1 := ex_t e1 hS
  refine ⟨_, rfl, a, _, rfl, .inr hS1, ?_⟩
  rw [List.length_map]
  refine ⟨_, rfl, rfl, _, rfl, ?_⟩
  rw [dI]
  refine iteF' (decide_eq_false (by omega)) ?_
  refine ⟨_, rfl, a, _, rfl, .inr ⟨hS1, ?_⟩⟩
  dsimp only
  refine q_cut (M := fun σ H' => ∃ vt t, σ = [some (.ref a), some (.int (r.length : Int)), some vt, none, none] ∧ Ex H H' ∧ TF H' vt t ∧ t = (if (r.length : Int) ∈ r then r else TR.fl r)) ?_ ?_
  · refine ⟨_, rfl, _, rfl, a, _, rfl, .inr hS1, rfl, flat_ints _, _, rfl, ?_⟩
    show if (!inV (.int (r.length : Int)) (r.map V.int)) = true then _ else _
    rw [inV_int]
    by_cases hm : (r.length : Int) ∈ r
    · rw [decide_eq_true hm]
      refine iteF' rfl ⟨_, r, rfl, e1, hv'.ex e1, by rw [if_pos hm]⟩
    · rw [decide_eq_false hm]
      refine iteT' rfl ?_
      refine u_set (u_cb (u_cons (y_lcTx (α := Int) V.int (fun _ => true) (fun x => V.int (-x)) (fun l _ => l = r.reverse) ?_ ?_ _ fun v1 H2 e2 ⟨l, H3, DD, e3, e32, el, ev, hD⟩ => ?_)))
      · intro R kk
        refine ⟨_, rfl, a, _, rfl, hS1, fun p hp => kk _ _ (Ex.new hp) ⟨p, r.reverse, rfl, st_of (by rw [upd_same, List.map_reverse]), by rw [List.length_reverse]; omega, rfl⟩⟩
      · intro l H3 e3 _
        refine lc_name (fun _ => by rfl) (fun _ _ _ _ => et_yes) fun x _ H4 e4 _ H5 e5 Q5 q5 => ?_
        exact ⟨_, rfl, x, rfl, q5 H5 (Ex.refl _)⟩
      · subst ev el
        rw [ft_all] at hD
        refine ⟨DD, _, rfl, sq_of hD, fun p ob hp hc hd => ?_⟩
        refine ⟨.ref p, TR.fl r, rfl, (e1.trans e2).trans (Ex.new hp), ⟨p, ob, rfl, ?_, hc, hd⟩, by rw [if_neg hm]⟩
        rw [upd_same]
        unfold TR.fl
        rw [← List.map_reverse, List.map_map]
        rfl
  · rintro σ H2 ⟨vt, t, rfl, e2, hvt, ht⟩
    have hvt' := hvt
    obtain ⟨b, ob, rfl, hb, hbc, hbd⟩ := hvt
    have hmem : (r.length : Int) ∈ t := by
      rw [ht]
      split
      · assumption
      · exact opn_mem sr h1 (by assumption)
    have htl : t.length = r.length := by
      rw [ht]
      split
      · rfl
      · exact TR.fl_len r
    refine ⟨_, rfl, ⟨b, ob, _, rfl, hb, hbc, hbd⟩, _, rfl, b, t, _, rfl, rfl, .inl (.inr ⟨ob, hb⟩), hmem, ?_⟩
    have hix : t.idxOf (r.length : Int) < t.length := List.idxOf_lt_length_iff.mpr hmem
    dsimp only
    refine u_ret (y_catS (K := K) (r := t.drop (t.idxOf (r.length : Int))) (r' := t.take (t.idxOf (r.length : Int))) (y_slS (y_var rfl hvt'.ts) (fun H3 e3 R hR => ⟨_, rfl, _, rfl, hR⟩) (fun H3 e3 R hR => hR) (cut_i0 V.int (by omega)))
      (fun H3 e3 => y_slS (y_var rfl (hvt'.ex e3).ts) (fun H4 e4 R hR => hR) (fun H4 e4 R hR => ⟨_, rfl, _, rfl, hR⟩) (cut_0j V.int (by omega))) (by rw [List.length_drop, List.length_take]; omega) _ fun u H3 e3 hu => k u H3 (e2.trans e3) ?_)
    unfold TR.opn
    rw [← ht]
    exact hu

/-! ### least_closed_turns, closed_turn_script -/
theorem sc40 : FnScope ["first", "second", "one", "two"] ["first", "second"] (defScope (topS 40)) := ⟨rfl, rfl, rfl, by decide +kernel, rfl, by decide +kernel, by decide +kernel⟩
def spLc : Sp := fun vs H Q _ => ∃ (u v : V) (f s : List Int), vs = [u, v] ∧ TF H u f ∧ TF H v s ∧ TR.Sg f ∧ TR.Sg s ∧ f.length = s.length ∧ 1 ≤ s.length ∧ s.length ≤ 40 ∧
  ∀ H', Ex H H' → Q (.int ((TR.dR (TR.rel (TR.opn f).tail (TR.opn s).tail) : Nat) : Int)) H'
theorem cl_lc (D : Dfn K mg "least_closed_turns" (topS 40)) (B : Bi mg) (C1 : Cl P w K mg base 2 "opened" (spOpened K)) (C2 : Cl P w K mg base 1 "need_same_length" (spNeed K)) (C3 : Cl P w K mg base 8 "least_turns" spLeast) : Cl P w K mg base 9 "least_closed_turns" spLc := by
  refine cl_of (ps := ["first", "second"]) D sc40 (fun _ _ _ _ _ _ us hl => match us, hl with | [_, _], _ => rfl) (fun vs H Q E h => by obtain ⟨u, v, f, s, rfl, _⟩ := h; rfl) fun f0 cdv A outer s0 H vs Q E hr h => ?_
  obtain ⟨u, v, f, s, rfl, hu, hv, sf, ss, hl, hs1, hz, k⟩ := h
  refine ⟨_, pss_cons (ps_set (i := 2) sc40.nd rfl (.inl rfl) (pe_cl C1 hr (by decide) (by rfl) (pa_cons (pv 0) pa_nil)))
    (pss_cons (ps_set (i := 3) sc40.nd rfl (.inl rfl) (pe_cl C1 hr (by decide) (by rfl) (pa_cons (pv 1) pa_nil)))
    (pss_cons (ps_expr (pe_cl C2 hr (by decide) (by rfl) (pa_cons (pv 2) (pa_cons (pv 3) pa_nil))))
    (pss_one (ps_ret (pe_cl C3 hr (by decide) (by rfl) (pa_cons (pe_slice sl_tupA (pv 2) (po_some pe_int) po_none) (pa_cons (pe_slice sl_tupA (pv 3) (po_some pe_int) po_none) pa_nil))))))), ?_⟩
  obtain ⟨a, ea, la, sa⟩ := TR.opn_head sf (by omega)
  obtain ⟨b, eb, lb, sb⟩ := TR.opn_head ss hs1
  rw [ea, eb] at k
  refine ⟨_, rfl, u, f, rfl, hu, sf, by omega, by omega, fun x H1 e1 hx => ?_⟩
  refine ⟨_, rfl, v, s, rfl, hv.ex e1, ss, hs1, hz, fun y H2 e2 hy => ?_⟩
  rw [ea] at hx
  rw [eb] at hy
  have hx2 := hx.ex e2
  obtain ⟨p, rfl, hp⟩ := hx2
  have hy2 := hy
  obtain ⟨q, rfl, hq⟩ := hy
  refine ⟨_, rfl, _, rfl, p, q, _, _, rfl, hp, hq, by simp only [List.length_cons]; omega, fun _ => ?_⟩
  dsimp only
  refine u_ret (u_call (u_cons (y_tlS (y_var rfl (hx.ex e2)) (fun H3 e3 R hR => ⟨_, rfl, hR⟩) (fun H3 e3 R hR => hR) (by simp) _ fun v1 H3 e3 h3 => u_cons (y_tlS (y_var rfl (hy2.ex e3)) (fun H4 e4 R hR => ⟨_, rfl, hR⟩) (fun H4 e4 R hR => hR) (by simp) _ fun v2 H4 e4 h4 => ?_))))
  exact ⟨v1, v2, a, b, rfl, h3.ex e4, h4, sa, sb, by omega, by omega, fun H5 e5 => k H5 ((((e1.trans e2).trans e3).trans e4).trans e5)⟩
theorem sc41 : FnScope ["first", "second", "one", "two", "_", "i", "j"] ["first", "second"] (defScope (topS 41)) := ⟨rfl, rfl, rfl, by decide +kernel, rfl, by decide +kernel, by decide +kernel⟩
def spCs : Sp := fun vs H Q _ => ∃ (u v : V) (f s : List Int), vs = [u, v] ∧ TF H u f ∧ TF H v s ∧ TR.Sg f ∧ TR.Sg s ∧ f.length = s.length ∧ 1 ≤ s.length ∧ s.length ≤ 13 ∧
  ∀ (a : Addr) (qs : List Mv) H', Ex H H' → H' a = some (.tup (qs.map fun q => V.ref q.1)) → (∀ q ∈ qs, H' q.1 = some (.tup (mvT 1 q.2)) ∧ q.2.1 ≤ q.2.2 ∧ q.2.2 + 1 < s.length) →
    TR.play (TR.rel (TR.opn f).tail (TR.opn s).tail) (qs.map (·.2)) = TR.srt (s.length - 1) → qs.length = TR.dR (TR.rel (TR.opn f).tail (TR.opn s).tail) → Q (.ref a) H'
theorem cl_cs (D : Dfn K mg "closed_turn_script" (topS 41)) (B : Bi mg) (C1 : Cl P w K mg base 2 "opened" (spOpened K)) (C2 : Cl P w K mg base 1 "need_same_length" (spNeed K)) (C3 : Cl P w K mg base 9 "turn_script" spScript) : Cl P w K mg base 10 "closed_turn_script" spCs := by
  refine cl_of (ps := ["first", "second"]) D sc41 (fun _ _ _ _ _ _ us hl => match us, hl with | [_, _], _ => rfl) (fun vs H Q E h => by obtain ⟨u, v, f, s, rfl, _⟩ := h; rfl) fun f0 cdv A outer s0 H vs Q E hr h => ?_
  obtain ⟨u, v, f, s, rfl, hu, hv, sf, ss, hl, hs1, hz, k⟩ := h
  refine ⟨_, pss_cons (ps_set (i := 2) sc41.nd rfl (.inl rfl) (pe_cl C1 hr (by decide) (by rfl) (pa_cons (pv 0) pa_nil)))
    (pss_cons (ps_set (i := 3) sc41.nd rfl (.inl rfl) (pe_cl C1 hr (by decide) (by rfl) (pa_cons (pv 1) pa_nil)))
    (pss_cons (ps_expr (pe_cl C2 hr (by decide) (by rfl) (pa_cons (pv 2) (pa_cons (pv 3) pa_nil))))
    (pss_one (ps_ret (pe_callTy call_tuple_of (by rfl) B.b_tuple (by decide +kernel) (pa_cons
      (pe_lc (own := [("_", 4), ("i", 5), ("j", 6)]) (g := gTup K 3 (gCons (gName 4) (gCons (gName 5) (gCons (gName 6) gNil)))) (tt := tYes) rfl sc41.nd
        (pi_tup (pe_cl C3 hr (by decide) (by rfl) (pa_cons (pe_slice sl_tupA (pv 2) (po_some pe_int) po_none) (pa_cons (pe_slice sl_tupA (pv 3) (po_some pe_int) po_none) pa_nil))))
        (blkOk_by (own := [("_", 4), ("i", 5), ("j", 6)]) (N := ["first", "second", "one", "two", "_", "i", "j"]) (sc := defScope (topS 41)) (by decide +kernel))
        (fun _ _ _ _ _ => pg_tup rfl (pgs_cons (pg_name (i := 4) sc41.nd rfl (.inl rfl)) (pgs_cons (pg_name (i := 5) sc41.nd rfl (.inl rfl)) (pgs_cons (pg_name (i := 6) sc41.nd rfl (.inl rfl)) pgs_nil)))) (fun _ _ _ _ _ => pts_nil)
        (fun _ _ _ _ _ => pe_tup (pa_cons pe_str (pa_cons (pe_op op_add (pv 5) pe_int) (pa_cons (pe_op op_add (pv 6) pe_int) pa_nil))))) pa_nil)))))), ?_⟩
  obtain ⟨a, ea, la, sa⟩ := TR.opn_head sf (by omega)
  obtain ⟨b, eb, lb, sb⟩ := TR.opn_head ss hs1
  rw [ea, eb] at k
  refine ⟨_, rfl, u, f, rfl, hu, sf, by omega, by omega, fun x H1 e1 hx => ?_⟩
  refine ⟨_, rfl, v, s, rfl, hv.ex e1, ss, hs1, by omega, fun y H2 e2 hy => ?_⟩
  rw [ea] at hx
  rw [eb] at hy
  have hx2 := hx.ex e2
  obtain ⟨p, rfl, hp⟩ := hx2
  have hy2 := hy
  obtain ⟨q, rfl, hq⟩ := hy
  refine ⟨_, rfl, _, rfl, p, q, _, _, rfl, hp, hq, by simp only [List.length_cons]; omega, fun _ => ?_⟩
  dsimp only
  refine u_ret (u_cb (u_cons (y_lcN (α := Mv) (fun q => V.ref q.1) (fun q => mvT 1 q.2)
    (fun qs H3 => (∀ q ∈ qs, H3 q.1 = some (.tup (mvT 0 q.2)) ∧ q.2.1 ≤ q.2.2 ∧ q.2.2 < b.length) ∧ TR.play (TR.rel a b) (qs.map (·.2)) = TR.srt b.length ∧ qs.length = TR.dR (TR.rel a b)) ?_ ?_ _ fun v5 H5 e5 ⟨DD, ws, H3, e3, e35, ⟨w1, w2, w3⟩, ev, hD, hws⟩ => ?_)))
  · intro R kk
    refine u_call (u_cons (y_tlS (y_var rfl (hx.ex e2)) (fun H3 e3 R hR => ⟨_, rfl, hR⟩) (fun H3 e3 R hR => hR) (by simp) _ fun v1 H3 e3 h3 => u_cons (y_tlS (y_var rfl (hy2.ex e3)) (fun H4 e4 R hR => ⟨_, rfl, hR⟩) (fun H4 e4 R hR => hR) (by simp) _ fun v2 H4 e4 h4 => ?_)))
    refine ⟨v1, v2, a, b, rfl, h3.ex e4, h4, sa, sb, by omega, by omega, fun t qs H5 e5 ht hqs hpl hln => kk _ _ ((e3.trans e4).trans e5) ⟨t, qs, rfl, st_of ht, ?_, hqs, hpl, hln⟩⟩
    have := dR_le (TR.rel a b)
    rw [TR.rel_len] at this
    omega
  · intro qs H3 e3 ⟨hqs, _, _⟩ q hq H4 e4 R kk
    have hq4 := e4 _ _ (hqs q hq).1
    refine ⟨q.1, _, rfl, st_of hq4, rfl, _, _, rfl, _, _, rfl, _, _, rfl, rfl, kk _ H4 rfl (Ex.refl _) ?_⟩
    have e : ([V.str "turn", V.int ((q.2.1 : Int) + 0 + 1), V.int ((q.2.2 : Int) + 0 + 1)] : List V) = mvT 1 q.2 := by
      unfold mvT
      rw [Int.add_zero, Int.add_zero]
    rw [← e]
    exact eu_tup (ea_cons ev_c (ea_cons (ev_op (ev_var rfl) ev_int rv_I0) (ea_cons (ev_op (ev_var rfl) ev_int rv_I0) ea_nil))) (by simp)
  · subst ev
    refine ⟨DD, _, rfl, .inl ⟨sq_of hD, fun l hl' => k l (ws.map fun z => (z.1, z.2.2)) _ (((e1.trans e2).trans e5).trans (Ex.new hl')) ?_ (fun z hz' => ?_) ?_ ?_⟩⟩
    · rw [upd_same, List.map_map]
      rfl
    · obtain ⟨z0, hz0, rfl⟩ := List.mem_map.mp hz'
      have h6 := w1 z0.2 (List.mem_map.mpr ⟨z0, hz0, rfl⟩)
      exact ⟨(Ex.new hl') _ _ (hws z0 hz0), h6.2.1, by have := h6.2.2; show z0.2.2.2 + 1 < _; omega⟩
    · rw [show s.length - 1 = b.length by omega, List.map_map]
      rw [List.map_map] at w2
      exact w2
    · rw [List.length_map]
      rw [List.length_map] at w3
      exact w3
end
end TW

/-! from W18 -/
set_option maxRecDepth 100000
set_option maxHeartbeats 4000000
namespace TW
open PySem PySem.Spec PyProof.Rows L2 Evl

section
variable {P : Program} {w : World} {K : PySem.W.Frag} {mg : Str → Option Value} {base : Heap}
/-! ### _law_cell, _law_digits, _law_rich -/
theorem sc43 : FnScope ["_law_script", "_law_k"] ["_law_script", "_law_k"] (defScope (topS 43)) := ⟨rfl, rfl, rfl, by decide +kernel, rfl, by decide +kernel, by decide +kernel⟩
def spCell (K : PySem.W.Frag) : Sp := fun vs H Q _ => ∃ (a : Addr) (ns : List Int) (k : Nat), vs = [.ref a, .int (k : Int)] ∧ SqL K H a (ns.map V.int) ∧ ∀ x, Q (.int x) H
theorem cl_cell (D : Dfn K mg "_law_cell" (topS 43)) (B : Bi mg) : Cl P w K mg base 1 "_law_cell" (spCell K) := by
  refine cl_of (ps := ["_law_script", "_law_k"]) D sc43 (fun _ _ _ _ _ _ us hl => match us, hl with | [_, _], _ => rfl) (fun vs H Q E h => by obtain ⟨a, ns, k, rfl, _⟩ := h; rfl) fun f0 cdv A outer s0 H vs Q E hr h => ?_
  obtain ⟨a, ns, k, rfl, hs, q⟩ := h
  refine ⟨_, pss_cons (ps_if (pt_cmpR op_lt (pv 1) (pe_callB call_len_seq (by rfl) B.b_len PySem.boot_len (pa_cons (pv 0) pa_nil)) (nomark _)) (pss_one (ps_ret (pe_ix (r := rIxL K) ix_list (pv 0) (pv 1) (fun _ _ => rfl)))) pss_nil) (pss_one (ps_ret pe_int)), ?_⟩
  refine ⟨_, rfl, _, rfl, a, _, rfl, .inl hs, _, _, rfl, rfl, _, rfl, ite2 (fun h => ?_) (fun h => ?_)⟩
  · have h := of_decide_eq_true h
    have hk : k < (ns.map V.int).length := by omega
    obtain ⟨x, hx⟩ : ∃ x, ns[k]? = some x := ⟨_, List.getElem?_eq_getElem (by rw [List.length_map] at hk; exact hk)⟩
    exact ⟨_, rfl, _, rfl, a, _, _, .int x, rfl, rfl, hs, atI_nat (by rw [List.getElem?_map, hx]; rfl), q x⟩
  · exact q 0
theorem sc44 : FnScope ["_law_cell_here", "_law_sizes", "_law_row_here", "_law_size"] ["_law_cell_here", "_law_sizes"] (defScope (topS 44)) := ⟨rfl, rfl, rfl, by decide +kernel, rfl, by decide +kernel, by decide +kernel⟩
def spDigits : Sp := fun vs H Q _ => ∃ (c : Int) (a : Addr) (zs : List Int), vs = [.int c, .ref a] ∧ H a = some (.lst (zs.map V.int)) ∧ zs.length ≤ 100 ∧ (∀ z ∈ zs, 0 < z ∧ z < 1073741824) ∧
  ∀ D (ds : List Int) H', Ex H H' → H' D = some (.lst (ds.map V.int)) → ds.length = zs.length → (∀ (i : Nat) (d z : Int), ds[i]? = some d → zs[i]? = some z → 0 ≤ d ∧ d < z) → Q (.ref D) H'
theorem cl_digits (D : Dfn K mg "_law_digits" (topS 44)) (B : Bi mg) : Cl P w K mg base 1 "_law_digits" spDigits := by
  refine cl_of (ps := ["_law_cell_here", "_law_sizes"]) D sc44 (fun _ _ _ _ _ _ us hl => match us, hl with | [_, _], _ => rfl) (fun vs H Q E h => by obtain ⟨c, a, zs, rfl, _⟩ := h; rfl) fun f0 cdv A outer s0 H vs Q E hr h => ?_
  obtain ⟨c, a, zs, rfl, ha, hzl, hz, q⟩ := h
  refine ⟨_, pss_cons (ps_set (i := 2) sc44.nd rfl (.inl rfl) (pe_lst pa_nil))
    (pss_cons (ps_for PassesOwn.never rfl (pi_list (pv 1)) (pg_name (i := 3) sc44.nd rfl (.inl rfl))
      (pss_cons (ps_expr (pe_bm PySem.F.plainAttrs_list PySem.F.slot_list_append PySem.F.type_list_append mt_append (pv 2) (pa_cons (pe_op op_mod (pe_callTy call_int1 (by rfl) B.b_int (by decide +kernel) (pa_cons (pv 0) pa_nil)) (pv 3)) pa_nil)))
        (pss_one (ps_set (i := 0) sc44.nd rfl (.inl rfl) (pe_op op_fdiv (pv 0) (pv 3))))))
    (pss_one (ps_ret (pv 2)))), ?_⟩
  refine ⟨by show 0 ≤ sizeLine; decide, fun l hl => ?_⟩
  have e1 := Ex.new (o := .lst []) hl
  have hl1 : (upd H l (.lst [])) l = some (.lst []) := upd_same
  generalize upd H l (.lst []) = H1 at e1 hl1 ⊢
  refine ⟨_, rfl, a, rfl, ⟨_, sq_of (e1 a _ ha)⟩, for_list (K := K) (a := a) (xs := zs.map V.int)
    (fun i σ H' => ∃ (c : Int) (y3 : Option V) (ds : List Int), σ = [some (.int c), some (.ref a), some (.ref l), y3] ∧ Ex H H' ∧ H' l = some (.lst (ds.map V.int)) ∧ ds.length = i ∧ i ≤ zs.length ∧ ∀ (i : Nat) (d z : Int), ds[i]? = some d → zs[i]? = some z → 0 ≤ d ∧ d < z)
    ⟨c, none, [], rfl, e1, hl1, rfl, Nat.zero_le _, fun i d z h => by simp at h⟩ (fun i σ H' _ ⟨_, _, _, _, eH, _⟩ => sq_of (eH a _ ha)) ?_ ?_⟩
  · rintro i x σ H' hi ⟨c, y3, ds, rfl, eH, hL, hdl, hil, hds⟩
    rw [List.getElem?_map] at hi
    obtain ⟨z, hzi, rfl⟩ := Option.map_eq_some_iff.mp hi
    have hil2 := (List.getElem?_eq_some_iff.mp hzi).1
    obtain ⟨z1, z2⟩ := hz z (List.mem_of_getElem? hzi)
    refine ⟨_, rfl, .inl ⟨rfl, _, sq_of hL⟩, _, rfl, .inl ⟨_, rfl, _, rfl, _, _, rfl, rfl, z1, ?_⟩⟩
    refine ⟨l, _, _, rfl, rfl, hL, sz_lt (by rw [List.length_map]; omega), ?_⟩
    refine ⟨_, rfl, _, rfl, _, _, rfl, rfl, ⟨z1, z2⟩, _, _, ds ++ [c % z], rfl, Ex.mut eH hl, ?_, by simp [hdl], hil2, fun j d z' hj hz' => ?_⟩
    · rw [upd_same, List.map_append]
      rfl
    · by_cases hjl : j < ds.length
      · rw [List.getElem?_append_left hjl] at hj
        exact hds j d z' hj hz'
      · have hj2 := (List.getElem?_eq_some_iff.mp hj).1
        have : j = ds.length := by simp at hj2; omega
        subst this
        rw [List.getElem?_append_right (Nat.le_refl _)] at hj
        simp at hj
        rw [hdl, hzi] at hz'
        cases hz'
        rw [← hj]
        exact ⟨Int.emod_nonneg _ (by omega), Int.emod_lt_of_pos _ z1⟩
  · rintro σ H' ⟨c, y3, ds, rfl, eH, hL, hdl, hil, hds⟩
    exact ⟨_, rfl, q l ds H' eH hL (by rw [hdl, List.length_map]) hds⟩
theorem sc45 : FnScope ["_law_cell_here", "_law_low", "_law_high"] ["_law_cell_here"] (defScope (topS 45)) := ⟨rfl, rfl, rfl, by decide +kernel, rfl, by decide +kernel, by decide +kernel⟩
def spRich : Sp := fun vs H Q _ => ∃ c : Int, vs = [.int c] ∧ ∀ x, Q (.int x) H
theorem cl_rich (D : Dfn K mg "_law_rich" (topS 45)) (B : Bi mg) : Cl P w K mg base 1 "_law_rich" spRich := by
  refine cl_of (ps := ["_law_cell_here"]) D sc45 (fun _ _ _ _ _ _ us hl => match us, hl with | [_], _ => rfl) (fun vs H Q E h => by obtain ⟨c, rfl, _⟩ := h; rfl) fun f0 cdv A outer s0 H vs Q E hr h => ?_
  obtain ⟨c, rfl, q⟩ := h
  refine ⟨_, pss_cons (ps_if (pt_cmpR op_ge (pv 0) (pe_op op_pow pe_int pe_int) (nomark _)) (pss_one (ps_ret (pv 0))) pss_nil)
    (pss_cons (ps_set (i := 1) sc45.nd rfl (.inl rfl) (pe_op op_mod (pe_callTy call_int1 (by rfl) B.b_int (by decide +kernel) (pa_cons (pe_op op_add (pe_op op_mul (pv 0) pe_int) pe_int) pa_nil)) pe_int))
    (pss_cons (ps_set (i := 2) sc45.nd rfl (.inl rfl) (pe_op op_mod (pe_callTy call_int1 (by rfl) B.b_int (by decide +kernel) (pa_cons (pe_op op_add (pe_op op_add (pe_op op_mul (pv 1) pe_int) (pe_op op_fdiv (pv 0) pe_int)) pe_int) pa_nil)) pe_int))
    (pss_one (ps_ret (pe_op op_add (pe_op op_mul (pv 1) pe_int) (pv 2)))))), ?_⟩
  refine ⟨_, rfl, _, _, rfl, rfl, ⟨by decide, by decide, by decide⟩, _, _, rfl, rfl, _, rfl, ite2 (fun _ => ⟨_, rfl, q _⟩) (fun _ => ?_)⟩
  refine ⟨_, rfl, _, _, rfl, rfl, .inr ⟨by decide, by decide⟩, _, _, rfl, rfl, .inl ⟨_, rfl, _, _, rfl, rfl, (show (0 : Int) < 2147483647 by decide), ?_⟩⟩
  refine ⟨_, rfl, _, _, rfl, rfl, .inr ⟨by decide, by decide⟩, _, rfl, _, _, rfl, rfl, ⟨by decide, by decide⟩, _, _, rfl, rfl, _, _, rfl, rfl, .inl ⟨_, rfl, _, _, rfl, rfl, (show (0 : Int) < 2147483629 by decide), ?_⟩⟩
  exact ⟨_, rfl, _, _, rfl, rfl, .inr ⟨by decide, by decide⟩, _, rfl, _, _, rfl, rfl, q _⟩

/-! ### _law_row -/
theorem er_map {α β : Type} (f : α → β) : ∀ (l : List α) (i : Nat), (l.map f).eraseIdx i = (l.eraseIdx i).map f
  | [], _ => rfl
  | _ :: _, 0 => rfl
  | a :: l, i + 1 => by
    show f a :: (l.map f).eraseIdx i = f a :: (l.eraseIdx i).map f
    rw [er_map f l i]
theorem er_perm {α : Type} {x : α} : ∀ {l : List α} {i : Nat}, l[i]? = some x → (x :: l.eraseIdx i).Perm l
  | [], _, h => by simp at h
  | a :: l, 0, h => by
    simp at h
    rw [h]
    exact .refl _
  | a :: l, i + 1, h => by
    have h' : l[i]? = some x := by simpa using h
    exact (List.Perm.swap a x (l.eraseIdx i)).trans ((er_perm h').cons a)
theorem sc46 : FnScope ["_law_cell_here", "_law_n", "_law_left", "_law_rest", "_law_row_here", "_law_k"] ["_law_cell_here", "_law_n"] (defScope (topS 46)) := ⟨rfl, rfl, rfl, by decide +kernel, rfl, by decide +kernel, by decide +kernel⟩
def spRow : Sp := fun vs H Q _ => ∃ (c : Int) (n : Nat), vs = [.int c, .int (n : Int)] ∧ n ≤ 40 ∧ ∀ v r H', Ex H H' → TI H' v r → r.Perm (TR.srt n) → Q v H'
theorem srt_len (n : Nat) : (TR.srt n).length = n := by unfold TR.srt; simp
theorem cl_row (D : Dfn K mg "_law_row" (topS 46)) (B : Bi mg) (C1 : Cl P w K mg base 1 "_law_rich" spRich) : Cl P w K mg base 2 "_law_row" spRow := by
  refine cl_of (ps := ["_law_cell_here", "_law_n"]) D sc46 (fun _ _ _ _ _ _ us hl => match us, hl with | [_, _], _ => rfl) (fun vs H Q E h => by obtain ⟨c, n, rfl, _⟩ := h; rfl) fun f0 cdv A outer s0 H vs Q E hr h => ?_
  obtain ⟨c, n, rfl, hn, q⟩ := h
  refine ⟨_, pss_cons (ps_setLc (i := 2) (own := [("_law_k", 5)]) (g := gName 5) (tt := tYes) rfl sc46.nd rfl rfl (sw_true rfl rfl rfl (by decide +kernel)) (pi_range1 (by rfl) B.b_range (pa_cons (pv 1) pa_nil))
      (blkOk_by (own := [("_law_k", 5)]) (N := ["_law_cell_here", "_law_n", "_law_left", "_law_rest", "_law_row_here", "_law_k"]) (sc := defScope (topS 46)) (by decide +kernel)) (fun _ _ _ _ _ => pg_name (i := 5) sc46.nd rfl (.inl rfl)) (fun _ _ _ _ _ => pts_nil) (fun _ _ _ _ _ => pe_op op_add (pv 5) pe_int))
    (pss_cons (ps_set (i := 3) sc46.nd rfl (.inl rfl) (pe_cl C1 hr (by decide) (by rfl) (pa_cons (pv 0) pa_nil)))
    (pss_cons (ps_set (i := 4) sc46.nd rfl (.inl rfl) (pe_lst pa_nil))
    (pss_cons (ps_for PassesOwn.never rfl (pi_range1 (by rfl) B.b_range (pa_cons (pv 1) pa_nil)) (pg_name (i := 5) sc46.nd rfl (.inl rfl))
      (pss_cons (ps_expr (pe_bm PySem.F.plainAttrs_list PySem.F.slot_list_append PySem.F.type_list_append mt_append (pv 4) (pa_cons
          (pe_bm PySem.F.plainAttrs_list PySem.F.slot_list_pop PySem.F.type_list_pop mt_popAt (pv 2) (pa_cons (pe_op op_mod (pe_callTy call_int1 (by rfl) B.b_int (by decide +kernel) (pa_cons (pv 3) pa_nil)) (pe_op op_sub (pv 1) (pv 5))) pa_nil)) pa_nil)))
      (pss_one (ps_set (i := 3) sc46.nd rfl (.inl rfl) (pe_op op_fdiv (pv 3) (pe_op op_sub (pv 1) (pv 5)))))))
    (pss_one (ps_ret (pe_callTy call_tuple_of (by rfl) B.b_tuple (by decide +kernel) (pa_cons (pv 4) pa_nil))))))), ?_⟩
  refine u_seq (u_set (y_lcR n (fun _ => true) (fun i => V.int ((i : Int) + 1)) (by omega) (fun R k => ⟨_, rfl, k H (Ex.refl H)⟩) ?_ _ fun v1 H1 e1 ⟨l, ev, nl, hl⟩ => ?_))
  · intro H1 e1
    refine lc_name (fun _ => by rfl) (fun _ _ _ _ => et_yes) fun i _ H' e' _ => ev_op (ev_var rfl) ev_int rv_I0
  · subst ev
    rw [ft_all] at hl
    refine ⟨_, rfl, c, rfl, fun rest => ?_⟩
    refine ⟨by show 0 ≤ sizeLine; decide, fun b hb => ?_⟩
    have nb : H b = none := fresh_back e1 hb
    have lb : l ≠ b := ne_of_none hl hb
    have hs : (List.range n).map (fun i : Nat => V.int ((i : Int) + 1)) = (TR.srt n).map V.int := by unfold TR.srt; rw [List.map_map]; rfl
    rw [hs] at hl
    refine ⟨_, rfl, _, rfl, by omega, by omega, for_range (lo := 0) (n := ((n : Nat) : Int).toNat)
      (fun i σ H' => ∃ (rest : Int) (y5 : Option V) (L R : List Int), σ = [some (.int c), some (.int (n : Int)), some (.ref l), some (.int rest), some (.ref b), y5] ∧ Ex H H' ∧ H' l = some (.lst (L.map V.int)) ∧ H' b = some (.lst (R.map V.int)) ∧ (R ++ L).Perm (TR.srt n) ∧ R.length = i)
      ⟨rest, none, TR.srt n, [], rfl, e1.trans (Ex.new hb), (upd_ne lb).trans hl, upd_same, by simp, rfl⟩ ?_ ?_⟩
    · rintro i σ H' hi ⟨rest, y5, L, R, rfl, eH, hL, hR, hp, hRl⟩
      have hi' : i < n := by omega
      have hlen := hp.length_eq
      rw [List.length_append, srt_len] at hlen
      rw [show (0 : Int) + (i : Int) = (i : Int) by omega]
      have hpos : (0 : Int) < (n : Int) - (i : Int) := by omega
      have m0 := Int.emod_nonneg rest (show (n : Int) - (i : Int) ≠ 0 by omega)
      have m1 := Int.emod_lt_of_pos rest hpos
      obtain ⟨q', hq'⟩ : ∃ q' : Nat, rest % ((n : Int) - (i : Int)) = (q' : Int) := ⟨_, (Int.toNat_of_nonneg m0).symm⟩
      have hql : q' < L.length := by omega
      refine ⟨_, rfl, .inl ⟨rfl, _, sq_of hR⟩, _, rfl, .inl ⟨rfl, _, sq_of hL⟩, _, rfl, .inl ⟨_, rfl, _, rfl, _, rfl, _, _, rfl, rfl, _, _, rfl, rfl, hpos, ?_⟩⟩
      dsimp only
      refine ⟨l, L.map V.int, rest % ((n : Int) - (i : Int)), q', .int L[q'], rfl, rfl, hL, by omega, by omega, ?_, by rw [List.getElem?_map, List.getElem?_eq_getElem hql]; rfl, ?_⟩
      · have := seqIndex_of (k := (q' : Int)) (n := (L.map V.int).length) (by omega) (by rw [List.length_map]; omega)
        rw [hq', this, Int.toNat_natCast]
      refine ⟨b, R.map V.int, _, rfl, rfl, (upd_ne lb.symm).trans hR, sz_lt (by rw [List.length_map]; omega), ?_⟩
      refine ⟨_, rfl, _, rfl, _, rfl, _, _, rfl, rfl, _, _, rfl, rfl, ⟨hpos, by omega⟩, _, _, L.eraseIdx q', R ++ [L[q']], rfl, Ex.mut (Ex.mut eH nl) nb, ?_, ?_, ?_, by simp [hRl]⟩
      · rw [upd_ne lb, upd_same, er_map]
      · rw [upd_same, List.map_append]
        rfl
      · refine List.Perm.trans ?_ hp
        rw [List.append_assoc]
        exact List.Perm.append_left R (er_perm (List.getElem?_eq_getElem hql))
    · rintro σ H' ⟨rest, y5, L, R, rfl, eH, hL, hR, hp, hRl⟩
      have hlen := hp.length_eq
      rw [List.length_append, srt_len] at hlen
      have : L = [] := List.eq_nil_of_length_eq_zero (by omega)
      subst this
      rw [List.append_nil] at hp
      exact ⟨_, rfl, b, _, rfl, .inl ⟨sq_of hR, fun p hp' => q (.ref p) R _ (eH.trans (Ex.new hp')) (TI.new upd_same) hp⟩⟩

/-! ### _law_signed -/
theorem sc47 : FnScope ["_law_cell_here", "_law_n", "_law_signs", "_law_row_here", "_law_number"] ["_law_cell_here", "_law_n"] (defScope (topS 47)) := ⟨rfl, rfl, rfl, by decide +kernel, rfl, by decide +kernel, by decide +kernel⟩
def spAny : Sp := fun vs H Q _ => ∃ (c : Int) (n : Nat), vs = [.int c, .int (n : Int)] ∧ 1 ≤ n ∧ n ≤ 40 ∧ ∀ v r H', Ex H H' → TF H' v r → TR.Sg r → r.length = n → Q v H'
theorem sg_abs {r s : List Int} {n : Nat} (h : r.Perm (TR.srt n)) (e : s.map Int.natAbs = r.map Int.natAbs) : TR.Sg s ∧ s.length = n := by
  have hl : s.length = n := by
    have h1 := congrArg List.length e
    rw [List.length_map, List.length_map] at h1
    rw [h1, h.length_eq, srt_len]
  refine ⟨?_, hl⟩
  unfold TR.Sg
  rw [e, hl]
  refine (h.map Int.natAbs).trans ?_
  unfold TR.srt
  rw [List.map_map]
  refine List.Perm.of_eq (List.map_congr_left fun i _ => ?_)
  show ((i : Int) + 1).natAbs = i + 1
  omega
theorem cl_signed (D : Dfn K mg "_law_signed" (topS 47)) (B : Bi mg) (C1 : Cl P w K mg base 1 "_law_rich" spRich) (C2 : Cl P w K mg base 2 "_law_row" spRow) : Cl P w K mg base 3 "_law_signed" spAny := by
  refine cl_of (ps := ["_law_cell_here", "_law_n"]) D sc47 (fun _ _ _ _ _ _ us hl => match us, hl with | [_, _], _ => rfl) (fun vs H Q E h => by obtain ⟨c, n, rfl, _⟩ := h; rfl) fun f0 cdv A outer s0 H vs Q E hr h => ?_
  obtain ⟨c, n, rfl, hn0, hn, q⟩ := h
  refine ⟨_, pss_cons (ps_set (i := 2) sc47.nd rfl (.inl rfl) (pe_cl C1 hr (by decide) (by rfl) (pa_cons (pe_op op_add (pe_op op_fdiv (pv 0) pe_int) pe_int) pa_nil)))
    (pss_cut (ps_if (pt_cmpR op_eq (pe_op op_mod (pe_callTy call_int1 (by rfl) B.b_int (by decide +kernel) (pa_cons (pv 0) pa_nil)) pe_int) pe_int (nomark _)) (pss_one (ps_set (i := 2) sc47.nd rfl (.inl rfl) pe_int)) pss_nil)
    (pss_cons (ps_set (i := 3) sc47.nd rfl (.inl rfl) (pe_lst pa_nil))
    (pss_cons (ps_for PassesOwn.never rfl (pi_tup (pe_cl C2 hr (by decide) (by rfl) (pa_cons (pe_op op_fdiv (pv 0) pe_int) (pa_cons (pv 1) pa_nil)))) (pg_name (i := 4) sc47.nd rfl (.inl rfl))
      (pss_cons (ps_expr (pe_bm PySem.F.plainAttrs_list PySem.F.slot_list_append PySem.F.type_list_append mt_append (pv 3) (pa_cons
          (pe_ix (r := rIxL K) ix_list (pe_lst (pa_cons (pv 4) (pa_cons (pe_un un_neg (pv 4)) pa_nil))) (pe_op op_mod (pe_callTy call_int1 (by rfl) B.b_int (by decide +kernel) (pa_cons (pv 2) pa_nil)) pe_int) (fun _ _ => rfl)) pa_nil)))
      (pss_one (ps_set (i := 2) sc47.nd rfl (.inl rfl) (pe_op op_fdiv (pv 2) pe_int)))))
    (pss_one (ps_ret (pe_callTy call_tupF (by rfl) B.b_tuple (by decide +kernel) (pa_cons (pv 3) pa_nil))))))), ?_⟩
  refine ⟨_, rfl, _, _, rfl, rfl, ⟨by decide, by decide⟩, _, _, rfl, rfl, _, rfl, fun s1 => ?_⟩
  dsimp only
  refine q_cut (M := fun σ H' => H' = H ∧ ∃ s : Int, σ = [some (.int c), some (.int (n : Int)), some (.int s), none, none]) ?_ ?_
  · refine ⟨_, rfl, .inl ⟨_, rfl, _, _, rfl, rfl, (show (0 : Int) < 3 by decide), rfl, _, rfl, ite2 (fun _ => ?_) (fun _ => ?_)⟩⟩
    · exact ⟨rfl, 0, rfl⟩
    · exact ⟨rfl, s1, rfl⟩
  · rintro σ H1 ⟨rfl, s, rfl⟩
    refine ⟨by show 0 ≤ sizeLine; decide, fun b hb => ?_⟩
    have e1 := Ex.new (o := .lst []) hb
    have hb1 : (upd H1 b (.lst [])) b = some (.lst []) := upd_same
    generalize upd H1 b (.lst []) = H2 at e1 hb1 ⊢
    refine ⟨_, rfl, _, _, rfl, rfl, ⟨by decide, by decide⟩, _, rfl, _, n, rfl, hn, fun v r H3 e3 ⟨a, ev, ha⟩ hp => ?_⟩
    subst ev
    have hrl : r.length = n := by rw [hp.length_eq, srt_len]
    refine ⟨a, rfl, ⟨_, st_of ha⟩, for_tup (K := K) (a := a) (xs := r.map V.int)
      (fun i σ H' => ∃ (s : Int) (y4 : Option V) (R : List Int), σ = [some (.int c), some (.int (n : Int)), some (.int s), some (.ref b), y4] ∧ Ex H1 H' ∧ H' a = some (.tup (r.map V.int)) ∧ H' b = some (.lst (R.map V.int)) ∧ R.map Int.natAbs = (r.take i).map Int.natAbs)
      ⟨s, none, [], rfl, e1.trans e3, ha, e3 b _ hb1, rfl⟩ (fun i σ H' _ ⟨_, _, _, _, _, ha', _⟩ => st_of ha') ?_ ?_⟩
    · rintro i x σ H' hi ⟨s, y4, R, rfl, eH, ha', hR, hRr⟩
      rw [List.getElem?_map] at hi
      obtain ⟨z, hzi, rfl⟩ := Option.map_eq_some_iff.mp hi
      have hil := (List.getElem?_eq_some_iff.mp hzi).1
      have hRl : R.length ≤ 40 := by
        have := congrArg List.length hRr
        rw [List.length_map, List.length_map, List.length_take] at this
        omega
      have m0 := Int.emod_nonneg s (show (2 : Int) ≠ 0 by decide)
      have m1 := Int.emod_lt_of_pos s (show (0 : Int) < 2 by decide)
      refine ⟨_, rfl, .inl ⟨rfl, _, sq_of hR⟩, _, rfl, _, rfl, z, rfl, by show 2 ≤ sizeLine; decide, fun p hp' => ?_⟩
      have bp : b ≠ p := ne_of_none hR hp'
      have ap : a ≠ p := ne_of_none ha' hp'
      obtain ⟨y, hy, hyz⟩ : ∃ y : Int, atI [V.int z, V.int (-z)] (s % 2) = some (.int y) ∧ y.natAbs = z.natAbs := by
        rcases (show s % 2 = 0 ∨ s % 2 = 1 by omega) with e | e
        · exact ⟨z, by rw [e]; rfl, rfl⟩
        · exact ⟨-z, by rw [e]; rfl, Int.natAbs_neg z⟩
      refine ⟨_, rfl, .inl ⟨_, rfl, _, _, rfl, rfl, (show (0 : Int) < 2 by decide), p, _, _, _, rfl, rfl, sq_of upd_same, hy, ?_⟩⟩
      refine ⟨b, R.map V.int, _, rfl, rfl, (upd_ne bp).trans hR, sz_lt (by rw [List.length_map]; omega), ?_⟩
      refine ⟨_, rfl, _, _, rfl, rfl, ⟨by decide, by decide⟩, _, _, R ++ [y], rfl, Ex.mut (eH.trans (Ex.new hp')) hb, ?_, ?_, ?_⟩
      · rw [upd_ne (ne_of ha' hR (fun z => nomatch z)), upd_ne ap]
        exact ha'
      · rw [upd_same, List.map_append]
        rfl
      · rw [List.map_append, hRr, List.take_add_one, hzi, List.map_append]
        show _ ++ [y.natAbs] = _ ++ [z.natAbs]
        rw [hyz]
    · rintro σ H' ⟨s, y4, R, rfl, eH, ha', hR, hRr⟩
      rw [List.length_map, List.take_length] at hRr
      obtain ⟨sg, hl⟩ := sg_abs hp hRr
      exact ⟨_, rfl, b, _, rfl, sq_of hR, fun p o hp' hc hd => q (.ref p) R _ (eH.trans (Ex.new hp')) ⟨p, o, rfl, upd_same, hc, hd⟩ sg hl⟩
end
end TW

/-! from W19 -/
set_option maxRecDepth 100000
set_option maxHeartbeats 4000000
namespace TW
open PySem PySem.Spec PyProof.Rows L2 Evl

theorem fl_get {s : List Int} {q : Nat} (h : q < s.length) : (TR.fl s)[q]? = (s[s.length - 1 - q]?).map fun x => -x := by
  unfold TR.fl
  rw [List.getElem?_reverse (by rw [List.length_map]; exact h), List.length_map, List.getElem?_map]
theorem tnr_get {r : List Int} {i j : Nat} (hij : i ≤ j) (hj : j < r.length) (p : Nat) : (TR.tnr r i j)[p]? = if i ≤ p ∧ p < j + 1 then (r[i + j - p]?).map (fun x => -x) else r[p]? := by
  have l1 : (r.take i).length = i := by rw [List.length_take]; omega
  have l2 : ((r.drop i).take (j + 1 - i)).length = j + 1 - i := by rw [List.length_take, List.length_drop]; omega
  have l3 : (TR.fl ((r.drop i).take (j + 1 - i))).length = j + 1 - i := by rw [TR.fl_len, l2]
  unfold TR.tnr
  by_cases h1 : p < i
  · rw [if_neg (by omega), List.append_assoc, List.getElem?_append_left (by omega), List.getElem?_take, if_pos h1]
  · by_cases h2 : p < j + 1
    · rw [if_pos ⟨by omega, h2⟩, List.append_assoc, List.getElem?_append_right (by omega), l1, List.getElem?_append_left (by omega), fl_get (by omega), l2, List.getElem?_take, if_pos (by omega), List.getElem?_drop]
      congr 2
      omega
    · rw [if_neg (by omega), List.getElem?_append_right (by rw [List.length_append]; omega), List.length_append, l1, l3, List.getElem?_drop]
      congr 1
      omega
theorem mix_perm {α : Type} (R : List α) {i j m : Nat} (h1 : i ≤ j) (h2 : j ≤ m) : (R.take i ++ (R.drop j).take (m + 1 - j) ++ (R.drop i).take (j - i) ++ R.drop (m + 1)).Perm R := by
  have e1 : R.drop i = (R.drop i).take (j - i) ++ R.drop j := by
    have := List.take_append_drop (j - i) (R.drop i)
    rw [List.drop_drop, show i + (j - i) = j by omega] at this
    exact this.symm
  have e2 : R.drop j = (R.drop j).take (m + 1 - j) ++ R.drop (m + 1) := by
    have := List.take_append_drop (m + 1 - j) (R.drop j)
    rw [List.drop_drop, show j + (m + 1 - j) = m + 1 by omega] at this
    exact this.symm
  have e0 := List.take_append_drop i R
  generalize hA : R.take i = A at *
  generalize hB : (R.drop i).take (j - i) = B at *
  generalize hC : (R.drop j).take (m + 1 - j) = C at *
  generalize hD : R.drop (m + 1) = D' at *
  have : R = A ++ (B ++ (C ++ D')) := by rw [← e0, e1, e2]
  rw [this, List.append_assoc, List.append_assoc]
  refine List.Perm.append_left A ?_
  rw [← List.append_assoc, ← List.append_assoc]
  exact List.Perm.append_right D' List.perm_append_comm

/-! ### lists of ints -/
def LI (H : Hp) (v : V) (r : List Int) : Prop := ∃ a, v = .ref a ∧ H a = some (.lst (r.map V.int))
theorem LI.ex {H H' : Hp} {v : V} {r : List Int} (h : LI H v r) (e : Ex H H') : LI H' v r := by
  obtain ⟨a, rfl, h⟩ := h
  exact ⟨a, rfl, e a _ h⟩
section
variable {K : PySem.W.Frag} {σ : L2.St} {H : Hp}
theorem y_slL {te : TE} {tl th : TO} {r : List Int} {lo hi : Option Int} (h : Yl te σ H fun v H1 => LI H1 v r) (h1 : ∀ H1, Ex H H1 → ∀ R, R lo H1 → tl σ H1 R) (h2 : ∀ H1, Ex H H1 → ∀ R, R hi H1 → th σ H1 R) {r' : List Int} (he : cutV (r.map V.int) lo hi = r'.map V.int) :
    Yl (tSl (rSlL K) te tl th) σ H fun v H1 => LI H1 v r' := fun R k => h _ fun v H1 e1 ⟨a, ev, ha⟩ => by
  subst ev
  exact h1 H1 e1 _ (h2 H1 e1 _ ⟨a, r.map V.int, rfl, sq_of ha, fun p hp => k _ _ (e1.trans (Ex.new hp)) ⟨p, rfl, by rw [he]; exact upd_same⟩⟩)
theorem y_catL {ta tb : TE} {r r' : List Int} (ha : Yl ta σ H fun v H1 => LI H1 v r) (hb : ∀ H1, Ex H H1 → Yl tb σ H1 fun v H2 => LI H2 v r') (hz : r.length + r'.length ≤ 100000) :
    Yl (tOp rCat ta tb) σ H fun v H1 => LI H1 v (r ++ r') := fun R k => ha _ fun v H1 e1 ⟨a, ev, ha⟩ => hb H1 e1 _ fun v2 H2 e2 ⟨b, ev2, hb⟩ => by
  subst ev ev2
  exact ⟨a, b, r.map V.int, r'.map V.int, rfl, rfl, e2 a _ ha, hb, sz_of (by simp; omega), fun p hp => k _ _ ((e1.trans e2).trans (Ex.new hp)) ⟨p, rfl, by rw [List.map_append]; exact upd_same⟩⟩
end

section
variable {P : Program} {w : World} {K : PySem.W.Frag} {mg : Str → Option Value} {base : Heap}
/-! ### _law_turned -/
theorem sc48 : FnScope ["_law_row_here", "_law_i", "_law_j", "_law_cells", "_law_k"] ["_law_row_here", "_law_i", "_law_j"] (defScope (topS 48)) := ⟨rfl, rfl, rfl, by decide +kernel, rfl, by decide +kernel, by decide +kernel⟩
def spTn (K : PySem.W.Frag) : Sp := fun vs H Q _ => ∃ (v : V) (r : List Int) (i j : Nat), vs = [v, .int (i : Int), .int (j : Int)] ∧ TS K H v r ∧ r.length ≤ 1000 ∧ i ≤ j ∧ j < r.length ∧ ∀ u H', Ex H H' → TF H' u (TR.tnr r i j) → Q u H'
theorem cl_tn (D : Dfn K mg "_law_turned" (topS 48)) (B : Bi mg) : Cl P w K mg base 1 "_law_turned" (spTn K) := by
  refine cl_of (ps := ["_law_row_here", "_law_i", "_law_j"]) D sc48 (fun _ _ _ _ _ _ us hl => match us, hl with | [_, _, _], _ => rfl) (fun vs H Q E h => by obtain ⟨v, r, i, j, rfl, _⟩ := h; rfl) fun f0 cdv A outer s0 H vs Q E hr h => ?_
  obtain ⟨v, r, i, j, rfl, ⟨a, rfl, ha⟩, hz, hij, hj, q⟩ := h
  refine ⟨_, pss_cons (ps_set (i := 3) sc48.nd rfl (.inl rfl) (pe_callTy call_list_of (by rfl) B.b_list (by decide +kernel) (pa_cons (pv 0) pa_nil)))
    (pss_cons (ps_for PassesOwn.never rfl (pi_range2 (by rfl) B.b_range (pa_cons (pv 1) (pa_cons (pe_op op_add (pv 2) pe_int) pa_nil))) (pg_name (i := 4) sc48.nd rfl (.inl rfl))
      (pss_one (ps_asg (pe_op op_sub pe_int (pe_ix (r := rIxT K) ix_tup (pv 0) (pe_op op_sub (pe_op op_add (pv 1) (pv 2)) (pv 4)) (fun _ _ => rfl))) (pg_sub (pv 3) (pv 4) set_list))))
    (pss_one (ps_ret (pe_callTy call_tupF (by rfl) B.b_tuple (by decide +kernel) (pa_cons (pv 3) pa_nil))))), ?_⟩
  refine ⟨_, rfl, a, _, rfl, .inr ha, fun l hl => ?_⟩
  have e1 := Ex.new (o := .lst (r.map V.int)) hl
  refine ⟨_, rfl, _, rfl, _, _, rfl, rfl, (i : Int), (j : Int) + 1, rfl, by omega, for_range (lo := (i : Int)) (n := ((j : Int) + 1 - (i : Int)).toNat)
    (fun m σ H' => ∃ (y4 : Option V) (C : List Int), σ = [some (.ref a), some (.int (i : Int)), some (.int (j : Int)), some (.ref l), y4] ∧ Ex H H' ∧ H' l = some (.lst (C.map V.int)) ∧ C.length = r.length ∧
      ∀ p, C[p]? = if i ≤ p ∧ p < i + m then (r[i + j - p]?).map (fun x => -x) else r[p]?)
    ⟨none, r, rfl, e1, upd_same, rfl, fun p => by rw [if_neg (by omega)]⟩ ?_ ?_⟩
  · rintro m σ H' hm ⟨y4, C, rfl, eH, hL, hCl, hC⟩
    have hm' : i + m ≤ j := by omega
    obtain ⟨x, hx⟩ : ∃ x, r[j - m]? = some x := ⟨_, List.getElem?_eq_getElem (by omega)⟩
    rw [show (i : Int) + (m : Int) = ((i + m : Nat) : Int) by omega]
    have ix : ((i : Int) + (j : Int)) - ((i + m : Nat) : Int) = ((j - m : Nat) : Int) := by omega
    refine s_setL (j := i + m) (v := .int (0 - x)) hL (ev_op ev_int (ev_op (ev_var rfl) (ev_op (ev_op (ev_var rfl) (ev_var rfl) rv_I0) (ev_var rfl) rv_I0) (by rw [ix]; exact rv_ixT (ex_t eH ha) (atI_nat (by rw [List.getElem?_map, hx]; rfl)))) rv_I0) (ev_var rfl) (ev_var rfl) (by rw [List.length_map]; omega) fun H2 e2 => ?_
    refine ⟨_, C.set (i + m) (0 - x), rfl, Ex.mut (eH.trans e2) hl, ?_, by rw [List.length_set]; exact hCl, fun p => ?_⟩
    · rw [upd_same, List.map_set]
    · rw [List.getElem?_set]
      by_cases hp : i + m = p
      · subst hp
        rw [if_pos rfl, if_pos (by omega), if_pos (by omega), show i + j - (i + m) = j - m by omega, hx]
        show some (0 - x) = some (-x)
        rw [Int.zero_sub]
      · rw [if_neg hp, hC p]
        by_cases c : i ≤ p ∧ p < i + m
        · rw [if_pos c, if_pos (by omega)]
        · rw [if_neg c, if_neg (by omega)]
  · rintro σ H' ⟨y4, C, rfl, eH, hL, hCl, hC⟩
    have hCe : C = TR.tnr r i j := by
      refine List.ext_getElem? fun p => ?_
      rw [hC p, tnr_get hij hj p]
      by_cases c : i ≤ p ∧ p < j + 1
      · rw [if_pos (by omega), if_pos c]
      · rw [if_neg (by omega), if_neg c]
    subst hCe
    exact ⟨_, rfl, l, _, rfl, sq_of hL, fun p o hp hc hd => q (.ref p) _ (eH.trans (Ex.new hp)) ⟨p, o, rfl, upd_same, hc, hd⟩⟩
/-! ### _law_is_integer -/
theorem sc49 : FnScope ["_law_actual"] ["_law_actual"] (defScope (topS 49)) := ⟨rfl, rfl, rfl, by decide +kernel, rfl, by decide +kernel, by decide +kernel⟩
def spIsI : Sp := fun vs H Q _ => ∃ x : Int, vs = [.int x] ∧ Q (.bl true) H
theorem cl_isi (D : Dfn K mg "_law_is_integer" (topS 49)) (B : Bi mg) : Cl P w K mg base 1 "_law_is_integer" spIsI := by
  refine cl_of (ps := ["_law_actual"]) D sc49 (fun _ _ _ _ _ _ us hl => match us, hl with | [_], _ => rfl) (fun vs H Q E h => by obtain ⟨x, rfl, _⟩ := h; rfl) fun f0 cdv A outer s0 H vs Q E hr h => ?_
  obtain ⟨x, rfl, q⟩ := h
  refine ⟨_, pss_one (ps_ret (pe_and (pe_callB call_isi (by rfl) B.b_isi (by decide +kernel) (pa_cons (pv 0) (pa_cons (pe_bltn (v := .ty "int") (u := .type "int") (by rfl) B.b_int (by decide +kernel) rfl) pa_nil)))
    (pe_one (pe_not (pe_callB call_isi (by rfl) B.b_isi (by decide +kernel) (pa_cons (pv 0) (pa_cons (pe_bltn (v := .ty "bool") (u := .type "bool") (by rfl) B.b_bool (by decide +kernel) rfl) pa_nil))))))), ?_⟩
  refine ⟨_, rfl, .int x, .ty "int", .type "int", .type "int", true, rfl, .ty _, .base (.int x), by rfl, true, rfl, ?_⟩
  refine ⟨_, rfl, .int x, .ty "bool", .type "int", .type "bool", false, rfl, .ty _, .base (.int x), by rfl, false, rfl, q⟩

/-! ### _law_reading -/
theorem sc52 : FnScope ["_law_row_here", "_law_at", "_law_is_back", "_law_told", "_law_number"] ["_law_row_here", "_law_at", "_law_is_back"] (defScope (topS 52)) := ⟨rfl, rfl, rfl, by decide +kernel, rfl, by decide +kernel, by decide +kernel⟩
def spRd (K : PySem.W.Frag) : Sp := fun vs H Q _ => ∃ (v : V) (r : List Int) (at' : Nat) (b : Int), vs = [v, .int (at' : Int), .int b] ∧ TS K H v r ∧ r.length ≤ 1000 ∧ at' ≤ r.length ∧ ∀ u H', Ex H H' → TF H' u (TR.rdg r at' (decide (b = 1))) → Q u H'
theorem cl_rd (D : Dfn K mg "_law_reading" (topS 52)) (B : Bi mg) : Cl P w K mg base 1 "_law_reading" (spRd K) := by
  refine cl_of (ps := ["_law_row_here", "_law_at", "_law_is_back"]) D sc52 (fun _ _ _ _ _ _ us hl => match us, hl with | [_, _, _], _ => rfl) (fun vs H Q E h => by obtain ⟨v, r, at', b, rfl, _⟩ := h; rfl) fun f0 cdv A outer s0 H vs Q E hr h => ?_
  obtain ⟨v, r, at', b, rfl, ⟨a, rfl, ha⟩, hz, hat, q⟩ := h
  refine ⟨_, pss_cons (ps_set (i := 3) sc52.nd rfl (.inl rfl) (pe_callTy call_list_of (by rfl) B.b_list (by decide +kernel) (pa_cons (pv 0) pa_nil)))
    (pss_cut (ps_if (pt_cmpR op_eq (pv 2) pe_int (nomark _)) (pss_one (ps_setLc (i := 3) (own := [("_law_number", 4)]) (g := gName 4) (tt := tYes) rfl sc52.nd rfl rfl (sw_true rfl rfl rfl (by decide +kernel)) (pi_list (pe_revL (pv 3)))
      (blkOk_by (own := [("_law_number", 4)]) (N := ["_law_row_here", "_law_at", "_law_is_back", "_law_told", "_law_number"]) (sc := defScope (topS 52)) (by decide +kernel)) (fun _ _ _ _ _ => pg_name (i := 4) sc52.nd rfl (.inl rfl)) (fun _ _ _ _ _ => pts_nil) (fun _ _ _ _ _ => pe_op op_sub pe_int (pv 4)))) pss_nil)
    (pss_one (ps_ret (pe_callTy call_tupF (by rfl) B.b_tuple (by decide +kernel) (pa_cons (pe_op op_cat (pe_slice sl_list (pv 3) (po_some (pv 1)) po_none) (pe_slice sl_list (pv 3) po_none (po_some (pv 1)))) pa_nil))))), ?_⟩
  refine ⟨_, rfl, a, _, rfl, .inr ha, fun l hl => ?_⟩
  have e1 := Ex.new (o := .lst (r.map V.int)) hl
  have hl1 : (upd H l (.lst (r.map V.int))) l = some (.lst (r.map V.int)) := upd_same
  generalize upd H l (.lst (r.map V.int)) = H1 at e1 hl1 ⊢
  dsimp only
  refine q_cut (M := fun σ H' => ∃ (vt : V) (t : List Int), σ = [some (.ref a), some (.int (at' : Int)), some (.int b), some vt, none] ∧ Ex H H' ∧ LI H' vt t ∧ t = if decide (b = 1) = true then TR.fl r else r) ?_ ?_
  · refine ⟨_, rfl, rfl, _, rfl, ?_⟩
    rw [dI]
    by_cases hb : b = 1
    · rw [decide_eq_true hb]
      refine iteT' rfl (u_set (y_lcLx (α := Int) V.int (fun _ => true) (fun x => V.int (0 - x)) (fun t _ => t = r.reverse) ?_ ?_ _ fun v1 H2 e2 ⟨t, H3, DD, e3, e32, et, ev, hD⟩ => ?_))
      · intro R kk
        refine ⟨_, rfl, l, _, rfl, sq_of hl1, fun p hp => kk _ _ (Ex.new hp) ⟨p, r.reverse, rfl, sq_of (by rw [upd_same, List.map_reverse]), by rw [List.length_reverse]; omega, rfl⟩⟩
      · intro t H3 e3 _
        exact lc_name (fun _ => by rfl) (fun _ _ _ _ => et_yes) fun x _ H4 e4 _ => ev_op ev_int (ev_var rfl) rv_I0
      · subst ev et
        rw [ft_all] at hD
        refine ⟨.ref DD, TR.fl r, rfl, e1.trans e2, ⟨DD, rfl, ?_⟩, by rw [if_pos rfl]⟩
        rw [hD]
        unfold TR.fl
        rw [← List.map_reverse, List.map_map]
        congr 2
        refine List.map_congr_left fun x _ => ?_
        show V.int (0 - x) = V.int (-x)
        rw [Int.zero_sub]
    · rw [decide_eq_false hb]
      exact iteF' rfl ⟨.ref l, r, rfl, e1, ⟨l, rfl, hl1⟩, by rw [if_neg Bool.false_ne_true]⟩
  · rintro σ H2 ⟨vt, t, rfl, e2, hvt, ht⟩
    have htl : t.length = r.length := by
      rw [ht]
      split
      · exact TR.fl_len r
      · rfl
    refine u_ret (u_cb (u_cons (y_catL (r := t.drop at') (r' := t.take at') (y_slL (K := K) (y_var rfl hvt) (fun H3 e3 R hR => ⟨_, rfl, _, rfl, hR⟩) (fun H3 e3 R hR => hR) (cut_i0 V.int (by omega)))
      (fun H3 e3 => y_slL (K := K) (y_var rfl (hvt.ex e3)) (fun H4 e4 R hR => hR) (fun H4 e4 R hR => ⟨_, rfl, _, rfl, hR⟩) (cut_0j V.int (by omega))) (by rw [List.length_drop, List.length_take]; omega) _ fun u H3 e3 ⟨p, eu, hp⟩ => ?_)))
    subst eu
    refine ⟨p, _, rfl, sq_of hp, fun x o hx hc hd => q (.ref x) _ ((e2.trans e3).trans (Ex.new hx)) ⟨x, o, rfl, ?_, hc, hd⟩⟩
    rw [upd_same, ht]
    rfl
end
end TW

/-! from W20 -/
set_option maxRecDepth 100000
set_option maxHeartbeats 4000000
namespace TW
open PySem PySem.Spec PyProof.Rows L2 Evl

section
variable {P : Program} {w : World} {K : PySem.W.Frag} {mg : Str → Option Value} {base : Heap}
/-! ### _law_mixed -/
theorem sc50 : FnScope ["_law_cell_here", "_law_n", "_law_row_here", "_law_rest", "_law_low", "_law_high", "_law_k", "_law_i", "_law_j", "_law_m"] ["_law_cell_here", "_law_n"] (defScope (topS 50)) := ⟨rfl, rfl, rfl, by decide +kernel, rfl, by decide +kernel, by decide +kernel⟩
/-- a remainder between -/
theorem rem_in (x : Int) {a b : Nat} (h : a < b) : ∃ i : Nat, (a : Int) + x % ((b : Int) - (a : Int)) = (i : Int) ∧ a ≤ i ∧ i < b := by
  have m0 := Int.emod_nonneg x (show (b : Int) - (a : Int) ≠ 0 by omega)
  have m1 := Int.emod_lt_of_pos x (show (0 : Int) < (b : Int) - (a : Int) by omega)
  exact ⟨((a : Int) + x % ((b : Int) - (a : Int))).toNat, by omega, by omega, by omega⟩
theorem cl_mixed (D : Dfn K mg "_law_mixed" (topS 50)) (B : Bi mg) (C1 : Cl P w K mg base 1 "_law_rich" spRich) : Cl P w K mg base 2 "_law_mixed" spAny := by
  refine cl_of (ps := ["_law_cell_here", "_law_n"]) D sc50 (fun _ _ _ _ _ _ us hl => match us, hl with | [_, _], _ => rfl) (fun vs H Q E h => by obtain ⟨c, n, rfl, _⟩ := h; rfl) fun f0 cdv A outer s0 H vs Q E hr h => ?_
  obtain ⟨c, n, rfl, hn0, hn, q⟩ := h
  refine ⟨_, pss_cons (ps_setLc (i := 2) (own := [("_law_k", 6)]) (g := gName 6) (tt := tYes) rfl sc50.nd rfl rfl (sw_true rfl rfl rfl (by decide +kernel)) (pi_range1 (by rfl) B.b_range (pa_cons (pv 1) pa_nil))
      (blkOk_by (own := [("_law_k", 6)]) (N := ["_law_cell_here", "_law_n", "_law_row_here", "_law_rest", "_law_low", "_law_high", "_law_k", "_law_i", "_law_j", "_law_m"]) (sc := defScope (topS 50)) (by decide +kernel)) (fun _ _ _ _ _ => pg_name (i := 6) sc50.nd rfl (.inl rfl)) (fun _ _ _ _ _ => pts_nil) (fun _ _ _ _ _ => pe_op op_add (pv 6) pe_int))
    (pss_cons (ps_set (i := 3) sc50.nd rfl (.inl rfl) (pe_cl C1 hr (by decide) (by rfl) (pa_cons (pv 0) pa_nil)))
    (pss_cons (ps_set (i := 4) sc50.nd rfl (.inl rfl) pe_int)
    (pss_cons (ps_set (i := 5) sc50.nd rfl (.inl rfl) (pv 1))
    (pss_cons (ps_for PassesOwn.never rfl (pi_range1 (by rfl) B.b_range (pa_cons pe_int pa_nil)) (pg_name (i := 6) sc50.nd rfl (.inl rfl))
      (pss_cons (ps_set (i := 7) sc50.nd rfl (.inl rfl) (pe_op op_add (pv 4) (pe_op op_mod (pe_callTy call_int1 (by rfl) B.b_int (by decide +kernel) (pa_cons (pv 3) pa_nil)) (pe_op op_sub (pv 5) (pv 4)))))
      (pss_cons (ps_set (i := 3) sc50.nd rfl (.inl rfl) (pe_op op_add (pe_op op_fdiv (pv 3) pe_int) (pv 6)))
      (pss_cons (ps_set (i := 8) sc50.nd rfl (.inl rfl) (pe_op op_add (pv 7) (pe_op op_mod (pe_callTy call_int1 (by rfl) B.b_int (by decide +kernel) (pa_cons (pv 3) pa_nil)) (pe_op op_sub (pv 5) (pv 7)))))
      (pss_cons (ps_set (i := 3) sc50.nd rfl (.inl rfl) (pe_op op_add (pe_op op_fdiv (pv 3) pe_int) (pe_op op_mul pe_int (pv 6))))
      (pss_cons (ps_set (i := 9) sc50.nd rfl (.inl rfl) (pe_op op_add (pv 8) (pe_op op_mod (pe_callTy call_int1 (by rfl) B.b_int (by decide +kernel) (pa_cons (pv 3) pa_nil)) (pe_op op_sub (pv 5) (pv 8)))))
      (pss_cons (ps_set (i := 3) sc50.nd rfl (.inl rfl) (pe_op op_add (pe_op op_fdiv (pv 3) pe_int) (pv 6)))
      (pss_cut (ps_if (PW.pt (pw_and (pt_cmpR op_lt (pe_op op_sub (pv 8) (pv 7)) pe_int (nomark _)) (pw_and1 (pt_cmpR op_lt (pe_op op_sub (pv 9) (pv 8)) pe_int (nomark _)))))
        (pss_one (ps_set (i := 2) sc50.nd rfl (.inl rfl) (pe_op op_cat (pe_op op_cat (pe_op op_cat (pe_slice sl_list (pv 2) po_none (po_some (pv 7))) (pe_slice sl_list (pv 2) (po_some (pv 8)) (po_some (pe_op op_add (pv 9) pe_int))))
          (pe_slice sl_list (pv 2) (po_some (pv 7)) (po_some (pv 8)))) (pe_slice sl_list (pv 2) (po_some (pe_op op_add (pv 9) pe_int)) po_none)))) pss_nil)
      (pss_cons (ps_set (i := 4) sc50.nd rfl (.inl rfl) (pe_op op_mod (pe_callTy call_int1 (by rfl) B.b_int (by decide +kernel) (pa_cons (pv 3) pa_nil)) (pv 1)))
      (pss_cons (ps_set (i := 5) sc50.nd rfl (.inl rfl) (pe_callB (call_min2 rfl) (by rfl) B.b_min (by decide +kernel) (pa_cons (pv 1) (pa_cons (pe_op op_add (pe_op op_add (pv 4) pe_int) (pe_op op_mod (pe_callTy call_int1 (by rfl) B.b_int (by decide +kernel) (pa_cons (pe_op op_fdiv (pv 3) (pv 1)) pa_nil)) pe_int)) pa_nil))))
      (pss_one (ps_set (i := 3) sc50.nd rfl (.inl rfl) (pe_op op_add (pe_op op_fdiv (pv 3) pe_int) (pe_op op_mul pe_int (pv 6)))))))))))))))
    (pss_one (ps_ret (pe_callTy call_tupF (by rfl) B.b_tuple (by decide +kernel) (pa_cons (pv 2) pa_nil)))))))), ?_⟩
  refine u_seq (u_set (y_lcR n (fun _ => true) (fun i => V.int ((i : Int) + 1)) (by omega) (fun R k => ⟨_, rfl, k H (Ex.refl H)⟩) ?_ _ fun v1 H1 e1 ⟨l, ev, nl, hl⟩ => ?_))
  · intro H1 e1
    exact lc_name (fun _ => by rfl) (fun _ _ _ _ => et_yes) fun i _ H' e' _ => ev_op (ev_var rfl) ev_int rv_I0
  · subst ev
    rw [ft_all] at hl
    have hs : (List.range n).map (fun i : Nat => V.int ((i : Int) + 1)) = (TR.srt n).map V.int := by unfold TR.srt; rw [List.map_map]; rfl
    rw [hs] at hl
    refine ⟨_, rfl, c, rfl, fun rest => ?_⟩
    refine ⟨_, rfl, (12 : Int), rfl, by decide, by decide, for_range (lo := 0) (n := (12 : Int).toNat)
      (fun i σ H' => ∃ (vr : V) (R : List Int) (rest : Int) (lo hi : Nat) (y6 y7 y8 y9 : Option V), σ = [some (.int c), some (.int (n : Int)), some vr, some (.int rest), some (.int (lo : Int)), some (.int (hi : Int)), y6, y7, y8, y9] ∧ Ex H H' ∧ LI H' vr R ∧ R.Perm (TR.srt n) ∧ lo < hi ∧ hi ≤ n)
      ⟨.ref l, TR.srt n, rest, 0, n, none, none, none, none, rfl, e1, ⟨l, rfl, hl⟩, .refl _, by omega, Nat.le_refl _⟩ ?_ ?_⟩
    · rintro k σ H' hk ⟨vr, R, rest, lo, hi, y6, y7, y8, y9, rfl, eH, hR, hp, hlh, hhn⟩
      have hRl : R.length = n := by rw [hp.length_eq, srt_len]
      rw [show (0 : Int) + (k : Int) = (k : Int) by omega]
      obtain ⟨i, hi1, hi2, hi3⟩ := rem_in rest hlh
      refine q_asg (v := .int (i : Int)) (by rw [← hi1]; exact ev_op (ev_var rfl) (ev_op (ev_cb (ea_cons (ev_var rfl) ea_nil) fun H1 _ Q k => .inl ⟨_, rfl, k H1 (Ex.refl _)⟩) (ev_op (ev_var rfl) (ev_var rfl) rv_I0) (rv_I (by omega))) rv_I0) fun H1 e1 => ?_
      generalize hr1 : rest / 7 + (k : Int) = r1
      refine q_asg (v := .int r1) (by rw [← hr1]; exact ev_op (ev_op (ev_var rfl) ev_int (rv_I ⟨by decide, by decide⟩)) (ev_var rfl) rv_I0) fun H2 e2 => ?_
      obtain ⟨j, hj1, hj2, hj3⟩ := rem_in r1 hi3
      refine q_asg (v := .int (j : Int)) (by rw [← hj1]; exact ev_op (ev_var rfl) (ev_op (ev_cb (ea_cons (ev_var rfl) ea_nil) fun H1 _ Q k => .inl ⟨_, rfl, k H1 (Ex.refl _)⟩) (ev_op (ev_var rfl) (ev_var rfl) rv_I0) (rv_I (by omega))) rv_I0) fun H3 e3 => ?_
      generalize hr2 : r1 / 7 + 3 * (k : Int) = r2
      refine q_asg (v := .int r2) (by rw [← hr2]; exact ev_op (ev_op (ev_var rfl) ev_int (rv_I ⟨by decide, by decide⟩)) (ev_op ev_int (ev_var rfl) (rv_I (.inl ⟨by decide, by decide⟩))) rv_I0) fun H4 e4 => ?_
      obtain ⟨m, hm1, hm2, hm3⟩ := rem_in r2 hj3
      refine q_asg (v := .int (m : Int)) (by rw [← hm1]; exact ev_op (ev_var rfl) (ev_op (ev_cb (ea_cons (ev_var rfl) ea_nil) fun H1 _ Q k => .inl ⟨_, rfl, k H1 (Ex.refl _)⟩) (ev_op (ev_var rfl) (ev_var rfl) rv_I0) (rv_I (by omega))) rv_I0) fun H5 e5 => ?_
      generalize hr3 : r2 / 5 + (k : Int) = r3
      refine q_asg (v := .int r3) (by rw [← hr3]; exact ev_op (ev_op (ev_var rfl) ev_int (rv_I ⟨by decide, by decide⟩)) (ev_var rfl) rv_I0) fun H6 e6 => ?_
      have e16 := ((((e1.trans e2).trans e3).trans e4).trans e5).trans e6
      refine q_cut (M := fun σ H' => ∃ (vr : V) (R : List Int), σ = [some (.int c), some (.int (n : Int)), some vr, some (.int r3), some (.int (lo : Int)), some (.int (hi : Int)), some (.int (k : Int)), some (.int (i : Int)), some (.int (j : Int)), some (.int (m : Int))] ∧ Ex H H' ∧ LI H' vr R ∧ R.Perm (TR.srt n)) ?_ ?_
      · refine s_when (et_and (et_test (ev_op (ev_op (ev_var rfl) (ev_var rfl) rv_I0) ev_int rv_I0)) fun _ => et_test (ev_op (ev_op (ev_var rfl) (ev_var rfl) rv_I0) ev_int rv_I0)) (fun _ H7 e7 => ?_) (fun _ H7 e7 => ?_)
        · have e17 := e16.trans e7
          refine u_set (y_catL (r := R.take i ++ (R.drop j).take (m + 1 - j) ++ (R.drop i).take (j - i)) (r' := R.drop (m + 1)) (y_catL (r := R.take i ++ (R.drop j).take (m + 1 - j)) (r' := (R.drop i).take (j - i)) (y_catL (r := R.take i) (r' := (R.drop j).take (m + 1 - j))
              (y_slL (K := K) (y_var rfl (hR.ex e17)) (fun H3 e3 R hR => hR) (fun H3 e3 R hR => ⟨_, rfl, _, rfl, hR⟩) (cut_0j V.int (by omega)))
              (fun Ha ea => y_slL (K := K) (y_var rfl (hR.ex (e17.trans ea))) (fun H3 e3 R hR => ⟨_, rfl, _, rfl, hR⟩) (fun H3 e3 R hR => ⟨_, rfl, _, _, rfl, rfl, _, rfl, hR⟩) (by rw [succ_i, cut_ij V.int (by omega) (by omega)])) (by rw [List.length_take, List.length_take, List.length_drop]; omega))
              (fun Ha ea => y_slL (K := K) (y_var rfl (hR.ex (e17.trans ea))) (fun H3 e3 R hR => ⟨_, rfl, _, rfl, hR⟩) (fun H3 e3 R hR => ⟨_, rfl, _, rfl, hR⟩) (cut_ij V.int (by omega) (by omega))) (by rw [List.length_append, List.length_take, List.length_take, List.length_drop, List.length_take, List.length_drop]; omega))
            (fun Ha ea => y_slL (K := K) (y_var rfl (hR.ex (e17.trans ea))) (fun H3 e3 R hR => ⟨_, rfl, _, _, rfl, rfl, _, rfl, hR⟩) (fun H3 e3 R hR => hR) (by rw [succ_i, cut_i0 V.int (by omega)])) ?_ _ fun v8 H8 e8 h8 => ?_)
          · have := (mix_perm R hj2 hm2).length_eq
            rw [List.length_append] at this
            omega
          · exact ⟨v8, _, rfl, (eH.trans e17).trans e8, h8, (mix_perm R hj2 hm2).trans hp⟩
        · exact ⟨vr, R, rfl, eH.trans (e16.trans e7), hR.ex (e16.trans e7), hp⟩
      · rintro σ H7 ⟨vr, R, rfl, eH7, hR7, hp7⟩
        have hn1 : (0 : Int) < (n : Int) := by omega
        have m0 := Int.emod_nonneg r3 (show (n : Int) ≠ 0 by omega)
        have m1 := Int.emod_lt_of_pos r3 hn1
        obtain ⟨lo2, hlo⟩ : ∃ lo2 : Nat, r3 % (n : Int) = (lo2 : Int) := ⟨_, (Int.toNat_of_nonneg m0).symm⟩
        have g0 := Int.emod_nonneg (r3 / (n : Int)) (show (6 : Int) ≠ 0 by decide)
        obtain ⟨hi2, hhi⟩ : ∃ hi2 : Nat, (if (lo2 : Int) + 2 + r3 / (n : Int) % 6 < (n : Int) then (lo2 : Int) + 2 + r3 / (n : Int) % 6 else (n : Int)) = (hi2 : Int) :=
          ⟨(if (lo2 : Int) + 2 + r3 / (n : Int) % 6 < (n : Int) then (lo2 : Int) + 2 + r3 / (n : Int) % 6 else (n : Int)).toNat, by split <;> omega⟩
        have hh2 : lo2 < hi2 ∧ hi2 ≤ n := by
          split at hhi <;> omega
        refine q_asg (v := .int (lo2 : Int)) (by rw [← hlo]; exact ev_op (ev_cb (ea_cons (ev_var rfl) ea_nil) fun H1 _ Q k => .inl ⟨_, rfl, k H1 (Ex.refl _)⟩) (ev_var rfl) (rv_I hn1)) fun H8 e8 => ?_
        refine q_asg (v := .int (hi2 : Int)) (by
          rw [← hhi]
          exact ev_cb (ea_cons (ev_var rfl) (ea_cons (ev_op (ev_op (ev_var rfl) ev_int rv_I0) (ev_op (ev_cb (ea_cons (ev_op (ev_var rfl) (ev_var rfl) (rv_I ⟨hn1, by omega⟩)) ea_nil) fun H1 _ Q k => .inl ⟨_, rfl, k H1 (Ex.refl _)⟩) ev_int (rv_I (by decide))) rv_I0) ea_nil)) fun H1 _ Q k => ⟨_, _, rfl, k H1 (Ex.refl _)⟩) fun H9 e9 => ?_
        refine s_asg (v := .int (r3 / 11 + 1000003 * (k : Int))) (ev_op (ev_op (ev_var rfl) ev_int (rv_I ⟨by decide, by decide⟩)) (ev_op ev_int (ev_var rfl) (rv_I (.inl ⟨by decide, by decide⟩))) rv_I0) fun H10 e10 => ?_
        exact ⟨vr, R, _, lo2, hi2, _, _, _, _, rfl, ((eH7.trans e8).trans e9).trans e10, hR7.ex ((e8.trans e9).trans e10), hp7, hh2.1, hh2.2⟩
    · rintro σ H' ⟨vr, R, rest, lo, hi, y6, y7, y8, y9, rfl, eH, ⟨b, rfl, hb⟩, hp, _, _⟩
      obtain ⟨sg, hl⟩ := sg_abs hp rfl
      exact ⟨_, rfl, b, _, rfl, sq_of hb, fun p o hp' hc hd => q (.ref p) R _ (eH.trans (Ex.new hp')) ⟨p, o, rfl, upd_same, hc, hd⟩ sg hl⟩
end
end TW

/-! from W21 -/
set_option maxRecDepth 100000
set_option maxHeartbeats 4000000
namespace TW
open PySem PySem.Spec PyProof.Rows L2 Evl

theorem ch_snoc {k : Nat} {u v w : List Int} (h : TR.Ch k u v) (t : TR.Tn v w) : TR.Ch (k + 1) u w := by
  induction h with
  | nil u => exact .cons t (.nil w)
  | cons a _ ih => exact .cons a (ih t)
section
variable {K : PySem.W.Frag} {H : Hp} {x y : V} {ns ms : List Int} {Q : VK}
theorem eqS (hx : TS K H x ns) (hy : TS K H y ms) (q : Q (.bl (decide (ns = ms))) H) : rEqD K x y H Q := by
  obtain ⟨a, rfl, ha⟩ := hx
  obtain ⟨b, rfl, hb⟩ := hy
  refine ⟨_, _, .tup ha (all_ints K H ns), .tup hb (all_ints K H ms), shT ns, shT ms, ?_⟩
  rw [PyData.eqv, eqv_ints]
  exact q
end

section
variable {P : Program} {w : World} {K : PySem.W.Frag} {mg : Str → Option Value} {base : Heap}
/-! ### _law_any_signed -/
theorem sc51 : FnScope ["_law_cell_here", "_law_n", "_law_kind", "_law_row_here", "_law_at"] ["_law_cell_here", "_law_n"] (defScope (topS 51)) := ⟨rfl, rfl, rfl, by decide +kernel, rfl, by decide +kernel, by decide +kernel⟩
theorem cl_any (D : Dfn K mg "_law_any_signed" (topS 51)) (B : Bi mg) (C1 : Cl P w K mg base 3 "_law_signed" spAny) (C2 : Cl P w K mg base 2 "_law_mixed" spAny) (C3 : Cl P w K mg base 1 "_law_rich" spRich) (C4 : Cl P w K mg base 1 "_law_turned" (spTn K)) : Cl P w K mg base 4 "_law_any_signed" spAny := by
  refine cl_of (ps := ["_law_cell_here", "_law_n"]) D sc51 (fun _ _ _ _ _ _ us hl => match us, hl with | [_, _], _ => rfl) (fun vs H Q E h => by obtain ⟨c, n, rfl, _⟩ := h; rfl) fun f0 cdv A outer s0 H vs Q E hr h => ?_
  obtain ⟨c, n, rfl, hn0, hn, q⟩ := h
  refine ⟨_, pss_cons (ps_set (i := 2) sc51.nd rfl (.inl rfl) (pe_op op_mod (pe_callTy call_int1 (by rfl) B.b_int (by decide +kernel) (pa_cons (pv 0) pa_nil)) pe_int))
    (pss_cons (ps_if (PW.pt (pw_or (pt_cmpR op_eq (pv 2) pe_int (nomark _)) (pw_or1 (pt_cmpR op_eq (pv 1) pe_int (nomark _))))) (pss_one (ps_ret (pe_cl C1 hr (by decide) (by rfl) (pa_cons (pe_op op_fdiv (pv 0) pe_int) (pa_cons (pv 1) pa_nil))))) pss_nil)
    (pss_cons (ps_set (i := 3) sc51.nd rfl (.inl rfl) (pe_cl C2 hr (by decide) (by rfl) (pa_cons (pe_op op_fdiv (pv 0) pe_int) (pa_cons (pv 1) pa_nil))))
    (pss_cons (ps_if (pt_cmpR op_eq (pv 2) pe_int (nomark _))
      (pss_cons (ps_set (i := 4) sc51.nd rfl (.inl rfl) (pe_op op_mod (pe_callTy call_int1 (by rfl) B.b_int (by decide +kernel) (pa_cons (pe_op op_fdiv (pe_cl C3 hr (by decide) (by rfl) (pa_cons (pv 0) pa_nil)) pe_int) pa_nil)) (pv 1)))
      (pss_one (ps_ret (pe_cl C4 hr (by decide) (by rfl) (pa_cons (pv 3) (pa_cons (pv 4) (pa_cons (pe_op op_add (pv 4) (pe_op op_mod (pe_callTy call_int1 (by rfl) B.b_int (by decide +kernel) (pa_cons (pe_op op_fdiv (pe_cl C3 hr (by decide) (by rfl) (pa_cons (pv 0) pa_nil)) pe_int) pa_nil)) (pe_op op_sub (pv 1) (pv 4)))) pa_nil))))))) pss_nil)
    (pss_one (ps_ret (pv 3)))))), ?_⟩
  refine ⟨_, rfl, .inl ⟨_, rfl, _, _, rfl, rfl, (show (0 : Int) < 4 by decide), ?_⟩⟩
  generalize hk : c % 4 = kd
  dsimp only
  refine q_when (et_or (et_test (ev_op (ev_var rfl) ev_int (rv_eq rfl))) fun _ => et_test (ev_op (ev_var rfl) ev_int (rv_eq rfl))) (fun _ H1 e1 => ?_) (fun _ H1 e1 => ?_)
  · exact ⟨_, rfl, _, _, rfl, rfl, ⟨by decide, by decide⟩, _, rfl, _, n, rfl, hn0, hn, fun v r H2 e2 hv sr hl => q v r H2 (e1.trans e2) hv sr hl⟩
  · refine ⟨_, rfl, _, _, rfl, rfl, ⟨by decide, by decide⟩, _, rfl, _, n, rfl, hn0, hn, fun v r H2 e2 hv sr hl => ?_⟩
    have e12 := e1.trans e2
    dsimp only
    refine q_when (et_test (ev_op (ev_var rfl) ev_int (rv_eq rfl))) (fun _ H3 e3 => ?_) (fun _ H3 e3 => ?_)
    · refine ⟨_, rfl, _, rfl, fun x => ⟨_, _, rfl, rfl, ⟨by decide, by decide⟩, .inl ⟨_, rfl, _, rfl, _, _, rfl, rfl, (show (0 : Int) < (n : Int) by omega), ?_⟩⟩⟩
      have m0 := Int.emod_nonneg (x / 9) (show (n : Int) ≠ 0 by omega)
      have m1 := Int.emod_lt_of_pos (x / 9) (show (0 : Int) < (n : Int) by omega)
      obtain ⟨i, hi⟩ : ∃ i : Nat, x / 9 % (n : Int) = (i : Int) := ⟨_, (Int.toNat_of_nonneg m0).symm⟩
      dsimp only
      rw [hi]
      refine ⟨_, rfl, _, rfl, _, rfl, _, rfl, _, rfl, fun y => ⟨_, _, rfl, rfl, ⟨by decide, by decide⟩, .inl ⟨_, rfl, _, rfl, _, rfl, _, _, rfl, rfl, _, _, rfl, rfl, (show (0 : Int) < (n : Int) - (i : Int) by omega), ?_⟩⟩⟩
      obtain ⟨j, hj1, hj2, hj3⟩ := rem_in (y / 99) (show i < n by omega)
      refine ⟨_, _, rfl, rfl, ?_⟩
      exact ⟨v, r, i, j, congrArg (fun z : Int => [v, V.int (i : Int), V.int z]) hj1, (hv.ex e3).ts, by omega, hj2, by omega, fun u H4 e4 hu => q u _ H4 ((e12.trans e3).trans e4) hu (TR.sg_tnr sr (by omega)) (by rw [TR.tnr_len (by omega)]; exact hl)⟩
    · exact ⟨_, rfl, q v r H3 (e12.trans e3) (hv.ex e3) sr hl⟩
end
end TW

/-! from W22 -/
set_option maxRecDepth 100000
set_option maxHeartbeats 4000000
namespace TW
open PySem PySem.Spec PyProof.Rows L2 Evl

theorem four {l : List Int} (h : l.length = 4) : ∃ a b c d, l = [a, b, c, d] := by
  match l, h with
  | [a, b, c, d], _ => exact ⟨a, b, c, d, rfl⟩
theorem seven {l : List Int} (h : l.length = 7) : ∃ a b c d e f g, l = [a, b, c, d, e, f, g] := by
  match l, h with
  | [a, b, c, d, e, f, g], _ => exact ⟨a, b, c, d, e, f, g, rfl⟩
theorem nat_of {x : Int} (h : 0 ≤ x) : ∃ n : Nat, x = (n : Int) := ⟨_, (Int.toNat_of_nonneg h).symm⟩
section
variable {K : PySem.W.Frag} {σ : L2.St} {H : Hp}
theorem ev_ixl {ta tb : TE} {xs : List V} {p : Addr} {i : Nat} {v : V} (ha : Ev ta σ H (.ref p)) (hb : Ev tb σ H (.int (i : Int))) (hp : H p = some (.lst xs)) (hi : xs[i]? = some v) : Ev (tOp (rIxL K) ta tb) σ H v :=
  ev_op ha hb (rv_ixL (sq_of hp) (atI_nat hi))
theorem ev_intc {te : TE} {x : Int} {r : List V → Hp → VK → Prop} (hr : ∀ H Q, (Q (.int x) H) → r [.int x] H Q) (h : Ev te σ H (.int x)) : Ev (tCB r (tCons te tNil)) σ H (.int x) :=
  ev_cb (ea_cons h ea_nil) fun H1 _ Q k => hr H1 Q (k H1 (Ex.refl _))
end
section
variable {P : Program} {w : World} {K : PySem.W.Frag} {mg : Str → Option Value} {base : Heap}
/-! ### law -/
theorem ex_nox {X : Cx} {sts : List Stmt} {D : Ends} {σ : L2.St} {H : Hp} (h : ∃ t, PSs X.nox sts t ∧ t D σ H) : ∃ t, PSs X sts t ∧ t D σ H := by
  obtain ⟨t, h1, h2⟩ := h
  exact ⟨t, h1.nox, h2⟩
def lwN : List Str := ["_law_script", "_law_d", "_law_n", "_law_first", "_law_second", "_law_many", "_law_k", "_law_e", "_law_told", "_law_moves", "_law_row_here", "_law_move"]
theorem sc53 : FnScope ["_law_script", "_law_d", "_law_n", "_law_first", "_law_second", "_law_many", "_law_k", "_law_e", "_law_told", "_law_moves", "_law_row_here", "_law_move"] ["_law_script"] (defScope (topS 53)) := ⟨rfl, rfl, rfl, by decide +kernel, rfl, by decide +kernel, by decide +kernel⟩
def spLaw (K : PySem.W.Frag) : Sp := fun vs H Q _ => ∃ (a : Addr) (ns : List Int), vs = [.ref a] ∧ SqL K H a (ns.map V.int) ∧ ∀ H', Q (.bl true) H'
theorem ok_law {fL : Addr} {fdL : FuncData} (F : FunD K "law" "law" (defArgs (topS 53)) (defBody (topS 53)) (defScope (topS 53)) [] [] fL fdL) (B : Bi mg) (CC : Cl P w K mg base 1 "_law_cell" (spCell K)) (CR : Cl P w K mg base 1 "_law_rich" spRich) (CD : Cl P w K mg base 1 "_law_digits" spDigits) (CA : Cl P w K mg base 4 "_law_any_signed" spAny)
    (CG : Cl P w K mg base 1 "_law_reading" (spRd K)) (CT : Cl P w K mg base 1 "_law_turned" (spTn K)) (CL : Cl P w K mg base 9 "least_closed_turns" spLc) (CI : Cl P w K mg base 1 "_law_is_integer" spIsI) (CS : Cl P w K mg base 10 "closed_turn_script" spCs) (CO : Cl P w K mg base 2 "opened" (spOpened K)) :
    FnOk P w K mg base CX0 11 fL fdL ["_law_script"] (spLaw K) := by
  refine F.ok sc53 (fun vs H Q E h => by obtain ⟨a, ns, rfl, _⟩ := h; rfl) fun cdv A outer s0 H vs Q E hr h => ?_
  obtain ⟨a, ns, rfl, hS, q⟩ := h
  refine ex_nox ?_
  refine ⟨_, pss_cons (ps_set (i := 1) sc53.nd rfl (.inl rfl) (pe_cl CD hr (by decide) (by rfl) (pa_cons (pe_cl CR hr (by decide) (by rfl) (pa_cons (pe_cl CC hr (by decide) (by rfl) (pa_cons (pv 0) (pa_cons pe_int pa_nil))) pa_nil))
      (pa_cons (pe_lst (pa_cons pe_int (pa_cons pe_int (pa_cons pe_int (pa_cons pe_int (pa_cons pe_int (pa_cons pe_int (pa_cons pe_int pa_nil)))))))) pa_nil))))
    (pss_cons (ps_set (i := 2) sc53.nd rfl (.inl rfl) (pe_ix (r := rIxL K) ix_list (pe_lst (pa_cons (pe_op op_add pe_int (pe_ix (r := rIxL K) ix_list (pv 1) pe_int (fun _ _ => rfl))) (pa_cons (pe_op op_add pe_int (pe_ix (r := rIxL K) ix_list (pv 1) pe_int (fun _ _ => rfl))) pa_nil)))
      (pe_callTy call_int1 (by rfl) B.b_int (by decide +kernel) (pa_cons (pe_cmpR op_eq (pe_ix (r := rIxL K) ix_list (pv 1) pe_int (fun _ _ => rfl)) pe_int (nomark _)) pa_nil)) (fun _ _ => rfl)))
    (pss_cons (ps_set (i := 3) sc53.nd rfl (.inl rfl) (pe_cl CA hr (by decide) (by rfl) (pa_cons (pe_cl CC hr (by decide) (by rfl) (pa_cons (pv 0) (pa_cons pe_int pa_nil))) (pa_cons (pv 2) pa_nil))))
    (pss_cons (ps_set (i := 4) sc53.nd rfl (.inl rfl) (pv 3))
    (pss_cons (ps_set (i := 5) sc53.nd rfl (.inl rfl) pe_int)
    (pss_cut (ps_for PassesOwn.never rfl (pi_range1 (by rfl) B.b_range (pa_cons pe_int pa_nil)) (pg_name (i := 6) sc53.nd rfl (.inl rfl))
      (pss_cons (ps_if (pt_cmpR op_ge (pe_op op_add pe_int (pv 6)) (pe_callB call_len_seq (by rfl) B.b_len PySem.boot_len (pa_cons (pv 0) pa_nil)) (nomark _)) (pss_one ps_break) pss_nil)
      (pss_cons (ps_set (i := 7) sc53.nd rfl (.inl rfl) (pe_cl CD hr (by decide) (by rfl) (pa_cons (pe_cl CR hr (by decide) (by rfl) (pa_cons (pe_op op_add (pe_cl CC hr (by decide) (by rfl) (pa_cons (pv 0) (pa_cons (pe_op op_add pe_int (pv 6)) pa_nil))) (pv 6)) pa_nil))
        (pa_cons (pe_lst (pa_cons (pv 2) (pa_cons pe_int (pa_cons (pv 2) (pa_cons (pv 2) pa_nil))))) pa_nil))))
      (pss_cons (ps_set (i := 4) sc53.nd rfl (.inl rfl) (pe_cl CG hr (by decide) (by rfl) (pa_cons (pv 4) (pa_cons (pe_ix (r := rIxL K) ix_list (pv 7) pe_int (fun _ _ => rfl)) (pa_cons (pe_ix (r := rIxL K) ix_list (pv 7) pe_int (fun _ _ => rfl)) pa_nil)))))
      (pss_cons (ps_set (i := 4) sc53.nd rfl (.inl rfl) (pe_cl CT hr (by decide) (by rfl) (pa_cons (pv 4)
        (pa_cons (pe_callB (call_min2 rfl) (by rfl) B.b_min (by decide +kernel) (pa_cons (pe_ix (r := rIxL K) ix_list (pv 7) pe_int (fun _ _ => rfl)) (pa_cons (pe_ix (r := rIxL K) ix_list (pv 7) pe_int (fun _ _ => rfl)) pa_nil)))
        (pa_cons (pe_callB (call_max2 rfl) (by rfl) B.b_max (by decide +kernel) (pa_cons (pe_ix (r := rIxL K) ix_list (pv 7) pe_int (fun _ _ => rfl)) (pa_cons (pe_ix (r := rIxL K) ix_list (pv 7) pe_int (fun _ _ => rfl)) pa_nil))) pa_nil)))))
      (pss_one (ps_set (i := 5) sc53.nd rfl (.inl rfl) (pe_op op_add (pv 5) pe_int))))))))
    (pss_cons (ps_set (i := 4) sc53.nd rfl (.inl rfl) (pe_cl CG hr (by decide) (by rfl) (pa_cons (pv 4) (pa_cons (pe_op op_mod (pe_callTy call_int1 (by rfl) B.b_int (by decide +kernel) (pa_cons (pe_ix (r := rIxL K) ix_list (pv 1) pe_int (fun _ _ => rfl)) pa_nil)) (pv 2)) (pa_cons (pe_ix (r := rIxL K) ix_list (pv 1) pe_int (fun _ _ => rfl)) pa_nil)))))
    (pss_cons (ps_set (i := 8) sc53.nd rfl (.inl rfl) (pe_cl CL hr (by decide) (by rfl) (pa_cons (pv 3) (pa_cons (pv 4) pa_nil))))
    (pss_cons (ps_if (PW.pt (pw_or (pt_not (pt_val (pe_cl CI hr (by decide) (by rfl) (pa_cons (pv 8) pa_nil)))) (pw_or (pt_cmpR op_lt (pv 8) pe_int (nomark _)) (pw_or1 (pt_cmpR op_gt (pv 8) (pv 5) (nomark _)))))) (pss_one ps_never) pss_nil)
    (pss_cons (ps_if (pt_cmpR op_ne (pe_cl CL hr (by decide) (by rfl) (pa_cons (pe_cl CG hr (by decide) (by rfl) (pa_cons (pv 3) (pa_cons (pe_op op_mod (pe_callTy call_int1 (by rfl) B.b_int (by decide +kernel) (pa_cons (pe_ix (r := rIxL K) ix_list (pv 1) pe_int (fun _ _ => rfl)) pa_nil)) (pv 2)) (pa_cons (pe_ix (r := rIxL K) ix_list (pv 1) pe_int (fun _ _ => rfl)) pa_nil)))) (pa_cons (pv 4) pa_nil))) (pv 8) (nomark _)) (pss_one ps_never) pss_nil)
    (pss_cons (ps_if (PW.pt (pw_or (pt_cmpR op_gt (pv 2) pe_int (nomark _)) (pw_or1 (PW.pt (pw_and (pt_cmpR op_gt (pv 2) pe_int (nomark _)) (pw_and1 (pt_cmpR op_gt (pv 5) pe_int (nomark _)))))))) (pss_one (ps_ret pe_bl)) pss_nil)
    (pss_cons (ps_set (i := 9) sc53.nd rfl (.inl rfl) (pe_cl CS hr (by decide) (by rfl) (pa_cons (pv 3) (pa_cons (pv 4) pa_nil))))
    (pss_cons (ps_if (PW.pt (pw_or (pt_not (pt_val (pe_callB call_isi (by rfl) B.b_isi (by decide +kernel) (pa_cons (pv 9) (pa_cons (pe_bltn (v := .ty "tuple") (u := .type "tuple") (by rfl) B.b_tuple (by decide +kernel) rfl) pa_nil)))))
        (pw_or1 (pt_cmpR op_ne (pe_callB call_len_seq (by rfl) B.b_len PySem.boot_len (pa_cons (pv 9) pa_nil)) (pv 8) (nomark _))))) (pss_one ps_never) pss_nil)
    (pss_cons (ps_set (i := 10) sc53.nd rfl (.inl rfl) (pe_cl CO hr (by decide) (by rfl) (pa_cons (pv 3) pa_nil)))
    (pss_cons (ps_for PassesOwn.never rfl (pi_tup (pv 9)) (pg_name (i := 11) sc53.nd rfl (.inl rfl))
      (pss_cons (ps_if (PW.pt (pw_or (pt_cmpR op_ne (pe_ix (r := rIxT K) ix_tup (pv 11) pe_int (fun _ _ => rfl)) pe_str (nomark _)) (pw_or (pt_cmpR op_ne (pe_callB call_len_seq (by rfl) B.b_len PySem.boot_len (pa_cons (pv 11) pa_nil)) pe_int (nomark _))
        (pw_or (pt_cmpR op_lt (pe_ix (r := rIxT K) ix_tup (pv 11) pe_int (fun _ _ => rfl)) pe_int (nomark _)) (pw_or (pt_cmpR op_lt (pe_ix (r := rIxT K) ix_tup (pv 11) pe_int (fun _ _ => rfl)) (pe_ix (r := rIxT K) ix_tup (pv 11) pe_int (fun _ _ => rfl)) (nomark _))
          (pw_or1 (pt_cmpR op_ge (pe_ix (r := rIxT K) ix_tup (pv 11) pe_int (fun _ _ => rfl)) (pv 2) (nomark _)))))))) (pss_one ps_never) pss_nil)
      (pss_one (ps_set (i := 10) sc53.nd rfl (.inl rfl) (pe_cl CT hr (by decide) (by rfl) (pa_cons (pv 10) (pa_cons (pe_ix (r := rIxT K) ix_tup (pv 11) pe_int (fun _ _ => rfl)) (pa_cons (pe_ix (r := rIxT K) ix_tup (pv 11) pe_int (fun _ _ => rfl)) pa_nil))))))))
    (pss_one (ps_ret (pe_cmpR (op_eqD hr.units) (pv 10) (pe_cl CO hr (by decide) (by rfl) (pa_cons (pv 4) pa_nil)) (nomark _)))))))))))))))))), ?_⟩
  have hS' : ∀ H', Ex H H' → SqL K H' a (ns.map V.int) := fun H' e => ex_l e hS
  refine ⟨_, rfl, a, ns, 0, rfl, hS, fun x0 => ⟨x0, rfl, fun y0 => ⟨by show 7 ≤ sizeLine; decide, fun p1 hp1 => ?_⟩⟩⟩
  refine ⟨y0, p1, [8, 40, 2, 40, 2, 8, 32], rfl, upd_same, by decide, by decide, fun D1 ds H1 e1' hD1 hl1 hb1 => ?_⟩
  have e1 := (Ex.new (o := .lst [.int 8, .int 40, .int 2, .int 40, .int 2, .int 8, .int 32]) hp1).trans e1'
  obtain ⟨d0, d1, d2, d3, d4, d5, d6, rfl⟩ := seven hl1
  have b0 := hb1 0 d0 8 rfl rfl
  have b1 := hb1 1 d1 40 rfl rfl
  have b3 := hb1 3 d3 40 rfl rfl
  have b6 := hb1 6 d6 32 rfl rfl
  clear hb1 e1'
  obtain ⟨n, hn, hn1, hn2⟩ : ∃ n : Nat, (if d5 = 0 then 9 + d6 else 1 + d0) = (n : Int) ∧ 1 ≤ n ∧ n ≤ 40 := by
    by_cases h : d5 = 0
    · rw [if_pos h]; exact ⟨(9 + d6).toNat, by omega, by omega, by omega⟩
    · rw [if_neg h]; exact ⟨(1 + d0).toNat, by omega, by omega, by omega⟩
  dsimp only
  refine q_asg (v := .int (n : Int)) ?_ fun H2 e2 => ?_
  · refine ev_opL1 (xs := [.int (1 + d0), .int (9 + d6)]) (y := .int (if decide (V.int d5 = V.int 0) = true then 1 else 0)) (el_lst (ea_cons (ev_op ev_int (ev_ixl (i := 0) (ev_var rfl) ev_int hD1 rfl) rv_I0) (ea_cons (ev_op ev_int (ev_ixl (i := 6) (ev_var rfl) ev_int hD1 rfl) rv_I0) ea_nil)) (by simp))
      (fun Ha ea => ev_cb (ea_cons (ev_op (ev_ixl (i := 5) (ev_var rfl) ev_int (ea _ _ hD1) rfl) ev_int (rv_eq rfl)) ea_nil) fun Hb _ Q k => .inr ⟨_, rfl, k Hb (Ex.refl _)⟩) fun p Ha ha ea => rv_ixL (sq_of ha) ?_
    rw [dI, ← hn]
    by_cases h : d5 = 0
    · rw [decide_eq_true h, if_pos rfl, if_pos h]; rfl
    · rw [decide_eq_false h, if_neg Bool.false_ne_true, if_neg h]; rfl
  have e12 := e1.trans e2
  refine ⟨_, rfl, a, ns, 1, rfl, hS' _ e12, fun x1 => ⟨_, rfl, x1, n, rfl, hn1, hn2, fun v1 f H3 e3 hv1 sf hfl => ?_⟩⟩
  have e13 := e12.trans e3
  have hD3 := e3 D1 _ (e2 D1 _ hD1)
  refine ⟨_, rfl, ?_⟩
  dsimp only
  refine q_cut (M := fun σ H' => ∃ (v2 : V) (s : List Int) (many : Nat) (y6 y7 : Option V), σ = [some (.ref a), some (.ref D1), some (.int (n : Int)), some v1, some v2, some (.int (many : Int)), y6, y7, none, none, none, none] ∧ Ex H3 H' ∧ TF H' v2 s ∧ TR.Sg s ∧ s.length = n ∧ TR.Ch many (TR.opn f).tail (TR.opn s).tail) ?_ ?_
  · refine ⟨(8 : Int), rfl, by decide, by decide, for_range (lo := 0) (n := (8 : Int).toNat)
      (fun k σ H' => ∃ (v2 : V) (s : List Int) (many : Nat) (y6 y7 : Option V), σ = [some (.ref a), some (.ref D1), some (.int (n : Int)), some v1, some v2, some (.int (many : Int)), y6, y7, none, none, none, none] ∧ Ex H3 H' ∧ TF H' v2 s ∧ TR.Sg s ∧ s.length = n ∧ TR.Ch many (TR.opn f).tail (TR.opn s).tail)
      ⟨v1, f, 0, none, none, rfl, Ex.refl _, hv1, sf, hfl, .nil _⟩ ?_ fun σ H' h => h⟩
    rintro k σ H4 hk ⟨v2, s, many, y6, y7, rfl, e4, hv2, ss, hsl, hch⟩
    rw [show (0 : Int) + (k : Int) = (k : Int) by omega]
    have e14 := e13.trans e4
    refine ⟨_, rfl, _, _, rfl, rfl, _, rfl, a, _, rfl, .inl (hS' _ e14), _, _, rfl, rfl, _, rfl, ite2 (fun _ => ?_) (fun _ => ?_)⟩
    · exact ⟨v2, s, many, _, _, rfl, e4, hv2, ss, hsl, hch⟩
    · refine ⟨_, rfl, _, rfl, _, _, rfl, rfl, a, ns, 2 + k, congrArg (fun z : Int => [V.ref a, V.int z]) (show (2 : Int) + (k : Int) = ((2 + k : Nat) : Int) by omega), hS' _ e14, fun x => ⟨_, rfl, _, _, rfl, rfl, _, rfl, fun y => ⟨_, rfl, _, rfl, _, rfl, by show 4 ≤ sizeLine; decide, fun p hp => ?_⟩⟩⟩
      refine ⟨y, p, [(n : Int), 2, (n : Int), (n : Int)], rfl, upd_same, by show 4 ≤ 100; decide, ?_, fun D2 es H5 e5' hD2 hl2 hb2 => ?_⟩
      · intro z hz
        simp only [List.mem_cons, List.not_mem_nil, or_false] at hz
        omega
      have e5 := (Ex.new (o := .lst [.int (n : Int), .int 2, .int (n : Int), .int (n : Int)]) hp).trans e5'
      obtain ⟨z0, z1, z2, z3, rfl⟩ := four hl2
      have c0 := hb2 0 z0 n rfl rfl
      have c2 := hb2 2 z2 n rfl rfl
      have c3 := hb2 3 z3 n rfl rfl
      clear hb2 e5'
      obtain ⟨i0, rfl⟩ := nat_of c0.1
      obtain ⟨i2, rfl⟩ := nat_of c2.1
      obtain ⟨i3, rfl⟩ := nat_of c3.1
      dsimp only
      refine u_seq (u_set (u_call ((ea_cons (ev_var rfl) (ea_cons (ev_ixl (i := 0) (ev_var rfl) ev_int hD2 rfl) (ea_cons (ev_ixl (i := 1) (ev_var rfl) ev_int hD2 rfl) ea_nil))) _ (Ex.refl _) _ fun H6 e6 => ?_)))
      obtain ⟨r1, r2, r3⟩ := TR.rdg_ok ss i0 (decide (z1 = 1))
      refine ⟨v2, s, i0, z1, rfl, (hv2.ex (e5.trans e6)).ts, by omega, by omega, fun v3 H7 e7 hv3 => ?_⟩
      have hD7 := e7 D2 _ (e6 D2 _ hD2)
      dsimp only
      refine u_seq (u_set (u_call ((ea_cons (x := v3) (ev_var rfl) (ea_cons (x := .int ((min i2 i3 : Nat) : Int)) (by
          rw [← minI]
          exact ev_cb (ea_cons (ev_ixl (i := 2) (ev_var rfl) ev_int hD7 rfl) (ea_cons (ev_ixl (i := 3) (ev_var rfl) ev_int hD7 rfl) ea_nil)) fun Ha _ Q k => ⟨_, _, rfl, k Ha (Ex.refl _)⟩)
        (ea_cons (x := .int ((max i2 i3 : Nat) : Int)) (by
          rw [← maxI]
          exact ev_cb (ea_cons (ev_ixl (i := 2) (ev_var rfl) ev_int hD7 rfl) (ea_cons (ev_ixl (i := 3) (ev_var rfl) ev_int hD7 rfl) ea_nil)) fun Ha _ Q k => ⟨_, _, rfl, k Ha (Ex.refl _)⟩) ea_nil))) _ (Ex.refl _) _ fun H8 e8 => ?_)))
      refine ⟨v3, _, min i2 i3, max i2 i3, rfl, (hv3.ex e8).ts, by omega, by omega, by omega, fun v4 H9 e9 hv4 => ?_⟩
      have hij : min i2 i3 ≤ max i2 i3 + 1 := by omega
      obtain ⟨ta, tb, q1, q2, q3⟩ := TR.opn_turn r1 (by omega) (TR.tn_tnr (r := TR.rdg s i0 (decide (z1 = 1))) hij)
      refine ⟨_, rfl, _, _, rfl, rfl, v4, _, many + 1, _, _, rfl, ((((e4.trans e5).trans e6).trans e7).trans e8).trans e9, hv4, TR.sg_tnr r1 hij, by rw [TR.tnr_len hij]; omega, ?_⟩
      rw [q2]
      refine ch_snoc hch ?_
      rw [← r3, q1]
      exact q3
  · rintro σ H4 ⟨v2, s, many, y6, y7, rfl, e4, hv2, ss, hsl, hch⟩
    have hD4 := e4 D1 _ hD3
    have hnp : (0 : Int) < (n : Int) := by omega
    have mods : ∀ x : Int, ∃ i : Nat, x % (n : Int) = (i : Int) ∧ i < n := fun x => by
      have m0 := Int.emod_nonneg x (show (n : Int) ≠ 0 by omega)
      have m1 := Int.emod_lt_of_pos x hnp
      exact ⟨(x % (n : Int)).toNat, by omega, by omega⟩
    obtain ⟨i1, hi1, li1⟩ := mods d1
    obtain ⟨i3, hi3, li3⟩ := mods d3
    refine u_seq (u_set (u_call ((ea_cons (x := v2) (ev_var rfl) (ea_cons (x := .int (i1 : Int)) (by
        rw [← hi1]
        exact ev_op (ev_cb (ea_cons (ev_ixl (i := 1) (ev_var rfl) ev_int hD4 rfl) ea_nil) fun Ha _ Q k => .inl ⟨_, rfl, k Ha (Ex.refl _)⟩) (ev_var rfl) (rv_I hnp))
      (ea_cons (ev_ixl (i := 2) (ev_var rfl) ev_int hD4 rfl) ea_nil))) _ (Ex.refl _) _ fun H5 e5 => ?_)))
    obtain ⟨r1, r2, r3⟩ := TR.rdg_ok ss i1 (decide (d2 = 1))
    refine ⟨v2, s, i1, d2, rfl, (hv2.ex e5).ts, by omega, by omega, fun v3 H6 e6 hv3 => ?_⟩
    generalize TR.rdg s i1 (decide (d2 = 1)) = s3 at r1 r2 r3 hv3
    rw [← r3] at hch
    obtain ⟨fa, ef, lf, gf⟩ := TR.opn_head sf (by omega)
    obtain ⟨fb, es, ls, gs⟩ := TR.opn_head r1 (by omega)
    have hlow := (TR.ch_low hch (by rw [ef]; exact gf)).2.2
    have e36 := (e4.trans e5).trans e6
    have hv1' := hv1.ex e36
    refine ⟨_, rfl, _, rfl, v1, v3, f, s3, rfl, hv1', hv3, sf, r1, by omega, by omega, by omega, fun H7 e7 => ?_⟩
    obtain ⟨T, hT⟩ : ∃ T, T = TR.dR (TR.rel (TR.opn f).tail (TR.opn s3).tail) := ⟨_, rfl⟩
    rw [← hT] at hlow ⊢
    have hD7 := e7 D1 _ (e6 D1 _ (e5 D1 _ hD4))
    dsimp only
    refine q_when (b := (!true || (decide ((T : Int) < 0) || decide ((many : Int) < (T : Int))))) (et_or (et_not (et_B (ev_call (ea_cons (ev_var rfl) ea_nil) fun Ha ea Q k E => ⟨_, rfl, k Ha (Ex.refl _)⟩))) fun _ => et_or (et_test (ev_op (ev_var rfl) ev_int rv_I0)) fun _ => et_test (ev_op (ev_var rfl) (ev_var rfl) rv_I0)) (fun h H8 e8 => ?_) (fun _ H8 e8 => ?_)
    · exfalso
      rw [Bool.not_true, Bool.false_or, Bool.or_eq_true, decide_eq_true_iff, decide_eq_true_iff] at h
      omega
    have hD8 := e8 D1 _ hD7
    refine u_seq (u_if (u_test (u_op (u_call (u_cons (u_call ((ea_cons (x := v1) (ev_var rfl) (ea_cons (x := .int (i3 : Int)) (by
        rw [← hi3]
        exact ev_op (ev_cb (ea_cons (ev_ixl (i := 3) (ev_var rfl) ev_int hD8 rfl) ea_nil) fun Ha _ Q k => .inl ⟨_, rfl, k Ha (Ex.refl _)⟩) (ev_var rfl) (rv_I hnp))
      (ea_cons (ev_ixl (i := 4) (ev_var rfl) ev_int hD8 rfl) ea_nil))) _ (Ex.refl _) _ fun H9 e9 => ?_)))))))
    obtain ⟨t1, t2, t3⟩ := TR.rdg_ok sf i3 (decide (d4 = 1))
    refine ⟨v1, f, i3, d4, rfl, (hv1'.ex ((e7.trans e8).trans e9)).ts, by omega, by omega, fun v5 H10 e10 hv5 => ?_⟩
    have e610 := ((e7.trans e8).trans e9).trans e10
    refine ⟨_, rfl, v5, v3, _, s3, rfl, hv5, hv3.ex e610, t1, r1, by omega, by omega, by omega, fun H11 e11 => ?_⟩
    rw [t3, ← hT]
    refine ⟨_, rfl, rfl, _, rfl, iteF' (by rw [decide_eq_true rfl]; rfl) ?_⟩
    have e611 := e610.trans e11
    dsimp only
    refine q_when (b := (decide ((13 : Int) < (n : Int)) || (decide ((8 : Int) < (n : Int)) && decide ((2 : Int) < (many : Int))))) (et_or (et_test (ev_op (ev_var rfl) ev_int rv_I0)) fun _ => et_and (et_test (ev_op (ev_var rfl) ev_int rv_I0)) fun _ => et_test (ev_op (ev_var rfl) ev_int rv_I0)) (fun h H12 e12 => ?_) (fun h H12 e12 => ?_)
    · exact q H12
    have hn13 : n ≤ 13 := by
      rw [Bool.or_eq_false_iff, decide_eq_false_iff_not] at h
      omega
    have e612 := e611.trans e12
    refine ⟨_, rfl, _, rfl, v1, v3, f, s3, rfl, hv1'.ex e612, hv3.ex e612, sf, r1, by omega, by omega, by omega, fun am qs H13 e13 ham hqs hpl hln => ?_⟩
    rw [← hT] at hln
    dsimp only
    refine q_when (b := (!true || !decide (V.int (((qs.map fun q => V.ref q.1).length : Nat) : Int) = V.int (T : Int)))) (et_or (et_not (et_B (ev_cb (ea_cons (ev_var rfl) (ea_cons ev_c ea_nil)) fun Ha ea Q k => ⟨.ref am, .ty "tuple", .type "tuple", .type "tuple", true, rfl, .ty _, .base (.tup (ea _ _ ham)), by rfl, k Ha (Ex.refl _)⟩)))
      fun _ => et_test (ev_op (ev_cb (ea_cons (ev_var rfl) ea_nil) fun Ha ea Q k => ⟨am, _, rfl, .inr (st_of (ea _ _ ham)), k Ha (Ex.refl _)⟩) (ev_var rfl) (rv_ne rfl))) (fun h H14 e14 => ?_) (fun _ H14 e14 => ?_)
    · exfalso
      rw [List.length_map, hln, decide_eq_true rfl] at h
      cases h
    have e614 := (e612.trans e13).trans e14
    refine ⟨_, rfl, v1, f, rfl, hv1'.ex e614, sf, by omega, by omega, fun vr H15 e15 hvr => ?_⟩
    rw [ef, hfl] at hvr
    have ham15 := e15 _ _ (e14 _ _ ham)
    have hqs15 : ∀ q ∈ qs, H15 q.1 = some (.tup (mvT 1 q.2)) ∧ q.2.1 ≤ q.2.2 ∧ q.2.2 + 1 < s3.length := fun q hq => ⟨e15 _ _ (e14 _ _ (hqs q hq).1), (hqs q hq).2⟩
    rw [ef, es] at hpl
    change TR.play (TR.rel fa fb) (qs.map (·.2)) = TR.srt (s3.length - 1) at hpl
    have plen : ∀ ms : List (Nat × Nat), (∀ m ∈ ms, m.1 ≤ m.2) → (TR.play fa ms).length = fa.length := fun ms hms => by
      have := (TR.play_rel gs ms fa gf (by omega) hms).2.2
      omega
    have hle : ∀ m ∈ qs.map (·.2), m.1 ≤ m.2 := fun m hm => by
      obtain ⟨q, hq, rfl⟩ := List.mem_map.mp hm
      exact (hqs q hq).2.1
    refine ⟨_, rfl, am, rfl, ⟨_, st_of ham15⟩, for_tup (K := K) (a := am) (xs := qs.map fun q => V.ref q.1)
      (fun i σ H' => ∃ (vr : V) (y11 : Option V), σ = [some (.ref a), some (.ref D1), some (.int (n : Int)), some v1, some v3, some (.int (many : Int)), y6, y7, some (.int (T : Int)), some (.ref am), some vr, y11] ∧ Ex H15 H' ∧ TS K H' vr ((n : Int) :: TR.play fa ((qs.map (·.2)).take i)))
      ⟨vr, none, rfl, Ex.refl _, hvr⟩ (fun i σ H' _ ⟨_, _, _, eH, _⟩ => st_of (eH _ _ ham15)) ?_ ?_⟩
    · rintro i x σ H' hi ⟨vr, y11, rfl, eH, hvr⟩
      rw [List.getElem?_map] at hi
      obtain ⟨m, hmi, rfl⟩ := Option.map_eq_some_iff.mp hi
      have hil := (List.getElem?_eq_some_iff.mp hmi).1
      obtain ⟨g1, g2, g3⟩ := hqs15 m (List.mem_of_getElem? hmi)
      have hm' := eH _ _ g1
      have hpt := plen ((qs.map (·.2)).take i) fun m hm => hle m (List.mem_of_mem_take hm)
      refine q_when (b := (!decide (V.str "turn" = V.str "turn") || (!decide (V.int (((mvT 1 m.2).length : Nat) : Int) = V.int 3) || (decide ((m.2.1 : Int) + 1 < 1) || (decide ((m.2.2 : Int) + 1 < (m.2.1 : Int) + 1) || decide ((n : Int) ≤ (m.2.2 : Int) + 1))))))
        (et_or (et_test (ev_op (ev_ix (i := 0) (ev_var rfl) ev_int hm' rfl) ev_c (rv_ne rfl))) fun _ =>
         et_or (et_test (ev_op (ev_cb (ea_cons (ev_var rfl) ea_nil) fun Ha ea Q k => ⟨m.1, _, rfl, .inr (st_of (ea _ _ hm')), k Ha (Ex.refl _)⟩) ev_int (rv_ne rfl))) fun _ =>
         et_or (et_test (ev_op (ev_ix (i := 1) (ev_var rfl) ev_int hm' rfl) ev_int rv_I0)) fun _ =>
         et_or (et_test (ev_op (ev_ix (i := 2) (ev_var rfl) ev_int hm' rfl) (ev_ix (i := 1) (ev_var rfl) ev_int hm' rfl) rv_I0)) fun _ =>
         et_test (ev_op (ev_ix (i := 2) (ev_var rfl) ev_int hm' rfl) (ev_var rfl) rv_I0)) (fun h Ha ea => ?_) (fun _ Ha ea => ?_)
      · exfalso
        rw [decide_eq_true rfl, Bool.not_true, Bool.false_or, show V.int (((mvT 1 m.2).length : Nat) : Int) = V.int 3 from rfl, decide_eq_true rfl, Bool.not_true, Bool.false_or, Bool.or_eq_true, Bool.or_eq_true, decide_eq_true_iff, decide_eq_true_iff, decide_eq_true_iff] at h
        omega
      · have hm2 := ea _ _ hm'
        refine u_set (u_call ((ea_cons (x := vr) (ev_var rfl) (ea_cons (ev_ix (i := 1) (ev_var rfl) ev_int hm2 rfl) (ea_cons (ev_ix (i := 2) (ev_var rfl) ev_int hm2 rfl) ea_nil))) _ (Ex.refl _) _ fun Hb eb => ?_))
        refine ⟨vr, _, m.2.1 + 1, m.2.2 + 1, rfl, hvr.ex (ea.trans eb), by rw [List.length_cons, hpt]; omega, by omega, by rw [List.length_cons, hpt]; omega, fun vn Hc ec hvn => ?_⟩
        refine ⟨vn, _, rfl, ((eH.trans ea).trans eb).trans ec, ?_⟩
        rw [TR.tnr_cons] at hvn
        have : (qs.map (·.2)).take (i + 1) = (qs.map (·.2)).take i ++ [m.2] := by
          rw [List.take_add_one, List.getElem?_map, hmi]
          rfl
        rw [this]
        unfold TR.play at hvn ⊢
        rw [List.foldl_append]
        exact hvn.ts
    · rintro σ H' ⟨vr, y11, rfl, eH, hvr⟩
      rw [List.take_of_length_le (by simp)] at hvr
      have hend := TR.play_end gf gs (by omega) hle (by rw [hpl]; congr 1; omega)
      rw [hend] at hvr
      refine ⟨_, rfl, _, rfl, v3, s3, rfl, hv3.ex ((e614.trans e15).trans eH), r1, by omega, by omega, fun vo Hd ed hvo => ?_⟩
      refine eqS (hvr.ex ed) hvo ?_
      rw [es, show ((s3.length : Nat) : Int) = (n : Int) by omega, decide_eq_true rfl]
      exact q Hd
end
end TW

/-! from H_Run -/
set_option maxRecDepth 100000
set_option maxHeartbeats 0
namespace TW
open PySem PySem.Spec PyProof.Rows L2
def dOf (n : Str) (i : Nat) : He.DefD := ⟨(n, none), n, n, defArgs (topS i), defBody (topS i), defScope (topS i), [], []⟩

def fn : List He.DefD := [dOf "sorted_row" 6, dOf "need_same_length" 7, dOf "check_signed" 9, dOf "turned" 10, dOf "relative_signed" 11, dOf "marks" 13, dOf "light_lines" 14, dOf "dark_partner" 15, dOf "light_partners" 16, dOf "drawing_rings" 17, dOf "is_oriented" 19, dOf "crosses" 20, dOf "is_short" 21, dOf "connected_with" 22, dOf "parts_of" 23, dOf "is_bad" 24, dOf "bad_parts" 25, dOf "round_of" 27, dOf "hurdles_among" 28, dOf "hurdles" 29, dOf "great_hurdles" 30, dOf "is_fortress" 31, dOf "turns_to_sorted" 34, dOf "least_turns" 35, dOf "better_turn" 36, dOf "turn_script" 37, dOf "opened" 39, dOf "least_closed_turns" 40, dOf "closed_turn_script" 41, dOf "_law_cell" 43, dOf "_law_digits" 44, dOf "_law_rich" 45, dOf "_law_row" 46, dOf "_law_signed" 47, dOf "_law_turned" 48, dOf "_law_is_integer" 49, dOf "_law_mixed" 50, dOf "_law_any_signed" 51, dOf "_law_reading" 52, dOf "law" 53]
def fa1 : List He.Fa := [.glo "sorted_row", .glo "need_same_length", .glo "check_signed", .glo "turned", .glo "relative_signed", .glo "marks", .glo "light_lines", .glo "dark_partner", .glo "light_partners", .glo "drawing_rings", .glo "is_oriented", .glo "crosses", .glo "is_short", .glo "connected_with", .glo "parts_of", .glo "is_bad", .glo "bad_parts", .glo "round_of", .glo "hurdles_among", .glo "hurdles", .glo "great_hurdles", .glo "is_fortress", .glo "turns_to_sorted", .glo "least_turns", .glo "better_turn", .glo "turn_script", .glo "opened"]
def fa2 : List He.Fa := [.glo "least_closed_turns", .glo "closed_turn_script", .glo "_law_cell", .glo "_law_digits", .glo "_law_rich", .glo "_law_row", .glo "_law_signed", .glo "_law_turned", .glo "_law_is_integer", .glo "_law_mixed", .glo "_law_any_signed", .glo "_law_reading", .glo "law", .free "abs", .free "any", .free "bool", .free "int", .free "isinstance", .free "len", .free "list", .free "max", .free "min", .free "range", .free "sorted", .free "tuple", .int "MOST_PIECES" 40, .int "MOST_FOR_SCRIPTS" 12]
def fa : List He.Fa := fa1 ++ fa2
def names : List PySem.Str := (["TurnedrowsError", "InvalidRow", "OutOfRange", "MOST_PIECES", "sorted_row", "need_same_length", "check_signed", "turned", "relative_signed", "marks", "light_lines", "dark_partner", "light_partners", "drawing_rings", "is_oriented", "crosses", "is_short", "connected_with", "parts_of", "is_bad", "bad_parts", "round_of"] : List PySem.Str) ++ (["hurdles_among", "hurdles", "great_hurdles", "is_fortress", "MOST_FOR_SCRIPTS", "turns_to_sorted", "least_turns", "better_turn", "turn_script", "opened", "least_closed_turns", "closed_turn_script", "_law_cell", "_law_digits", "_law_rich", "_law_row", "_law_signed", "_law_turned", "_law_is_integer", "_law_mixed", "_law_any_signed", "_law_reading"] : List PySem.Str)
abbrev R : PySem.W.OpenRow := PySem.W.OpenLaw.row PySem.Challenge.rw_turnedrows_k25_whole_closed_turns_none_f
abbrev hk : PySem.W.Hook := He.hookD 4 fa fn
def ob (s : PySem.W.SharedT) : He.AlD := He.obsDG 4 fa fn (HandSHeadRun.getT s)
theorem ob_eq (s : PySem.W.SharedT) : ob s = hk.obs s.abs := He.obsDG_eq (HandSHeadRun.getT_eq s)
theorem run (w : World) : HandSHeadRun.RunEq R (PySem.W.view R.prog [53]) hk ob 4000 names w := by
  intro os
  kernel_rfl
end TW

/-! from W23 -/
set_option maxRecDepth 100000
set_option maxHeartbeats 4000000
namespace TW
open PySem PySem.Spec PyProof.Rows L2 Evl

section
variable {P : Program} {w : World} {K : PySem.W.Frag} {h : Heap} {mg : Str → Option Value} {f : Addr}
theorem dfn (X : K.In h) (G : h.Ns mainGlobals mg) (c : He.SaysD fa fn K) (i : Nat) (x : Str) (n : Nat) (h1 : fn[i]? = some (dOf x n)) (h2 : fa[i]? = some (.glo x)) : Dfn K mg x (topS n) := by
  obtain ⟨fd, F⟩ := c.def_ i (d := dOf x n) h1
  exact ⟨_, fd, F, He.glo_ok X G (c.fact i h2)⟩
theorem bis (X : K.In h) (G : h.Ns mainGlobals mg) (c : He.SaysD fa fn K) : Bi mg where
  b_abs := He.free_ok X G (c.fact 40 (f := .free "abs") rfl)
  b_any := He.free_ok X G (c.fact 41 (f := .free "any") rfl)
  b_bool := He.free_ok X G (c.fact 42 (f := .free "bool") rfl)
  b_int := He.free_ok X G (c.fact 43 (f := .free "int") rfl)
  b_isi := He.free_ok X G (c.fact 44 (f := .free "isinstance") rfl)
  b_len := He.free_ok X G (c.fact 45 (f := .free "len") rfl)
  b_list := He.free_ok X G (c.fact 46 (f := .free "list") rfl)
  b_max := He.free_ok X G (c.fact 47 (f := .free "max") rfl)
  b_min := He.free_ok X G (c.fact 48 (f := .free "min") rfl)
  b_range := He.free_ok X G (c.fact 49 (f := .free "range") rfl)
  b_sorted := He.free_ok X G (c.fact 50 (f := .free "sorted") rfl)
  b_tuple := He.free_ok X G (c.fact 51 (f := .free "tuple") rfl)
  c40 := He.int_ok X G (c.fact 52 (f := .int "MOST_PIECES" 40) rfl)
  c12 := He.int_ok X G (c.fact 53 (f := .int "MOST_FOR_SCRIPTS" 12) rfl)
theorem facts (X : K.In h) (G : h.Ns mainGlobals mg) (hfa : mg ("law" : Str) = some (.ref f)) (c : He.SaysD fa fn K) :
    ∃ fd : FuncData, (∀ (s : Shared) (v : Value), BindsTo s fd ⟨[v], []⟩ [("_law_script", v)]) ∧ ∀ base : Heap, K.In base → base.Ns mainGlobals mg → FnOk P w K mg base CX0 11 f fd ["_law_script"] (spLaw K) := by
  have B := bis X G c
  obtain ⟨fd, F⟩ := c.def_ 39 (d := dOf "law" 53) rfl
  have e := hfa.symm.trans (He.glo_ok X G (c.fact 39 (f := .glo "law") rfl))
  cases e
  have b := FunD.bindsA (ps := ["_law_script"]) F fun _ _ _ _ _ _ us hl => match us, hl with | [_], _ => rfl
  refine ⟨fd, fun s v => b s [v] rfl, fun base _ _ => ?_⟩
  have sorted := cl_sorted (P := P) (w := w) (base := base) (dfn X G c 0 "sorted_row" 6 rfl rfl) B
  have need := cl_need (P := P) (w := w) (base := base) (dfn X G c 1 "need_same_length" 7 rfl rfl) B
  have check := cl_check (P := P) (w := w) (base := base) (dfn X G c 2 "check_signed" 9 rfl rfl) B
  have turned := cl_turned (P := P) (w := w) (base := base) (dfn X G c 3 "turned" 10 rfl rfl) B
  have rel := cl_rel (dfn X G c 4 "relative_signed" 11 rfl rfl) B check need
  have marks := cl_marks (dfn X G c 5 "marks" 13 rfl rfl) B check
  have light := cl_light (dfn X G c 6 "light_lines" 14 rfl rfl) B marks
  have dark := cl_dark (P := P) (w := w) (base := base) (dfn X G c 7 "dark_partner" 15 rfl rfl) B
  have part := cl_part (dfn X G c 8 "light_partners" 16 rfl rfl) B light
  have rings := cl_rings (dfn X G c 9 "drawing_rings" 17 rfl rfl) B part dark
  have ori := cl_ori (P := P) (w := w) (base := base) (dfn X G c 10 "is_oriented" 19 rfl rfl) B
  have crosses := cl_crosses (P := P) (w := w) (base := base) (dfn X G c 11 "crosses" 20 rfl rfl) B
  have short := cl_short (P := P) (w := w) (base := base) (dfn X G c 12 "is_short" 21 rfl rfl) B
  have conn := cl_conn (dfn X G c 13 "connected_with" 22 rfl rfl) B crosses
  have parts := cl_parts (dfn X G c 14 "parts_of" 23 rfl rfl) B conn
  have isbad := cl_isbad (dfn X G c 15 "is_bad" 24 rfl rfl) B ori short
  have bad := cl_bad (dfn X G c 16 "bad_parts" 25 rfl rfl) B light parts isbad
  have round := cl_round (P := P) (w := w) (base := base) (dfn X G c 17 "round_of" 27 rfl rfl) B
  have ha := cl_ha (dfn X G c 18 "hurdles_among" 28 rfl rfl) B round
  have hur := cl_hur (dfn X G c 19 "hurdles" 29 rfl rfl) B light bad ha
  have great := cl_great (dfn X G c 20 "great_hurdles" 30 rfl rfl) B light bad ha
  have fort := cl_fort (dfn X G c 21 "is_fortress" 31 rfl rfl) B hur great
  have turns := cl_turns (dfn X G c 22 "turns_to_sorted" 34 rfl rfl) B rings hur fort
  have least := cl_least (dfn X G c 23 "least_turns" 35 rfl rfl) B turns rel
  have better := cl_better (dfn X G c 24 "better_turn" 36 rfl rfl) B turns turned
  have script := cl_script (dfn X G c 25 "turn_script" 37 rfl rfl) B rel turns sorted better turned
  have opened := cl_opened (dfn X G c 26 "opened" 39 rfl rfl) B check
  have lc := cl_lc (dfn X G c 27 "least_closed_turns" 40 rfl rfl) B opened need least
  have cs := cl_cs (dfn X G c 28 "closed_turn_script" 41 rfl rfl) B opened need script
  have cell := cl_cell (P := P) (w := w) (base := base) (dfn X G c 29 "_law_cell" 43 rfl rfl) B
  have digits := cl_digits (P := P) (w := w) (base := base) (dfn X G c 30 "_law_digits" 44 rfl rfl) B
  have rich := cl_rich (P := P) (w := w) (base := base) (dfn X G c 31 "_law_rich" 45 rfl rfl) B
  have row := cl_row (dfn X G c 32 "_law_row" 46 rfl rfl) B rich
  have signed := cl_signed (dfn X G c 33 "_law_signed" 47 rfl rfl) B rich row
  have tn := cl_tn (P := P) (w := w) (base := base) (dfn X G c 34 "_law_turned" 48 rfl rfl) B
  have isi := cl_isi (P := P) (w := w) (base := base) (dfn X G c 35 "_law_is_integer" 49 rfl rfl) B
  have mixed := cl_mixed (dfn X G c 36 "_law_mixed" 50 rfl rfl) B rich
  have any := cl_any (dfn X G c 37 "_law_any_signed" 51 rfl rfl) B signed mixed rich tn
  have rd := cl_rd (P := P) (w := w) (base := base) (dfn X G c 38 "_law_reading" 52 rfl rfl) B
  exact ok_law F B cell rich digits any rd tn lc isi cs opened
end
end TW
open PySem PySem.W PySem.Calls PyProof.Rows
theorem PySem.Challenge.cw_turnedrows_k25_whole_closed_turns_none_f_holds : PySem.Challenge.rw_turnedrows_k25_whole_closed_turns_none_f.Holds := by
  w_on; o_law
  refine HandSHeadRun.head_any (r := TW.R) (q := view TW.R.prog [53]) (H := TW.hk) (ob := TW.ob) (M := 4000) (loose := TW.names) (d := HandSHeadRun.topDef TW.R.prog 53) (kwd := []) TW.ob_eq
    (by kernel_rfl) (fun s => by kernel_rfl) TW.run (by kernel_rfl) (by kernel_rfl) (by kernel_rfl) (by rfl) (by first | assumption | decide +kernel) (by decide +kernel) ⟨rfl, rfl, rfl, rfl, rfl, by decide +kernel⟩ ?hw ?hc
  case hw => w_witness2
  case hc =>
    refine L2.walk_ofE (l := PySem.Challenge.rw_turnedrows_k25_whole_closed_turns_none_f) (n := 63) (k := 11) (x := "_law_script") (CX := L2.CX0) rfl (by decide) (by kernel_rfl) ⟨rfl, by decide, by decide⟩ ?F (fun _ _ _ _ z => z)
    intro w mg fa h Y G hmg0
    obtain ⟨K, KX, c⟩ := Y
    have hmg : mg ("law" : PySem.Str) = some (.ref fa) := by
      have e : (HandSHeadRun.topDef TW.R.prog 53).name = ("law" : PySem.Str) := by kernel_rfl
      rw [← e]
      exact hmg0
    obtain ⟨fd, hb, hF⟩ := TW.facts (P := (PySem.Challenge.rw_turnedrows_k25_whole_closed_turns_none_f).prog) (w := w) KX G hmg c
    exact ⟨K, fd, TW.spLaw K, KX, hb, fun H a ns hl _ hS => ⟨a, ns, rfl, hS, fun _ => rfl⟩, hF⟩

