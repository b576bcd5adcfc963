/- Part 4 of a proof by a proved abstract interpreter of the law's functions: the law's statement, proved. No condition. -/
import Derived.Test.YtdpfhchmmlhhlaaAoA
import Derived.Test.YtdpfhchmmlhhlaaAoC
import Derived.Test.YtdpfhchmmlhhlaaRows
import Derived.WalkKit
import Derived.ProofKit
import Derived.ShutString
import Derived.ChangeOld
import Derived.Below
import Derived.SizedLaws
namespace Go.AI
open Go Go.Proofs Go.RowKit Go.Sort
set_option linter.unusedVariables false
set_option maxRecDepth 20000

theorem EM_keys (l : List En) : ∀ p ∈ EM l, p.1.length = 3 := fun p hp => by
  obtain ⟨x, _, rfl⟩ := List.mem_map.1 hp
  rfl
theorem EM_length (l : List En) : (EM l).length = l.length := List.length_map _
theorem EM_get {l : List En} {j : Nat} (h : j < l.length) : (EM l)[j]? = some (keyI (nth l j), valI (nth l j)) := by
  unfold EM
  rw [List.getElem?_map, List.getElem?_eq_getElem h, nth_get h]
  rfl
def outS (M : List En) (seen : List Nat) : List En := seen.reverse.map (nth M)
theorem outS_len (M : List En) (seen : List Nat) : (outS M seen).length = seen.length := by simp [outS]
theorem outS_cons (M : List En) (seen : List Nat) (j : Nat) : outS M (j :: seen) = outS M seen ++ [nth M j] := by simp [outS]
theorem mem_outS {M : List En} {seen : List Nat} (hall : ∀ j, j < M.length → j ∈ seen) (hlt : ∀ j ∈ seen, j < M.length) (z : En) : z ∈ outS M seen ↔ z ∈ M := by
  unfold outS
  simp only [List.mem_map, List.mem_reverse]
  constructor
  · rintro ⟨j, hj, rfl⟩
    exact nth_mem (hlt j hj)
  · intro h
    obtain ⟨i, hi, e⟩ := mem_nth h
    exact ⟨i, hall i hi, e⟩
theorem DK_outS {M : List En} {seen : List Nat} (hn : seen.Nodup) (hlt : ∀ j ∈ seen, j < M.length) (hd : DK M) : DK (outS M seen) := by
  unfold outS DK
  rw [List.pairwise_map]
  have hn' : seen.reverse.Nodup := by unfold List.Nodup; rw [List.pairwise_reverse]; exact hn.imp fun h => Ne.symm h
  refine List.Pairwise.imp_of_mem ?_ hn'
  intro i j hi hj hij
  have h1 := hlt i (List.mem_reverse.1 hi)
  have h2 := hlt j (List.mem_reverse.1 hj)
  rw [nth_get h1, nth_get h2]
  rcases Nat.lt_or_gt_of_ne hij with h | h
  · exact List.pairwise_iff_getElem.1 hd i j h1 h2 h
  · exact fun e => List.pairwise_iff_getElem.1 hd j i h2 h1 h e.symm
theorem nodup_len : ∀ {n : Nat} {l : List Nat}, l.Nodup → (∀ j ∈ l, j < n) → l.length ≤ n
  | 0, l, _, h => by
    cases l with
    | nil => exact Nat.le_refl _
    | cons x l => have := h x (List.mem_cons_self ..); omega
  | n + 1, l, hn, h => by
    by_cases hm : n ∈ l
    · have h1 := nodup_len (n := n) (l := l.erase n) (hn.erase n) fun j hj => by
        have h2 := (hn.mem_erase_iff).1 hj
        have := h j h2.2
        have := h2.1
        omega
      rw [List.length_erase_of_mem hm] at h1
      omega
    · have h1 := nodup_len (n := n) hn fun j hj => by
        have := h j hj
        have : j ≠ n := fun e => hm (e ▸ hj)
        omega
      omega

set_option maxHeartbeats 4000000 in
theorem spec15 (a b : List En) (ha : a.length ≤ 1000000000) (hb : b.length ≤ 1000000000) {s : List En} {e : Int} (hr : mergeP a b = (s, e)) : Spec Try.prog 15 [jv a, jv b] (resJ s e) := by
  refine spT (r := [_, _]) Try.func15 rfl Try.ntmps15 Try.results15 rfl (by kernel_rfl) (V_run _ (enOK _) 100 ?_)
  have bad : (validM a = false ∨ validM b = false) → s = [] ∧ e = 320 := by
    intro h
    unfold mergeP at hr
    rw [if_pos h] at hr
    cases hr; exact ⟨rfl, rfl⟩
  refine Way.spec (CallS.by (spec13 _ ha) rfl ?_)
  refine Br.not (fun h => ?_) (fun h => ?_)
  · obtain ⟨rfl, rfl⟩ := bad (.inl h)
    exact Out.mk ⟨rfl, rfl, True.intro⟩
  refine Way.spec (CallS.by (spec13 _ hb) rfl ?_)
  refine Br.not (fun h2 => ?_) (fun h2 => ?_)
  · obtain ⟨rfl, rfl⟩ := bad (.inr h2)
    exact Out.mk ⟨rfl, rfl, True.intro⟩
  have hres : mergeP a b = if 120 < (mrg a b).length then ([], 320) else (mrg a b, 0) := by
    unfold mergeP
    rw [if_neg (by simp [h, h2])]
  rw [hr] at hres
  have la := validM_len h
  have lb := validM_len h2
  have sa := validM_SK h
  have sb := validM_SK h2
  clear bad hr h h2
  have hmsp := mI_spec sa sb b.length (Nat.le_refl _)
  have hsort : ∀ l, DK l → (∀ z, z ∈ l ↔ z ∈ mI a b b.length) → sortE cmpKey l = mrg a b := fun l => sort_mrg sa sb
  have hlenM : (mI a b b.length).length = (mrg a b).length := by
    rw [← hsort _ hmsp.1 fun _ => Iff.rfl, sortE_length swoKey]
  refine Way.new (CallN.by (spec40 a ha) ?_)
  rw [knownI_EM sa _ (Nat.le_refl _), List.take_length]
  refine V_loop _ (fun i : Nat => ⟨[(6, .map 0), (24, jv b), (25, .i b.length), (26, .i i)], [(0, some (.mp (EM (mI a b i))))], 1⟩)
    (fun i => i ≤ b.length) (fun i => b.length - i) 0 (Nat.zero_le _) ?_ ?_
  · exact Le_of _ [(0, some 0)] [] ⟨rfl, True.intro, ⟨rfl, ⟨rfl, rfl, fun _ _ => rfl⟩, rfl, rfl, True.intro⟩, ⟨⟨rfl, rfl⟩, True.intro⟩⟩
  · intro i hi
    have hlen := mI_len a b i
    have hnext : mI a b (i + 1) = stepE (mI a b i) (nth b i) := rfl
    unfold stepE at hnext
    generalize hacc : mI a b i = acc at *
    refine V_run _ (enOK _) 200 ?_
    refine Br.dec (fun hlt => ?_) (fun hlt => ?_)
    · refine Ix.by rfl (by omega) ?_
      refine Way.spec (CallS.by (spec41 _) rfl ?_)
      refine Bd.mk ⟨EM_keys _, by decide⟩ ?_
      cases hg : getE acc (nth b i) with
      | none =>
        rw [hg] at hnext
        simp only at hnext
        refine Lk.none (by rw [getM_EM, hg]; rfl) ?_
        refine V_draw _ (enOK _) (by kernel_rfl) ?_
        refine Way.spec (CallS.by (spec41 _) rfl ?_)
        refine Bd.mk (EM_keys _) ?_
        refine And.intro (by kernel_rfl) (V_run _ (enOK _) 100 ?_)
        refine Ar.nat (i + 1) (by omega) (by omega) ?_
        refine ⟨i + 1, by omega, by omega, Le_of _ [(0, some 0)] [] ⟨rfl, True.intro, ⟨rfl, ⟨rfl, rfl, fun _ _ => rfl⟩, rfl, rfl, True.intro⟩, ⟨⟨rfl, ?_⟩, True.intro⟩⟩⟩
        show putM (EM acc) (keyI (nth b i)) (valI (nth b i)) = EM (mI a b (i + 1))
        rw [hnext, putM_EM]
      | some y =>
        rw [hg] at hnext
        simp only at hnext
        refine Lk.some (valI y) (by rw [getM_EM, hg]; rfl) ?_
        refine Way.spec (CallS.by (spec42 (nth b i) y) rfl ?_)
        refine Br.dec (fun hlr => ?_) (fun hlr => ?_)
        · rw [if_pos (show ltRest (nth b i) y = true from decide_eq_true hlr)] at hnext
          refine V_draw _ (enOK _) (by kernel_rfl) ?_
          refine Way.spec (CallS.by (spec41 _) rfl ?_)
          refine Bd.mk (EM_keys _) ?_
          refine And.intro (by kernel_rfl) (V_run _ (enOK _) 100 ?_)
          refine Ar.nat (i + 1) (by omega) (by omega) ?_
          refine ⟨i + 1, by omega, by omega, Le_of _ [(0, some 0)] [] ⟨rfl, True.intro, ⟨rfl, ⟨rfl, rfl, fun _ _ => rfl⟩, rfl, rfl, True.intro⟩, ⟨⟨rfl, ?_⟩, True.intro⟩⟩⟩
          show putM (EM acc) (keyI (nth b i)) (valI (nth b i)) = EM (mI a b (i + 1))
          rw [hnext, putM_EM]
        · rw [if_neg (show ¬ ltRest (nth b i) y = true from fun h => hlr (of_decide_eq_true h))] at hnext
          refine Ar.nat (i + 1) (by omega) (by omega) ?_
          refine ⟨i + 1, by omega, by omega, Le_of _ [(0, some 0)] [] ⟨rfl, True.intro, ⟨rfl, ⟨rfl, rfl, fun _ _ => rfl⟩, rfl, rfl, True.intro⟩, ⟨⟨rfl, ?_⟩, True.intro⟩⟩⟩
          show EM acc = EM (mI a b (i + 1))
          rw [hnext]
    · have : i = b.length := by omega
      subst this
      subst hacc
      clear hnext hi hlt
      generalize hM : mI a b b.length = M at *
      refine V_run _ (enOK _) 200 ?_
      have hEl := EM_length M
      refine Br.dec (fun hlt => ?_) (fun hlt => ?_)
      · rw [if_pos (by omega)] at hres
        cases hres
        exact Out.mk ⟨rfl, rfl, True.intro⟩
      rw [if_neg (by omega)] at hres
      cases hres
      refine V_loop _ (fun seen : List Nat => ⟨[(11, .own 1 0 (outS M seen).length), (54, .ptr 2 0 0)], [(0, some (.mp (EM M))), (1, some (.arr 47 6 (outS M seen).length fun q => (nth (outS M seen) q).c)), (2, some (.it 0 (EM M).length seen))], 3⟩)
        (fun seen => seen.Nodup ∧ ∀ j ∈ seen, j < M.length) (fun seen => M.length - seen.length) [] ⟨List.nodup_nil, fun _ h => by cases h⟩ ?_ ?_
      · exact Le_of _ [(0, some 0), (1, none), (2, some 1)] [] ⟨rfl, True.intro, ⟨⟨rfl, rfl, rfl⟩, ⟨rfl, rfl, rfl⟩, True.intro⟩, ⟨⟨rfl, rfl⟩, ⟨rfl, rfl⟩, ⟨rfl, rfl, rfl, rfl⟩, True.intro⟩⟩
      rintro seen ⟨hnd, hlt'⟩
      have hsl := nodup_len hnd hlt'
      have hol := outS_len M seen
      refine V_run _ (enOK _) 200 ?_
      refine V_next _ (enOK _) rfl rfl rfl rfl rfl rfl rfl rfl (fun j hj hns => V_run _ (enOK _) 200 ?_) (fun hall => V_run _ (enOK _) 200 ?_)
      · have hj' : j < M.length := by omega
        have hsl2 := nodup_len (n := M.length) (List.nodup_cons.2 ⟨hns, hnd⟩) (fun k hk => by
          rcases List.mem_cons.1 hk with rfl | hk
          · exact hj'
          · exact hlt' k hk)
        simp only [List.length_cons] at hsl2
        refine Bd.mk ⟨rfl, rfl, rfl⟩ ?_
        refine Pk.by (EM_get hj') ?_
        refine Bd.mk (Nat.le_refl _) ?_
        refine Bd.mk ⟨Nat.le_refl _, (show ((outS M seen).length + 1) * 48 ≤ 140737488355328 from by omega)⟩ ?_
        refine ⟨j :: seen, ⟨List.nodup_cons.2 ⟨hns, hnd⟩, fun k hk => ?_⟩, ?_, Le_of _ [(0, some 0), (1, some 5), (2, some 2)] [] ⟨rfl, True.intro, ⟨⟨rfl, rfl, ?_⟩, ⟨rfl, rfl, rfl⟩, True.intro⟩, ⟨⟨rfl, rfl⟩, ⟨rfl, rfl, rfl, ?_, fun q hq => ?_⟩, ⟨rfl, rfl, rfl, rfl⟩, True.intro⟩⟩⟩
        · rcases List.mem_cons.1 hk with rfl | hk
          · exact hj'
          · exact hlt' k hk
        · simp only [List.length_cons]; omega
        · rw [outS_cons]; simp
        · rw [outS_cons]; simp
        · rw [outS_cons]
          exact joinRows_snoc (fun x : En => x.c) (outS M seen) (nth M j) q hq _ rfl
      · have hS := hsort (outS M seen) (DK_outS hnd hlt' hmsp.1) (fun z => mem_outS (fun j hj => hall j (by omega)) hlt' z)
        have hSl : (outS M seen).length = (mrg a b).length := by rw [← hS, sortE_length swoKey]
        refine V_run _ (enOK _) 200 ?_
        refine Way.fx ?_
        refine ⟨_, _, _, _, fx43 spec37 swoKey (outS M seen) rfl (Nat.le_refl _) (by omega) (fun q _ => rfl), ?_⟩
        rw [hS]
        refine Bd.mk (by omega) (Out.mk ⟨⟨rfl, hSl, fun _ _ => rfl⟩, rfl, True.intro⟩)

end Go.AI

namespace Go.AI
open Go Go.Proofs Go.RowKit
set_option linter.unusedVariables false
set_option maxRecDepth 20000

abbrev bP (x : Int) : PV := .rp 1 1 (fun _ => [.i x]) 0 0
/-- What History takes out. -/
def delP (tr en' : Int) (x : En) : Bool := decide (x.t ≠ tr) || decide (en' ≤ x.a)

theorem spec47 (x : En) (tr en' : Int) : Spec Try.prog 47 [x.v, .pv (bP tr), .pv (bP en')] (.b (delP tr en' x)) := by
  refine spT (r := [.b _]) Try.func47 rfl Try.ntmps47 Try.results47 rfl (by kernel_rfl) (V_run _ (enOK _) 100 ?_)
  repeat' first
    | refine Bd.mk (by decide) ?_
    | refine Br.ne (fun h => ?_) (fun h => ?_)
    | refine Br.mk (fun h => ?_) (fun h => ?_)
  all_goals
    refine Out.mk ⟨?_, True.intro⟩
    refine congrArg Value.bool ?_
    unfold delP
    rw [Bool.eq_iff_iff]
    simp at *
    try omega

theorem spec70 (l : List En) (hl : l.length ≤ 1000000000) (tr en' : Int) {r : Int} (hr : (r = -1 ∧ ∀ k, k < l.length → delP tr en' (nth l k) = false) ∨ ∃ i : Nat, r = i ∧ i < l.length ∧ delP tr en' (nth l i) = true ∧ ∀ k, k < i → delP tr en' (nth l k) = false) :
    Spec Try.prog 70 [jv l, .pv (.fn (.func 47) [bP tr, bP en'])] (.i r) := by
  refine spT (r := [.i _]) Try.func70 rfl Try.ntmps70 Try.results70 rfl (by kernel_rfl) (V_run _ (enOK _) 100 ?_)
  refine V_loop _ (fun i : Nat => ⟨[(0, jv l), (1, .pv (.fn (.func 47) [bP tr, bP en'])), (7, .i l.length), (8, .i i)], [], 0⟩) (fun i => i ≤ l.length ∧ ∀ k, k < i → delP tr en' (nth l k) = false) (fun i => l.length - i) 0 ⟨Nat.zero_le _, fun _ h => absurd h (Nat.not_lt_zero _)⟩ ?_ ?_
  · exact Le_of _ [] [] ⟨rfl, True.intro, ⟨⟨rfl, rfl, fun _ _ => rfl⟩, rfl, rfl, rfl, True.intro⟩, True.intro⟩
  rintro i ⟨hi, hok⟩
  refine V_run _ (enOK _) 100 ?_
  refine Br.dec (fun hlt => ?_) (fun hlt => ?_)
  · refine Ix.by rfl (by omega) ?_
    refine Way.spec (CallS.by (spec47 _ _ _) rfl ?_)
    refine Br.mk (fun h => ?_) (fun h => ?_)
    · have : r = i := by
        rcases hr with ⟨rfl, h2⟩ | ⟨j, rfl, h1, h2, h3⟩
        · rw [h2 i (by omega)] at h; cases h
        · rcases Nat.lt_trichotomy i j with h4 | h4 | h4
          · rw [h3 i h4] at h; cases h
          · rw [h4]
          · rw [hok j h4] at h2; cases h2
      subst this
      exact Out.mk ⟨rfl, True.intro⟩
    · refine Ar.nat (i + 1) (by omega) (by omega) ?_
      refine ⟨i + 1, ⟨by omega, fun k hk => ?_⟩, by omega, Le_of _ [] [] ⟨rfl, True.intro, ⟨⟨rfl, rfl, fun _ _ => rfl⟩, rfl, rfl, rfl, True.intro⟩, True.intro⟩⟩
      by_cases e : k = i
      · subst e; exact h
      · exact hok k (by omega)
  · have : i = l.length := by omega
    subst this
    have : r = -1 := by
      rcases hr with ⟨rfl, _⟩ | ⟨j, rfl, h1, h2, h3⟩
      · rfl
      · rw [hok j h1] at h2; cases h2
    subst this
    refine V_run _ (enOK _) 100 ?_
    exact Out.mk ⟨rfl, True.intro⟩

theorem mem_nthE {l : List En} {x : En} (h : x ∈ l) : ∃ i, i < l.length ∧ nth l i = x := by
  obtain ⟨i, hi, e⟩ := List.mem_iff_getElem.1 h
  exact ⟨i, hi, by simp [nth, hi, e]⟩
theorem idx_ex (p : En → Bool) (l : List En) : (∀ k, k < l.length → p (nth l k) = false) ∨ ∃ i, i < l.length ∧ p (nth l i) = true ∧ ∀ k, k < i → p (nth l k) = false := by
  by_cases h : ∃ i, i < l.length ∧ p (nth l i) = true
  · right
    have key : ∀ n, (∃ i, i ≤ n ∧ i < l.length ∧ p (nth l i) = true) → ∃ i, i < l.length ∧ p (nth l i) = true ∧ ∀ k, k < i → p (nth l k) = false := by
      intro n
      induction n with
      | zero =>
        rintro ⟨i, h1, h2, h3⟩
        exact ⟨i, h2, h3, fun k hk => by omega⟩
      | succ n ih =>
        rintro ⟨i, h1, h2, h3⟩
        by_cases h4 : ∃ j, j ≤ n ∧ j < l.length ∧ p (nth l j) = true
        · exact ih h4
        · refine ⟨i, h2, h3, fun k hk => ?_⟩
          cases e : p (nth l k) with
          | false => rfl
          | true => exact absurd ⟨k, by omega, by omega, e⟩ h4
    obtain ⟨i, h1, h2⟩ := h
    exact key i ⟨i, Nat.le_refl _, h1, h2⟩
  · left
    intro k hk
    cases e : p (nth l k) with
    | false => rfl
    | true => exact absurd ⟨k, hk, e⟩ h

def keepP (tr en' : Int) (l : List En) : List En := l.filter fun x => !delP tr en' x

theorem take_filter_succ (p : En → Bool) (l : List En) {j : Nat} (hj : j < l.length) : (l.take (j + 1)).filter p = (l.take j).filter p ++ (if p (nth l j) then [nth l j] else []) := by
  have : l.take (j + 1) = l.take j ++ [nth l j] := by
    rw [List.take_add_one, nth, List.getElem?_eq_getElem hj]; rfl
  rw [this, List.filter_append]
  congr 1
  cases h : p (nth l j) <;> simp [h]

set_option maxHeartbeats 4000000 in
theorem fx45 (l : List En) (hl : l.length ≤ 1000000000) (tr en' : Int) {ob : Nat → Option AO} (h0 : ob 0 = some (.box [.i tr])) (h1 : ob 1 = some (.box [.i en'])) (h2 : ob 2 = some (.arr 47 6 l.length fun q => (nth l q).c)) :
    CallFx Try.prog 45 [.own 2 0 l.length, .fn (.func 47) [] [.ptr 0 0 0, .ptr 1 0 0]] ob [0, 1, 2] (.own 2 0 (keepP tr en' l).length)
      [(0, some (.box [.i tr])), (1, some (.box [.i en'])), (2, some (.arr 47 6 (keepP tr en' l).length fun q => (nth (keepP tr en' l) q).c))] 3 0 := by
  refine fxT (r := [.own 2 0 (keepP tr en' l).length]) (pin := [0, 1, 2]) (obl := [(0, .box [.i tr]), (1, .box [.i en']), (2, .arr 47 6 l.length fun q => (nth l q).c)]) Try.func45 rfl Try.ntmps45 Try.results45 rfl (by kernel_rfl)
    ⟨rfl, rfl, rfl, rfl, rfl, rfl, rfl, rfl, rfl, rfl, rfl, rfl⟩ ⟨h0, h1, h2, True.intro⟩ fun loc => V_run _ (enpOK _ _ _) 200 ?_
  rcases idx_ex (delP tr en') l with hno | ⟨i0, hi0, hp0, hno⟩
  · have hm : keepP tr en' l = l := List.filter_eq_self.2 fun x hx => by
      obtain ⟨k, hk, rfl⟩ := mem_nthE hx
      rw [hno k hk]; rfl
    rw [hm]
    refine Way.spec (Bd.mk (by omega) (CallS.by (spec70 l hl tr en' (.inl ⟨rfl, hno⟩)) rfl ?_))
    refine Br.eyes rfl ?_
    refine Out.mk ⟨[(0, some 0), (1, some 1), (2, some 2)], [], ⟨rfl, True.intro, True.intro, ?_⟩, ?_⟩
    · exact ⟨⟨rfl, ⟨rfl, rfl⟩⟩, ⟨rfl, ⟨rfl, rfl⟩⟩, ⟨rfl, rfl, rfl, rfl, fun _ _ => rfl⟩, True.intro⟩
    · exact ⟨⟨rfl, rfl, rfl⟩, rfl⟩
  · refine Way.spec (Bd.mk (by omega) (CallS.by (spec70 l hl tr en' (.inr ⟨i0, rfl, hi0, hp0, hno⟩)) rfl ?_))
    refine Br.eno (by omega) ?_
    have hkd : ∀ j, j < l.length → keepP tr en' (l.take (j + 1)) = keepP tr en' (l.take j) ++ (if (!delP tr en' (nth l j)) = true then [nth l j] else []) := fun j hj => take_filter_succ _ l hj
    have hk0 : keepP tr en' (l.take (i0 + 1)) = l.take i0 := by
      rw [hkd i0 hi0, hp0]
      simp only [Bool.not_true, Bool.false_eq_true, if_false, List.append_nil]
      refine List.filter_eq_self.2 fun x hx => ?_
      obtain ⟨k, hk, e⟩ := mem_nthE hx
      have hk' : k < i0 := by rw [List.length_take] at hk; omega
      have : nth (l.take i0) k = nth l k := by unfold nth; rw [List.getElem?_take_of_lt hk']
      rw [← e, this, hno k hk']; rfl
    have hk0l : (keepP tr en' (l.take (i0 + 1))).length = i0 := by rw [hk0, List.length_take]; omega
    refine Ar.nat (i0 + 1) (by omega) (by omega) ?_
    refine V_loop _ (fun x : Nat × List En => ⟨[(0, .own 2 0 l.length), (1, .fn (.func 47) [] [.ptr 0 0 0, .ptr 1 0 0]), (5, .i (keepP tr en' (l.take x.1)).length), (6, .i x.1)],
        [(0, some (.box [.i tr])), (1, some (.box [.i en'])), (2, some (.arr 47 6 l.length fun q => (nth x.2 q).c))], 3⟩)
      (fun x => x.1 ≤ l.length ∧ x.2.length = l.length ∧ (keepP tr en' (l.take x.1)).length < x.1 ∧ (∀ q, q < (keepP tr en' (l.take x.1)).length → nth x.2 q = nth (keepP tr en' (l.take x.1)) q) ∧ ∀ q, x.1 ≤ q → q < l.length → nth x.2 q = nth l q)
      (fun x => l.length - x.1) (i0 + 1, l) ⟨by omega, rfl, by rw [hk0l]; show i0 < i0 + 1; omega, fun q hq => ?_, fun _ _ _ => rfl⟩ ?_ ?_
    · rw [hk0l] at hq
      rw [hk0]
      unfold nth
      rw [List.getElem?_take_of_lt hq]
    · refine Le_of _ [(0, some 0), (1, some 1), (2, some 2)] [] ⟨rfl, True.intro, ⟨⟨rfl, rfl, rfl⟩, ⟨rfl, rfl, ⟨⟨rfl, rfl, rfl⟩, ⟨rfl, rfl, rfl⟩, rfl⟩⟩, ?_, rfl, True.intro⟩, ⟨⟨rfl, ⟨rfl, rfl⟩⟩, ⟨rfl, ⟨rfl, rfl⟩⟩, ⟨rfl, rfl, rfl, rfl, fun _ _ => rfl⟩, True.intro⟩⟩
      exact congrArg (fun n : Nat => Value.int .i64 n) hk0l.symm
    rintro ⟨j, cur⟩ ⟨hj, hcl, hlt, hq1, hq2⟩
    simp only at hj hcl hlt hq1 hq2
    dsimp only
    have hnext := hkd j
    generalize hkk : keepP tr en' (l.take j) = kk at *
    refine V_run _ (enpOK _ _ _) 200 ?_
    refine Br.dec (fun hjl => ?_) (fun hjl => ?_)
    · have hjl' : j < l.length := by omega
      have hx : nth cur j = nth l j := hq2 j (Nat.le_refl _) hjl'
      have hnext := hnext hjl'
      refine Ix.by rfl (by omega) ?_
      refine Bd.mk (by omega) ?_
      refine Way.spec ?_
      refine CallS.by (spec47 _ _ _) rfl ?_
      refine Br.not (fun hp => ?_) (fun hp => ?_)
      · rw [Nat.zero_add, hx] at hp
        rw [hp] at hnext
        simp only [Bool.not_false, if_true] at hnext
        refine Ix.by rfl (show kk.length < l.length by omega) ?_
        refine Bd.mk ⟨by omega, Nat.le_refl _⟩ ?_
        refine Ar.nat (kk.length + 1) (by omega) (by omega) ?_
        refine Ar.nat (j + 1) (by omega) (by omega) ?_
        refine ⟨(j + 1, cur.set kk.length (nth cur j)), ⟨by show j + 1 ≤ _; omega, by simp [hcl], ?_, fun q hq => ?_, fun q hq hq' => ?_⟩, by show l.length - (j + 1) < _; omega,
          Le_of _ [(0, some 0), (1, some 1), (2, some 2)] [] ⟨rfl, True.intro, ⟨⟨rfl, rfl, rfl⟩, ⟨rfl, rfl, ⟨⟨rfl, rfl, rfl⟩, ⟨rfl, rfl, rfl⟩, rfl⟩⟩, ?_, rfl, True.intro⟩, ⟨⟨rfl, ⟨rfl, rfl⟩⟩, ⟨rfl, ⟨rfl, rfl⟩⟩, ⟨rfl, rfl, rfl, rfl, fun q hq => ?_⟩, True.intro⟩⟩⟩
        · show (keepP tr en' (l.take (j + 1))).length < j + 1
          rw [hnext]; simp; omega
        · have hq : q < (keepP tr en' (l.take (j + 1))).length := hq
          show nth (cur.set kk.length (nth cur j)) q = nth (keepP tr en' (l.take (j + 1))) q
          rw [hnext] at hq ⊢
          simp only [List.length_append, List.length_singleton] at hq
          rw [nth_set (by omega)]
          by_cases e : q = kk.length
          · subst e
            rw [if_pos rfl, nth_append_right (Nat.le_refl _), Nat.sub_self, hx]; rfl
          · rw [if_neg e, nth_append_left (by omega)]
            exact hq1 q (by omega)
        · have hq : j + 1 ≤ q := hq
          show nth (cur.set kk.length (nth cur j)) q = nth l q
          rw [nth_set (by omega), if_neg (by omega)]
          exact hq2 q (by omega) hq'
        · refine congrArg (fun n : Nat => Value.int .i64 n) ?_
          show kk.length + 1 = (keepP tr en' (l.take (j + 1))).length
          rw [hnext]; simp
        · show (match Nat.beq q (0 + kk.length) with | true => putL (nth cur (0 + kk.length)).c 0 (nth cur (0 + j)).c | false => (nth cur q).c) = (nth (cur.set kk.length (nth cur j)) q).c
          rw [nth_set (by omega), Nat.zero_add, Nat.zero_add]
          cases e : Nat.beq q kk.length with
          | true =>
            have := Nat.eq_of_beq_eq_true e
            rw [if_pos this]
            rfl
          | false =>
            rw [if_neg (by rintro rfl; have h3 := Nat.beq_refl kk.length; rw [h3] at e; cases e)]
      · rw [Nat.zero_add, hx] at hp
        rw [hp] at hnext
        simp only [Bool.not_true, Bool.false_eq_true, if_false, List.append_nil] at hnext
        refine Ar.nat (j + 1) (by omega) (by omega) ?_
        refine ⟨(j + 1, cur), ⟨by show j + 1 ≤ _; omega, hcl, ?_, fun q hq => ?_, fun q hq hq' => ?_⟩, by show l.length - (j + 1) < _; omega,
          Le_of _ [(0, some 0), (1, some 1), (2, some 2)] [] ⟨rfl, True.intro, ⟨⟨rfl, rfl, rfl⟩, ⟨rfl, rfl, ⟨⟨rfl, rfl, rfl⟩, ⟨rfl, rfl, rfl⟩, rfl⟩⟩, ?_, rfl, True.intro⟩, ⟨⟨rfl, ⟨rfl, rfl⟩⟩, ⟨rfl, ⟨rfl, rfl⟩⟩, ⟨rfl, rfl, rfl, rfl, fun q hq => rfl⟩, True.intro⟩⟩⟩
        · show (keepP tr en' (l.take (j + 1))).length < j + 1
          rw [hnext]; omega
        · have hq : q < (keepP tr en' (l.take (j + 1))).length := hq
          show nth cur q = nth (keepP tr en' (l.take (j + 1))) q
          rw [hnext] at hq ⊢
          exact hq1 q hq
        · exact hq2 q (by have : j + 1 ≤ q := hq; omega) hq'
        · refine congrArg (fun n : Nat => Value.int .i64 n) ?_
          show kk.length = (keepP tr en' (l.take (j + 1))).length
          rw [hnext]
    · have : j = l.length := by omega
      subst this
      rw [List.take_length] at hkk
      subst hkk
      refine V_run _ (enpOK _ _ _) 200 ?_
      refine Ix.by rfl (by omega) ?_
      refine Br.dyes (by omega) ?_
      refine Bd.mk (by omega) ?_
      refine Ix.by rfl (by omega) ?_
      refine Out.mk ⟨[(0, some 0), (1, some 1), (2, some 2)], [], ⟨rfl, True.intro, True.intro, ?_⟩, ?_⟩
      · exact ⟨⟨rfl, ⟨rfl, rfl⟩⟩, ⟨rfl, ⟨rfl, rfl⟩⟩, ⟨rfl, rfl, rfl, Nat.zero_add _, fun q hq => by dsimp only; rw [hq1 q (by omega)]⟩, True.intro⟩
      · exact ⟨⟨rfl, rfl, rfl⟩, rfl⟩

end Go.AI

namespace Go.AI
open Go Go.Proofs Go.RowKit Go.Sort
set_option linter.unusedVariables false
set_option maxRecDepth 20000

def spanE (en' : Int) (x : En) : Sp := ⟨x.a, en', x.o⟩
def mineL (l : List En) (tr en' : Int) : List En := sortE cmpTurn (keepP tr en' l)
def histM (l : List En) (tr en' : Int) : List Sp × Int :=
  if validM l = false ∨ ¬ (0 ≤ tr ∧ tr ≤ 11) ∨ ¬ (0 ≤ en' ∧ en' ≤ 10000000) then ([], 320)
  else if (paintP en' 0 ((mineL l tr en').map (spanE en'))).2 ≠ 0 then ([], 320) else ((paintP en' 0 ((mineL l tr en').map (spanE en'))).1, 0)

theorem take_map_snoc (m : List En) (f : En → Sp) {i : Nat} (hi : i < m.length) : (m.take (i + 1)).map f = (m.take i).map f ++ [f (nth m i)] := by
  have : m.take (i + 1) = m.take i ++ [nth m i] := by
    rw [List.take_add_one, nth, List.getElem?_eq_getElem hi]; rfl
  rw [this, List.map_append]; rfl

set_option maxHeartbeats 4000000 in
theorem spec20 (l : List En) (hl : l.length ≤ 1000000000) (tr en' : Int) {out : List Sp} {e : Int} (hr : histM l tr en' = (out, e)) : Spec Try.prog 20 [jv l, .i tr, .i en'] (resS out e) := by
  refine spT (r := [_, _]) Try.func20 rfl Try.ntmps20 Try.results20 rfl (by kernel_rfl) (V_run _ (enOK _) 200 ?_)
  have bad : (validM l = false ∨ ¬ (0 ≤ tr ∧ tr ≤ 11) ∨ ¬ (0 ≤ en' ∧ en' ≤ 10000000)) → out = [] ∧ e = 320 := by
    intro h
    unfold histM at hr
    rw [if_pos h] at hr
    cases hr; exact ⟨rfl, rfl⟩
  refine Way.spec (CallS.by (spec13 l hl) rfl ?_)
  refine Br.not (fun h => ?_) (fun h => ?_)
  · obtain ⟨rfl, rfl⟩ := bad (.inl h)
    exact Out.mk ⟨rfl, rfl, True.intro⟩
  refine Br.dec (fun h1 => ?_) (fun h1 => ?_)
  · obtain ⟨rfl, rfl⟩ := bad (.inr (.inl (by omega)))
    exact Out.mk ⟨rfl, rfl, True.intro⟩
  refine Br.dec (fun h2 => ?_) (fun h2 => ?_)
  · obtain ⟨rfl, rfl⟩ := bad (.inr (.inl (by omega)))
    exact Out.mk ⟨rfl, rfl, True.intro⟩
  refine Br.dec (fun h3 => ?_) (fun h3 => ?_)
  · obtain ⟨rfl, rfl⟩ := bad (.inr (.inr (by omega)))
    exact Out.mk ⟨rfl, rfl, True.intro⟩
  refine Br.dec (fun h4 => ?_) (fun h4 => ?_)
  · obtain ⟨rfl, rfl⟩ := bad (.inr (.inr (by omega)))
    exact Out.mk ⟨rfl, rfl, True.intro⟩
  have hres : (out, e) = if (paintP en' 0 ((mineL l tr en').map (spanE en'))).2 ≠ 0 then ([], 320) else ((paintP en' 0 ((mineL l tr en').map (spanE en'))).1, 0) := by
    rw [← hr]
    unfold histM
    rw [if_neg]
    rintro (h5 | h5 | h5)
    · rw [h] at h5; cases h5
    · omega
    · omega
  have hlv := validM_len h
  have hkl : (keepP tr en' l).length ≤ l.length := List.length_filter_le ..
  have hml : (mineL l tr en').length = (keepP tr en' l).length := sortE_length swoTurn _
  clear bad hr h h1 h2 h3 h4
  refine Way.new (CallN.by (spec46 l hl) ?_)
  refine Way.fx ?_
  refine ⟨_, _, _, _, fx45 l hl tr en' rfl rfl rfl, ?_⟩
  refine Way.fx ?_
  refine ⟨_, _, _, _, fx43 spec48 swoTurn (keepP tr en' l) rfl (Nat.le_refl _) (by omega) (fun q _ => rfl), ?_⟩
  rw [show sortE cmpTurn (keepP tr en' l) = mineL l tr en' from rfl, ← hml]
  generalize mineL l tr en' = m at *
  refine V_loop _ (fun i : Nat => ⟨[(5, .ptr 1 0 0), (9, .own 3 0 ((m.take i).map (spanE en')).length), (39, .own 2 0 m.length), (40, .i m.length), (41, .i i)],
      [(1, some (.box [.i en'])), (2, some (.arr 47 6 m.length fun q => (nth m q).c)), (3, some (rowS ((m.take i).map (spanE en'))))], 4⟩) (fun i => i ≤ m.length) (fun i => m.length - i) 0 (Nat.zero_le _) ?_ ?_
  · exact Le_of _ [(1, some 1), (2, some 2), (3, none)] [] ⟨rfl, True.intro, ⟨⟨rfl, rfl, rfl⟩, ⟨rfl, rfl, rfl⟩, ⟨rfl, rfl, rfl⟩, rfl, rfl, True.intro⟩, ⟨⟨rfl, ⟨rfl, rfl⟩⟩, ⟨rfl, rfl, rfl, rfl, fun _ _ => rfl⟩, ⟨rfl, rfl⟩, True.intro⟩⟩
  intro i hi
  refine V_run _ (enOK _) 200 ?_
  refine Br.dec (fun hlt => ?_) (fun hlt => ?_)
  · have hi' : i < m.length := by omega
    have hnext := take_map_snoc m (spanE en') hi'
    have hacl : ((m.take i).map (spanE en')).length = i := by simp; omega
    generalize hacc : (m.take i).map (spanE en') = acc at *
    refine Ix.by rfl (by omega) ?_
    refine Bd.mk (by omega) ?_
    refine Bd.mk (Nat.le_refl _) ?_
    refine Bd.mk ⟨Nat.le_refl _, (show (acc.length + 1) * 24 ≤ 140737488355328 from by omega)⟩ ?_
    refine Ar.nat (i + 1) (by omega) (by omega) ?_
    refine ⟨i + 1, by omega, by omega, Le_of _ [(1, some 1), (2, some 2), (3, some 6)] [] ⟨rfl, True.intro, ⟨⟨rfl, rfl, rfl⟩, ⟨rfl, rfl, ?_⟩, ⟨rfl, rfl, rfl⟩, rfl, rfl, True.intro⟩, ⟨⟨rfl, ⟨rfl, rfl⟩⟩, ⟨rfl, rfl, rfl, rfl, fun _ _ => rfl⟩, ⟨rfl, rfl, rfl, ?_, fun q hq => ?_⟩, True.intro⟩⟩⟩
    · rw [hnext]; simp
    · rw [hnext]; simp
    · rw [hnext]
      exact joinRows_snoc (fun x : Sp => x.c) acc (spanE en' (nth m i)) q hq _ (by rw [spanE, Nat.zero_add])
  · have : i = m.length := by omega
    subst this
    rw [List.take_length]
    refine V_run _ (enOK _) 200 ?_
    refine Way.frz (Bd.mk (by omega) (CallS.by (spec49 en' 0 (m.map (spanE en')) (by simp; omega) (out := (paintP en' 0 (m.map (spanE en'))).1) (e := (paintP en' 0 (m.map (spanE en'))).2) rfl) rfl ?_))
    refine Br.ne (fun he => ?_) (fun he => ?_)
    · rw [if_pos he] at hres
      cases hres
      exact Out.mk ⟨rfl, rfl, True.intro⟩
    · rw [if_neg (by simpa using he)] at hres
      cases hres
      exact Out.mk ⟨⟨rfl, rfl, fun _ _ => rfl⟩, rfl, True.intro⟩

end Go.AI

/- Timelines as functions: who owns each second. Plain: no program in sight. -/
namespace Go.AI
open Go Go.Proofs Go.RowKit Go.Sort
set_option linter.unusedVariables false

/-- From t to n, each second x has the owner g x; neighbours differ, and the first is not pv. -/
def TL (t n : Int) (g : Int → Int) (pv : Int) : List Sp → Prop
  | [] => t = n
  | s :: l => s.f = t ∧ t < s.t ∧ (∀ x, t ≤ x → x < s.t → g x = s.o) ∧ s.o ≠ pv ∧ TL s.t n g s.o l

theorem TL.le {g : Int → Int} : ∀ {l : List Sp} {t n pv : Int}, TL t n g pv l → t ≤ n
  | [], t, n, pv, h => Int.le_of_eq h
  | s :: l, t, n, pv, h => by
    obtain ⟨_, h2, _, _, h5⟩ := h
    have := TL.le h5
    omega

theorem TL.congr {g g' : Int → Int} : ∀ {l : List Sp} {t n pv : Int}, TL t n g pv l → (∀ x, t ≤ x → x < n → g x = g' x) → TL t n g' pv l
  | [], t, n, pv, h, _ => h
  | s :: l, t, n, pv, h, hg => by
    obtain ⟨h1, h2, h3, h4, h5⟩ := h
    have := TL.le h5
    exact ⟨h1, h2, fun x hx hx' => by rw [← hg x hx (by omega)]; exact h3 x hx hx', h4, TL.congr h5 fun x hx hx' => hg x (by omega) hx'⟩

theorem TL.uniq {g : Int → Int} : ∀ {l l' : List Sp} {t n pv pv' : Int}, TL t n g pv l → TL t n g pv' l' → l = l'
  | [], [], t, n, pv, pv', _, _ => rfl
  | [], s :: l', t, n, pv, pv', h, h' => by
    have := TL.le h'.2.2.2.2; have h1 : t = n := h; have := h'.2.1; omega
  | s :: l, [], t, n, pv, pv', h, h' => by
    have := TL.le h.2.2.2.2; have h1 : t = n := h'; have := h.2.1; omega
  | s :: l, s' :: l', t, n, pv, pv', h, h' => by
    obtain ⟨a1, a2, a3, a4, a5⟩ := h
    obtain ⟨b1, b2, b3, b4, b5⟩ := h'
    have ho : s.o = s'.o := by rw [← a3 t (Int.le_refl _) a2, ← b3 t (Int.le_refl _) b2]
    have ha := TL.le a5
    have hb := TL.le b5
    have ht : s.t = s'.t := by
      rcases Int.lt_trichotomy s.t s'.t with hlt | heq | hgt
      · exfalso
        cases l with
        | nil => have : s.t = n := a5; omega
        | cons y l =>
          obtain ⟨c1, c2, c3, c4, _⟩ := a5
          have h1 := c3 s.t (Int.le_refl _) c2
          have h2 := b3 s.t (by omega) hlt
          exact c4 (by rw [← h1, h2, ho])
      · exact heq
      · exfalso
        cases l' with
        | nil => have : s'.t = n := b5; omega
        | cons y l' =>
          obtain ⟨c1, c2, c3, c4, _⟩ := b5
          have h1 := c3 s'.t (Int.le_refl _) c2
          have h2 := a3 s'.t (by omega) hgt
          exact c4 (by rw [← h1, h2, ho])
    have he : s = s' := by cases s; cases s'; simp at *; omega
    subst he
    rw [TL.uniq a5 b5]

theorem addS_nil (s : Sp) : addS [] s = [s] := by simp [addS]
theorem addS_one (x s : Sp) : addS [x] s = if x.o = s.o then [⟨x.f, s.t, x.o⟩] else [x, s] := by
  unfold addS grown
  by_cases h : x.o = s.o
  · simp [nth, h]
  · simp [nth, h]
theorem addS_cons (x y : Sp) (l : List Sp) (s : Sp) : addS (x :: y :: l) s = x :: addS (y :: l) s := by
  have h1 : nth (x :: y :: l) ((x :: y :: l).length - 1) = nth (y :: l) ((y :: l).length - 1) := by
    simp [nth]
  unfold addS
  rw [h1]
  by_cases h : (nth (y :: l) ((y :: l).length - 1)).o = s.o
  · rw [if_pos ⟨by simp, h⟩, if_pos ⟨by simp, h⟩]
    unfold grown
    rw [h1]
    simp
  · rw [if_neg (fun hh => h hh.2), if_neg (fun hh => h hh.2)]
    rfl

theorem TL.snoc {g : Int → Int} : ∀ {l : List Sp} {t n m pv ow f : Int}, TL t n g pv l → n < m → (∀ x, n ≤ x → x < m → g x = ow) → (l = [] → ow ≠ pv) → f = n → TL t m g pv (addS l ⟨f, m, ow⟩)
  | [], t, n, m, pv, ow, f, h, hm, hg, hp, hf => by
    have : t = n := h
    subst this; subst hf
    rw [addS_nil]
    exact ⟨rfl, hm, hg, hp rfl, rfl⟩
  | [x], t, n, m, pv, ow, f, h, hm, hg, hp, hf => by
    obtain ⟨h1, h2, h3, h4, h5⟩ := h
    have h5 : x.t = n := h5
    rw [addS_one]
    simp only
    split
    · rename_i ho
      exact ⟨h1, by simp only; omega, fun y hy hy' => by
        simp only at hy' ⊢
        by_cases hlt : y < x.t
        · exact h3 y hy hlt
        · rw [ho]; exact hg y (by omega) hy', h4, rfl⟩
    · rename_i ho
      exact ⟨h1, h2, h3, h4, by rw [hf]; exact h5.symm, by simp only; omega, fun y hy hy' => hg y (by omega) hy', fun e => ho e.symm, rfl⟩
  | x :: y :: l, t, n, m, pv, ow, f, h, hm, hg, hp, hf => by
    obtain ⟨h1, h2, h3, h4, h5⟩ := h
    rw [addS_cons]
    exact ⟨h1, h2, h3, h4, TL.snoc h5 hm hg (fun e => by cases e) hf⟩

/-! ### the reference's history -/
theorem pushS_addS (out : List Sp) (t nx ow : Int) : pushS out t nx ow = addS out ⟨t, nx, ow⟩ := by
  unfold pushS addS grown
  simp only [List.length_eq_zero_iff, ne_eq]

theorem nextI_le_a {l : List En} {en t : Int} : ∀ {i j : Nat}, j < i → t < (nth l j).a → nextI l en t i ≤ (nth l j).a
  | i + 1, j, hj, h => by
    unfold nextI
    by_cases e : j = i
    · subst e; rw [if_pos h]; omega
    · have := nextI_le_a (l := l) (en := en) (t := t) (i := i) (j := j) (by omega) h
      split <;> omega

theorem bestO_congr {l : List En} {tr t x : Int} : ∀ {i : Nat}, (∀ j, j < i → (t < (nth l j).a ↔ x < (nth l j).a)) → bestO l tr t i = bestO l tr x i
  | 0, _ => rfl
  | i + 1, h => by
    have ih := bestO_congr (l := l) (tr := tr) (t := t) (x := x) (i := i) fun j hj => h j (by omega)
    unfold bestO stepO
    rw [ih]
    have := h i (by omega)
    by_cases h1 : (nth l i).t ≠ tr ∨ t < (nth l i).a
    · rw [if_pos h1, if_pos (h1.imp_right this.1)]
    · rw [if_neg h1, if_neg (fun h2 => h1 (h2.imp_right this.2))]

theorem ownerR_const {l : List En} {tr en t x : Int} (h1 : t ≤ x) (h2 : x < nextI l en t l.length) : ownerR l tr x = ownerR l tr t := by
  unfold ownerR
  rw [bestO_congr (t := x) (x := t) fun j hj => ⟨fun h => by omega, fun h => by
    have := nextI_le_a (en := en) hj h
    omega⟩]

theorem bestO_spec (l : List En) (tr x : Int) : ∀ n, match bestO l tr x n with
    | none => ∀ j, j < n → ¬ ((nth l j).t = tr ∧ (nth l j).a ≤ x)
    | some k => k < n ∧ ((nth l k).t = tr ∧ (nth l k).a ≤ x) ∧ ∀ j, j < n → (nth l j).t = tr ∧ (nth l j).a ≤ x → ¬ betterE (nth l j) (nth l k)
  | 0 => fun j hj => absurd hj (Nat.not_lt_zero _)
  | i + 1 => by
    have ih := bestO_spec l tr x i
    unfold bestO stepO
    by_cases hc : (nth l i).t ≠ tr ∨ x < (nth l i).a
    · rw [if_pos hc]
      cases hb : bestO l tr x i with
      | none =>
        rw [hb] at ih
        intro j hj
        by_cases e : j = i
        · subst e; omega
        · exact ih j (by omega)
      | some k =>
        rw [hb] at ih
        refine ⟨by omega, ih.2.1, fun j hj hcj => ?_⟩
        by_cases e : j = i
        · subst e; omega
        · exact ih.2.2 j (by omega) hcj
    · rw [if_neg hc]
      cases hb : bestO l tr x i with
      | none =>
        rw [hb] at ih
        simp only
        refine ⟨by omega, by omega, fun j hj hcj => ?_⟩
        by_cases e : j = i
        · subst e; unfold betterE; omega
        · exact absurd hcj (ih j (by omega))
      | some k =>
        rw [hb] at ih
        simp only
        by_cases hbt : betterE (nth l i) (nth l k)
        · rw [if_pos hbt]
          refine ⟨by omega, by omega, fun j hj hcj => ?_⟩
          by_cases e : j = i
          · subst e; unfold betterE; omega
          · have := ih.2.2 j (by omega) hcj
            unfold betterE at *; omega
        · rw [if_neg hbt]
          refine ⟨by omega, ih.2.1, fun j hj hcj => ?_⟩
          by_cases e : j = i
          · subst e; exact hbt
          · exact ih.2.2 j (by omega) hcj

theorem formed_iff {x : En} : formed x = true ↔ 0 ≤ x.t ∧ x.t ≤ 11 ∧ 0 ≤ x.e ∧ x.e ≤ 1000 ∧ 0 ≤ x.n ∧ x.n ≤ 999 ∧ -1 ≤ x.h ∧ x.h ≤ 2 ∧ 0 ≤ x.a ∧ x.a ≤ 9999999 ∧ 0 ≤ x.o ∧ x.o ≤ 2999 := by
  unfold formed; rw [decide_eq_true_eq]

theorem validM_formed {l : List En} (h : validM l = true) {x : En} (hx : x ∈ l) : formed x = true := by
  obtain ⟨i, hi, rfl⟩ := mem_nth hx
  have := validM_ok h i hi
  unfold okAt at this
  rw [Bool.and_eq_true] at this
  exact this.1

theorem ownerR_nn {l : List En} (hv : validM l = true) (tr x : Int) : 0 ≤ ownerR l tr x ∧ ownerR l tr x ≤ 2999 := by
  unfold ownerR
  have h := bestO_spec l tr x l.length
  cases hb : bestO l tr x l.length with
  | none => exact ⟨Int.le_refl _, (by show (0 : Int) ≤ 2999; decide)⟩
  | some k =>
    rw [hb] at h
    have := formed_iff.1 (validM_formed hv (nth_mem h.1))
    exact ⟨by simp only; omega, by simp only; omega⟩

theorem histR_TL {l : List En} (hv : validM l = true) {tr en : Int} : ∀ (n : Nat) (t : Int) (out : List Sp), (en - t).toNat ≤ n → t ≤ en → TL 0 t (ownerR l tr) (-1) out → TL 0 en (ownerR l tr) (-1) (histR l tr en t out)
  | n, t, out, hn, ht, h => by
    rw [histR]
    split
    · rename_i hlt
      have g1 := nextI_gt (l := l) hlt l.length
      have g2 := nextI_le (l := l) (en := en) (t := t) l.length
      rw [pushS_addS]
      have := h.snoc g1 (ow := ownerR l tr t) (f := t) (fun x hx hx' => ownerR_const hx hx') (fun _ => by have := (ownerR_nn hv tr t).1; omega) rfl
      match n, hn with
      | 0, hn => omega
      | n + 1, hn => exact histR_TL hv n _ _ (by omega) g2 this
    · have : t = en := by omega
      rw [← this]; exact h

/-! ### painting -/
theorem parts_nil {fr a : Int} {g : Int → Int} : ∀ {l : List Sp} {t n pv : Int}, TL t n g pv l → a ≤ t → parts fr a l = []
  | [], t, n, pv, _, _ => rfl
  | s :: l, t, n, pv, h, ha => by
    obtain ⟨h1, h2, h3, h4, h5⟩ := h
    have ih := parts_nil (fr := fr) h5 (by omega : a ≤ s.t)
    have hh : has fr a s = false := by
      unfold has cut maxI minI
      simp only [decide_eq_false_iff_not]
      split <;> split <;> omega
    unfold parts at ih ⊢
    rw [List.filter_cons, hh]
    exact ih

theorem parts_TL {fr a : Int} {g : Int → Int} : ∀ {l : List Sp} {t n pv : Int}, TL t n g pv l → fr ≤ t → t ≤ a → a ≤ n → TL t a g pv (parts fr a l)
  | [], t, n, pv, h, hf, h1, h2 => by
    have : t = n := h
    show t = a
    omega
  | s :: l, t, n, pv, h, hf, ha, hn => by
    obtain ⟨h1, h2, h3, h4, h5⟩ := h
    by_cases e : t = a
    · subst e
      rw [parts_nil (g := g) (l := s :: l) (pv := pv) (n := n) ⟨h1, h2, h3, h4, h5⟩ (Int.le_refl _)]
      exact rfl
    · by_cases hlt : s.t ≤ a
      · have hh : has fr a s = true := by
          unfold has cut maxI minI
          simp only [decide_eq_true_eq]
          split <;> split <;> omega
        have hc : cut fr a s = s := by
          unfold cut maxI minI
          have e1 : (if fr > s.f then fr else s.f) = s.f := by split <;> omega
          have e2 : (if a < s.t then a else s.t) = s.t := by split <;> omega
          rw [e1, e2]
        have ih := parts_TL h5 (by omega : fr ≤ s.t) hlt hn
        have : parts fr a (s :: l) = s :: parts fr a l := by
          unfold parts
          rw [List.filter_cons, hh]
          simp only [if_true, List.map_cons, hc]
        rw [this]
        exact ⟨h1, h2, h3, h4, ih⟩
      · have hh : has fr a s = true := by
          unfold has cut maxI minI
          simp only [decide_eq_true_eq]
          split <;> split <;> omega
        have hc : cut fr a s = ⟨t, a, s.o⟩ := by
          unfold cut maxI minI
          have e1 : (if fr > s.f then fr else s.f) = t := by split <;> omega
          have e2 : (if a < s.t then a else s.t) = a := by split <;> omega
          rw [e1, e2]
        have ih := parts_nil (fr := fr) h5 (by omega : a ≤ s.t)
        have : parts fr a (s :: l) = [⟨t, a, s.o⟩] := by
          unfold parts at ih ⊢
          rw [List.filter_cons, hh]
          simp only [if_true, List.map_cons, hc, ih]
        rw [this]
        exact ⟨rfl, by simp only; omega, fun x hx hx' => h3 x hx (by simp only at hx'; omega), h4, rfl⟩

theorem addL_norm {g : Int → Int} : ∀ {l out : List Sp} {t n pv : Int}, TL t n g pv l → (out ≠ [] → (nth out (out.length - 1)).o = pv) → addL out l = out ++ l
  | [], out, t, n, pv, _, _ => by simp [addL]
  | s :: l, out, t, n, pv, h, hl => by
    obtain ⟨h1, h2, h3, h4, h5⟩ := h
    have ha : addS out s = out ++ [s] := by
      unfold addS
      rw [if_neg]
      rintro ⟨q1, q2⟩
      exact h4 (by rw [← q2, hl q1])
    have ih := addL_norm (out := out ++ [s]) h5 fun _ => by simp [nth]
    show addL (addS out s) l = _
    rw [ha, ih]
    simp

/-- Owners that may be. -/
def okG (n : Int) (g : Int → Int) : Prop := ∀ x, 0 ≤ x → x < n → 0 ≤ g x ∧ g x ≤ 2999

theorem TL_spOK {g : Int → Int} {n : Int} : ∀ {l : List Sp} {t pv : Int}, TL t n g pv l → ∀ i, i < l.length → (nth l i).f = (if i = 0 then t else (nth l (i - 1)).t) ∧ (nth l i).f < (nth l i).t ∧ (nth l i).t ≤ n ∧ t ≤ (nth l i).f ∧ g (nth l i).f = (nth l i).o ∧ (nth l i).o ≠ (if i = 0 then pv else (nth l (i - 1)).o)
  | s :: l, t, pv, h, 0, hi => by
    obtain ⟨h1, h2, h3, h4, h5⟩ := h
    have := TL.le h5
    refine ⟨h1, ?_, ?_, ?_, ?_, h4⟩
    · show s.f < s.t; omega
    · exact this
    · show t ≤ s.f; omega
    · show g s.f = s.o; rw [h1]; exact h3 t (Int.le_refl _) h2
  | s :: l, t, pv, h, i + 1, hi => by
    obtain ⟨h1, h2, h3, h4, h5⟩ := h
    have hi' : i < l.length := by simpa using hi
    have ih := TL_spOK h5 i hi'
    have e1 : nth (s :: l) (i + 1) = nth l i := by simp [nth]
    have e2 : nth (s :: l) (i + 1 - 1) = if i = 0 then s else nth l (i - 1) := by
      by_cases e : i = 0
      · subst e; simp [nth]
      · rw [if_neg e, show i + 1 - 1 = (i - 1) + 1 by omega]; simp [nth]
    rw [e1, e2, if_neg (by omega : ¬ i + 1 = 0), if_neg (by omega : ¬ i + 1 = 0)]
    obtain ⟨k1, k2, k3, k4, k5, k6⟩ := ih
    refine ⟨?_, k2, k3, by omega, k5, ?_⟩
    · rw [k1]; split <;> rfl
    · intro e; apply k6; rw [e]; split <;> rfl

theorem TL_end {g : Int → Int} {n : Int} : ∀ {l : List Sp} {t pv : Int}, TL t n g pv l → n = if l.length = 0 then t else (nth l (l.length - 1)).t
  | [], t, pv, h => (show t = n from h).symm
  | [s], t, pv, h => (show s.t = n from h.2.2.2.2).symm
  | s :: y :: l, t, pv, h => by
    have := TL_end h.2.2.2.2
    rw [this]
    simp [nth]

theorem TL_tvalid {g : Int → Int} {n : Int} {l : List Sp} (h : TL 0 n g (-1) l) (hn : n ≤ 10000000) (hg : okG n g) (hlen : l.length ≤ 200) : tvalid l = true := by
  rw [tvalid_all]
  · exact decide_eq_true hlen
  intro i hi
  obtain ⟨k1, k2, k3, k4, k5, k6⟩ := TL_spOK h i hi
  have hb := hg (nth l i).f k4 (by omega)
  unfold spOK atI owI
  rw [decide_eq_true_eq]
  exact ⟨k1, by rw [← k1]; exact k2, by omega, by rw [← k5]; exact hb, k6⟩
theorem TL_endI {g : Int → Int} {n : Int} {l : List Sp} (h : TL 0 n g (-1) l) : endI l = n := by
  have := TL_end h
  unfold endI atI
  exact this.symm

/-- A span painted up to the end. -/
theorem putP_TL {g : Int → Int} {n a ow : Int} {l : List Sp} (h : TL 0 n g (-1) l) (hn : n ≤ 10000000) (hg : okG n g) (hlen : l.length < 200) (ha : 0 ≤ a) (han : a < n) (ho : 0 ≤ ow ∧ ow ≤ 2999) :
    ∃ l', putP l ⟨a, n, ow⟩ = (l', 0) ∧ TL 0 n (fun x => if a ≤ x then ow else g x) (-1) l' ∧ l'.length ≤ l.length + 1 := by
  have hend := TL_endI h
  have hok : putOK l ⟨a, n, ow⟩ = true := by
    unfold putOK insideB isOwnerB
    rw [TL_tvalid h hn hg (by omega), hend]
    simp only [Bool.true_and, Bool.and_eq_true, decide_eq_true_eq]
    exact ⟨⟨ha, han, Int.le_refl _⟩, ho⟩
  have hp := parts_TL h (fr := 0) (Int.le_refl _) ha (Int.le_of_lt han)
  have h1 : addL [] (parts 0 a l) = parts 0 a l := by
    rw [addL_norm hp fun e => absurd rfl e]; rfl
  have h2 : parts n (endI l) l = [] := by
    rw [hend]
    unfold parts
    have : l.filter (has n n) = [] := by
      rw [List.filter_eq_nil_iff]
      intro s hs
      unfold has cut maxI minI
      simp only [decide_eq_true_eq]
      split <;> split <;> omega
    rw [this]; rfl
  have hput : putL' l ⟨a, n, ow⟩ = addS (parts 0 a l) ⟨a, n, ow⟩ := by
    unfold putL'
    simp only
    rw [h1, h2]; rfl
  have hpl : (parts 0 a l).length ≤ l.length := by unfold parts; rw [List.length_map]; exact List.length_filter_le ..
  have hal := addS_len (parts 0 a l) ⟨a, n, ow⟩
  refine ⟨addS (parts 0 a l) ⟨a, n, ow⟩, ?_, ?_, by omega⟩
  · unfold putP
    rw [if_neg (by rw [hok]; simp), hput, if_neg (by omega)]
  · refine TL.snoc (hp.congr fun x hx hx' => ?_) han (fun x hx hx' => ?_) (fun _ => by omega) rfl
    · rw [if_neg (by omega)]
    · rw [if_pos hx]

/-- The owner of a second after k entries. -/
def gm (m : List En) : Nat → Int → Int
  | 0, _ => 0
  | k + 1, x => if (nth m k).a ≤ x then (nth m k).o else gm m k x

theorem gm_ok {m : List En} {en : Int} (h : ∀ y ∈ m, 0 ≤ y.o ∧ y.o ≤ 2999) : ∀ k, k ≤ m.length → okG en (gm m k)
  | 0, _ => fun x _ _ => ⟨Int.le_refl _, by show (0 : Int) ≤ 2999; decide⟩
  | k + 1, hk => fun x h1 h2 => by
    unfold gm
    split
    · exact h _ (nth_mem (by omega))
    · exact gm_ok h k (by omega) x h1 h2

theorem paint_TL {m : List En} {en : Int} (h0 : 0 ≤ en) (h1 : en ≤ 10000000) (hm : ∀ y ∈ m, 0 ≤ y.a ∧ y.a < en ∧ 0 ≤ y.o ∧ y.o ≤ 2999) (hl : m.length ≤ 120) :
    ∀ k, k ≤ m.length → ∃ l, paintI en 0 (m.map (spanE en)) k = (l, 0) ∧ TL 0 en (gm m k) (-1) l ∧ l.length ≤ k + 1
  | 0, _ => by
    unfold paintI newP
    rw [if_neg (by simp [isOwnerB]; omega)]
    by_cases e : en = 0
    · rw [if_pos e]
      exact ⟨[], rfl, e.symm, by simp⟩
    · rw [if_neg e]
      exact ⟨_, rfl, ⟨rfl, by simp only; omega, fun x _ _ => rfl, by show (0 : Int) ≠ -1; decide, rfl⟩, by simp⟩
  | k + 1, hk => by
    obtain ⟨l, k1, k2, k3⟩ := paint_TL h0 h1 hm hl k (by omega)
    have hy := hm _ (nth_mem (show k < m.length by omega))
    obtain ⟨l', q1, q2, q3⟩ := putP_TL k2 h1 (gm_ok (fun y hy => (hm y hy).2.2) k (by omega)) (by omega) hy.1 hy.2.1 hy.2.2
    have hn : nth (m.map (spanE en)) k = spanE en (nth m k) := by
      unfold nth
      rw [List.getElem?_map, List.getElem?_eq_getElem (by omega)]; rfl
    refine ⟨l', ?_, q2, by omega⟩
    unfold paintI
    rw [k1]
    simp only [ne_eq, not_true_eq_false, if_false]
    rw [hn]
    exact q1

theorem gm_spec (m : List En) (x : Int) : ∀ k, (gm m k x = 0 ∧ ∀ j, j < k → ¬ (nth m j).a ≤ x) ∨ ∃ j, j < k ∧ (nth m j).a ≤ x ∧ gm m k x = (nth m j).o ∧ ∀ i, j < i → i < k → ¬ (nth m i).a ≤ x
  | 0 => .inl ⟨rfl, fun j hj => absurd hj (Nat.not_lt_zero _)⟩
  | k + 1 => by
    unfold gm
    by_cases h : (nth m k).a ≤ x
    · rw [if_pos h]
      exact .inr ⟨k, by omega, h, rfl, fun i h1 h2 => by omega⟩
    · rw [if_neg h]
      rcases gm_spec m x k with ⟨h1, h2⟩ | ⟨j, h1, h2, h3, h4⟩
      · refine .inl ⟨h1, fun j hj => ?_⟩
        by_cases e : j = k
        · subst e; exact h
        · exact h2 j (by omega)
      · refine .inr ⟨j, by omega, h2, h3, fun i q1 q2 => ?_⟩
        by_cases e : i = k
        · subst e; exact h
        · exact h4 i q1 (by omega)

theorem mem_keepP {tr en : Int} {l : List En} {x : En} : x ∈ keepP tr en l ↔ x ∈ l ∧ x.t = tr ∧ x.a < en := by
  unfold keepP delP
  rw [List.mem_filter]
  simp

theorem mem_mineL {tr en : Int} {l : List En} {x : En} : x ∈ mineL l tr en ↔ x ∈ l ∧ x.t = tr ∧ x.a < en := by
  unfold mineL
  rw [(sortE_spec swoTurn _).1.mem_iff, mem_keepP]

theorem gm_owner {l : List En} (hv : validM l = true) {tr en x : Int} (hx : x < en) : gm (mineL l tr en) (mineL l tr en).length x = ownerR l tr x := by
  have hlen : (mineL l tr en).length = (keepP tr en l).length := sortE_length swoTurn _
  have hs := (sortE_spec swoTurn (keepP tr en l)).2
  have hs : ∀ i j, i < j → j < (mineL l tr en).length → ltOf cmpTurn (nth (mineL l tr en) j) (nth (mineL l tr en) i) = false := fun i j h1 h2 => hs i j h1 (by omega)
  have hmem : ∀ y, y ∈ mineL l tr en ↔ y ∈ l ∧ y.t = tr ∧ y.a < en := fun y => mem_mineL
  have hb := bestO_spec l tr x l.length
  generalize mineL l tr en = m at *
  unfold ownerR
  rcases gm_spec m x m.length with ⟨h1, h2⟩ | ⟨j, h1, h2, h3, h4⟩
  · rw [h1]
    cases hbo : bestO l tr x l.length with
    | none => rfl
    | some k =>
      rw [hbo] at hb
      obtain ⟨q1, ⟨q2, q3⟩, q4⟩ := hb
      obtain ⟨i, hi, e⟩ := mem_nth ((hmem _).2 ⟨nth_mem q1, q2, by omega⟩)
      exact absurd (by rw [e]; exact q3) (h2 i hi)
  · rw [h3]
    obtain ⟨r1, r2, r3⟩ := (hmem _).1 (nth_mem h1)
    obtain ⟨i0, hi0, ei0⟩ := mem_nth r1
    cases hbo : bestO l tr x l.length with
    | none =>
      rw [hbo] at hb
      exact absurd ⟨by rw [ei0]; exact r2, by rw [ei0]; exact h2⟩ (hb i0 hi0)
    | some k =>
      rw [hbo] at hb
      obtain ⟨q1, ⟨q2, q3⟩, q4⟩ := hb
      have hb1 := q4 i0 hi0 ⟨by rw [ei0]; exact r2, by rw [ei0]; exact h2⟩
      rw [ei0] at hb1
      obtain ⟨i, hi, e⟩ := mem_nth ((hmem (nth l k)).2 ⟨nth_mem q1, q2, by omega⟩)
      have hij : i ≤ j := by
        rcases Nat.lt_or_ge j i with h | h
        · exact absurd (by rw [e]; exact q3) (h4 i h hi)
        · exact h
      have hsame : nth m j = nth l k := by
        by_cases hej : i = j
        · rw [← hej, e]
        · have h5 := hs i j (by omega) h1
          rw [e] at h5
          rw [← Bool.not_eq_true, lt_turn] at h5
          unfold betterE at hb1
          refine (validM_SK hv).uniq r1 (nth_mem q1) ?_
          rw [key_iff]
          omega
      rw [hsame]

/-- **merge.History says what the reference's says.** -/
theorem histM_eq (l : List En) (tr en : Int) : histM l tr en = histRef l tr en := by
  unfold histM histRef
  by_cases hc : validM l = false ∨ ¬ (0 ≤ tr ∧ tr ≤ 11) ∨ ¬ (0 ≤ en ∧ en ≤ 10000000)
  · rw [if_pos hc, if_pos hc]
  rw [if_neg hc, if_neg hc]
  have hv : validM l = true := by
    cases h : validM l with
    | true => rfl
    | false => exact absurd (.inl h) hc
  have hen : 0 ≤ en ∧ en ≤ 10000000 := Classical.byContradiction fun h => hc (.inr (.inr h))
  have hml : (mineL l tr en).length ≤ 120 := by
    have h1 : (mineL l tr en).length = (keepP tr en l).length := sortE_length swoTurn _
    have h2 : (keepP tr en l).length ≤ l.length := List.length_filter_le ..
    have := validM_len hv
    omega
  obtain ⟨out, h1, h2, _⟩ := paint_TL (m := mineL l tr en) hen.1 hen.2 (fun y hy => by
    obtain ⟨q1, q2, q3⟩ := mem_mineL.1 hy
    have := formed_iff.1 (validM_formed hv q1)
    omega) hml (mineL l tr en).length (Nat.le_refl _)
  have hp : paintP en 0 ((mineL l tr en).map (spanE en)) = (out, 0) := by
    unfold paintP
    rw [List.length_map]; exact h1
  rw [hp]
  simp only [ne_eq, not_true_eq_false, if_false]
  have h3 := histR_TL hv (tr := tr) (en := en) (en - 0).toNat 0 [] (Nat.le_refl _) hen.1 rfl
  rw [TL.uniq (h2.congr fun x _ hx => gm_owner hv hx) h3]

end Go.AI

/- merge.Against says what the reference's says. Plain. -/
namespace Go.AI
open Go Go.Proofs Go.RowKit Go.Sort
set_option linter.unusedVariables false

theorem same_iff {x y : En} : (ltKey x y = false ∧ ltKey y x = false) ↔ keyI x = keyI y := by
  constructor
  · exact fun h => ltKey_tri h.1 h.2
  · intro h
    rw [← Bool.not_eq_true, ← Bool.not_eq_true, ltKey_iff, ltKey_iff]
    rw [key_iff] at h
    omega

theorem agK_none {x : En} {b : List En} : ∀ n, n ≤ b.length → (∀ y ∈ b, keyI x ≠ keyI y) → agK x b n = 0
  | 0, _, _ => rfl
  | n + 1, hn, h => by
    unfold agK
    rw [if_neg, agK_none n (by omega) h]
    rintro ⟨h1, h2, _⟩
    exact h _ (nth_mem (by omega)) (same_iff.1 ⟨h1, h2⟩)

theorem agK_some {x : En} {b : List En} (hd : DK b) {k0 : Nat} (hk : k0 < b.length) (hs : keyI x = keyI (nth b k0)) : ∀ n, n ≤ b.length → agK x b n = if k0 < n ∧ x ≠ nth b k0 then 1 else 0
  | 0, _ => by rw [if_neg (by omega)]; rfl
  | n + 1, hn => by
    have ih := agK_some hd hk hs n (by omega)
    unfold agK
    by_cases e : n = k0
    · subst e
      rw [if_neg (by omega)] at ih
      rw [ih]
      by_cases hx : x = nth b n
      · rw [if_neg (fun h => h.2.2 hx), if_neg (fun h => h.2 hx)]
      · rw [if_pos ⟨(same_iff.2 hs).1, (same_iff.2 hs).2, hx⟩, if_pos ⟨by omega, hx⟩]
    · have hne : keyI (nth b n) ≠ keyI (nth b k0) := by
        rw [nth_get (by omega), nth_get hk]
        rcases Nat.lt_or_gt_of_ne e with h | h
        · exact List.pairwise_iff_getElem.1 hd n k0 (by omega) hk h
        · exact fun e => List.pairwise_iff_getElem.1 hd k0 n hk (by omega) h e.symm
      rw [if_neg (fun h => hne ((same_iff.1 ⟨h.1, h.2.1⟩).symm.trans hs)), ih]
      by_cases h1 : k0 < n
      · by_cases h2 : x = nth b k0
        · rw [if_neg (fun h => h.2 h2), if_neg (fun h => h.2 h2)]
        · rw [if_pos ⟨h1, h2⟩, if_pos ⟨by omega, h2⟩]
      · rw [if_neg (fun h => h1 h.1), if_neg (fun h => by omega)]

theorem val_inj {x y : En} (h : valI x = valI y) : x = y := by
  simp only [valI, List.cons.injEq, and_true] at h
  cases x; cases y; simp at h; simp [h]

theorem agM_eq (a b : List En) : agM a b = agRef a b := by
  unfold agM agRef
  by_cases hc : validM a = false ∨ validM b = false
  · rw [if_pos hc, if_pos hc]
  rw [if_neg hc, if_neg hc]
  have hb : validM b = true := by
    cases h : validM b with
    | true => rfl
    | false => exact absurd (.inr h) hc
  have sb := validM_SK hb
  rw [knownI_EM sb _ (Nat.le_refl _), List.take_length]
  have key : ∀ i, agMI a (EM b) i = agI a b i := by
    intro i
    induction i with
    | zero => rfl
    | succ i ih =>
      unfold agMI agI
      rw [ih, getM_EM]
      congr 1
      cases hg : getE b (nth a i) with
      | none =>
        rw [agK_none _ (Nat.le_refl _) (getE_none.1 hg)]
        rfl
      | some y =>
        obtain ⟨hy, hk⟩ := getE_some hg
        obtain ⟨k0, h0, e⟩ := mem_nth hy
        subst e
        rw [agK_some sb.dk h0 hk _ (Nat.le_refl _)]
        simp only [Option.map_some]
        by_cases hx : nth b k0 = nth a i
        · rw [if_pos (by rw [hx]), if_neg (fun h => h.2 hx.symm)]
          rfl
        · rw [if_neg (fun h => hx (val_inj h)), if_pos ⟨h0, fun h => hx h.symm⟩]
          rfl
  rw [key]

end Go.AI

namespace Go.AI
open Go Go.Proofs Go.RowKit
set_option linter.unusedVariables false
set_option maxRecDepth 20000

/-- merge.Airings, out of History's contract. -/
theorem spec22 (l : List En) (tr en' ow : Int) {h : List Sp} {e : Int} (h20 : Spec Try.prog 20 [jv l, .i tr, .i en'] (resS h e)) (hb : h.length ≤ 1000000000) : Spec Try.prog 22 [jv l, .i tr, .i en', .i ow] (resN (cntO h ow h.length) e) := by
  refine spT (r := [_, _]) Try.func22 rfl Try.ntmps22 Try.results22 rfl (by kernel_rfl) (V_run _ (enOK _) 100 ?_)
  refine Way.spec (CallS.by h20 rfl ?_)
  refine V_loop _ (fun i : Nat => ⟨[(3, .i ow), (11, .i e), (12, .i (cntO h ow i)), (22, sv h), (23, .i h.length), (24, .i i)], [], 0⟩) (fun i => i ≤ h.length) (fun i => h.length - i) 0 (Nat.zero_le _) ?_ ?_
  · exact Le_of _ [] [] ⟨rfl, True.intro, ⟨rfl, rfl, rfl, ⟨rfl, rfl, fun _ _ => rfl⟩, rfl, rfl, True.intro⟩, True.intro⟩
  intro i hi
  have hc := cntO_le h ow i
  refine V_run _ (enOK _) 100 ?_
  refine Br.dec (fun hlt => ?_) (fun hlt => ?_)
  · refine Ix.by rfl (by omega) ?_
    refine Br.eq (fun ho => ?_) (fun ho => ?_)
    · refine Ar.nat (cntO h ow i + 1) (by omega) (by omega) ?_
      refine Ar.nat (i + 1) (by omega) (by omega) ?_
      refine ⟨i + 1, by omega, by omega, Le_of _ [] [] ⟨rfl, True.intro, ⟨rfl, rfl, ?_, ⟨rfl, rfl, fun _ _ => rfl⟩, rfl, rfl, True.intro⟩, True.intro⟩⟩
      refine congrArg (fun n : Nat => Value.int .i64 n) ?_
      rw [cntO, if_pos ho]
    · refine Ar.nat (i + 1) (by omega) (by omega) ?_
      refine ⟨i + 1, by omega, by omega, Le_of _ [] [] ⟨rfl, True.intro, ⟨rfl, rfl, ?_, ⟨rfl, rfl, fun _ _ => rfl⟩, rfl, rfl, True.intro⟩, True.intro⟩⟩
      refine congrArg (fun n : Nat => Value.int .i64 n) ?_
      rw [cntO, if_neg ho]
  · have : i = h.length := by omega
    subst this
    refine V_run _ (enOK _) 100 ?_
    exact Out.mk ⟨rfl, rfl, True.intro⟩

end Go.AI

namespace Go.AI
open Go Go.Proofs Go.RowKit Go.Sort
set_option linter.unusedVariables false
set_option maxRecDepth 20000

abbrev e0 : En := ⟨0, 0, 0, 0, 0, 5⟩
abbrev e1 : En := ⟨0, 0, 1, 0, 50, 6⟩
abbrev e2 : En := ⟨0, 1, 0, 0, 30, 7⟩
abbrev e3 : En := ⟨0, 1, 1, 0, 60, 5⟩
abbrev e4 : En := ⟨0, 0, 0, 0, 0, 4⟩
abbrev l4 : List En := [e0, e1, e2, e3]
abbrev h4 : List Sp := [⟨0, 30, 5⟩, ⟨30, 60, 7⟩, ⟨60, 100, 5⟩]

theorem hist4 : histM l4 0 100 = (h4, 0) := by
  rw [histM_eq]
  unfold histRef
  rw [if_neg (by decide)]
  have h1 : histR l4 0 100 0 [] = histR l4 0 100 30 [⟨0, 30, 5⟩] := by rw [histR, dif_pos (by decide)]; rfl
  have h2 : histR l4 0 100 30 [⟨0, 30, 5⟩] = histR l4 0 100 50 [⟨0, 30, 5⟩, ⟨30, 50, 7⟩] := by rw [histR, dif_pos (by decide)]; rfl
  have h3 : histR l4 0 100 50 [⟨0, 30, 5⟩, ⟨30, 50, 7⟩] = histR l4 0 100 60 [⟨0, 30, 5⟩, ⟨30, 60, 7⟩] := by rw [histR, dif_pos (by decide)]; rfl
  have h5 : histR l4 0 100 60 [⟨0, 30, 5⟩, ⟨30, 60, 7⟩] = histR l4 0 100 100 h4 := by rw [histR, dif_pos (by decide)]; rfl
  have h6 : histR l4 0 100 100 h4 = h4 := by rw [histR, dif_neg (by decide)]
  rw [h1, h2, h3, h5, h6]
theorem hist12 : histM l4 12 100 = ([], 320) := by
  unfold histM; rw [if_pos (by decide)]
theorem merge1 : mergeP [e1, e2] [e0, e3] = (l4, 0) := by
  have : mrg [e1, e2] [e0, e3] = l4 := by
    refine SK.ext (SK_mrg (validM_SK (by decide)) (validM_SK (by decide))) (validM_SK (by decide)) fun z => ?_
    rw [mem_mrg (validM_SK (by decide)) (validM_SK (by decide))]
    unfold Mn
    constructor
    · rintro ⟨h, _⟩
      simp only [List.mem_cons, List.not_mem_nil, or_false] at h ⊢
      rcases h with (h | h) | (h | h) <;> simp [h]
    · intro h
      simp only [List.mem_cons, List.not_mem_nil, or_false] at h
      rcases h with rfl | rfl | rfl | rfl
      · refine ⟨by decide, fun y hy hk => ?_⟩
        simp only [List.mem_cons, List.not_mem_nil, or_false] at hy
        rcases hy with (rfl | rfl) | (rfl | rfl) <;> first | rfl | exact absurd hk (by decide)
      · refine ⟨by decide, fun y hy hk => ?_⟩
        simp only [List.mem_cons, List.not_mem_nil, or_false] at hy
        rcases hy with (rfl | rfl) | (rfl | rfl) <;> first | rfl | exact absurd hk (by decide)
      · refine ⟨by decide, fun y hy hk => ?_⟩
        simp only [List.mem_cons, List.not_mem_nil, or_false] at hy
        rcases hy with (rfl | rfl) | (rfl | rfl) <;> first | rfl | exact absurd hk (by decide)
      · refine ⟨by decide, fun y hy hk => ?_⟩
        simp only [List.mem_cons, List.not_mem_nil, or_false] at hy
        rcases hy with (rfl | rfl) | (rfl | rfl) <;> first | rfl | exact absurd hk (by decide)
  unfold mergeP
  rw [this, if_neg (by decide), if_neg (by decide)]
theorem merge2 : mergeP [e0] [e4] = ([e4], 0) := by
  have : mrg [e0] [e4] = [e4] := by
    rw [mrg, if_neg (by decide), if_neg (by decide), if_pos (by decide)]; simp [mrg]
  unfold mergeP
  rw [this, if_neg (by decide), if_neg (by decide)]
theorem against1 : agM l4 [e4, e1] = ([e0], 0) := by
  unfold agM
  rw [if_neg (by decide)]
  rfl
theorem merge3 : mergeP [e1, e0] [] = ([], 320) := by
  unfold mergeP
  rw [if_pos (by decide)]

theorem histM_len (l : List En) (tr en' : Int) : (histM l tr en').1.length ≤ 200 := by
  unfold histM
  split
  · simp
  · split
    · simp
    · exact paintI_len ..

theorem spec22H (l : List En) (hl : l.length ≤ 1000000000) (tr en' ow : Int) : Spec Try.prog 22 [jv l, .i tr, .i en', .i ow] (resN (cntO (histM l tr en').1 ow (histM l tr en').1.length) (histM l tr en').2) :=
  spec22 l tr en' ow (spec20 l hl tr en' rfl) (by have := histM_len l tr en'; omega)

theorem lt4 {P : Nat → Prop} (h0 : P 0) (h1 : P 1) (h2 : P 2) (h3 : P 3) : ∀ i, i < 4 → P i
  | 0, _ => h0
  | 1, _ => h1
  | 2, _ => h2
  | 3, _ => h3
theorem lt3 {P : Nat → Prop} (h0 : P 0) (h1 : P 1) (h2 : P 2) : ∀ i, i < 3 → P i
  | 0, _ => h0
  | 1, _ => h1
  | 2, _ => h2
theorem lt2 {P : Nat → Prop} (h0 : P 0) (h1 : P 1) : ∀ i, i < 2 → P i
  | 0, _ => h0
  | 1, _ => h1
theorem lt1 {P : Nat → Prop} (h0 : P 0) : ∀ i, i < 1 → P i
  | 0, _ => h0

set_option maxHeartbeats 8000000 in
theorem spec10 : Spec Try.prog 10 [] (.b true) := by
  have s5 : Spec Try.prog 22 [jv l4, .i 0, .i 100, .i 5] (resN 2 0) := by
    have := spec22H l4 (by decide) 0 100 5
    rw [hist4] at this
    exact this
  have s6 : Spec Try.prog 22 [jv l4, .i 0, .i 100, .i 6] (resN 0 0) := by
    have := spec22H l4 (by decide) 0 100 6
    rw [hist4] at this
    exact this
  refine spT (r := [.b _]) Try.func10 rfl Try.ntmps10 Try.results10 rfl (by kernel_rfl) (V_run _ (enOK _) 14 ?_)
  refine V_weak _ (st' := ⟨[(1, jv l4)], [], 0⟩) (Le_of _ [] [0] ⟨rfl, ⟨True.intro, True.intro⟩, ⟨⟨rfl, rfl, rfl, Nat.le_refl _, lt4 rfl rfl rfl rfl⟩, True.intro⟩, True.intro⟩) (V_run _ (enOK _) 100 ?_)
  refine Way.spec (CallS.by (spec20 l4 (by decide) 0 100 hist4) rfl ?_)
  refine Way.spec (CallS.by s5 rfl ?_)
  refine Way.spec (CallS.by s6 rfl ?_)
  refine V_draw _ (enOK _) (by kernel_rfl) ?_
  refine Ix.by (r := 3) rfl (by decide) ?_
  refine Ix.by (r := 1) rfl (by decide) ?_
  refine Ix.by (r := 0) rfl (by decide) ?_
  refine Ix.by (r := 3) rfl (by decide) ?_
  refine Way.frz ?_
  refine Bd.mk (by decide) ?_
  refine CallS.by (Spec.arg (spec15 [e1, e2] [e0, e3] (by decide) (by decide) merge1) ?_) rfl ?_
  · exact ⟨⟨rfl, rfl, lt2 rfl rfl⟩, ⟨rfl, rfl, lt2 rfl rfl⟩, True.intro⟩
  refine And.intro (by kernel_rfl) (V_run _ (enOK _) 100 ?_)
  refine Ix.by (r := 1) rfl (by decide) ?_
  refine Way.frz ?_
  refine Bd.mk (by decide) ?_
  refine CallS.by (Spec.arg (spec15 [e0] [e4] (by decide) (by decide) merge2) ?_) rfl ?_
  · exact ⟨⟨rfl, rfl, lt1 rfl⟩, ⟨rfl, rfl, lt1 rfl⟩, True.intro⟩
  refine Ix.by (r := 1) rfl (by decide) ?_
  refine Way.frz ?_
  refine Bd.mk (by decide) ?_
  refine CallS.by (Spec.arg (spec17 l4 [e4, e1] (by decide) (by decide) against1) ?_) rfl ?_
  · exact ⟨⟨rfl, rfl, fun _ _ => rfl⟩, ⟨rfl, rfl, lt2 rfl rfl⟩, True.intro⟩
  refine Way.spec (CallS.by (spec20 l4 (by decide) 12 100 hist12) rfl ?_)
  refine V_draw _ (enOK _) (by kernel_rfl) ?_
  refine Ix.by (r := 1) rfl (by decide) ?_
  refine Ix.by (r := 0) rfl (by decide) ?_
  refine Way.frz ?_
  refine Bd.mk (by decide) ?_
  refine CallS.by (Spec.arg (spec15 [e1, e0] [] (by decide) (by decide) merge3) ?_) rfl ?_
  · exact ⟨⟨rfl, rfl, lt2 rfl rfl⟩, rfl, True.intro⟩
  refine And.intro (by kernel_rfl) (V_run _ (enOK _) 200 ?_)
  repeat' first
    | refine Br.eyes rfl ?_
  refine Way.spec ?_
  refine Bd.mk (by decide) ?_
  refine CallS.by (Spec.arg (spec24 h4 h4 (by decide)) ?_) rfl ?_
  · exact ⟨⟨rfl, rfl, fun _ _ => rfl⟩, ⟨rfl, rfl, lt3 rfl rfl rfl⟩, True.intro⟩
  refine Br.dyes rfl ?_
  refine Br.eyes rfl ?_
  refine Br.eyes rfl ?_
  refine Way.spec ?_
  refine CallS.by (spec19 l4 l4 (by decide)) rfl ?_
  refine Br.dyes rfl ?_
  refine Way.spec ?_
  refine Bd.mk (by decide) ?_
  refine CallS.by (Spec.arg (spec19 [e4] [e4] (by decide)) ?_) rfl ?_
  · exact ⟨⟨rfl, rfl, fun _ _ => rfl⟩, ⟨rfl, rfl, lt1 rfl⟩, True.intro⟩
  refine Br.dyes rfl ?_
  refine Ix.by (r := 1) rfl (by decide) ?_
  refine Way.spec ?_
  refine CallS.by (Spec.arg (spec19 [e0] [e0] (by decide)) ?_) rfl ?_
  · exact ⟨⟨rfl, rfl, fun _ _ => rfl⟩, ⟨rfl, rfl, lt1 rfl⟩, True.intro⟩
  refine Br.dyes rfl ?_
  refine Way.spec ?_
  refine CallS.by (spec13 l4 (by decide)) rfl ?_
  refine Out.mk ⟨?_, True.intro⟩
  rfl

end Go.AI

namespace Go.AI
open Go Go.Proofs Go.RowKit Go.Sort
set_option linter.unusedVariables false
set_option maxRecDepth 20000

/-- both. -/
theorem spec25 (a b : List En) (ha : a.length ≤ 1000000000) (hb : b.length ≤ 1000000000) : Spec Try.prog 25 [jv a, jv b] (.tup [jv (mergeP a b).1, .b (decide ((mergeP a b).2 = 0) && validM (mergeP a b).1)]) := by
  refine spT (r := [_, .b _]) Try.func25 rfl Try.ntmps25 Try.results25 rfl (by kernel_rfl) (V_run _ (enOK _) 100 ?_)
  have hl := mergeP_len a b
  refine Way.spec (CallS.by (spec15 a b ha hb (s := (mergeP a b).1) (e := (mergeP a b).2) rfl) rfl ?_)
  refine Br.eq (fun h => ?_) (fun h => ?_)
  · refine Way.spec (CallS.by (spec13 _ (by omega)) rfl ?_)
    exact Out.mk ⟨⟨rfl, rfl, fun _ _ => rfl⟩, congrArg Value.bool (by simp [h]), True.intro⟩
  · exact Out.mk ⟨⟨rfl, rfl, fun _ _ => rfl⟩, congrArg Value.bool (by simp [h]), True.intro⟩

/-- A slice of entries, as it is told where more may lie behind. -/
abbrev jq (p : List En × Nat) : PV := .rd 6 p.2 fun i => (nth p.1 i).c
def jl (p : List En × Nat) : List En := p.1.take p.2
def jok (p : List En × Nat) : Prop := p.2 ≤ p.1.length
theorem jl_len {p : List En × Nat} (h : jok p) : (jl p).length = p.2 := by unfold jl; rw [List.length_take]; unfold jok at h; omega
theorem jq_le {p : List En × Nat} (h : jok p) : leR (jv (jl p)) (.pv (jq p)) := by
  refine ⟨rfl, (jl_len h).symm, fun i hi => ?_⟩
  have : nth (jl p) i = nth p.1 i := by unfold jl nth; rw [List.getElem?_take_of_lt hi]
  dsimp only
  rw [this]

abbrev jrow (J : List (List En × Nat)) : PV := .rd 1 J.length fun i => [jq (nth J i)]
abbrev prow (P : List (Int × Int × Int)) : PV := .rd 3 P.length fun i => [.i (nth P i).1, .i (nth P i).2.1, .i (nth P i).2.2]

theorem ag_len (a b : List En) (h : a.length ≤ 1000000000) : (agRef a b).1.length ≤ 1000000000 := by
  rw [← agM_eq]
  unfold agM
  split
  · simp
  · have := agMI_len a (knownI b b.length) a.length
    simp only; omega

set_option maxHeartbeats 8000000 in
theorem spec3 (r0 r1 : List En) (x y : List R5) (tr en' ow : Int) (hx : ∀ i, (nth x i).ok) (hy : ∀ i, (nth y i).ok) (ht : in64 tr) (he : in64 en') (ho : in64 ow) :
    Spec Try.prog 3 [.agg [jv r0, jv r1], rv x, rv y, .i tr, .i en', .i ow] (.b true) := by
  refine spT (r := [.b _]) Try.func3 rfl Try.ntmps3 Try.results3 rfl (by kernel_rfl) (V_run _ (enOK _) 100 ?_)
  refine Way.spec (CallS.by spec10 rfl ?_)
  refine Br.notn rfl ?_
  refine V_draw _ (enOK _) (by kernel_rfl) ?_
  have hmin : ∀ l : List En, minI (l.length : Int) 121 = ((min l.length 121 : Nat) : Int) := fun l => by unfold minI; split <;> omega
  refine Ix.by (r := 0) rfl (by decide) ?_
  refine Ix.by (r := 0) rfl (by decide) ?_
  refine Ix.by (r := min r0.length 121) (hmin r0) (by omega) ?_
  refine Ix.by (r := 1) rfl (by decide) ?_
  refine Ix.by (r := 1) rfl (by decide) ?_
  refine Ix.by (r := min r1.length 121) (hmin r1) (by omega) ?_
  refine Way.spec (CallS.by (spec11 x hx) rfl ?_)
  refine Way.spec (CallS.by (spec11 y hy) rfl ?_)
  refine And.intro (by kernel_rfl) (V_run _ (enOK _) 100 ?_)
  refine Way.spec (CallS.by (spec12 tr 3 ht (by decide)) rfl ?_)
  refine Way.spec (CallS.by (spec12 en' 260 he (by decide)) rfl ?_)
  refine Way.spec (CallS.by (spec12 ow 7 ho (by decide)) rfl ?_)
  obtain ⟨J, hJ⟩ : ∃ J : List (List En × Nat), J = [(r0, min r0.length 121), (r1, min r1.length 121), (made x, (made x).length), (made y, (made y).length)] := ⟨_, rfl⟩
  obtain ⟨P, hP⟩ : ∃ P : List (Int × Int × Int), P = [(tr, en', ow), (pickI tr 3, pickI en' 260, pickI ow 7)] := ⟨_, rfl⟩
  have hJ4 : J.length = 4 := by rw [hJ]; rfl
  have hP2 : P.length = 2 := by rw [hP]; rfl
  have hJok : ∀ i, i < 4 → jok (nth J i) ∧ (nth J i).2 ≤ 1000000000 := by
    rw [hJ]
    have hmx := madeI_len x (min x.length 16)
    have hmy := madeI_len y (min y.length 16)
    refine lt4 ?_ ?_ ?_ ?_
    · exact ⟨Nat.min_le_left .., by show min r0.length 121 ≤ _; omega⟩
    · exact ⟨Nat.min_le_left .., by show min r1.length 121 ≤ _; omega⟩
    · exact ⟨Nat.le_refl _, by show (madeI x (min x.length 16)).length ≤ _; omega⟩
    · exact ⟨Nat.le_refl _, by show (madeI y (min y.length 16)).length ≤ _; omega⟩
  refine V_loop _ (fun i : Nat => ⟨[(13, .b true), (14, .pv (jrow J)), (15, .pv (prow P)), (16, .i i)], [], 0⟩) (fun i => i ≤ 4) (fun i => 4 - i) 0 (Nat.zero_le _) ?_ ?_
  · exact Le_of _ [] [1, 2] ⟨rfl, ⟨True.intro, True.intro, True.intro⟩, ⟨rfl, ⟨rfl, rfl, hJ4.symm, Nat.le_refl _, by rw [hJ]; exact lt4 rfl rfl rfl rfl⟩, ⟨rfl, rfl, hP2.symm, Nat.le_refl _, by rw [hP]; exact lt2 rfl rfl⟩, rfl, True.intro⟩, True.intro⟩
  clear hmin hJ hP
  intro i hi
  refine V_run _ (enOK _) 200 ?_
  refine Br.dec (fun hlt => ?_) (fun hlt => ?_)
  · have hi' : i < 4 := by omega
    obtain ⟨hj1, hj2⟩ := hJok i hi'
    refine Ix.by rfl (by omega) ?_
    have hjl := jl_len hj1
    refine Way.spec ?_
    refine CallS.by (Spec.arg (spec13 (jl (nth J i)) (by omega)) ⟨jq_le hj1, True.intro⟩) rfl ?_
    refine Way.spec ?_
    refine CallS.by (Spec.arg (spec14 (jl (nth J i)) (by omega)) ⟨jq_le hj1, True.intro⟩) rfl ?_
    refine Br.no (by simp) ?_
    refine V_loop _ (fun k : Nat => ⟨[(13, .b true), (14, .pv (jrow J)), (15, .pv (prow P)), (16, .i i), (17, .pv (jq (nth J i))), (18, .i k)], [], 0⟩) (fun k => k ≤ 4) (fun k => 4 - k) 0 (Nat.zero_le _) ?_ ?_
    · exact Le_of _ [] [] ⟨rfl, True.intro, ⟨rfl, ⟨rfl, rfl, fun _ _ => rfl⟩, ⟨rfl, rfl, fun _ _ => rfl⟩, rfl, ⟨rfl, rfl, fun _ _ => rfl⟩, rfl, True.intro⟩, True.intro⟩
    · intro k hk
      refine V_run _ (enOK _) 200 ?_
      refine Br.dec (fun hlt2 => ?_) (fun hlt2 => ?_)
      · have hk' : k < 4 := by omega
        obtain ⟨hk1, hk2⟩ := hJok k hk'
        have hkl := jl_len hk1
        obtain ⟨ms, me, hm⟩ : ∃ s e, mergeP (jl (nth J i)) (jl (nth J k)) = (s, e) := ⟨_, _, rfl⟩
        have hml : ms.length ≤ 120 := by have := mergeP_len (jl (nth J i)) (jl (nth J k)); rw [hm] at this; exact this
        obtain ⟨gs, ge, hg⟩ : ∃ s e, agRef (jl (nth J i)) (jl (nth J k)) = (s, e) := ⟨_, _, rfl⟩
        have hgl : gs.length ≤ 1000000000 := by have := ag_len (jl (nth J i)) (jl (nth J k)) (by omega); rw [hg] at this; exact this
        refine Ix.by rfl (by omega) ?_
        refine Way.spec ?_
        refine CallS.by (Spec.arg (spec15 (jl (nth J i)) (jl (nth J k)) (by omega) (by omega) hm) ⟨jq_le hj1, jq_le hk1, True.intro⟩) rfl ?_
        refine Ix.by rfl (by omega) ?_
        refine Way.spec ?_
        refine CallS.by (Spec.arg (spec16 (jl (nth J i)) (jl (nth J k)) (by omega) (by omega) hm) ⟨jq_le hj1, jq_le hk1, True.intro⟩) rfl ?_
        refine Ix.by rfl (by omega) ?_
        refine Way.spec ?_
        refine CallS.by (Spec.arg (spec17 (jl (nth J i)) (jl (nth J k)) (by omega) (by omega) ((agM_eq _ _).trans hg)) ⟨jq_le hj1, jq_le hk1, True.intro⟩) rfl ?_
        refine Ix.by rfl (by omega) ?_
        refine Way.spec ?_
        refine CallS.by (Spec.arg (spec18 (jl (nth J i)) (jl (nth J k)) (by omega) (by omega) hg) ⟨jq_le hj1, jq_le hk1, True.intro⟩) rfl ?_
        refine Br.nno rfl ?_
        refine Br.nno rfl ?_
        refine Way.spec ?_
        refine CallS.by (spec19 _ _ (by omega)) rfl ?_
        refine Br.notn (by simp) ?_
        refine Way.spec ?_
        refine CallS.by (spec19 _ _ hgl) rfl ?_
        refine Br.notn (by simp) ?_
        refine Ar.nat (k + 1) (by omega) (by omega) ?_
        exact ⟨k + 1, by omega, by omega, Le_of _ [] [] ⟨rfl, True.intro, ⟨rfl, ⟨rfl, rfl, fun _ _ => rfl⟩, ⟨rfl, rfl, fun _ _ => rfl⟩, rfl, ⟨rfl, rfl, fun _ _ => rfl⟩, rfl, True.intro⟩, True.intro⟩⟩
      · have : k = 4 := by omega
        subst this
        refine V_run _ (enOK _) 200 ?_
        refine V_loop _ (fun k : Nat => ⟨[(13, .b true), (14, .pv (jrow J)), (15, .pv (prow P)), (16, .i i), (17, .pv (jq (nth J i))), (27, .i k)], [], 0⟩) (fun k => k ≤ 2) (fun k => 2 - k) 0 (Nat.zero_le _) ?_ ?_
        · exact Le_of _ [] [] ⟨rfl, True.intro, ⟨rfl, ⟨rfl, rfl, fun _ _ => rfl⟩, ⟨rfl, rfl, fun _ _ => rfl⟩, rfl, ⟨rfl, rfl, fun _ _ => rfl⟩, rfl, True.intro⟩, True.intro⟩
        intro k hk
        refine V_run _ (enOK _) 200 ?_
        refine Br.dec (fun hlt2 => ?_) (fun hlt2 => ?_)
        · have hk' : k < 2 := by omega
          have hhl := histM_len (jl (nth J i)) (nth P k).1 (nth P k).2.1
          obtain ⟨hs, he', hh⟩ : ∃ s e, histM (jl (nth J i)) (nth P k).1 (nth P k).2.1 = (s, e) := ⟨_, _, rfl⟩
          rw [hh] at hhl
          have hhl : hs.length ≤ 200 := hhl
          have hh2 : histRef (jl (nth J i)) (nth P k).1 (nth P k).2.1 = (hs, he') := (histM_eq _ _ _).symm.trans hh
          have s22 := spec22H (jl (nth J i)) (by omega) (nth P k).1 (nth P k).2.1 (nth P k).2.2
          have s23 := spec23 (jl (nth J i)) (by omega) (nth P k).1 (nth P k).2.1 (nth P k).2.2
          rw [hh] at s22
          rw [hh2] at s23
          refine Ix.by rfl (by omega) ?_
          refine Ix.by (r := 0) rfl (by decide) ?_
          refine Ix.by (r := 1) rfl (by decide) ?_
          refine Way.spec ?_
          refine CallS.by (Spec.arg (spec20 (jl (nth J i)) (by omega) (nth P k).1 (nth P k).2.1 hh) ⟨jq_le hj1, rfl, rfl, True.intro⟩) rfl ?_
          refine Ix.by (r := 0) rfl (by decide) ?_
          refine Ix.by (r := 1) rfl (by decide) ?_
          refine Way.spec ?_
          refine CallS.by (Spec.arg (spec21 (jl (nth J i)) (by omega) (nth P k).1 (nth P k).2.1 hh2) ⟨jq_le hj1, rfl, rfl, True.intro⟩) rfl ?_
          refine Ix.by (r := 0) rfl (by decide) ?_
          refine Ix.by (r := 1) rfl (by decide) ?_
          refine Ix.by (r := 2) rfl (by decide) ?_
          refine Way.spec ?_
          refine CallS.by (Spec.arg s22 ⟨jq_le hj1, rfl, rfl, rfl, True.intro⟩) rfl ?_
          refine Ix.by (r := 0) rfl (by decide) ?_
          refine Ix.by (r := 1) rfl (by decide) ?_
          refine Ix.by (r := 2) rfl (by decide) ?_
          refine Way.spec ?_
          refine CallS.by (Spec.arg s23 ⟨jq_le hj1, rfl, rfl, rfl, True.intro⟩) rfl ?_
          refine Br.nno rfl ?_
          refine Br.nno rfl ?_
          refine Br.nno rfl ?_
          refine Way.spec ?_
          refine CallS.by (spec24 _ _ (by omega)) rfl ?_
          refine Br.notn (by simp) ?_
          refine Ar.nat (k + 1) (by omega) (by omega) ?_
          exact ⟨k + 1, by omega, by omega, Le_of _ [] [] ⟨rfl, True.intro, ⟨rfl, ⟨rfl, rfl, fun _ _ => rfl⟩, ⟨rfl, rfl, fun _ _ => rfl⟩, rfl, ⟨rfl, rfl, fun _ _ => rfl⟩, rfl, True.intro⟩, True.intro⟩⟩
        · have : k = 2 := by omega
          subst this
          refine V_run _ (enOK _) 200 ?_
          refine Ar.nat (i + 1) (by omega) (by omega) ?_
          exact ⟨i + 1, by omega, by omega, Le_of _ [] [] ⟨rfl, True.intro, ⟨rfl, ⟨rfl, rfl, fun _ _ => rfl⟩, ⟨rfl, rfl, fun _ _ => rfl⟩, rfl, True.intro⟩, True.intro⟩⟩
  · have : i = 4 := by omega
    subst this
    refine V_run _ (enOK _) 100 ?_
    exact Out.mk ⟨rfl, True.intro⟩

end Go.AI

/- The arguments of the laws of the seat, as they are read. -/
namespace Go.AI
open Go Go.Proofs Go.RowKit
set_option linter.unusedVariables false

theorem own : ownKnob Try.prog.godebug = none := by kernel_rfl
theorem laidOut : laidOutB Try.prog = true := by kernel_rfl
theorem flat3 : Flat Try.prog 3 1 := flat_int Try.underlying3
theorem flat47 : Flat Try.prog 47 6 := by
  refine flat_struct Try.underlying47 rfl (by kernel_rfl) fun i f hf => ?_
  have h3 : Try.prog.cellsOf 3 = 1 := by kernel_rfl
  have hi : i < 6 := by
    have := (Array.getElem?_eq_some_iff.1 hf).1
    simpa using this
  have : i = 0 ∨ i = 1 ∨ i = 2 ∨ i = 3 ∨ i = 4 ∨ i = 5 := by omega
  rcases this with rfl | rfl | rfl | rfl | rfl | rfl <;> (simp at hf; subst hf; exact ⟨rfl, h3, Try.underlying3⟩)
theorem flat76 : Flat Try.prog 76 5 := flat_array Try.underlying76 flat3 (by kernel_rfl) (by kernel_rfl)

def enOf (r : List Int) : En := ⟨r.getD 0 0, r.getD 1 0, r.getD 2 0, r.getD 3 0, r.getD 4 0, r.getD 5 0⟩
def r5Of (r : List Int) : R5 := ⟨r.getD 0 0, r.getD 1 0, r.getD 2 0, r.getD 3 0, r.getD 4 0⟩
theorem enOf_c {r : List Int} (h : r.length = 6) : r.map PV.i = (enOf r).c := by
  match r, h with
  | [a, b, c, d, e, f], _ => rfl
theorem r5Of_c {r : List Int} (h : r.length = 5) : r.map PV.i = (r5Of r).cs := by
  match r, h with
  | [a, b, c, d, e], _ => rfl

section
variable {H : Type} {enc : TypeId × Value → H} {w : World} {sp : Nat → Bool} {held : Bool} {m : Nat}

/-- A slice of entries. -/
theorem open_en {cs : List Value} {y : DataW H × List MemPlace} (h : DataW.trod enc Try.prog w 0 sp held m 22 cs = some y) : ∃ (v : Value) (l : List En), cs = [v] ∧ Rel w (fun b => b < w.heap.size) noρ (jv l) v := by
  obtain ⟨v, rows, rfl, h1, h2⟩ := open_rows Try.underlying22 flat47 (by kernel_rfl) (by decide) h
  refine ⟨v, rows.map enOf, rfl, ?_⟩
  unfold Rel
  refine PVle.sound (x := .rd 6 rows.length fun i => (nthD rows i).map PV.i) ⟨rfl, by simp, fun i hi => ?_⟩ h2
  have hl : nthD rows i ∈ rows := by unfold nthD; rw [List.getElem?_eq_getElem hi]; exact List.getElem_mem hi
  have : nth (rows.map enOf) i = enOf (nthD rows i) := by
    unfold nth nthD; rw [List.getElem?_map, List.getElem?_eq_getElem hi]; rfl
  dsimp only
  rw [this]
  exact enOf_c (h1 _ hl).1

/-- A slice of rows of five numbers. -/
theorem open_r5 {cs : List Value} {y : DataW H × List MemPlace} (h : DataW.trod enc Try.prog w 0 sp held m 24 cs = some y) : ∃ (v : Value) (l : List R5), cs = [v] ∧ Rel w (fun b => b < w.heap.size) noρ (rv l) v ∧ ∀ i, (nth l i).ok := by
  obtain ⟨v, rows, rfl, h1, h2⟩ := open_rows Try.underlying24 flat76 (by kernel_rfl) (by decide) h
  have hn : ∀ i, i < rows.length → nth (rows.map r5Of) i = r5Of (nthD rows i) ∧ nthD rows i ∈ rows := fun i hi => by
    refine ⟨?_, by unfold nthD; rw [List.getElem?_eq_getElem hi]; exact List.getElem_mem hi⟩
    unfold nth nthD; rw [List.getElem?_map, List.getElem?_eq_getElem hi]; rfl
  refine ⟨v, rows.map r5Of, rfl, ?_, fun i => ?_⟩
  · unfold Rel
    refine PVle.sound (x := .rd 5 rows.length fun i => (nthD rows i).map PV.i) ⟨rfl, by simp, fun i hi => ?_⟩ h2
    dsimp only
    rw [(hn i hi).1]
    exact r5Of_c (h1 _ (hn i hi).2).1
  · by_cases hi : i < rows.length
    · rw [(hn i hi).1]
      obtain ⟨g1, g2⟩ := h1 _ (hn i hi).2
      match nthD rows i, g1, g2 with
      | [a, b, c, d, e], _, g2 =>
        exact ⟨g2 a (by simp), g2 b (by simp), g2 c (by simp), g2 d (by simp), g2 e (by simp)⟩
    · have : nth (rows.map r5Of) i = default := by unfold nth; rw [List.getElem?_eq_none (by simp; omega)]; rfl
      rw [this]
      unfold R5.ok in64
      decide
end

theorem wf64 {n : Int} (h : (Lit.int .i64 n).wf = true) : in64 n := by
  simp [Lit.wf, IntKind.min, IntKind.max, IntKind.signed, IntKind.bits] at h
  exact h

/-- A call, out of a contract. -/
theorem call_of {f : Nat} {args : List AV} {r : Bool} (h : Spec Try.prog f args (.b r)) {w : World} {vs : List Value} (hr : RelL w (fun b => b < w.heap.size) noρ args vs) : Calls Try.prog f vs.toArray w fun e w' => e = .returned (.bool r) ∧ Below w.heap.size w w' := by
  refine (h.2 w (fun b => b < w.heap.size) vs (fun _ h => h) hr).mono fun e w' ⟨v, he, hb, hv⟩ => ?_
  have := Rel_val hv
  exact ⟨by rw [he, this], hb.below⟩

end Go.AI

/- Merging: order, grouping, what is told by both. Plain. -/
namespace Go.AI
open Go Go.Proofs Go.RowKit Go.Sort
set_option linter.unusedVariables false

theorem validM_of {l : List En} (hs : SK l) (hf : ∀ x ∈ l, formed x = true) (hl : l.length ≤ 120) : validM l = true := by
  rw [validM_all]
  · exact decide_eq_true hl
  intro i hi
  unfold okAt
  rw [Bool.and_eq_true, Bool.or_eq_true]
  refine ⟨hf _ (nth_mem hi), ?_⟩
  by_cases e : i = 0
  · exact .inl (by simp [e])
  · right
    have := List.pairwise_iff_getElem.1 hs (i - 1) i (by omega) hi (by omega)
    rw [nth_get hi, nth_get (by omega)]
    exact this

theorem mrg_len (a b : List En) : (mrg a b).length ≤ a.length + b.length := by
  induction a, b using mrg.induct with
  | case1 b => unfold mrg; simp
  | case2 x a => unfold mrg; simp
  | case3 x a y b h ih => rw [mrg, if_pos h]; simp only [List.length_cons] at *; omega
  | case4 x a y b h h2 ih => rw [mrg, if_neg h, if_pos h2]; simp only [List.length_cons] at *; omega
  | case5 x a y b h h2 h3 ih => rw [mrg, if_neg h, if_neg h2, if_pos h3]; simp only [List.length_cons] at *; omega
  | case6 x a y b h h2 h3 ih => rw [mrg, if_neg h, if_neg h2, if_neg h3]; simp only [List.length_cons] at *; omega

theorem valid_mrg {a b : List En} (ha : validM a = true) (hb : validM b = true) (hl : (mrg a b).length ≤ 120) : validM (mrg a b) = true := by
  refine validM_of (SK_mrg (validM_SK ha) (validM_SK hb)) (fun x hx => ?_) hl
  rcases ((mem_mrg (validM_SK ha) (validM_SK hb) x).1 hx).1 with h | h
  · exact validM_formed ha h
  · exact validM_formed hb h

theorem mergeP_ok {a b : List En} (ha : validM a = true) (hb : validM b = true) (hl : a.length + b.length ≤ 120) : mergeP a b = (mrg a b, 0) := by
  have := mrg_len a b
  unfold mergeP
  rw [if_neg (by simp [ha, hb]), if_neg (by omega)]

theorem mn_min {a b : List En} (ha : SK a) (hb : SK b) {y : En} (hy : y ∈ a ∨ y ∈ b) : ∃ m, Mn a b m ∧ keyI m = keyI y ∧ ltRest y m = false := by
  have key : ∀ {a b : List En}, SK a → SK b → y ∈ a → ∃ m, (m ∈ a ∨ m ∈ b) ∧ (∀ w, (w ∈ a ∨ w ∈ b) → keyI w = keyI m → ltRest w m = false) ∧ keyI m = keyI y ∧ ltRest y m = false := by
    intro a b ha hb hy
    by_cases h : ∃ y', y' ∈ b ∧ keyI y' = keyI y ∧ ltRest y' y = true
    · obtain ⟨y', h1, h2, h3⟩ := h
      refine ⟨y', .inr h1, fun w hw hk => ?_, h2, ltRest_asymm h3⟩
      rcases hw with hw | hw
      · rw [ha.uniq hw hy (hk.trans h2)]; exact ltRest_asymm h3
      · rw [hb.uniq hw h1 hk]; exact ltRest_irrefl _
    · refine ⟨y, .inl hy, fun w hw hk => ?_, rfl, ltRest_irrefl _⟩
      rcases hw with hw | hw
      · rw [ha.uniq hw hy hk]; exact ltRest_irrefl _
      · cases e : ltRest w y with
        | false => rfl
        | true => exact absurd ⟨w, hw, hk, e⟩ h
  rcases hy with hy | hy
  · obtain ⟨m, h1, h2, h3, h4⟩ := key ha hb hy
    exact ⟨m, ⟨h1, h2⟩, h3, h4⟩
  · obtain ⟨m, h1, h2, h3, h4⟩ := key hb ha hy
    exact ⟨m, ⟨h1.symm, fun w hw => h2 w hw.symm⟩, h3, h4⟩

theorem mrg_comm {a b : List En} (ha : SK a) (hb : SK b) : mrg a b = mrg b a := by
  refine SK.ext (SK_mrg ha hb) (SK_mrg hb ha) fun z => ?_
  rw [mem_mrg ha hb, mem_mrg hb ha]
  unfold Mn
  exact ⟨fun ⟨h1, h2⟩ => ⟨h1.symm, fun y hy => h2 y hy.symm⟩, fun ⟨h1, h2⟩ => ⟨h1.symm, fun y hy => h2 y hy.symm⟩⟩

/-- The least of each key, of three. -/
theorem mem_mrg3 {a b c : List En} (ha : SK a) (hb : SK b) (hc : SK c) (z : En) : z ∈ mrg (mrg a b) c ↔ (z ∈ a ∨ z ∈ b ∨ z ∈ c) ∧ ∀ y, (y ∈ a ∨ y ∈ b ∨ y ∈ c) → keyI y = keyI z → ltRest y z = false := by
  rw [mem_mrg (SK_mrg ha hb) hc]
  unfold Mn
  simp only [mem_mrg ha hb]
  constructor
  · rintro ⟨h1, h2⟩
    refine ⟨?_, fun y hy hk => ?_⟩
    · rcases h1 with h | h
      · rcases h.1 with h | h
        · exact .inl h
        · exact .inr (.inl h)
      · exact .inr (.inr h)
    · rcases hy with hy | hy | hy
      · obtain ⟨m, m1, m2, m3⟩ := mn_min ha hb (.inl hy)
        exact ltRest_ntrans m3 (h2 m (.inl m1) (m2.trans hk))
      · obtain ⟨m, m1, m2, m3⟩ := mn_min ha hb (.inr hy)
        exact ltRest_ntrans m3 (h2 m (.inl m1) (m2.trans hk))
      · exact h2 y (.inr hy) hk
  · rintro ⟨h1, h2⟩
    have hm : ∀ w, (w ∈ a ∨ w ∈ b) → keyI w = keyI z → ltRest w z = false := fun w hw => h2 w (hw.elim .inl fun h => .inr (.inl h))
    refine ⟨?_, fun y hy hk => ?_⟩
    · rcases h1 with h | h | h
      · exact .inl ⟨.inl h, hm⟩
      · exact .inl ⟨.inr h, hm⟩
      · exact .inr h
    · rcases hy with hy | hy
      · exact hm y hy.1 hk
      · exact h2 y (.inr (.inr hy)) hk

theorem mrg_assoc {a b c : List En} (ha : SK a) (hb : SK b) (hc : SK c) : mrg (mrg a b) c = mrg a (mrg b c) := by
  rw [mrg_comm ha (SK_mrg hb hc)]
  refine SK.ext (SK_mrg (SK_mrg ha hb) hc) (SK_mrg (SK_mrg hb hc) ha) fun z => ?_
  rw [mem_mrg3 ha hb hc, mem_mrg3 hb hc ha]
  have e : ∀ w, (w ∈ a ∨ w ∈ b ∨ w ∈ c) ↔ (w ∈ b ∨ w ∈ c ∨ w ∈ a) := fun w => by
    constructor
    · rintro (h | h | h)
      · exact .inr (.inr h)
      · exact .inl h
      · exact .inr (.inl h)
    · rintro (h | h | h)
      · exact .inr (.inl h)
      · exact .inr (.inr h)
      · exact .inl h
  simp only [e]

theorem mrg_self {a : List En} (ha : SK a) : mrg a a = a := by
  refine SK.ext (SK_mrg ha ha) ha fun z => ?_
  rw [mem_mrg ha ha]
  unfold Mn
  exact ⟨fun ⟨h, _⟩ => h.elim id id, fun h => ⟨.inl h, fun y hy hk => by rw [ha.uniq (hy.elim id id) h hk]; exact ltRest_irrefl _⟩⟩

theorem mrg_again {a b : List En} (ha : SK a) (hb : SK b) : mrg (mrg a b) a = mrg a b := by
  rw [mrg_comm ha hb, mrg_assoc hb ha ha, mrg_self ha]

/-- The journals that numbers determine. -/
theorem madeE_formed (x : R5) : formed (madeE x) = true := by
  rw [formed_iff]
  have h3 := pickI_bd (c := x.a) (n := 3) (by omega)
  have h4 := pickI_bd (c := x.b) (n := 4) (by omega)
  have h5 := pickI_bd (c := x.c) (n := 5) (by omega)
  have h6 := pickI_bd (c := x.d) (n := 200) (by omega)
  have h7 := pickI_bd (c := x.e) (n := 6) (by omega)
  unfold madeE
  simp only
  omega
theorem valid_one {x : En} (h : formed x = true) : validM [x] = true := by
  refine validM_of (List.pairwise_singleton _ _) (fun y hy => ?_) (by simp)
  rw [List.mem_singleton.1 hy]; exact h
theorem madeI_ok (xs : List R5) : ∀ i, i ≤ 100 → validM (madeI xs i) = true ∧ (madeI xs i).length ≤ i
  | 0, _ => ⟨by rfl, Nat.le_refl _⟩
  | i + 1, hi => by
    obtain ⟨h1, h2⟩ := madeI_ok xs i (by omega)
    have h3 := valid_one (madeE_formed (nth xs i))
    have h4 := mergeP_ok h1 h3 (by simp; omega)
    have h5 := mrg_len (madeI xs i) [madeE (nth xs i)]
    simp only [List.length_singleton] at h5
    unfold madeI
    rw [h4]
    exact ⟨valid_mrg h1 h3 (by omega), by simp only; omega⟩
theorem made_ok (xs : List R5) : validM (made xs) = true ∧ (made xs).length ≤ 16 := by
  have := madeI_ok xs (min xs.length 16) (by omega)
  unfold made
  exact ⟨this.1, by omega⟩

/-! ### what both tell -/
def contra (b : List En) (x : En) : Bool := match getE b x with
  | some y => decide (y ≠ x)
  | none => false
theorem contra_iff {b : List En} (hb : SK b) {x : En} : contra b x = true ↔ ∃ y, y ∈ b ∧ keyI y = keyI x ∧ y ≠ x := by
  unfold contra
  cases hg : getE b x with
  | none =>
    have := getE_none.1 hg
    constructor
    · intro h; cases h
    · rintro ⟨y, h1, h2, _⟩; exact absurd h2.symm (this y h1)
  | some y =>
    obtain ⟨h1, h2⟩ := getE_some hg
    simp only [decide_eq_true_eq]
    constructor
    · exact fun h => ⟨y, h1, h2.symm, h⟩
    · rintro ⟨y', q1, q2, q3⟩
      rw [hb.uniq h1 q1 (h2.symm.trans q2.symm)]; exact q3

theorem agM_filter {a b : List En} (ha : validM a = true) (hb : validM b = true) : agM a b = (a.filter (contra b), 0) := by
  unfold agM
  rw [if_neg (by simp [ha, hb])]
  have sb := validM_SK hb
  rw [knownI_EM sb _ (Nat.le_refl _), List.take_length]
  have key : ∀ i, i ≤ a.length → agMI a (EM b) i = (a.take i).filter (contra b) := by
    intro i
    induction i with
    | zero => intro _; rfl
    | succ i ih =>
      intro hi
      unfold agMI
      rw [ih (by omega), take_filter_succ _ _ (by omega), getM_EM]
      congr 1
      unfold contra
      cases hg : getE b (nth a i) with
      | none => rfl
      | some y =>
        simp only [Option.map_some]
        by_cases e : y = nth a i
        · rw [if_pos (by rw [e])]; simp [e]
        · rw [if_neg (fun h => e (val_inj h))]; simp [e]
  rw [key _ (Nat.le_refl _), List.take_length]

theorem contra_len {a b : List En} (ha : SK a) (hb : SK b) : (a.filter (contra b)).length = (b.filter (contra a)).length := by
  have nd : ∀ {l : List En} {p : En → Bool}, SK l → ((l.filter p).map keyI).Nodup := by
    intro l p hl
    have h1 : (l.filter p).Pairwise fun x y => keyI x ≠ keyI y := hl.dk.filter p
    exact List.pairwise_map.2 h1
  have mem : ∀ {a b : List En}, SK a → SK b → ∀ k, k ∈ (a.filter (contra b)).map keyI → k ∈ (b.filter (contra a)).map keyI := by
    intro a b ha hb k hk
    obtain ⟨x, hx, rfl⟩ := List.mem_map.1 hk
    obtain ⟨h1, h2⟩ := List.mem_filter.1 hx
    obtain ⟨y, q1, q2, q3⟩ := (contra_iff hb).1 h2
    exact List.mem_map.2 ⟨y, List.mem_filter.2 ⟨q1, (contra_iff ha).2 ⟨x, h1, q2.symm, fun e => q3 e.symm⟩⟩, q2⟩
  have hp := (List.perm_ext_iff_of_nodup (nd ha) (nd hb)).2 fun k => ⟨mem ha hb k, mem hb ha k⟩
  have := hp.length_eq
  simpa using this

end Go.AI

/- A history as a timeline: valid, its end, its owners. Plain. -/
namespace Go.AI
open Go Go.Proofs Go.RowKit Go.Sort
set_option linter.unusedVariables false

theorem hist_ok {l : List En} (hv : validM l = true) {tr en : Int} (ht : 0 ≤ tr ∧ tr ≤ 11) (he : 0 ≤ en ∧ en ≤ 10000000) :
    ∃ h, histM l tr en = (h, 0) ∧ TL 0 en (ownerR l tr) (-1) h ∧ h.length ≤ 200 := by
  have h1 : histRef l tr en = (histR l tr en 0 [], 0) := by
    unfold histRef
    rw [if_neg (by rw [hv]; simp; omega)]
  have h2 := histM_len l tr en
  rw [histM_eq, h1] at h2
  exact ⟨_, (histM_eq _ _ _).trans h1, histR_TL hv _ 0 [] (Nat.le_refl _) he.1 rfl, h2⟩

theorem hist_valid {l : List En} (hv : validM l = true) {tr en : Int} {h : List Sp} (he : en ≤ 10000000) (ht : TL 0 en (ownerR l tr) (-1) h) (hl : h.length ≤ 200) : tvalid h = true :=
  TL_tvalid ht he (fun x _ _ => ownerR_nn hv tr x) hl

/-- Two histories are the same if their owners are. -/
theorem TL_same {g g' : Int → Int} {h h' : List Sp} {n : Int} (a : TL 0 n g (-1) h) (b : TL 0 n g' (-1) h') (e : ∀ x, 0 ≤ x → x < n → g x = g' x) : h = h' := (a.congr e).uniq b

/-- What is on the air in a second. -/
theorem parts_at {g : Int → Int} {x : Int} : ∀ {l : List Sp} {t n pv : Int}, TL t n g pv l → t ≤ x → x < n → ∃ s r, parts x (x + 1) l = s :: r ∧ s.o = g x
  | [], t, n, pv, h, h1, h2 => by
    have : t = n := h
    omega
  | s :: l, t, n, pv, h, h1, h2 => by
    obtain ⟨e1, e2, e3, e4, e5⟩ := h
    by_cases hx : x < s.t
    · have hh : has x (x + 1) s = true := by
        unfold has cut maxI minI
        simp only [decide_eq_true_eq]
        split <;> split <;> omega
      refine ⟨cut x (x + 1) s, (l.filter (has x (x + 1))).map (cut x (x + 1)), ?_, ?_⟩
      · unfold parts
        rw [List.filter_cons, hh]
        simp
      · unfold cut
        exact (e3 x h1 hx).symm
    · obtain ⟨s', r, p1, p2⟩ := parts_at e5 (by omega) h2
      have hh : has x (x + 1) s = false := by
        unfold has cut maxI minI
        simp only [decide_eq_false_iff_not]
        split <;> split <;> omega
      refine ⟨s', r, ?_, p2⟩
      unfold parts at p1 ⊢
      rw [List.filter_cons, hh]
      simpa using p1

theorem at_TL {g : Int → Int} {x n : Int} {l : List Sp} (h : TL 0 n g (-1) l) (hv : tvalid l = true) (h1 : 0 ≤ x) (h2 : x < n) : atP l x = (g x, 0) := by
  obtain ⟨s, r, e1, e2⟩ := parts_at h h1 h2
  unfold atP
  rw [if_pos hv, e1, ← e2]

end Go.AI

/- An entry that another covers plays no part. Plain. -/
namespace Go.AI
open Go Go.Proofs Go.RowKit Go.Sort
set_option linter.unusedVariables false

/-! ### who owns a second, as a relation -/
def cand (tr x : Int) (y : En) : Prop := y.t = tr ∧ y.a ≤ x
def Own (l : List En) (tr x v : Int) : Prop := (v = 0 ∧ ∀ y ∈ l, ¬ cand tr x y) ∨ ∃ y, y ∈ l ∧ cand tr x y ∧ v = y.o ∧ ∀ z ∈ l, cand tr x z → ¬ betterE z y

theorem own_spec (l : List En) (tr x : Int) : Own l tr x (ownerR l tr x) := by
  have h := bestO_spec l tr x l.length
  unfold ownerR
  cases hb : bestO l tr x l.length with
  | none =>
    rw [hb] at h
    refine .inl ⟨rfl, fun y hy => ?_⟩
    obtain ⟨i, hi, rfl⟩ := mem_nth hy
    exact h i hi
  | some k =>
    rw [hb] at h
    refine .inr ⟨nth l k, nth_mem h.1, h.2.1, rfl, fun z hz hc => ?_⟩
    obtain ⟨i, hi, rfl⟩ := mem_nth hz
    exact h.2.2 i hi hc

theorem own_uniq {l : List En} (hs : SK l) {tr x v w : Int} (h : Own l tr x v) (h' : Own l tr x w) : v = w := by
  rcases h with ⟨rfl, h⟩ | ⟨y, hy, hc, rfl, hb⟩
  · rcases h' with ⟨rfl, _⟩ | ⟨z, hz, hcz, _, _⟩
    · rfl
    · exact absurd hcz (h z hz)
  · rcases h' with ⟨rfl, h'⟩ | ⟨z, hz, hcz, rfl, hbz⟩
    · exact absurd hc (h' y hy)
    · have h1 := hb z hz hcz
      have h2 := hbz y hy hc
      have h3 := hc.1
      have h4 := hcz.1
      unfold betterE at h1 h2
      rw [hs.uniq hy hz ((key_iff _ _).2 (by omega))]

theorem own_eq {l : List En} (hs : SK l) {tr x v : Int} (h : Own l tr x v) : ownerR l tr x = v := own_uniq hs (own_spec l tr x) h

/-! ### all but one -/
def restI (l : List En) (k : Nat) : Nat → List En
  | 0 => []
  | i + 1 => restI l k i ++ (if i = k then [] else [nth l i])
theorem restI_sub (l : List En) (k : Nat) : ∀ i, i ≤ l.length → (restI l k i).Sublist (l.take i)
  | 0, _ => by simp [restI]
  | i + 1, hi => by
    have ih := restI_sub l k i (by omega)
    have e : l.take (i + 1) = l.take i ++ [nth l i] := by
      rw [List.take_add_one, nth_get (by omega), List.getElem?_eq_getElem (by omega)]; rfl
    unfold restI
    rw [e]
    split
    · rw [List.append_nil]
      exact ih.trans (List.sublist_append_left ..)
    · exact List.Sublist.append ih (List.Sublist.refl _)
theorem mem_restI {l : List En} {k : Nat} {z : En} : ∀ {i : Nat}, z ∈ restI l k i ↔ ∃ j, j < i ∧ j ≠ k ∧ nth l j = z
  | 0 => by simp [restI]
  | i + 1 => by
    unfold restI
    rw [List.mem_append, mem_restI]
    constructor
    · rintro (⟨j, h1, h2, h3⟩ | h)
      · exact ⟨j, by omega, h2, h3⟩
      · split at h
        · cases h
        · rename_i hne
          rw [List.mem_singleton] at h
          exact ⟨i, by omega, hne, h.symm⟩
    · rintro ⟨j, h1, h2, h3⟩
      by_cases e : j = i
      · subst e
        right
        rw [if_neg h2, h3]
        exact List.mem_singleton.2 rfl
      · exact .inl ⟨j, by omega, h2, h3⟩

theorem valid_sub {l r : List En} (hv : validM l = true) (h : r.Sublist l) : validM r = true := by
  have := validM_len hv
  have hl := h.length_le
  exact validM_of ((validM_SK hv).sublist h) (fun x hx => validM_formed hv (h.subset hx)) (by omega)

theorem rest_sub (l : List En) (k : Nat) : (restI l k l.length).Sublist l := by
  have := restI_sub l k l.length (Nat.le_refl _)
  rwa [List.take_length] at this

/-- One of the entries covers the k-th. -/
def coverI (l : List En) (k : Nat) : Nat → Bool
  | 0 => false
  | i + 1 => coverI l k i || decide ((nth l i).t = (nth l k).t ∧ (nth l k).e < (nth l i).e ∧ (nth l i).a ≤ (nth l k).a)
theorem coverI_iff {l : List En} {k : Nat} : ∀ {i : Nat}, coverI l k i = true → ∃ j, j < i ∧ (nth l j).t = (nth l k).t ∧ (nth l k).e < (nth l j).e ∧ (nth l j).a ≤ (nth l k).a
  | 0, h => by cases h
  | i + 1, h => by
    unfold coverI at h
    rw [Bool.or_eq_true, decide_eq_true_eq] at h
    rcases h with h | h
    · obtain ⟨j, h1, h2⟩ := coverI_iff h
      exact ⟨j, by omega, h2⟩
    · exact ⟨i, by omega, h⟩

theorem own_rest {l : List En} (hv : validM l = true) {k : Nat} (hk : k < l.length) {tr x : Int}
    (h : tr ≠ (nth l k).t ∨ ∃ j, j < l.length ∧ (nth l j).t = (nth l k).t ∧ (nth l k).e < (nth l j).e ∧ (nth l j).a ≤ (nth l k).a) :
    ownerR l tr x = ownerR (restI l k l.length) tr x := by
  have hs := validM_SK hv
  refine own_eq hs ?_
  have sub := rest_sub l k
  have split : ∀ y ∈ l, y = nth l k ∨ y ∈ restI l k l.length := by
    intro y hy
    obtain ⟨j, hj, rfl⟩ := mem_nth hy
    by_cases e : j = k
    · subst e; exact .inl rfl
    · exact .inr (mem_restI.2 ⟨j, hj, e, rfl⟩)
  rcases own_spec (restI l k l.length) tr x with ⟨h0, hn⟩ | ⟨y, hy, hc, hv', hb⟩
  · rw [h0]
    refine .inl ⟨rfl, fun y hy hc => ?_⟩
    rcases split y hy with rfl | hy
    · rcases h with h | ⟨j, h1, h2, h3, h4⟩
      · exact h hc.1.symm
      · have hz : nth l j ∈ restI l k l.length := mem_restI.2 ⟨j, h1, fun e => by subst e; omega, rfl⟩
        exact hn _ hz ⟨h2.trans hc.1, by have := hc.2; omega⟩
    · exact hn y hy hc
  · refine .inr ⟨y, sub.subset hy, hc, hv', fun z hz hcz => ?_⟩
    rcases split z hz with rfl | hz
    · rcases h with h | ⟨j, h1, h2, h3, h4⟩
      · exact absurd hcz.1.symm h
      · have hz : nth l j ∈ restI l k l.length := mem_restI.2 ⟨j, h1, fun e => by subst e; omega, rfl⟩
        have := hb _ hz ⟨h2.trans hcz.1, by have := hcz.2; omega⟩
        unfold betterE at *
        omega
    · exact hb z hz hcz

end Go.AI

/- Airings counted: the spans of an owner are at most its entries; all together are all spans. Plain. -/
namespace Go.AI
open Go Go.Proofs Go.RowKit Go.Sort
set_option linter.unusedVariables false

theorem take_snoc {α : Type} [Inhabited α] {l : List α} {i : Nat} (h : i < l.length) : l.take (i + 1) = l.take i ++ [nth l i] := by
  rw [List.take_add_one, nth_get h, List.getElem?_eq_getElem h]; rfl

/-- A part of a journal, merged with it. -/
theorem mrg_part {r l : List En} (hr : SK r) (hl : SK l) (h : ∀ z ∈ r, z ∈ l) : mrg r l = l := by
  refine SK.ext (SK_mrg hr hl) hl fun z => ?_
  rw [mem_mrg hr hl]
  unfold Mn
  constructor
  · rintro ⟨h1 | h1, _⟩
    · exact h z h1
    · exact h1
  · refine fun hz => ⟨.inr hz, fun y hy hk => ?_⟩
    rw [hl.uniq (hy.elim (h y) id) hz hk]
    exact ltRest_irrefl _

/-- The entries that are chosen. -/
def someI (p : Nat → Bool) (l : List En) : Nat → List En
  | 0 => []
  | i + 1 => someI p l i ++ (if p i = true then [nth l i] else [])
theorem someI_sub (p : Nat → Bool) (l : List En) : ∀ i, i ≤ l.length → (someI p l i).Sublist (l.take i)
  | 0, _ => by simp [someI]
  | i + 1, hi => by
    have ih := someI_sub p l i (by omega)
    unfold someI
    rw [take_snoc (by omega)]
    split
    · exact List.Sublist.append ih (List.Sublist.refl _)
    · rw [List.append_nil]
      exact ih.trans (List.sublist_append_left ..)
theorem some_sub (p : Nat → Bool) (l : List En) : (someI p l l.length).Sublist l := by
  have := someI_sub p l l.length (Nat.le_refl _)
  rwa [List.take_length] at this

/-! ### spans of an owner -/
def cS (o : Int) (l : List Sp) : Nat := l.countP fun s => decide (s.o = o)
theorem cS_nil (o : Int) : cS o [] = 0 := rfl
theorem cS_cons (o : Int) (s : Sp) (l : List Sp) : cS o (s :: l) = cS o l + if s.o = o then 1 else 0 := by
  unfold cS; rw [List.countP_cons]; simp
theorem cS_append (o : Int) (a b : List Sp) : cS o (a ++ b) = cS o a + cS o b := by unfold cS; rw [List.countP_append]
theorem cS_one (o : Int) (s : Sp) : cS o [s] = if s.o = o then 1 else 0 := by rw [cS_cons, cS_nil]; omega

theorem cntO_cS (h : List Sp) (o : Int) : ∀ i, i ≤ h.length → cntO h o i = cS o (h.take i)
  | 0, _ => by simp [cntO, cS]
  | i + 1, hi => by
    unfold cntO
    rw [take_snoc (by omega), cS_append, cS_one, cntO_cS h o i (by omega)]
    split <;> rfl
theorem cntO_all (h : List Sp) (o : Int) : cntO h o h.length = cS o h := by rw [cntO_cS h o _ (Nat.le_refl _), List.take_length]

theorem cS_set (o : Int) : ∀ (l : List Sp) (r : Nat) (s : Sp), s.o = (nth l r).o → cS o (l.set r s) = cS o l
  | [], _, _, _ => rfl
  | x :: l, 0, s, h => by
    have h : s.o = x.o := h
    rw [List.set_cons_zero, cS_cons, cS_cons, h]
  | x :: l, r + 1, s, h => by
    have h : s.o = (nth l r).o := by rw [h]; simp [nth]
    rw [List.set_cons_succ, cS_cons, cS_cons, cS_set o l r s h]

theorem cS_addS (o : Int) (l : List Sp) (s : Sp) : cS o (addS l s) ≤ cS o l + if s.o = o then 1 else 0 := by
  unfold addS
  split
  · unfold grown
    have := cS_set o l (l.length - 1) ⟨(nth l (l.length - 1)).f, s.t, (nth l (l.length - 1)).o⟩ rfl
    omega
  · rw [cS_append, cS_one]
    exact Nat.le_refl _
theorem cS_addL (o : Int) : ∀ (ps l : List Sp), cS o (addL l ps) ≤ cS o l + cS o ps
  | [], l => Nat.le_refl _
  | s :: ps, l => by
    have h1 := cS_addL o ps (addS l s)
    have h2 := cS_addS o l s
    rw [cS_cons]
    show cS o (addL (addS l s) ps) ≤ _
    omega
theorem cS_parts (o fr to : Int) (l : List Sp) : cS o (parts fr to l) ≤ cS o l := by
  unfold parts cS
  rw [List.countP_map]
  have : ((fun s : Sp => decide (s.o = o)) ∘ cut fr to) = fun s => decide (s.o = o) := by
    funext s; rfl
  rw [this]
  exact (List.filter_sublist).countP_le

theorem putP_cS (o : Int) {l : List Sp} {a en ow : Int} (he : endI l = en) : cS o (putP l ⟨a, en, ow⟩).1 ≤ cS o l + if ow = o then 1 else 0 := by
  have h2 : parts en (endI l) l = [] := by
    rw [he]
    unfold parts
    have : l.filter (has en en) = [] := by
      rw [List.filter_eq_nil_iff]
      intro s hs
      unfold has cut maxI minI
      simp only [decide_eq_true_eq]
      split <;> split <;> omega
    rw [this]; rfl
  have h1 : cS o (putL' l ⟨a, en, ow⟩) ≤ cS o l + if ow = o then 1 else 0 := by
    unfold putL'
    simp only
    rw [h2]
    show cS o (addS (addL [] (parts 0 a l)) ⟨a, en, ow⟩) ≤ _
    have e1 := cS_addS o (addL [] (parts 0 a l)) ⟨a, en, ow⟩
    have e2 := cS_addL o (parts 0 a l) []
    have e3 := cS_parts o 0 a l
    rw [cS_nil] at e2
    simp only at e1
    omega
  unfold putP
  split
  · exact Nat.zero_le _
  · split
    · exact Nat.zero_le _
    · exact h1

theorem paint_cS {m : List En} {en o : Int} (ho : o ≠ 0) (h0 : 0 ≤ en) (h1 : en ≤ 10000000) (hm : ∀ y ∈ m, 0 ≤ y.a ∧ y.a < en ∧ 0 ≤ y.o ∧ y.o ≤ 2999) (hl : m.length ≤ 120) :
    ∀ k, k ≤ m.length → cS o (paintI en 0 (m.map (spanE en)) k).1 ≤ (m.take k).countP fun y => decide (y.o = o)
  | 0, _ => by
    unfold paintI newP
    rw [if_neg (by simp [isOwnerB]; omega)]
    split
    · exact Nat.zero_le _
    · show cS o [⟨0, en, 0⟩] ≤ _
      rw [cS_one, if_neg (fun h => ho h.symm)]
      exact Nat.zero_le _
  | k + 1, hk => by
    have ih := paint_cS ho h0 h1 hm hl k (by omega)
    obtain ⟨l, k1, k2, k3⟩ := paint_TL h0 h1 hm hl k (by omega)
    have hn : nth (m.map (spanE en)) k = spanE en (nth m k) := by
      unfold nth
      rw [List.getElem?_map, List.getElem?_eq_getElem (by omega)]; rfl
    rw [take_snoc (by omega), List.countP_append]
    unfold paintI
    rw [k1] at ih ⊢
    simp only [ne_eq, not_true_eq_false, if_false]
    rw [hn]
    have := putP_cS o (l := l) (a := (nth m k).a) (en := en) (ow := (nth m k).o) (TL_endI k2)
    simp only [List.countP_singleton]
    simp only [decide_eq_true_eq]
    unfold spanE
    simp only at ih
    omega

def entN (l : List En) (tr o : Int) : Nat → Nat
  | 0 => 0
  | i + 1 => if (nth l i).t = tr ∧ (nth l i).o = o then entN l tr o i + 1 else entN l tr o i
theorem entN_count (l : List En) (tr o : Int) : ∀ i, i ≤ l.length → entN l tr o i = (l.take i).countP fun y => decide (y.t = tr ∧ y.o = o)
  | 0, _ => by simp [entN]
  | i + 1, hi => by
    unfold entN
    rw [take_snoc (by omega), List.countP_append, List.countP_singleton, entN_count l tr o i (by omega)]
    simp only [decide_eq_true_eq]
    split <;> rfl

theorem hist_cS {l : List En} (hv : validM l = true) {tr en : Int} (ht : 0 ≤ tr ∧ tr ≤ 11) (he : 0 ≤ en ∧ en ≤ 10000000) {o : Int} (ho : o ≠ 0) :
    cS o (histM l tr en).1 ≤ entN l tr o l.length := by
  rw [entN_count l tr o _ (Nat.le_refl _), List.take_length]
  unfold histM
  rw [if_neg (by rw [hv]; simp; omega)]
  have hml : (mineL l tr en).length ≤ 120 := by
    have h1 : (mineL l tr en).length = (keepP tr en l).length := sortE_length swoTurn _
    have h2 : (keepP tr en l).length ≤ l.length := List.length_filter_le ..
    have := validM_len hv
    omega
  have h := paint_cS ho he.1 he.2 (m := mineL l tr en) (fun y hy => by
    obtain ⟨q1, q2, q3⟩ := mem_mineL.1 hy
    have := formed_iff.1 (validM_formed hv q1)
    omega) hml _ (Nat.le_refl _)
  rw [List.take_length] at h
  have hp : (mineL l tr en).countP (fun y => decide (y.o = o)) = (keepP tr en l).countP (fun y => decide (y.o = o)) := (sortE_spec swoTurn _).1.countP_eq _
  rw [hp] at h
  have hc : (keepP tr en l).countP (fun y => decide (y.o = o)) ≤ l.countP fun y => decide (y.t = tr ∧ y.o = o) := by
    unfold keepP
    rw [List.countP_filter]
    refine List.countP_mono_left fun x _ hx => ?_
    unfold delP at hx
    simp only [Bool.and_eq_true, decide_eq_true_eq, Bool.not_eq_true', Bool.or_eq_false_iff, decide_eq_false_iff_not] at hx ⊢
    exact ⟨by omega, hx.1⟩
  have hpp : paintP en 0 ((mineL l tr en).map (spanE en)) = paintI en 0 ((mineL l tr en).map (spanE en)) (mineL l tr en).length := by
    unfold paintP; rw [List.length_map]
  rw [hpp]
  split
  · exact Nat.zero_le _
  · exact Nat.le_trans h hc

/-! ### all owners -/
def cLt (o : Int) (l : List Sp) : Nat := l.countP fun s => decide (0 ≤ s.o ∧ s.o < o)
theorem cLt_succ {o : Int} (ho : 0 ≤ o) : ∀ l : List Sp, cLt (o + 1) l = cLt o l + cS o l
  | [] => rfl
  | s :: l => by
    have ih := cLt_succ ho l
    unfold cLt cS at *
    simp only [List.countP_cons, decide_eq_true_eq]
    rw [ih]
    by_cases h1 : s.o = o
    · rw [if_pos (by omega), if_neg (by omega), if_pos h1]; omega
    · by_cases h2 : 0 ≤ s.o ∧ s.o < o
      · rw [if_pos (by omega), if_pos h2, if_neg h1]; omega
      · rw [if_neg (by omega), if_neg h2, if_neg h1]; omega
theorem cLt_zero (l : List Sp) : cLt 0 l = 0 := by
  unfold cLt
  rw [List.countP_eq_zero]
  intro s _
  simp only [decide_eq_true_eq]
  omega
theorem cLt_all {o : Int} {l : List Sp} (h : ∀ s ∈ l, 0 ≤ s.o ∧ s.o < o) : cLt o l = l.length := by
  unfold cLt
  rw [List.countP_eq_length]
  intro s hs
  exact decide_eq_true (h s hs)

theorem madeI_own (xs : List R5) : ∀ i, i ≤ 100 → ∀ y ∈ madeI xs i, 0 ≤ y.o ∧ y.o < 6
  | 0, _ => fun y hy => by cases hy
  | i + 1, hi => fun y hy => by
    obtain ⟨h1, h2⟩ := madeI_ok xs i (by omega)
    have h3 := valid_one (madeE_formed (nth xs i))
    have h4 := mergeP_ok h1 h3 (by simp; omega)
    unfold madeI at hy
    rw [h4] at hy
    rcases ((mem_mrg (validM_SK h1) (validM_SK h3) y).1 hy).1 with h | h
    · exact madeI_own xs i (by omega) y h
    · rw [List.mem_singleton.1 h]
      exact pickI_bd (by decide)
theorem made_own (xs : List R5) : ∀ y ∈ made xs, 0 ≤ y.o ∧ y.o < 6 := madeI_own xs _ (by omega)

theorem hist_own {l : List En} {tr en : Int} {h : List Sp} (hl : ∀ y ∈ l, 0 ≤ y.o ∧ y.o < 6) (ht : TL 0 en (ownerR l tr) (-1) h) : ∀ s ∈ h, 0 ≤ s.o ∧ s.o < 6 := by
  intro s hs
  obtain ⟨i, hi, rfl⟩ := mem_nth hs
  have h1 := (TL_spOK ht i hi).2.2.2.2.1
  rw [← h1]
  rcases own_spec l tr (nth h i).f with ⟨h0, _⟩ | ⟨y, hy, _, h0, _⟩
  · rw [h0]; decide
  · rw [h0]; exact hl y hy

end Go.AI

/- Entries spread over several journals come together again. Plain. -/
namespace Go.AI
open Go Go.Proofs Go.RowKit Go.Sort
set_option linter.unusedVariables false

def inI (s : List En) (x : En) : Nat → Bool
  | 0 => false
  | j + 1 => inI s x j || decide (nth s j = x)
theorem inI_iff {s : List En} {x : En} : ∀ {j : Nat}, inI s x j = true ↔ ∃ k, k < j ∧ nth s k = x
  | 0 => by simp [inI]
  | j + 1 => by
    unfold inI
    rw [Bool.or_eq_true, decide_eq_true_eq, inI_iff]
    constructor
    · rintro (⟨k, h1, h2⟩ | h)
      · exact ⟨k, by omega, h2⟩
      · exact ⟨j, by omega, h⟩
    · rintro ⟨k, h1, h2⟩
      by_cases e : k = j
      · subst e; exact .inr h2
      · exact .inl ⟨k, by omega, h2⟩
theorem inI_mem {s : List En} {x : En} : inI s x s.length = true ↔ x ∈ s := by
  rw [inI_iff]
  exact ⟨fun ⟨k, h1, h2⟩ => h2 ▸ nth_mem h1, fun h => mem_nth h⟩

/-- What is left. -/
def remI (s r : List En) : Nat → List En
  | 0 => []
  | k + 1 => remI s r k ++ (if inI s (nth r k) s.length = true then [] else [nth r k])
theorem remI_sub (s r : List En) : ∀ k, k ≤ r.length → (remI s r k).Sublist (r.take k)
  | 0, _ => by simp [remI]
  | k + 1, hk => by
    have ih := remI_sub s r k (by omega)
    unfold remI
    rw [take_snoc (by omega)]
    split
    · rw [List.append_nil]
      exact ih.trans (List.sublist_append_left ..)
    · exact List.Sublist.append ih (List.Sublist.refl _)
theorem mem_remI {s r : List En} {z : En} : ∀ {k : Nat}, k ≤ r.length → (z ∈ remI s r k ↔ z ∈ r.take k ∧ z ∉ s)
  | 0, _ => by simp [remI]
  | k + 1, hk => by
    have ih := mem_remI (s := s) (r := r) (z := z) (k := k) (by omega)
    unfold remI
    rw [take_snoc (by omega), List.mem_append, List.mem_append, ih]
    split
    · rename_i h
      rw [inI_mem] at h
      simp only [List.not_mem_nil, or_false, List.mem_singleton]
      constructor
      · exact fun ⟨h1, h2⟩ => ⟨.inl h1, h2⟩
      · rintro ⟨h1 | h1, h2⟩
        · exact ⟨h1, h2⟩
        · exact absurd (h1 ▸ h) h2
    · rename_i h
      rw [inI_mem] at h
      simp only [List.mem_singleton]
      constructor
      · rintro (⟨h1, h2⟩ | h1)
        · exact ⟨.inl h1, h2⟩
        · exact ⟨.inr h1, h1 ▸ h⟩
      · rintro ⟨h1 | h1, h2⟩
        · exact .inl ⟨h1, h2⟩
        · exact .inr h1

def leftI (l : List En) (ss : Nat → List En) : Nat → List En
  | 0 => l
  | i + 1 => remI (ss i) (leftI l ss i) (leftI l ss i).length
theorem leftI_sub (l : List En) (ss : Nat → List En) : ∀ i, (leftI l ss i).Sublist l
  | 0 => List.Sublist.refl _
  | i + 1 => by
    have h := remI_sub (ss i) (leftI l ss i) _ (Nat.le_refl _)
    rw [List.take_length] at h
    exact h.trans (leftI_sub l ss i)
theorem mem_leftI {l : List En} {ss : Nat → List En} {z : En} : ∀ {i : Nat}, z ∈ leftI l ss i ↔ z ∈ l ∧ ∀ j, j < i → z ∉ ss j
  | 0 => by simp [leftI]
  | i + 1 => by
    unfold leftI
    rw [mem_remI (Nat.le_refl _), List.take_length, mem_leftI]
    constructor
    · rintro ⟨⟨h1, h2⟩, h3⟩
      refine ⟨h1, fun j hj => ?_⟩
      by_cases e : j = i
      · subst e; exact h3
      · exact h2 j (by omega)
    · rintro ⟨h1, h2⟩
      exact ⟨⟨h1, fun j hj => h2 j (by omega)⟩, h2 i (by omega)⟩

/-- Journals merged one after another. -/
def foldJ (J : Nat → List En) : Nat → List En
  | 0 => []
  | i + 1 => mrg (foldJ J i) (J i)
theorem foldJ_ok {l : List En} {J : Nat → List En} (hl : SK l) : ∀ i, (∀ j, j < i → (J j).Sublist l) → SK (foldJ J i) ∧ (∀ z, z ∈ foldJ J i ↔ ∃ j, j < i ∧ z ∈ J j)
  | 0, _ => ⟨SK.nil, fun z => by simp [foldJ]⟩
  | i + 1, h => by
    obtain ⟨h1, h2⟩ := foldJ_ok hl i fun j hj => h j (by omega)
    have hs : SK (J i) := hl.sublist (h i (by omega))
    refine ⟨SK_mrg h1 hs, fun z => ?_⟩
    have hin : ∀ y, (y ∈ foldJ J i ∨ y ∈ J i) → y ∈ l := by
      rintro y (hy | hy)
      · obtain ⟨j, q1, q2⟩ := (h2 y).1 hy
        exact (h j (by omega)).subset q2
      · exact (h i (by omega)).subset hy
    show z ∈ mrg (foldJ J i) (J i) ↔ _
    rw [mem_mrg h1 hs]
    unfold Mn
    constructor
    · rintro ⟨hz | hz, _⟩
      · obtain ⟨j, q1, q2⟩ := (h2 z).1 hz
        exact ⟨j, by omega, q2⟩
      · exact ⟨i, by omega, hz⟩
    · rintro ⟨j, q1, q2⟩
      have hz : z ∈ foldJ J i ∨ z ∈ J i := by
        by_cases e : j = i
        · subst e; exact .inr q2
        · exact .inl ((h2 z).2 ⟨j, by omega, q2⟩)
      refine ⟨hz, fun y hy hk => ?_⟩
      rw [hl.uniq (hin y hy) (hin z hz) hk]
      exact ltRest_irrefl _

theorem foldJ_filter {l : List En} {J : Nat → List En} (hl : SK l) {i : Nat} (h : ∀ j, j < i → (J j).Sublist l) : foldJ J i = l.filter fun z => (List.range i).any fun j => decide (z ∈ J j) := by
  obtain ⟨h1, h2⟩ := foldJ_ok hl i h
  refine SK.ext h1 (hl.sublist List.filter_sublist) fun z => ?_
  rw [h2, List.mem_filter, List.any_eq_true]
  simp only [List.mem_range, decide_eq_true_eq]
  constructor
  · rintro ⟨j, q1, q2⟩
    exact ⟨(h j q1).subset q2, j, q1, q2⟩
  · rintro ⟨_, j, q1, q2⟩
    exact ⟨j, q1, q2⟩
theorem foldJ_valid {l : List En} {J : Nat → List En} (hv : validM l = true) {i : Nat} (h : ∀ j, j < i → (J j).Sublist l) : validM (foldJ J i) = true ∧ (foldJ J i).length ≤ l.length := by
  have e := foldJ_filter (validM_SK hv) h
  rw [e]
  exact ⟨valid_sub hv List.filter_sublist, List.length_filter_le ..⟩
theorem foldJ_all {l : List En} {J : Nat → List En} (hl : SK l) {i : Nat} (h : ∀ j, j < i → (J j).Sublist l) (ha : ∀ z ∈ l, ∃ j, j < i ∧ z ∈ J j) : foldJ J i = l := by
  obtain ⟨h1, h2⟩ := foldJ_ok hl i h
  refine SK.ext h1 hl fun z => ?_
  rw [h2]
  exact ⟨fun ⟨j, q1, q2⟩ => (h j q1).subset q2, ha z⟩

/-- The journals: the parts, and what is left. -/
def journals (l : List En) (ss : Nat → List En) (n : Nat) (j : Nat) : List En := if j < n then ss j else leftI l ss n
theorem journals_sub {l : List En} {ss : Nat → List En} {n : Nat} (h : ∀ j, (ss j).Sublist l) (j : Nat) : (journals l ss n j).Sublist l := by
  unfold journals; split
  · exact h j
  · exact leftI_sub l ss n
theorem journals_all {l : List En} {ss : Nat → List En} {n : Nat} : ∀ z ∈ l, ∃ j, j < n + 1 ∧ z ∈ journals l ss n j := by
  intro z hz
  by_cases h : ∃ j, j < n ∧ z ∈ ss j
  · obtain ⟨j, h1, h2⟩ := h
    exact ⟨j, by omega, by unfold journals; rw [if_pos h1]; exact h2⟩
  · refine ⟨n, by omega, ?_⟩
    unfold journals
    rw [if_neg (by omega)]
    exact mem_leftI.2 ⟨hz, fun j hj hm => h ⟨j, hj, hm⟩⟩

/-- The order in which they are merged backwards. -/
def turnI (L p i : Nat) : Nat := (L - 1 - i + p) % L
theorem turn_hits {L p : Nat} (hp : p < L) {j : Nat} (hj : j < L) : ∃ i, i < L ∧ turnI L p i = j := by
  refine ⟨(L - 1 + p - j) % L, Nat.mod_lt _ (by omega), ?_⟩
  unfold turnI
  by_cases h : L - 1 + p - j < L
  · rw [Nat.mod_eq_of_lt h]
    rw [show L - 1 - (L - 1 + p - j) + p = if p ≤ j then j else j by split <;> omega]
    split <;> exact Nat.mod_eq_of_lt hj
  · have e : (L - 1 + p - j) % L = L - 1 + p - j - L := by
      rw [Nat.mod_eq_sub_mod (by omega), Nat.mod_eq_of_lt (by omega)]
    rw [e, show L - 1 - (L - 1 + p - j - L) + p = j + L by omega, Nat.add_mod_right]
    exact Nat.mod_eq_of_lt hj

end Go.AI

namespace Go.AI
open Go Go.Proofs Go.RowKit Go.Sort
set_option linter.unusedVariables false
set_option maxRecDepth 20000

/-- A bit of a number, as the program asks for it. -/
def bitP (b : Int) (i : Nat) : Bool := (b.fdiv (2 ^ (min (i : Int).toNat IntKind.i64.bits))).tmod 2 == 1

set_option maxHeartbeats 8000000 in
theorem spec7 (x : List R5) (bits tr en' : Int) (hx : ∀ i, (nth x i).ok) (hb : in64 bits) (ht : in64 tr) (he : in64 en') : Spec Try.prog 7 [rv x, .i bits, .i tr, .i en'] (.b true) := by
  refine spT (r := [.b _]) Try.func7 rfl Try.ntmps7 Try.results7 rfl (by kernel_rfl) (V_run _ (enOK _) 300 ?_)
  refine Way.spec (CallS.by spec10 rfl ?_)
  refine Br.notn rfl ?_
  refine Way.spec (CallS.by (spec11 x hx) rfl ?_)
  obtain ⟨va, la⟩ := made_ok x
  have ho := made_own x
  generalize made x = l at *
  refine Way.spec (CallS.by (spec12 tr 3 ht (by decide)) rfl ?_)
  refine Way.spec (CallS.by (spec12 en' 260 he (by decide)) rfl ?_)
  have bm := pickI_bd (c := tr) (n := 3) (by decide)
  have bn := pickI_bd (c := en') (n := 260) (by decide)
  generalize pickI tr 3 = m at *
  generalize pickI en' 260 = n at *
  refine V_loop _ (fun i : Nat => ⟨[(1, .i bits), (10, jv l), (11, .i m), (12, .i n), (13, .own 0 0 (someI (bitP bits) l i).length), (14, .i i)], [(0, some (.arr 47 6 (someI (bitP bits) l i).length fun q => (nth (someI (bitP bits) l i) q).c))], 1⟩)
    (fun i => i ≤ l.length) (fun i => l.length - i) 0 (Nat.zero_le _) ?_ ?_
  · exact Le_of _ [(0, none)] [] ⟨rfl, True.intro, ⟨rfl, ⟨rfl, rfl, fun _ _ => rfl⟩, rfl, rfl, ⟨rfl, rfl, rfl⟩, rfl, True.intro⟩, ⟨⟨rfl, rfl⟩, True.intro⟩⟩
  intro i hi
  have hlen : (someI (bitP bits) l i).length ≤ i := by have := (someI_sub (bitP bits) l i hi).length_le; rw [List.length_take] at this; omega
  have hnext : someI (bitP bits) l (i + 1) = someI (bitP bits) l i ++ (if bitP bits i = true then [nth l i] else []) := rfl
  refine V_run _ (enOK _) 200 ?_
  refine Br.dec (fun hlt => ?_) (fun hlt => ?_)
  · have hil : i < l.length := by omega
    generalize hacc : someI (bitP bits) l i = acc at *
    refine Bd.mk (by omega) ?_
    refine Bd.mk (by decide) ?_
    refine Ar.by rfl ?_
    refine Br.mk (fun h => ?_) (fun h => ?_)
    · have h : bitP bits i = true := h
      rw [if_pos h] at hnext
      refine Ix.by rfl (by omega) ?_
      refine Bd.mk (Nat.le_refl _) ?_
      refine Bd.mk ⟨Nat.le_refl _, (show (acc.length + 1) * 48 ≤ 140737488355328 from by omega)⟩ ?_
      refine Ar.nat (i + 1) (by omega) (by omega) ?_
      refine ⟨i + 1, by omega, by omega, Le_of _ [(0, some 2)] [] ⟨rfl, True.intro, ⟨rfl, ⟨rfl, rfl, fun _ _ => rfl⟩, rfl, rfl, ⟨rfl, rfl, ?_⟩, rfl, True.intro⟩, ⟨⟨rfl, rfl, rfl, ?_, fun q hq => ?_⟩, True.intro⟩⟩⟩
      · rw [hnext, List.length_append]; rfl
      · rw [hnext, List.length_append]; rfl
      · rw [hnext]; exact joinRows_snoc (fun x : En => x.c) acc (nth l i) q hq _ rfl
    · have h : bitP bits i = false := h
      rw [if_neg (by simp [h]), List.append_nil] at hnext
      refine Ar.nat (i + 1) (by omega) (by omega) ?_
      refine ⟨i + 1, by omega, by omega, Le_of _ [(0, some 0)] [] ⟨rfl, True.intro, ⟨rfl, ⟨rfl, rfl, fun _ _ => rfl⟩, rfl, rfl, ⟨rfl, rfl, ?_⟩, rfl, True.intro⟩, ⟨⟨rfl, rfl, rfl, ?_, fun q hq => ?_⟩, True.intro⟩⟩⟩
      · rw [hnext]
      · rw [hnext]
      · rw [hnext]
  have : i = l.length := by omega
  subst this
  clear hnext hlt hi
  have hsub := some_sub (bitP bits) l
  have hvr := valid_sub va hsub
  generalize someI (bitP bits) l l.length = r at *
  refine V_weak _ (st' := ⟨[(10, jv l), (11, .i m), (12, .i n), (13, jv r)], [], 0⟩) (Le_of _ [] [0] ⟨rfl, ⟨True.intro, True.intro⟩, ⟨⟨rfl, rfl, fun _ _ => rfl⟩, rfl, rfl, ⟨rfl, rfl, rfl, Nat.le_of_eq (Nat.zero_add _), fun _ _ => by rw [Nat.zero_add]⟩, True.intro⟩, True.intro⟩) (V_run _ (enOK _) 200 ?_)
  have hm : mergeP r l = (l, 0) := by
    rw [mergeP_ok hvr va (by omega), mrg_part (validM_SK hvr) (validM_SK va) fun z hz => hsub.subset hz]
  refine Way.spec (CallS.by (spec15 r l (by omega) (by omega) hm) rfl ?_)
  obtain ⟨h, e1, e2, e3⟩ := hist_ok va (tr := m) (en := n) (by omega) (by omega)
  refine Way.spec (CallS.by (spec20 l (by omega) m n e1) rfl ?_)
  refine Br.nno rfl ?_
  refine Br.nno rfl ?_
  have hown := hist_own ho e2
  have hcnt : ∀ o : Int, o ≠ 0 → cS o h ≤ entN l m o l.length := fun o hne => by
    have := hist_cS va (tr := m) (en := n) (by omega) (by omega) hne
    rw [e1] at this; exact this
  have hentN : ∀ o : Int, ∀ i, entN l m o i ≤ i := by
    intro o i
    induction i with
    | zero => exact Nat.le_refl _
    | succ i ih => unfold entN; split <;> omega
  have hcle : ∀ o : Int, cLt o h ≤ h.length := fun o => List.countP_le_length
  have h22 : ∀ o : Int, Spec Try.prog 22 [jv l, .i m, .i n, .i o] (resN (cS o h) 0) := fun o => by
    have := spec22H l (by omega) m n o
    rw [e1, cntO_all] at this; exact this
  clear e1 e2 hm hsub hvr
  have hcSle : ∀ o : Int, cS o h ≤ h.length := fun o => List.countP_le_length
  refine V_loop _ (fun o : Nat => ⟨[(10, jv l), (11, .i m), (12, .i n), (15, jv l), (17, sv h), (19, .i (cLt o h)), (20, .i o)], [], 0⟩)
    (fun o => o ≤ 6) (fun o => 6 - o) 0 (Nat.zero_le _) ?_ ?_
  · exact Le_of _ [] [] ⟨rfl, True.intro, ⟨⟨rfl, rfl, fun _ _ => rfl⟩, rfl, rfl, ⟨rfl, rfl, fun _ _ => rfl⟩, ⟨rfl, rfl, fun _ _ => rfl⟩, by rw [show ((0 : Nat) : Int) = 0 from rfl, cLt_zero]; rfl, rfl, True.intro⟩, True.intro⟩
  intro o ho6
  refine V_run _ (enOK _) 200 ?_
  refine Br.dec (fun hlt => ?_) (fun hlt => ?_)
  · have ho' : o < 6 := by omega
    refine Way.spec (CallS.by (h22 o) rfl ?_)
    refine Way.spec (CallS.by (h22 o) rfl ?_)
    refine V_loop _ (fun i : Nat => ⟨[(10, jv l), (11, .i m), (12, .i n), (15, jv l), (17, sv h), (19, .i (cLt o h)), (20, .i o), (21, .i (cS o h)), (22, .i 0), (23, .i (cS o h)), (24, .i 0), (25, .i (entN l m o i)), (26, .i i)], [], 0⟩)
      (fun i => i ≤ l.length) (fun i => l.length - i) 0 (Nat.zero_le _) ?_ ?_
    · exact Le_of _ [] [] ⟨rfl, True.intro, ⟨⟨rfl, rfl, fun _ _ => rfl⟩, rfl, rfl, ⟨rfl, rfl, fun _ _ => rfl⟩, ⟨rfl, rfl, fun _ _ => rfl⟩, rfl, rfl, rfl, rfl, rfl, rfl, rfl, rfl, True.intro⟩, True.intro⟩
    intro i hi
    have hE := hentN o i
    have hnext : entN l m o (i + 1) = if (nth l i).t = m ∧ (nth l i).o = o then entN l m o i + 1 else entN l m o i := rfl
    refine V_run _ (enOK _) 200 ?_
    refine Br.dec (fun hlt => ?_) (fun hlt => ?_)
    · have hil : i < l.length := by omega
      repeat' first
        | refine Ix.by rfl (by omega) ?_
        | refine Br.eyes (by assumption) ?_
        | refine Br.eno (by assumption) ?_
        | refine Br.eq (fun h => ?_) (fun h => ?_)
        | refine Ar.nat (i + 1) (by omega) (by omega) ?_
        | refine Ar.nat (entN l m o i + 1) (by omega) (by omega) ?_
      all_goals first
        | refine ⟨i + 1, by omega, by omega, Le_of _ [] [] ⟨rfl, True.intro, ⟨⟨rfl, rfl, fun _ _ => rfl⟩, rfl, rfl, ⟨rfl, rfl, fun _ _ => rfl⟩, ⟨rfl, rfl, fun _ _ => rfl⟩, rfl, rfl, rfl, rfl, rfl, rfl, ?_, rfl, True.intro⟩, True.intro⟩⟩
      all_goals (refine congrArg (Value.int IntKind.i64) ?_; rw [hnext])
      all_goals first
        | (rw [if_pos ⟨by assumption, by assumption⟩]; done)
        | (rw [if_neg (fun hh => by have := hh.1; have := hh.2; contradiction)]; done)
    have : i = l.length := by omega
    subst this
    have hco := hcnt o
    have hcs := cLt_succ (o := (o : Int)) (by omega) h
    have hb1 := hcle o
    have hb2 := hcSle o
    refine V_run _ (enOK _) 200 ?_
    repeat' first
      | refine Br.yes rfl ?_
      | refine Br.no rfl ?_
      | refine Br.nno rfl ?_
      | refine Br.dno (by omega) ?_
      | refine Br.nno (by omega) ?_
      | refine Br.nyes (by assumption) ?_
      | refine Br.ne (fun hne => ?_) (fun hne => ?_)
      | refine Ar.nat (cLt o h + cS o h) (by omega) (by omega) ?_
      | refine Ar.nat (o + 1) (by omega) (by omega) ?_
    all_goals first
      | exact ⟨o + 1, by omega, by omega, Le_of _ [] [] ⟨rfl, True.intro, ⟨⟨rfl, rfl, fun _ _ => rfl⟩, rfl, rfl, ⟨rfl, rfl, fun _ _ => rfl⟩, ⟨rfl, rfl, fun _ _ => rfl⟩, congrArg (Value.int IntKind.i64) (by rw [show ((o + 1 : Nat) : Int) = (o : Int) + 1 from rfl, hcs]), rfl, True.intro⟩, True.intro⟩⟩
  have : o = 6 := by omega
  subst this
  have hall : cLt 6 h = h.length := cLt_all hown
  refine V_run _ (enOK _) 200 ?_
  exact Out.mk ⟨congrArg Value.bool (beq_iff_eq.2 (congrArg Int.ofNat hall)), True.intro⟩

end Go.AI

namespace Go.AI
open Go Go.Proofs Go.RowKit Go.Sort
set_option linter.unusedVariables false
set_option maxRecDepth 20000

theorem both_ok {a b : List En} (ha : validM a = true) (hb : validM b = true) (hl : a.length + b.length ≤ 120) : Spec Try.prog 25 [jv a, jv b] (.tup [jv (mrg a b), .b true]) := by
  have := spec25 a b (by omega) (by omega)
  rw [mergeP_ok ha hb hl] at this
  have hv := valid_mrg ha hb (by have := mrg_len a b; omega)
  simp only [hv] at this
  exact this

theorem ag_ok {a b : List En} (ha : validM a = true) (hb : validM b = true) (la : a.length ≤ 1000) (lb : b.length ≤ 1000) : Spec Try.prog 17 [jv a, jv b] (resJ (a.filter (contra b)) 0) := spec17 a b (by omega) (by omega) (agM_filter ha hb)

set_option maxHeartbeats 8000000 in
theorem spec4 (x y z : List R5) (hx : ∀ i, (nth x i).ok) (hy : ∀ i, (nth y i).ok) (hz : ∀ i, (nth z i).ok) : Spec Try.prog 4 [rv x, rv y, rv z] (.b true) := by
  refine spT (r := [.b _]) Try.func4 rfl Try.ntmps4 Try.results4 rfl (by kernel_rfl) (V_run _ (enOK _) 300 ?_)
  refine Way.spec (CallS.by spec10 rfl ?_)
  refine Br.notn rfl ?_
  refine Way.spec (CallS.by (spec11 x hx) rfl ?_)
  refine Way.spec (CallS.by (spec11 y hy) rfl ?_)
  refine Way.spec (CallS.by (spec11 z hz) rfl ?_)
  obtain ⟨va, la⟩ := made_ok x
  obtain ⟨vb, lb⟩ := made_ok y
  obtain ⟨vc, lc⟩ := made_ok z
  generalize made x = a at *
  generalize made y = b at *
  generalize made z = c at *
  have lab := mrg_len a b
  have lba := mrg_len b a
  have lbc := mrg_len b c
  have vab := valid_mrg va vb (by omega)
  have vbc := valid_mrg vb vc (by omega)
  have sa := validM_SK va
  have sb := validM_SK vb
  have sc := validM_SK vc
  refine Way.spec (CallS.by (both_ok va vb (by omega)) rfl ?_)
  refine Way.spec (CallS.by (both_ok vb va (by omega)) rfl ?_)
  refine Way.spec (CallS.by (both_ok vb vc (by omega)) rfl ?_)
  refine Way.spec (CallS.by (both_ok vab vc (by omega)) rfl ?_)
  refine Way.spec (CallS.by (both_ok va vbc (by omega)) rfl ?_)
  refine Way.spec (CallS.by (both_ok va va (by omega)) rfl ?_)
  refine Way.spec (CallS.by (both_ok vab va (by omega)) rfl ?_)
  refine Way.spec (CallS.by (ag_ok va vb (by omega) (by omega)) rfl ?_)
  refine Way.spec (CallS.by (ag_ok vb va (by omega) (by omega)) rfl ?_)
  rw [mrg_comm sb sa, mrg_assoc sa sb sc, mrg_self sa, mrg_again sa sb]
  have hcl := contra_len sa sb
  have lf1 : (a.filter (contra b)).length ≤ a.length := List.length_filter_le ..
  repeat' first
    | refine Br.yes rfl ?_
    | refine Br.eyes rfl ?_
  have hl19 : ∀ l : List En, l.length ≤ 32 → l.length ≤ 1000000000 := fun l h => by omega
  have lm : (mrg (mrg a b) c).length ≤ 1000 := by have := mrg_len (mrg a b) c; omega
  refine Way.spec (CallS.by (spec19 _ _ (by omega)) rfl ?_)
  refine Br.yes (decide_eq_true rfl) ?_
  refine Way.spec (CallS.by (spec19 _ _ (by have := mrg_len a (mrg b c); omega)) rfl ?_)
  refine Br.yes (decide_eq_true rfl) ?_
  refine Way.spec (CallS.by (spec19 _ _ (by omega)) rfl ?_)
  refine Br.yes (decide_eq_true rfl) ?_
  refine Way.spec (CallS.by (spec19 _ _ (by omega)) rfl ?_)
  refine Br.yes (decide_eq_true rfl) ?_
  repeat' first
    | refine Br.yes rfl ?_
    | refine Br.eyes rfl ?_
    | refine Br.eyes (by omega) ?_
    | refine Br.dyes (by omega) ?_
    | refine Br.yes (decide_eq_true (by omega)) ?_
    | refine Ar.ok (by omega) ?_
    | exact Out.mk ⟨rfl, True.intro⟩
    | exact Out.mk ⟨congrArg Value.bool (decide_eq_true (by omega)), True.intro⟩


end Go.AI

namespace Go.AI
open Go Go.Proofs Go.RowKit Go.Sort
set_option linter.unusedVariables false
set_option maxRecDepth 20000

/-- A slice of numbers. -/
abbrev iv (l : List Int) : AV := .pv (.rd 1 l.length fun i => [.i (nth l i)])

/-- The i-th part of a journal. -/
def partE (l : List En) (ps : List Int) (i : Nat) : List En := someI (bitP (nth ps i)) l l.length
theorem part_sub (l : List En) (ps : List Int) (i : Nat) : (partE l ps i).Sublist l := some_sub _ l

abbrev obJ (J : Nat → List En) (i : Nat) : AO := .arr 22 1 i fun q => [jP (J q)]
abbrev obE (l : List En) : AO := .arr 47 6 l.length fun q => (nth l q).c

set_option maxHeartbeats 8000000 in
/-- The first loop: the parts. -/
theorem spreadA (l : List En) (ps : List Int) (turn : Int) (n : Nat) (hl : l.length ≤ 16) (hn : n ≤ ps.length) (h6 : n ≤ 6) {its : List It} {Q : Ex → St → Prop} : True := trivial

set_option maxHeartbeats 8000000 in
theorem spec6 (x : List R5) (ps : List Int) (turn : Int) (hx : ∀ i, (nth x i).ok) (hps : ∀ n ∈ ps, in64 n) (ht : in64 turn) : Spec Try.prog 6 [rv x, iv ps, .i turn] (.b true) := by
  refine spT (r := [.b _]) Try.func6 rfl Try.ntmps6 Try.results6 rfl (by kernel_rfl) (V_run _ (enOK _) 300 ?_)
  refine Way.spec (CallS.by spec10 rfl ?_)
  refine Br.notn rfl ?_
  refine Way.spec (CallS.by (spec11 x hx) rfl ?_)
  obtain ⟨va, la⟩ := made_ok x
  generalize made x = l at *
  have sl := validM_SK va
  obtain ⟨n, hn⟩ : ∃ n, n = min ps.length 6 := ⟨_, rfl⟩
  have hmin : minI (ps.length : Int) 6 = (n : Int) := by unfold minI; split <;> omega
  have hn6 : n ≤ 6 := by omega
  have hnl : n ≤ ps.length := by omega
  clear hn
  refine V_loop _ (fun i : Nat => ⟨[(1, iv ps), (2, .i turn), (7, .b true), (8, jv l), (9, .i n), (10, .own 0 0 i), (11, jv (leftI l (partE l ps) i)), (12, .i i)], [(0, some (obJ (partE l ps) i))], 1⟩)
    (fun i => i ≤ n) (fun i => n - i) 0 (Nat.zero_le _) ?_ ?_
  · exact Le_of _ [(0, none)] [] ⟨rfl, True.intro, ⟨⟨rfl, rfl, fun _ _ => rfl⟩, rfl, rfl, ⟨rfl, rfl, fun _ _ => rfl⟩, congrArg (Value.int IntKind.i64) hmin, ⟨rfl, rfl, rfl⟩, ⟨rfl, rfl, fun _ _ => rfl⟩, rfl, True.intro⟩, ⟨⟨rfl, rfl⟩, True.intro⟩⟩
  intro i hi
  have hrl : (leftI l (partE l ps) i).length ≤ 16 := by have := (leftI_sub l (partE l ps) i).length_le; omega
  have hleft : leftI l (partE l ps) (i + 1) = remI (partE l ps i) (leftI l (partE l ps) i) (leftI l (partE l ps) i).length := rfl
  refine V_run _ (enOK _) 200 ?_
  refine Br.dec (fun hlt => ?_) (fun hlt => ?_)
  · have hin : i < n := by omega
    generalize leftI l (partE l ps) i = r at *
    -- the entries of the part
    refine V_loop _ (fun k : Nat => ⟨[(1, iv ps), (2, .i turn), (7, .b true), (8, jv l), (9, .i n), (10, .own 0 0 i), (11, jv r), (12, .i i), (13, .own 1 0 (someI (bitP (nth ps i)) l k).length), (14, .pv (.val (.slice none 0 0))), (15, .i k)],
        [(0, some (obJ (partE l ps) i)), (1, some (obE (someI (bitP (nth ps i)) l k)))], 2⟩)
      (fun k => k ≤ l.length) (fun k => l.length - k) 0 (Nat.zero_le _) ?_ ?_
    · exact Le_of _ [(0, some 0), (1, none)] [] ⟨rfl, True.intro, ⟨⟨rfl, rfl, fun _ _ => rfl⟩, rfl, rfl, ⟨rfl, rfl, fun _ _ => rfl⟩, rfl, ⟨rfl, rfl, rfl⟩, ⟨rfl, rfl, fun _ _ => rfl⟩, rfl, ⟨rfl, rfl, rfl⟩, rfl, rfl, True.intro⟩, ⟨⟨rfl, rfl, rfl, rfl, fun _ _ => rfl⟩, ⟨rfl, rfl⟩, True.intro⟩⟩
    intro k hk
    have hlen : (someI (bitP (nth ps i)) l k).length ≤ k := by have := (someI_sub (bitP (nth ps i)) l k hk).length_le; rw [List.length_take] at this; omega
    have hnext : someI (bitP (nth ps i)) l (k + 1) = someI (bitP (nth ps i)) l k ++ (if bitP (nth ps i) k = true then [nth l k] else []) := rfl
    refine V_run _ (enOK _) 200 ?_
    refine Br.dec (fun hlt2 => ?_) (fun hlt2 => ?_)
    · have hkl : k < l.length := by omega
      generalize hacc : someI (bitP (nth ps i)) l k = acc at *
      refine Ix.by rfl (by omega) ?_
      refine Bd.mk (by omega) ?_
      refine Bd.mk (by decide) ?_
      refine Ar.by rfl ?_
      refine Br.mk (fun h => ?_) (fun h => ?_)
      · have h : bitP (nth ps i) k = true := h
        rw [if_pos h] at hnext
        refine Ix.by rfl (by omega) ?_
        refine Bd.mk (Nat.le_refl _) ?_
        refine Bd.mk ⟨Nat.le_refl _, (show (acc.length + 1) * 48 ≤ 140737488355328 from by omega)⟩ ?_
        refine Ar.nat (k + 1) (by omega) (by omega) ?_
        refine ⟨k + 1, by omega, by omega, Le_of _ [(0, some 0), (1, some 3)] [] ⟨rfl, True.intro, ⟨⟨rfl, rfl, fun _ _ => rfl⟩, rfl, rfl, ⟨rfl, rfl, fun _ _ => rfl⟩, rfl, ⟨rfl, rfl, rfl⟩, ⟨rfl, rfl, fun _ _ => rfl⟩, rfl, ⟨rfl, rfl, ?_⟩, rfl, rfl, True.intro⟩, ⟨⟨rfl, rfl, rfl, rfl, fun _ _ => rfl⟩, ⟨rfl, rfl, rfl, ?_, fun q hq => ?_⟩, True.intro⟩⟩⟩
        · rw [hnext, List.length_append]; rfl
        · rw [hnext, List.length_append]; rfl
        · rw [hnext]; exact joinRows_snoc (fun x : En => x.c) acc (nth l k) q hq _ rfl
      · have h : bitP (nth ps i) k = false := h
        rw [if_neg (by simp [h]), List.append_nil] at hnext
        refine Ar.nat (k + 1) (by omega) (by omega) ?_
        refine ⟨k + 1, by omega, by omega, Le_of _ [(0, some 0), (1, some 1)] [] ⟨rfl, True.intro, ⟨⟨rfl, rfl, fun _ _ => rfl⟩, rfl, rfl, ⟨rfl, rfl, fun _ _ => rfl⟩, rfl, ⟨rfl, rfl, rfl⟩, ⟨rfl, rfl, fun _ _ => rfl⟩, rfl, ⟨rfl, rfl, ?_⟩, rfl, rfl, True.intro⟩, ⟨⟨rfl, rfl, rfl, rfl, fun _ _ => rfl⟩, ⟨rfl, rfl, rfl, ?_, fun q hq => ?_⟩, True.intro⟩⟩⟩
        · rw [hnext]
        · rw [hnext]
        · rw [hnext]
    have : k = l.length := by omega
    subst this
    clear hnext hlt2 hk
    have hpart : someI (bitP (nth ps i)) l l.length = partE l ps i := rfl
    rw [hpart] at hlen ⊢
    have hpn : (fun q => [jP (partE l ps q)]) = (fun q => [jP (partE l ps q)]) := rfl
    obtain ⟨s, hs⟩ : ∃ s, s = partE l ps i := ⟨_, rfl⟩
    rw [← hs] at hleft hlen ⊢
    refine V_weak _ (st' := ⟨[(1, iv ps), (2, .i turn), (7, .b true), (8, jv l), (9, .i n), (10, .own 0 0 i), (11, jv r), (12, .i i), (13, jv s), (14, .pv (.val (.slice none 0 0)))], [(0, some (obJ (partE l ps) i))], 1⟩)
      (Le_of _ [(0, some 0)] [1] ⟨rfl, ⟨True.intro, True.intro⟩, ⟨⟨rfl, rfl, fun _ _ => rfl⟩, rfl, rfl, ⟨rfl, rfl, fun _ _ => rfl⟩, rfl, ⟨rfl, rfl, rfl⟩, ⟨rfl, rfl, fun _ _ => rfl⟩, rfl, ⟨rfl, rfl, rfl, Nat.le_of_eq (Nat.zero_add _), fun _ _ => by rw [Nat.zero_add]⟩, rfl, True.intro⟩, ⟨⟨rfl, rfl, rfl, rfl, fun _ _ => rfl⟩, True.intro⟩⟩) (V_run _ (enOK _) 200 ?_)
    -- what is left
    refine V_loop _ (fun k : Nat => ⟨[(1, iv ps), (2, .i turn), (7, .b true), (8, jv l), (9, .i n), (10, .own 0 0 i), (11, jv r), (12, .i i), (13, jv s), (14, .own 1 0 (remI s r k).length), (16, .i k)],
        [(0, some (obJ (partE l ps) i)), (1, some (obE (remI s r k)))], 2⟩)
      (fun k => k ≤ r.length) (fun k => r.length - k) 0 (Nat.zero_le _) ?_ ?_
    · exact Le_of _ [(0, some 0), (1, none)] [] ⟨rfl, True.intro, ⟨⟨rfl, rfl, fun _ _ => rfl⟩, rfl, rfl, ⟨rfl, rfl, fun _ _ => rfl⟩, rfl, ⟨rfl, rfl, rfl⟩, ⟨rfl, rfl, fun _ _ => rfl⟩, rfl, ⟨rfl, rfl, fun _ _ => rfl⟩, ⟨rfl, rfl, rfl⟩, rfl, True.intro⟩, ⟨⟨rfl, rfl, rfl, rfl, fun _ _ => rfl⟩, ⟨rfl, rfl⟩, True.intro⟩⟩
    intro k hk
    have hlr : (remI s r k).length ≤ k := by have := (remI_sub s r k hk).length_le; rw [List.length_take] at this; omega
    have hnext : remI s r (k + 1) = remI s r k ++ (if inI s (nth r k) s.length = true then [] else [nth r k]) := rfl
    refine V_run _ (enOK _) 200 ?_
    refine Br.dec (fun hlt2 => ?_) (fun hlt2 => ?_)
    · have hkl : k < r.length := by omega
      generalize hacc : remI s r k = acc at *
      refine V_loop _ (fun j : Nat => ⟨[(1, iv ps), (2, .i turn), (7, .b true), (8, jv l), (9, .i n), (10, .own 0 0 i), (11, jv r), (12, .i i), (13, jv s), (14, .own 1 0 acc.length), (16, .i k), (17, .b (inI s (nth r k) j)), (18, .i j)],
          [(0, some (obJ (partE l ps) i)), (1, some (obE acc))], 2⟩)
        (fun j => j ≤ s.length) (fun j => s.length - j) 0 (Nat.zero_le _) ?_ ?_
      · exact Le_of _ [(0, some 0), (1, some 1)] [] ⟨rfl, True.intro, ⟨⟨rfl, rfl, fun _ _ => rfl⟩, rfl, rfl, ⟨rfl, rfl, fun _ _ => rfl⟩, rfl, ⟨rfl, rfl, rfl⟩, ⟨rfl, rfl, fun _ _ => rfl⟩, rfl, ⟨rfl, rfl, fun _ _ => rfl⟩, ⟨rfl, rfl, rfl⟩, rfl, rfl, rfl, True.intro⟩, ⟨⟨rfl, rfl, rfl, rfl, fun _ _ => rfl⟩, ⟨rfl, rfl, rfl, rfl, fun _ _ => rfl⟩, True.intro⟩⟩
      intro j hj
      have hin : inI s (nth r k) (j + 1) = (inI s (nth r k) j || decide (nth s j = nth r k)) := rfl
      refine V_run _ (enOK _) 200 ?_
      refine Br.dec (fun hlt3 => ?_) (fun hlt3 => ?_)
      · have hjl : j < s.length := by omega
        generalize inI s (nth r k) j = cc at *
        refine V_draw _ (enOK _) (by kernel_rfl) ?_
        cases cc
        all_goals (repeat' first
          | refine Ix.by rfl (by omega) ?_
          | refine Br.yes rfl ?_
          | refine Br.no rfl ?_
          | refine And.intro (by kernel_rfl) (V_run _ (enOK _) 200 ?_)
          | refine Ar.nat (j + 1) (by omega) (by omega) ?_)
        all_goals first
          | refine ⟨j + 1, by omega, by omega, Le_of _ [(0, some 0), (1, some 1)] [] ⟨rfl, True.intro, ⟨⟨rfl, rfl, fun _ _ => rfl⟩, rfl, rfl, ⟨rfl, rfl, fun _ _ => rfl⟩, rfl, ⟨rfl, rfl, rfl⟩, ⟨rfl, rfl, fun _ _ => rfl⟩, rfl, ⟨rfl, rfl, fun _ _ => rfl⟩, ⟨rfl, rfl, rfl⟩, rfl, ?_, rfl, True.intro⟩, ⟨⟨rfl, rfl, rfl, rfl, fun _ _ => rfl⟩, ⟨rfl, rfl, rfl, rfl, fun _ _ => rfl⟩, True.intro⟩⟩⟩
          | trace "bad1"
        · refine congrArg Value.bool ?_
          rw [hin, Bool.false_or]
          exact en_eq _ _
        · refine congrArg (fun b => PV.val (Value.bool b)) ?_
          rw [hin]
          rfl
      have : j = s.length := by omega
      subst this
      refine V_run _ (enOK _) 200 ?_
      refine Br.not (fun h => ?_) (fun h => ?_)
      · rw [if_neg (by simp [h])] at hnext
        refine Ix.by rfl (by omega) ?_
        refine Bd.mk (Nat.le_refl _) ?_
        refine Bd.mk ⟨Nat.le_refl _, (show (acc.length + 1) * 48 ≤ 140737488355328 from by omega)⟩ ?_
        refine Ar.nat (k + 1) (by omega) (by omega) ?_
        refine ⟨k + 1, by omega, by omega, Le_of _ [(0, some 0), (1, some 3)] [] ⟨rfl, True.intro, ⟨⟨rfl, rfl, fun _ _ => rfl⟩, rfl, rfl, ⟨rfl, rfl, fun _ _ => rfl⟩, rfl, ⟨rfl, rfl, rfl⟩, ⟨rfl, rfl, fun _ _ => rfl⟩, rfl, ⟨rfl, rfl, fun _ _ => rfl⟩, ⟨rfl, rfl, ?_⟩, rfl, True.intro⟩, ⟨⟨rfl, rfl, rfl, rfl, fun _ _ => rfl⟩, ⟨rfl, rfl, rfl, ?_, fun q hq => ?_⟩, True.intro⟩⟩⟩
        · rw [hnext, List.length_append]; rfl
        · rw [hnext, List.length_append]; rfl
        · rw [hnext]; exact joinRows_snoc (fun x : En => x.c) acc (nth r k) q hq _ rfl
      · rw [if_pos h, List.append_nil] at hnext
        refine Ar.nat (k + 1) (by omega) (by omega) ?_
        refine ⟨k + 1, by omega, by omega, Le_of _ [(0, some 0), (1, some 1)] [] ⟨rfl, True.intro, ⟨⟨rfl, rfl, fun _ _ => rfl⟩, rfl, rfl, ⟨rfl, rfl, fun _ _ => rfl⟩, rfl, ⟨rfl, rfl, rfl⟩, ⟨rfl, rfl, fun _ _ => rfl⟩, rfl, ⟨rfl, rfl, fun _ _ => rfl⟩, ⟨rfl, rfl, ?_⟩, rfl, True.intro⟩, ⟨⟨rfl, rfl, rfl, rfl, fun _ _ => rfl⟩, ⟨rfl, rfl, rfl, ?_, fun q hq => ?_⟩, True.intro⟩⟩⟩
        · rw [hnext]
        · rw [hnext]
        · rw [hnext]
    have : k = r.length := by omega
    subst this
    clear hnext hlt2 hk
    rw [← hleft] at hlr ⊢
    obtain ⟨r2, hr2⟩ : ∃ r2, r2 = leftI l (partE l ps) (i + 1) := ⟨_, rfl⟩
    rw [← hr2] at hlr ⊢
    refine V_weak _ (st' := ⟨[(1, iv ps), (2, .i turn), (7, .b true), (8, jv l), (9, .i n), (10, .own 0 0 i), (12, .i i), (13, jv s), (14, jv r2)], [(0, some (obJ (partE l ps) i))], 1⟩)
      (Le_of _ [(0, some 0)] [1] ⟨rfl, ⟨True.intro, True.intro⟩, ⟨⟨rfl, rfl, fun _ _ => rfl⟩, rfl, rfl, ⟨rfl, rfl, fun _ _ => rfl⟩, rfl, ⟨rfl, rfl, rfl⟩, rfl, ⟨rfl, rfl, fun _ _ => rfl⟩, ⟨rfl, rfl, rfl, Nat.le_of_eq (Nat.zero_add _), fun _ _ => by rw [Nat.zero_add]⟩, True.intro⟩, ⟨⟨rfl, rfl, rfl, rfl, fun _ _ => rfl⟩, True.intro⟩⟩) (V_run _ (enOK _) 200 ?_)
    refine Bd.mk (Nat.le_refl _) ?_
    refine Bd.mk ⟨Nat.le_refl _, (show (i + 1) * 24 ≤ 140737488355328 from by omega)⟩ ?_
    refine Ar.nat (i + 1) (by omega) (by omega) ?_
    subst hr2
    refine ⟨i + 1, by omega, by omega, Le_of _ [(0, some 2)] [] ⟨rfl, True.intro, ⟨⟨rfl, rfl, fun _ _ => rfl⟩, rfl, rfl, ⟨rfl, rfl, fun _ _ => rfl⟩, rfl, ⟨rfl, rfl, rfl⟩, ⟨rfl, rfl, fun _ _ => rfl⟩, rfl, True.intro⟩, ⟨⟨rfl, rfl, rfl, rfl, fun q hq => ?_⟩, True.intro⟩⟩⟩
    rw [hs]
    show joinRows i (fun q => [jP (partE l ps q)]) _ q = [jP (partE l ps q)]
    unfold joinRows
    split
    · rfl
    · rename_i e
      have : i ≤ q := blt_false e
      have : q = i := by omega
      subst this
      rw [Nat.sub_self]
  have : i = n := by omega
  subst this
  clear hleft hlt hi
  refine V_run _ (enOK _) 200 ?_
  refine Bd.mk (Nat.le_refl _) ?_
  refine Bd.mk ⟨Nat.le_refl _, (show (i + 1) * 24 ≤ 140737488355328 from by omega)⟩ ?_
  have hJs := journals_sub (l := l) (n := i) (part_sub l ps)
  have hJv : ∀ j, validM (journals l (partE l ps) i j) = true ∧ (journals l (partE l ps) i j).length ≤ 16 := fun j => ⟨valid_sub va (hJs j), by have := (hJs j).length_le; omega⟩
  have hall := journals_all (l := l) (ss := partE l ps) (n := i)
  have bp := pickI_bd (c := turn) (n := ((i + 1 : Nat) : Int)) (by omega)
  obtain ⟨p, hp⟩ : ∃ p : Nat, pickI turn ((i + 1 : Nat) : Int) = p := ⟨(pickI turn ((i + 1 : Nat) : Int)).toNat, by omega⟩
  have hpn : p < i + 1 := by omega
  have hJ : ∀ q, q < i + 1 → joinRows i (fun q => [jP (partE l ps q)]) (fun _ => [jP (leftI l (partE l ps) i)]) q = [jP (journals l (partE l ps) i q)] := by
    intro q hq
    unfold joinRows journals
    split
    · rename_i e
      rw [if_pos (blt_true e)]
    · rename_i e
      have : i ≤ q := blt_false e
      rw [if_neg (by omega)]
  generalize hJd : journals l (partE l ps) i = J at *
  refine V_loop _ (fun k : Nat => ⟨[(2, .i turn), (8, jv l), (10, .pv (.rd 1 (i + 1) fun q => [jP (J q)])), (19, jv (foldJ J k)), (20, jv (foldJ (fun q => J (turnI (i + 1) p q)) k)), (21, .b true), (22, .i k)], [], 0⟩)
    (fun k => k ≤ i + 1) (fun k => i + 1 - k) 0 (Nat.zero_le _) ?_ ?_
  · exact Le_of _ [] [2] ⟨rfl, ⟨True.intro, True.intro⟩, ⟨rfl, ⟨rfl, rfl, fun _ _ => rfl⟩, ⟨rfl, rfl, rfl, Nat.le_of_eq (Nat.zero_add _), fun q hq => by rw [Nat.zero_add]; exact hJ q hq⟩, rfl, rfl, rfl, rfl, True.intro⟩, True.intro⟩
  intro k hk
  have hA := foldJ_valid va (J := J) (i := k) fun j _ => hJs j
  have hB := foldJ_valid va (J := fun q => J (turnI (i + 1) p q)) (i := k) fun j _ => hJs _
  have hA1 : foldJ J (k + 1) = mrg (foldJ J k) (J k) := rfl
  have hB1 : foldJ (fun q => J (turnI (i + 1) p q)) (k + 1) = mrg (foldJ (fun q => J (turnI (i + 1) p q)) k) (J (turnI (i + 1) p k)) := rfl
  refine V_run _ (enOK _) 200 ?_
  refine Br.dec (fun hlt => ?_) (fun hlt => ?_)
  · have hkl : k < i + 1 := by omega
    have ht1 : turnI (i + 1) p k < i + 1 := Nat.mod_lt _ (by omega)
    have ht2 : turnI (i + 1) p k = (i - k + p) % (i + 1) := rfl
    generalize turnI (i + 1) p k = tk at *
    have bA := both_ok hA.1 (hJv k).1 (by have := (hJv k).2; omega)
    have bB := both_ok hB.1 (hJv tk).1 (by have := (hJv tk).2; omega)
    rw [← hA1] at bA
    rw [← hB1] at bB
    refine Ix.by rfl (by omega) ?_
    refine Way.spec (CallS.by bA rfl ?_)
    refine Ar.nat i (by omega) (by omega) ?_
    refine Ar.nat (i - k) (by omega) (by omega) ?_
    refine Way.spec (CallS.by (spec12 turn ((i + 1 : Nat) : Int) ht (by omega)) rfl ?_)
    rw [hp]
    refine Ar.nat (i - k + p) (by omega) (by omega) ?_
    refine Bd.mk (by omega) ?_
    refine Ar.by (r := (((i - k + p) % (i + 1) : Nat) : Int)) rfl ?_
    rw [← ht2]
    refine Ix.by rfl (by omega) ?_
    refine Way.spec (CallS.by bB rfl ?_)
    repeat' first
      | refine Br.yes rfl ?_
      | refine Ar.nat (k + 1) (by omega) (by omega) ?_
    exact ⟨k + 1, by omega, by omega, Le_of _ [] [] ⟨rfl, True.intro, ⟨rfl, ⟨rfl, rfl, fun _ _ => rfl⟩, ⟨rfl, rfl, fun _ _ => rfl⟩, ⟨rfl, rfl, fun _ _ => rfl⟩, ⟨rfl, rfl, fun _ _ => rfl⟩, rfl, rfl, True.intro⟩, True.intro⟩⟩
  have : k = i + 1 := by omega
  subst this
  have e1 : foldJ J (i + 1) = l := foldJ_all sl (fun j _ => hJs j) hall
  have e2 : foldJ (fun q => J (turnI (i + 1) p q)) (i + 1) = l := foldJ_all sl (fun j _ => hJs _) fun z hz => by
    obtain ⟨j, q1, q2⟩ := hall z hz
    obtain ⟨k, k1, k2⟩ := turn_hits hpn q1
    exact ⟨k, k1, by rw [k2]; exact q2⟩
  rw [e1, e2]
  refine V_run _ (enOK _) 200 ?_
  refine Br.yes rfl ?_
  refine Way.spec (CallS.by (spec19 l l (by omega)) rfl ?_)
  refine Br.yes (decide_eq_true rfl) ?_
  refine Way.spec (CallS.by (spec19 l l (by omega)) rfl ?_)
  repeat' first
    | refine Br.yes (decide_eq_true rfl) ?_
    | exact Out.mk ⟨congrArg Value.bool (decide_eq_true rfl), True.intro⟩

end Go.AI

/- A slice of numbers, as an argument. -/
namespace Go.AI
open Go Go.Proofs Go.RowKit
set_option linter.unusedVariables false
theorem open_ints {H : Type} {enc : TypeId × Value → H} {w : World} {sp : Nat → Bool} {held : Bool} {m : Nat} {cs : List Value} {y : DataW H × List MemPlace} (h : DataW.trod enc Try.prog w 0 sp held m 49 cs = some y) : ∃ (v : Value) (l : List Int), cs = [v] ∧ Rel w (fun b => b < w.heap.size) noρ (iv l) v ∧ ∀ n ∈ l, in64 n := by
  obtain ⟨v, rows, rfl, h1, h2⟩ := open_rows Try.underlying49 flat3 (by kernel_rfl) (by decide) h
  have hn : ∀ i, i < rows.length → nth (rows.map fun r => r.getD 0 0) i = (nthD rows i).getD 0 0 ∧ nthD rows i ∈ rows := fun i hi => by
    refine ⟨?_, by unfold nthD; rw [List.getElem?_eq_getElem hi]; exact List.getElem_mem hi⟩
    unfold nth nthD; rw [List.getElem?_map, List.getElem?_eq_getElem hi]; rfl
  refine ⟨v, rows.map fun r => r.getD 0 0, rfl, ?_, fun n hm => ?_⟩
  · unfold Rel
    refine PVle.sound (x := .rd 1 rows.length fun i => (nthD rows i).map PV.i) ⟨rfl, by simp, fun i hi => ?_⟩ h2
    dsimp only
    rw [(hn i hi).1]
    have hl := (h1 _ (hn i hi).2).1
    match nthD rows i, hl with
    | [a], _ => rfl
  · obtain ⟨r, hr, rfl⟩ := List.mem_map.1 hm
    obtain ⟨g1, g2⟩ := h1 _ hr
    match r, g1, g2 with
    | [a], _, g2 => exact g2 a (by simp)
end Go.AI

/- Clocks and leases: who may hold at once. Plain. -/
namespace Go.AI
open Go Go.Proofs Go.RowKit Go.Sort
set_option linter.unusedVariables false

/-! ### what a clock shows -/
def rateI (dd : Int) (rates : List Int) (i : Nat) : Int := pickI (nth rates i) (2 * dd + 1) - dd
def clI (x : Int) : Int := if x < 0 then 0 else if x < 100 then x else 100
def sumR (dd : Int) (rates : List Int) (t : Int) : Nat → Int
  | 0 => 0
  | i + 1 => sumR dd rates t i + rateI dd rates i * clI (t - 100 * i)

theorem rateI_bd {dd : Int} {rates : List Int} (hd : 0 ≤ dd) (i : Nat) : -dd ≤ rateI dd rates i ∧ rateI dd rates i ≤ dd := by
  have := pickI_bd (c := nth rates i) (n := 2 * dd + 1) (by omega)
  unfold rateI
  omega

theorem mul_bd {a b d m : Int} (h1 : -d ≤ a) (h2 : a ≤ d) (h3 : 0 ≤ b) (h4 : b ≤ m) (hd : 0 ≤ d) : -(d * m) ≤ a * b ∧ a * b ≤ d * m := by
  have e1 : a * b ≤ d * b := Int.mul_le_mul_of_nonneg_right h2 h3
  have e2 : d * b ≤ d * m := Int.mul_le_mul_of_nonneg_left h4 hd
  have e3 : -d * b ≤ a * b := Int.mul_le_mul_of_nonneg_right h1 h3
  have e4 : -d * b = -(d * b) := Int.neg_mul ..
  omega

theorem clI_bd (x : Int) : 0 ≤ clI x ∧ clI x ≤ 100 := by unfold clI; split <;> (try split) <;> omega

theorem sumR_bd {dd : Int} {rates : List Int} (hd : 0 ≤ dd) (t : Int) : ∀ i : Nat, -(dd * 100 * i) ≤ sumR dd rates t i ∧ sumR dd rates t i ≤ dd * 100 * i
  | 0 => by simp [sumR]
  | i + 1 => by
    have ih := sumR_bd (rates := rates) hd t i
    have hr := rateI_bd (rates := rates) hd i
    have hc := clI_bd (t - 100 * i)
    have hm := mul_bd hr.1 hr.2 hc.1 hc.2 hd
    have e : dd * 100 * ((i + 1 : Nat) : Int) = dd * 100 * i + dd * 100 := by
      rw [Int.natCast_add, Int.mul_add]; simp
    unfold sumR
    rw [e]
    omega

theorem sumR_step {dd : Int} {rates : List Int} (hd : 0 ≤ dd) {t : Int} : ∀ n : Nat, (-dd ≤ sumR dd rates (t + 1) n - sumR dd rates t n ∧ sumR dd rates (t + 1) n - sumR dd rates t n ≤ dd) ∧ (100 * (n : Int) ≤ t → sumR dd rates (t + 1) n = sumR dd rates t n)
  | 0 => by simp [sumR]; omega
  | n + 1 => by
    obtain ⟨ih1, ih2⟩ := sumR_step (rates := rates) hd (t := t) n
    have hr := rateI_bd (rates := rates) hd n
    have h1 : sumR dd rates (t + 1) (n + 1) = sumR dd rates (t + 1) n + rateI dd rates n * clI (t + 1 - 100 * n) := rfl
    have h2 : sumR dd rates t (n + 1) = sumR dd rates t n + rateI dd rates n * clI (t - 100 * n) := rfl
    by_cases hlt : t < 100 * (n : Int)
    · have e1 : clI (t + 1 - 100 * n) = 0 := by unfold clI; split <;> (try split) <;> omega
      have e2 : clI (t - 100 * n) = 0 := by unfold clI; split <;> (try split) <;> omega
      rw [h1, h2, e1, e2, Int.mul_zero]
      exact ⟨by omega, fun h => by omega⟩
    · have e0 := ih2 (by omega)
      by_cases hge : 100 * ((n : Int) + 1) ≤ t
      · have e1 : clI (t + 1 - 100 * n) = 100 := by unfold clI; split <;> (try split) <;> omega
        have e2 : clI (t - 100 * n) = 100 := by unfold clI; split <;> (try split) <;> omega
        rw [h1, h2, e1, e2, e0]
        exact ⟨by omega, fun _ => rfl⟩
      · have e1 : clI (t + 1 - 100 * n) = t + 1 - 100 * n := by unfold clI; split <;> (try split) <;> omega
        have e2 : clI (t - 100 * n) = t - 100 * n := by unfold clI; split <;> (try split) <;> omega
        have e3 : rateI dd rates n * (t + 1 - 100 * n) = rateI dd rates n * (t - 100 * n) + rateI dd rates n := by
          rw [show t + 1 - 100 * (n : Int) = (t - 100 * n) + 1 by omega, Int.mul_add, Int.mul_one]
        rw [h1, h2, e1, e2, e0, e3]
        exact ⟨by omega, fun h => by omega⟩

/-- The thousandths that have gone. -/
def goneI (dd : Int) (rates : List Int) (t : Int) : Int := sumR dd rates t (min rates.length 20) + 1000 * t
theorem gone_lip {dd : Int} {rates : List Int} (hd : 0 ≤ dd) {t : Int} : ∀ n : Nat, (1000 - dd) * n ≤ goneI dd rates (t + n) - goneI dd rates t ∧ goneI dd rates (t + n) - goneI dd rates t ≤ (1000 + dd) * n
  | 0 => by simp
  | n + 1 => by
    have ih := gone_lip (rates := rates) hd (t := t) n
    have hs := (sumR_step (rates := rates) hd (t := t + n) (min rates.length 20)).1
    have e : t + ((n + 1 : Nat) : Int) = t + n + 1 := by omega
    have e1 : (1000 - dd) * ((n + 1 : Nat) : Int) = (1000 - dd) * n + (1000 - dd) := by rw [Int.natCast_add, Int.mul_add]; simp
    have e2 : (1000 + dd) * ((n + 1 : Nat) : Int) = (1000 + dd) * n + (1000 + dd) := by rw [Int.natCast_add, Int.mul_add]; simp
    rw [e, e1, e2]
    unfold goneI at *
    omega

def shownI (dr st : Int) (rates : List Int) (t : Int) : Int := pickI st 1000 + (goneI (pickI dr 101) rates t).tdiv 1000

theorem gone_bd {dd : Int} {rates : List Int} (h0 : 0 ≤ dd) (h1 : dd ≤ 100) {t : Int} (ht : 0 ≤ t) : 0 ≤ goneI dd rates t ∧ goneI dd rates t ≤ 1100 * t := by
  have hz : goneI dd rates 0 = 0 := by
    unfold goneI
    have : ∀ n, sumR dd rates 0 n = 0 := by
      intro n
      induction n with
      | zero => rfl
      | succ n ih =>
        have e1 : clI (0 - 100 * n) = 0 := by unfold clI; split <;> (try split) <;> omega
        unfold sumR
        rw [ih, e1, Int.mul_zero]; rfl
    rw [this]; rfl
  have h := gone_lip (rates := rates) h0 (t := 0) t.toNat
  have e : (t.toNat : Int) = t := by omega
  rw [hz, e, Int.zero_add, Int.sub_zero] at h
  have e1 : 0 ≤ (1000 - dd) * t := Int.mul_nonneg (by omega) ht
  have e2 : (1000 + dd) * t ≤ 1100 * t := Int.mul_le_mul_of_nonneg_right (by omega) ht
  omega

theorem gone_diff {dd : Int} {rates : List Int} (h0 : 0 ≤ dd) {t u : Int} (h : t ≤ u) : (1000 - dd) * (u - t) ≤ goneI dd rates u - goneI dd rates t ∧ goneI dd rates u - goneI dd rates t ≤ (1000 + dd) * (u - t) := by
  have h1 := gone_lip (rates := rates) h0 (t := t) (u - t).toNat
  have e : ((u - t).toNat : Int) = u - t := by omega
  rw [e, show t + (u - t) = u by omega] at h1
  exact h1

theorem dr_bd (dr : Int) : 0 ≤ pickI dr 101 ∧ pickI dr 101 ≤ 100 := by have := pickI_bd (c := dr) (n := 101) (by decide); omega

theorem shown_mono {dr st : Int} {rates : List Int} {t u : Int} (h0 : 0 ≤ t) (h : t ≤ u) : shownI dr st rates t ≤ shownI dr st rates u := by
  have hd := dr_bd dr
  have h1 := (gone_diff (rates := rates) hd.1 h).1
  have h2 : 0 ≤ (1000 - pickI dr 101) * (u - t) := Int.mul_nonneg (by omega) (by omega)
  have h3 := (gone_bd (rates := rates) hd.1 hd.2 h0).1
  unfold shownI
  rw [Int.tdiv_eq_ediv_of_nonneg h3, Int.tdiv_eq_ediv_of_nonneg (by omega)]
  omega

theorem shown_bd {dr st : Int} {rates : List Int} {t : Int} (h0 : 0 ≤ t) : 0 ≤ shownI dr st rates t ∧ shownI dr st rates t ≤ 1000 + 2 * t := by
  have hd := dr_bd dr
  have h3 := gone_bd (rates := rates) hd.1 hd.2 h0
  have hp := pickI_bd (c := st) (n := 1000) (by decide)
  unfold shownI
  rw [Int.tdiv_eq_ediv_of_nonneg h3.1]
  omega

/-- How long a lease is surely in force by the clock of who granted it, and by that of who holds it. -/
def leastI (d n : Int) : Int := if n > 0 then (1000 * (n - 1)).tdiv (1000 + d) + 1 else 0
def mostI (d n : Int) : Int := (1000 * (n + 1) - 1).tdiv (1000 - d)

theorem safe_clock {dh sh d3 s3 L : Int} {rh r3 : List Int} {a b t : Int} (ha : 0 ≤ a) (hab : a ≤ b) (hbt : b ≤ t) (hL : 1 ≤ L)
    (hs : mostI (pickI dh 101) (shownI dh sh rh t - shownI dh sh rh a) < leastI (pickI d3 101) L) : shownI d3 s3 r3 t < shownI d3 s3 r3 b + L := by
  have hdh := dr_bd dh
  have hd3 := dr_bd d3
  have g1 := (gone_diff (rates := rh) hdh.1 (show a ≤ t by omega)).1
  have g2 := (gone_diff (rates := r3) hd3.1 hbt).2
  have z1 := (gone_bd (rates := rh) hdh.1 hdh.2 ha).1
  have z2 := (gone_bd (rates := rh) hdh.1 hdh.2 (show 0 ≤ t by omega)).1
  have z3 := (gone_bd (rates := r3) hd3.1 hd3.2 (show 0 ≤ b by omega)).1
  have z4 := (gone_bd (rates := r3) hd3.1 hd3.2 (show 0 ≤ t by omega)).1
  unfold shownI at hs ⊢
  rw [Int.tdiv_eq_ediv_of_nonneg z2, Int.tdiv_eq_ediv_of_nonneg z1] at hs
  rw [Int.tdiv_eq_ediv_of_nonneg z4, Int.tdiv_eq_ediv_of_nonneg z3]
  generalize hGa : goneI (pickI dh 101) rh a = Ga at *
  generalize hGt : goneI (pickI dh 101) rh t = Gt at *
  generalize hHb : goneI (pickI d3 101) r3 b = Hb at *
  generalize hHt : goneI (pickI d3 101) r3 t = Ht at *
  generalize pickI dh 101 = d at *
  generalize pickI d3 101 = w at *
  generalize pickI sh 1000 = s at *
  generalize pickI s3 1000 = s' at *
  obtain ⟨e, he⟩ : ∃ e, e = s + Gt / 1000 - (s + Ga / 1000) := ⟨_, rfl⟩
  rw [← he] at hs
  have he' : Gt - Ga ≤ 1000 * e + 999 := by omega
  have hpos : 0 ≤ (1000 - d) * (t - a) := Int.mul_nonneg (by omega) (by omega)
  -- the true time that has gone
  have hm : t - a ≤ mostI d e := by
    unfold mostI
    rw [Int.tdiv_eq_ediv_of_nonneg (by omega)]
    refine (Int.le_ediv_iff_mul_le (by omega)).2 ?_
    rw [Int.mul_comm]
    omega
  have hl : (t - a) * (1000 + w) ≤ 1000 * (L - 1) := by
    have h1 : t - a ≤ (1000 * (L - 1)).tdiv (1000 + w) := by
      unfold leastI at hs
      rw [if_pos (by omega)] at hs
      omega
    rw [Int.tdiv_eq_ediv_of_nonneg (by omega)] at h1
    exact (Int.le_ediv_iff_mul_le (by omega)).1 h1
  have hl2 : (1000 + w) * (t - b) ≤ (t - a) * (1000 + w) := by
    rw [Int.mul_comm]
    exact Int.mul_le_mul_of_nonneg_right (by omega) (by omega)
  omega

end Go.AI

/- Leases: epochs grow; what one hub was granted after another did is after the other's lease. Plain. -/
namespace Go.AI
open Go Go.Proofs Go.RowKit Go.Sort
set_option linter.unusedVariables false

/-- A request: hub, asked, length, at. -/
structure Rq where
  hub : Int
  asked : Int
  len : Int
  a : Int
  deriving DecidableEq
instance : Inhabited Rq := ⟨⟨0, 0, 0, 0⟩⟩
/-- A lease. -/
structure Ls where
  hub : Int
  ep : Int
  asked : Int
  gr : Int
  len : Int
  til : Int
  deriving DecidableEq
instance : Inhabited Ls := ⟨⟨0, 0, 0, 0, 0, 0⟩⟩
abbrev l0 : Ls := ⟨0, 0, 0, 0, 0, 0⟩

def freeB (s : Ls) (r : Rq) : Bool := decide (s.ep = 0) || decide (s.til ≤ r.a)
def takenB (s : Ls) (r : Rq) : Bool := !freeB s r && decide (r.hub ≠ s.hub)
def nextL (s : Ls) (r : Rq) : Ls := ⟨r.hub, s.ep + 1, r.asked, r.a, r.len, maxI s.til (r.a + r.len)⟩
def lastI (q : List Rq) : Nat → Ls
  | 0 => l0
  | i + 1 => if takenB (lastI q i) (nth q i) = true then lastI q i else nextL (lastI q i) (nth q i)
def leaseI (q : List Rq) (i : Nat) : Ls := if takenB (lastI q i) (nth q i) = true then l0 else nextL (lastI q i) (nth q i)
def leases (q : List Rq) : List Ls := (List.range q.length).map (leaseI q)

theorem leases_len (q : List Rq) : (leases q).length = q.length := by simp [leases]
theorem leases_nth {q : List Rq} {i : Nat} (h : i < q.length) : nth (leases q) i = leaseI q i := by
  unfold nth leases
  rw [List.getElem?_map, List.getElem?_range h]; rfl

/-- The i-th request was granted. -/
def granted (q : List Rq) (i : Nat) : Prop := 0 < (leaseI q i).ep

theorem last_bd (q : List Rq) : ∀ i : Nat, 0 ≤ (lastI q i).ep ∧ (lastI q i).ep ≤ i
  | 0 => by simp [lastI]
  | i + 1 => by
    have ih := last_bd q i
    unfold lastI
    split
    · omega
    · unfold nextL; simp only; omega
theorem granted_iff {q : List Rq} {i : Nat} : granted q i ↔ takenB (lastI q i) (nth q i) = false := by
  have h := last_bd q i
  unfold granted leaseI
  split
  · rename_i h; rw [h]; simp
  · rename_i h
    rw [Bool.not_eq_true] at h
    rw [h]
    unfold nextL
    simp only [iff_true]
    omega
theorem granted_last {q : List Rq} {i : Nat} (h : granted q i) : leaseI q i = nextL (lastI q i) (nth q i) ∧ lastI q (i + 1) = nextL (lastI q i) (nth q i) := by
  rw [granted_iff] at h
  unfold leaseI
  rw [h, lastI, h]
  simp
theorem lease_hub {q : List Rq} {i : Nat} (h : granted q i) : (leaseI q i).ep = (lastI q i).ep + 1 ∧ (leaseI q i).asked = (nth q i).asked ∧ (leaseI q i).len = (nth q i).len := by
  rw [(granted_last h).1]
  exact ⟨rfl, rfl, rfl⟩

theorem last_step (q : List Rq) (i : Nat) : (lastI q i).ep ≤ (lastI q (i + 1)).ep := by
  show (lastI q i).ep ≤ (if takenB (lastI q i) (nth q i) = true then lastI q i else nextL (lastI q i) (nth q i)).ep
  split
  · omega
  · unfold nextL; simp only; omega
theorem last_mono (q : List Rq) {i : Nat} : ∀ n, (lastI q i).ep ≤ (lastI q (i + n)).ep
  | 0 => Int.le_refl _
  | n + 1 => Int.le_trans (last_mono q n) (last_step q (i + n))
theorem epoch_lt {q : List Rq} {j k : Nat} (hj : granted q j) (hk : granted q k) (h : j < k) : (leaseI q j).ep < (leaseI q k).ep := by
  have h1 := last_mono q (i := j + 1) (k - (j + 1))
  rw [show j + 1 + (k - (j + 1)) = k by omega, (granted_last hj).2] at h1
  rw [(granted_last hj).1, (granted_last hk).1]
  unfold nextL at *
  simp only at *
  omega

theorem after_inv {q : List Rq} (hm : ∀ i j, i ≤ j → j < q.length → (nth q i).a ≤ (nth q j).a) {j : Nat} (hj : granted q j) : ∀ i, j < i → i ≤ q.length →
    ((lastI q i).hub = (nth q j).hub ∧ 0 < (lastI q i).ep ∧ (nth q j).a + (nth q j).len ≤ (lastI q i).til) ∨ (∀ k, i ≤ k → k < q.length → (nth q j).a + (nth q j).len ≤ (nth q k).a)
  | 0, h, _ => by omega
  | i + 1, h, hi => by
    by_cases e : i = j
    · subst e
      left
      rw [(granted_last hj).2]
      have := (last_bd q i).1
      unfold nextL maxI
      refine ⟨rfl, by simp only; omega, ?_⟩
      simp only
      split <;> omega
    · have ih := after_inv hm hj i (by omega) (by omega)
      rcases ih with ⟨h1, h2, h3⟩ | h1
      · by_cases hg : granted q i
        · have hl := (granted_last hg).2
          rw [granted_iff] at hg
          by_cases hh : (nth q i).hub = (lastI q i).hub
          · left
            rw [hl]
            unfold nextL maxI
            refine ⟨by simp only; rw [hh, h1], by simp only; omega, ?_⟩
            simp only
            split <;> omega
          · right
            unfold takenB freeB at hg
            simp only [Bool.and_eq_false_iff, Bool.not_eq_false', Bool.or_eq_true, decide_eq_true_eq, decide_eq_false_iff_not] at hg
            intro k hk hkl
            have := hm i k (by omega) hkl
            rcases hg with (hg | hg) | hg
            · omega
            · omega
            · exact absurd hh hg
        · left
          have : takenB (lastI q i) (nth q i) = true := by
            cases ht : takenB (lastI q i) (nth q i) with
            | true => rfl
            | false => exact absurd (granted_iff.2 ht) hg
          rw [lastI, if_pos this]
          exact ⟨h1, h2, h3⟩
      · exact .inr fun k hk hkl => h1 k (by omega) hkl

/-- Another hub's later lease begins when this one's is over. -/
theorem after {q : List Rq} (hm : ∀ i j, i ≤ j → j < q.length → (nth q i).a ≤ (nth q j).a) {j k : Nat} (hj : granted q j) (hk : granted q k) (h : j < k) (hkl : k < q.length) (hh : (nth q j).hub ≠ (nth q k).hub) :
    (nth q j).a + (nth q j).len ≤ (nth q k).a := by
  rcases after_inv hm hj k h (by omega) with ⟨h1, h2, h3⟩ | h1
  · rw [granted_iff] at hk
    unfold takenB freeB at hk
    simp only [Bool.and_eq_false_iff, Bool.not_eq_false', Bool.or_eq_true, decide_eq_true_eq, decide_eq_false_iff_not] at hk
    rcases hk with (hk | hk) | hk
    · omega
    · omega
    · exact absurd (h1.symm.trans (Classical.not_not.1 hk).symm) hh
  · exact h1 k (Nat.le_refl _) hkl

/-! ### stories -/
structure St4 where
  d : Nat → Int
  s : Nat → Int
  r : Nat → List Int
  q : List R5

def showS (S : St4) (h : Nat) (t : Int) : Int := shownI (S.d h) (S.s h) (S.r h) t
def timeS (S : St4) : Nat → Int
  | 0 => 60
  | i + 1 => timeS S i + pickI (nth S.q i).b 250
def hubS (S : St4) (i : Nat) : Nat := (pickI (nth S.q i).a 3).toNat
def reqS (S : St4) (i : Nat) : Rq := ⟨hubS S i, showS S (hubS S i) (timeS S (i + 1) - pickI (nth S.q i).c 60), 1 + pickI (nth S.q i).e 400, showS S 3 (timeS S (i + 1))⟩
def ansS (S : St4) (i : Nat) : Int := timeS S (i + 1) + pickI (nth S.q i).d 60
def numS (S : St4) : Nat := min S.q.length 14
def reqsS (S : St4) : List Rq := (List.range (numS S)).map (reqS S)
def timesS (S : St4) : List Int := (List.range (numS S)).map fun i => timeS S (i + 1)
def anssS (S : St4) : List Int := (List.range (numS S)).map (ansS S)

theorem timeS_bd (S : St4) : ∀ i : Nat, 60 ≤ timeS S i ∧ timeS S i ≤ 60 + 250 * i
  | 0 => by simp [timeS]
  | i + 1 => by
    have ih := timeS_bd S i
    have := pickI_bd (c := (nth S.q i).b) (n := 250) (by decide)
    unfold timeS
    omega
theorem timeS_mono (S : St4) {i : Nat} : ∀ n, timeS S i ≤ timeS S (i + n)
  | 0 => Int.le_refl _
  | n + 1 => by
    have ih := timeS_mono S (i := i) n
    have := pickI_bd (c := (nth S.q (i + n)).b) (n := 250) (by decide)
    show timeS S i ≤ timeS S (i + n) + pickI (nth S.q (i + n)).b 250
    omega
theorem hubS_lt (S : St4) (i : Nat) : hubS S i < 3 := by
  have := pickI_bd (c := (nth S.q i).a) (n := 3) (by decide)
  unfold hubS; omega
theorem reqs_len (S : St4) : (reqsS S).length = numS S := by simp [reqsS]
theorem reqs_nth {S : St4} {i : Nat} (h : i < numS S) : nth (reqsS S) i = reqS S i := by
  unfold nth reqsS
  rw [List.getElem?_map, List.getElem?_range h]; rfl
theorem reqs_mono (S : St4) : ∀ i j, i ≤ j → j < (reqsS S).length → (nth (reqsS S) i).a ≤ (nth (reqsS S) j).a := by
  intro i j hij hj
  rw [reqs_len] at hj
  rw [reqs_nth hj, reqs_nth (by omega)]
  have h1 := timeS_mono S (i := i + 1) (j - i)
  rw [show i + 1 + (j - i) = j + 1 by omega] at h1
  have h2 := timeS_bd S (i + 1)
  exact shown_mono (by omega) h1

/-- Lease j is held by its hub at a second t. -/
def holdB (S : St4) (j : Nat) (h : Nat) (t : Int) : Bool :=
  decide ((leaseI (reqsS S) j).asked ≤ showS S h t) && decide (mostI (pickI (S.d h) 101) (showS S h t - (leaseI (reqsS S) j).asked) < leastI (pickI (S.d 3) 101) (leaseI (reqsS S) j).len)
def condB (S : St4) (h : Nat) (t : Int) (k : Nat) : Bool := decide ((reqS S k).hub = (h : Int)) && (decide (0 < (leaseI (reqsS S) k).ep) && decide (ansS S k ≤ t))
def epS (S : St4) (h : Nat) (t : Int) : Nat → Int
  | 0 => 0
  | k + 1 => if condB S h t k = true then maxI (epS S h t k) (leaseI (reqsS S) k).ep else epS S h t k
def hoS (S : St4) (h : Nat) (t : Int) : Nat → Bool
  | 0 => false
  | k + 1 => if condB S h t k = true then (hoS S h t k || holdB S k h t) else hoS S h t k

theorem condB_iff {S : St4} {h : Nat} {t : Int} {k : Nat} : condB S h t k = true ↔ hubS S k = h ∧ granted (reqsS S) k ∧ ansS S k ≤ t := by
  unfold condB granted
  simp only [Bool.and_eq_true, decide_eq_true_eq]
  have : (reqS S k).hub = (hubS S k : Int) := rfl
  rw [this]
  constructor
  · rintro ⟨h1, h2, h3⟩; exact ⟨by omega, h2, h3⟩
  · rintro ⟨h1, h2, h3⟩; exact ⟨by omega, h2, h3⟩

theorem hoS_ex {S : St4} {h : Nat} {t : Int} : ∀ {n : Nat}, hoS S h t n = true → ∃ j, j < n ∧ condB S h t j = true ∧ holdB S j h t = true
  | 0, e => by cases e
  | n + 1, e => by
    unfold hoS at e
    split at e
    · rename_i hc
      rw [Bool.or_eq_true] at e
      rcases e with e | e
      · obtain ⟨j, h1, h2⟩ := hoS_ex e
        exact ⟨j, by omega, h2⟩
      · exact ⟨n, by omega, hc, e⟩
    · obtain ⟨j, h1, h2⟩ := hoS_ex e
      exact ⟨j, by omega, h2⟩
theorem epS_ge {S : St4} {h : Nat} {t : Int} {j : Nat} : ∀ {n : Nat}, j < n → condB S h t j = true → (leaseI (reqsS S) j).ep ≤ epS S h t n
  | 0, e, _ => by omega
  | n + 1, e, hc => by
    by_cases ej : j = n
    · subst ej
      unfold epS
      rw [if_pos hc]
      unfold maxI; split <;> omega
    · have ih := epS_ge (n := n) (by omega) hc
      unfold epS
      split
      · unfold maxI; split <;> omega
      · exact ih
theorem epS_at {S : St4} {h : Nat} {t : Int} : ∀ {n : Nat}, epS S h t n = 0 ∨ ∃ k, k < n ∧ condB S h t k = true ∧ epS S h t n = (leaseI (reqsS S) k).ep
  | 0 => .inl rfl
  | n + 1 => by
    unfold epS
    split
    · rename_i hc
      unfold maxI
      split
      · exact .inr ⟨n, by omega, hc, rfl⟩
      · rcases epS_at (S := S) (h := h) (t := t) (n := n) with h1 | ⟨k, h1, h2, h3⟩
        · exact .inl h1
        · exact .inr ⟨k, by omega, h2, h3⟩
    · rcases epS_at (S := S) (h := h) (t := t) (n := n) with h1 | ⟨k, h1, h2, h3⟩
      · exact .inl h1
      · exact .inr ⟨k, by omega, h2, h3⟩
theorem epS_bd (S : St4) (h : Nat) (t : Int) (n : Nat) : 0 ≤ epS S h t n ∧ epS S h t n ≤ n := by
  rcases epS_at (S := S) (h := h) (t := t) (n := n) with h1 | ⟨k, h1, h2, h3⟩
  · omega
  · have hg := (condB_iff.1 h2).2.1
    have := last_bd (reqsS S) k
    rw [h3, (lease_hub hg).1]
    omega
theorem epS_mono {S : St4} {h : Nat} {t u : Int} (htu : t ≤ u) : ∀ n, epS S h t n ≤ epS S h u n
  | 0 => Int.le_refl _
  | n + 1 => by
    have ih := epS_mono (S := S) (h := h) htu n
    unfold epS
    by_cases hc : condB S h t n = true
    · have hc' : condB S h u n = true := by
        rw [condB_iff] at hc ⊢
        exact ⟨hc.1, hc.2.1, by omega⟩
      rw [if_pos hc, if_pos hc']
      unfold maxI
      split <;> split <;> omega
    · rw [if_neg hc]
      split
      · unfold maxI; split <;> omega
      · exact ih

/-- Who writes later writes under no lesser epoch. -/
theorem honest {S : St4} {h h' : Nat} {t u : Int} (htu : t < u) (hh : hoS S h t (numS S) = true) (hu : hoS S h' u (numS S) = true) : epS S h t (numS S) ≤ epS S h' u (numS S) := by
  by_cases e : h = h'
  · subst e; exact epS_mono (by omega) _
  refine Int.not_lt.1 fun hlt => ?_
  obtain ⟨j, hjn, hjc, hjh⟩ := hoS_ex hu
  have hj2 := condB_iff.1 hjc
  have hje := epS_ge hjn hjc
  have h0 := (epS_bd S h' u (numS S)).1
  rcases epS_at (S := S) (h := h) (t := t) (n := numS S) with h1 | ⟨k, hkn, hkc, hke⟩
  · omega
  have hk2 := condB_iff.1 hkc
  have hjk : j < k := by
    by_cases e1 : j = k
    · subst e1; exact absurd (hk2.1.symm.trans hj2.1) e
    · by_cases e2 : k < j
      · have := epoch_lt hk2.2.1 hj2.2.1 e2; omega
      · omega
  have hhub : ∀ i, i < numS S → (nth (reqsS S) i).hub = (hubS S i : Int) := fun i hi => by rw [reqs_nth hi]; rfl
  have h2 := after (reqs_mono S) hj2.2.1 hk2.2.1 hjk (by rw [reqs_len]; exact hkn) (by rw [hhub j hjn, hhub k hkn, hj2.1, hk2.1]; omega)
  rw [reqs_nth hjn, reqs_nth hkn] at h2
  have h3 : showS S 3 u < (reqS S j).a + (reqS S j).len := by
    have hl := lease_hub hj2.2.1
    unfold holdB at hjh
    simp only [Bool.and_eq_true, decide_eq_true_eq] at hjh
    rw [hl.2.1, hl.2.2, reqs_nth hjn] at hjh
    have hb := timeS_bd S (j + 1)
    have hc := pickI_bd (c := (nth S.q j).c) (n := 60) (by decide)
    have hd := pickI_bd (c := (nth S.q j).d) (n := 60) (by decide)
    have he := pickI_bd (c := (nth S.q j).e) (n := 400) (by decide)
    have hans := hj2.2.2
    unfold ansS at hans
    have hq : (reqS S j).asked = showS S h' (timeS S (j + 1) - pickI (nth S.q j).c 60) := by
      show showS S (hubS S j) _ = _
      rw [hj2.1]
    rw [hq] at hjh
    exact safe_clock (b := timeS S (j + 1)) (by omega) (by omega) (by omega) (show 1 ≤ (reqS S j).len by show 1 ≤ 1 + _; omega) hjh.2
  have h4 : (reqS S k).a ≤ showS S 3 u := by
    have hb := timeS_bd S (k + 1)
    have hd := pickI_bd (c := (nth S.q k).d) (n := 60) (by decide)
    have hans := hk2.2.2
    unfold ansS at hans
    exact shown_mono (by omega) (by omega)
  omega

end Go.AI

/- What honest hubs write is all in the history. Plain. -/
namespace Go.AI
open Go Go.Proofs Go.RowKit Go.Sort
set_option linter.unusedVariables false

/-- The i-th entry was written by a hub that held a lease. -/
def honE (S : St4) (i : Nat) (x : En) : Prop :=
  ∃ h : Nat, h < 3 ∧ x.t = 0 ∧ x.e = epS S h x.a (numS S) ∧ x.n = i ∧ x.h = h ∧ hoS S h x.a (numS S) = true ∧ 0 ≤ x.a ∧ x.a < 4000 ∧ 1 ≤ x.o ∧ x.o ≤ 100
def EntOK (S : St4) (l : List En) : Prop := (∀ i, i < l.length → honE S i (nth l i)) ∧ ∀ i j, i < j → j < l.length → (nth l i).a < (nth l j).a

theorem EntOK.nil (S : St4) : EntOK S [] := ⟨fun i h => by simp at h, fun i j _ h => by simp at h⟩
theorem nth_snoc {α : Type} [Inhabited α] (l : List α) (x : α) (i : Nat) : nth (l ++ [x]) i = if i < l.length then nth l i else if i = l.length then x else default := by
  unfold nth
  rw [List.getElem?_append]
  split
  · rfl
  · by_cases e : i = l.length
    · subst e; simp
    · rw [if_neg e, List.getElem?_eq_none (by simp; omega)]; rfl
theorem EntOK.snoc {S : St4} {l : List En} {x : En} (h : EntOK S l) (hx : honE S l.length x) (ha : l = [] ∨ (nth l (l.length - 1)).a < x.a) : EntOK S (l ++ [x]) := by
  have hlast : ∀ i, i < l.length → (nth l i).a < x.a := by
    intro i hi
    rcases ha with ha | ha
    · subst ha; simp at hi
    · by_cases e : i = l.length - 1
      · rw [e]; exact ha
      · exact Int.lt_trans (h.2 i (l.length - 1) (by omega) (by omega)) ha
  refine ⟨fun i hi => ?_, fun i j hij hj => ?_⟩
  · rw [List.length_append, List.length_singleton] at hi
    rw [nth_snoc]
    by_cases e : i < l.length
    · rw [if_pos e]; exact h.1 i e
    · have : i = l.length := by omega
      subst this
      rw [if_neg e, if_pos rfl]; exact hx
  · rw [List.length_append, List.length_singleton] at hj
    rw [nth_snoc, nth_snoc, if_pos (by omega)]
    by_cases e : j < l.length
    · rw [if_pos e]; exact h.2 i j hij e
    · rw [if_neg e, if_pos (by omega)]; exact hlast i (by omega)

theorem EntOK.epoch {S : St4} {l : List En} (h : EntOK S l) {i j : Nat} (hij : i ≤ j) (hj : j < l.length) : (nth l i).e ≤ (nth l j).e := by
  by_cases e : i = j
  · subst e; exact Int.le_refl _
  obtain ⟨h1, _, _, e1, _, _, o1, _⟩ := h.1 i (by omega)
  obtain ⟨h2, _, _, e2, _, _, o2, _⟩ := h.1 j hj
  rw [e1, e2]
  exact honest (h.2 i j (by omega) hj) o1 o2

theorem EntOK.valid {S : St4} {l : List En} (h : EntOK S l) (hl : l.length ≤ 120) : validM l = true := by
  refine validM_of (pairwise_nth fun i j hij hj => ?_) (fun x hx => ?_) hl
  · rw [ltKey_iff]
    have he := h.epoch (Nat.le_of_lt hij) hj
    obtain ⟨_, _, t1, _, n1, _⟩ := h.1 i (by omega)
    obtain ⟨_, _, t2, _, n2, _⟩ := h.1 j hj
    omega
  · obtain ⟨i, hi, rfl⟩ := mem_nth hx
    obtain ⟨g, g1, t1, e1, n1, h1, _, a1, a2, o1, o2⟩ := h.1 i hi
    have hb := epS_bd S g (nth l i).a (numS S)
    have hn : numS S ≤ 14 := by unfold numS; omega
    rw [formed_iff, e1]
    omega

/-- Until when an entry is the last one. -/
def endE (l : List En) (i : Nat) : Int := if i + 1 < l.length then (nth l (i + 1)).a else 5000

theorem EntOK.ends {S : St4} {l : List En} (h : EntOK S l) {i : Nat} (hi : i < l.length) : 0 ≤ (nth l i).a ∧ (nth l i).a < endE l i ∧ endE l i ≤ 5000 := by
  obtain ⟨_, _, _, _, _, _, _, a1, a2, _⟩ := h.1 i hi
  unfold endE
  split
  · rename_i hlt
    obtain ⟨_, _, _, _, _, _, _, b1, b2, _⟩ := h.1 (i + 1) hlt
    exact ⟨a1, h.2 i (i + 1) (by omega) hlt, by omega⟩
  · omega

theorem EntOK.owner {S : St4} {l : List En} (h : EntOK S l) (hl : l.length ≤ 120) {i : Nat} (hi : i < l.length) {x : Int} (h1 : (nth l i).a ≤ x) (h2 : x < endE l i) : ownerR l 0 x = (nth l i).o := by
  refine own_eq (validM_SK (h.valid hl)) (.inr ⟨nth l i, nth_mem hi, ⟨?_, h1⟩, rfl, fun z hz hc => ?_⟩)
  · obtain ⟨_, _, t1, _⟩ := h.1 i hi; exact t1
  · obtain ⟨j, hj, rfl⟩ := mem_nth hz
    have hji : j ≤ i := by
      refine Nat.le_of_not_lt fun hlt => ?_
      have hi1 : i + 1 < l.length := by omega
      unfold endE at h2
      rw [if_pos hi1] at h2
      have h3 := hc.2
      by_cases e : j = i + 1
      · subst e; omega
      · have := h.2 (i + 1) j (by omega) hj
        omega
    have he := h.epoch hji hi
    by_cases e : j = i
    · subst e; unfold betterE; omega
    · have := h.2 j i (by omega) hi
      unfold betterE; omega

/-! ### the journal, entry by entry from the last -/
def backE (l : List En) (p : Nat) : List En := [nth l (l.length - 1 - p)]
theorem backE_sub {l : List En} {p : Nat} (hp : p < l.length) : (backE l p).Sublist l := by
  unfold backE
  exact List.singleton_sublist.2 (nth_mem (by omega))
theorem backE_all {l : List En} : ∀ z ∈ l, ∃ p, p < l.length ∧ z ∈ backE l p := by
  intro z hz
  obtain ⟨i, hi, rfl⟩ := mem_nth hz
  refine ⟨l.length - 1 - i, by omega, ?_⟩
  unfold backE
  rw [show l.length - 1 - (l.length - 1 - i) = i by omega]
  exact List.mem_singleton.2 rfl

end Go.AI

namespace Go.AI
open Go Go.Proofs Go.RowKit Go.Sort
set_option linter.unusedVariables false
set_option maxRecDepth 20000

theorem spec54 (c n : Int) (hc : in64 c) (hn : n ≠ 0) : Spec Try.prog 54 [.i c, .i n] (.i (pickI c n)) := by
  unfold in64 at hc
  refine spT (r := [.i _]) Try.func54 rfl Try.ntmps54 Try.results54 rfl (by kernel_rfl) (V_run _ (enOK _) 100 ?_)
  repeat' first
    | refine Br.mk (fun h => ?_) (fun h => ?_)
    | refine Ar.ok (by simp at *; omega) ?_
    | refine Bd.mk hn ?_
    | refine Ar.by rfl ?_
  all_goals
    refine Out.mk ⟨?_, True.intro⟩
    refine congrArg (Value.int .i64) ?_
    unfold pickI
    simp only [decide_eq_true_eq, decide_eq_false_iff_not] at *
    first
      | rw [if_pos ‹c < 0›, Int.zero_sub]
      | rw [if_neg ‹¬ c < 0›]

theorem spec83 (c n : Int) (hc : in64 c) (hn : n ≠ 0) : Spec Try.prog 83 [.i c, .i n] (.i (pickI c n)) := by
  unfold in64 at hc
  refine spT (r := [.i _]) Try.func83 rfl Try.ntmps83 Try.results83 rfl (by kernel_rfl) (V_run _ (enOK _) 100 ?_)
  repeat' first
    | refine Br.mk (fun h => ?_) (fun h => ?_)
    | refine Ar.ok (by simp at *; omega) ?_
    | refine Bd.mk hn ?_
    | refine Ar.by rfl ?_
  all_goals
    refine Out.mk ⟨?_, True.intro⟩
    refine congrArg (Value.int .i64) ?_
    unfold pickI
    simp only [decide_eq_true_eq, decide_eq_false_iff_not] at *
    first
      | rw [if_pos ‹c < 0›, Int.zero_sub]
      | rw [if_neg ‹¬ c < 0›]

theorem sumR_tail {dd : Int} {rates : List Int} {t : Int} {i : Nat} (h : t ≤ 100 * i) : ∀ n, sumR dd rates t (i + n) = sumR dd rates t i
  | 0 => rfl
  | n + 1 => by
    have ih := sumR_tail (dd := dd) (rates := rates) h n
    have e : clI (t - 100 * ((i + n : Nat) : Int)) = 0 := by unfold clI; split <;> (try split) <;> omega
    show sumR dd rates t (i + n) + rateI dd rates (i + n) * clI (t - 100 * ((i + n : Nat) : Int)) = _
    rw [ih, e, Int.mul_zero, Int.add_zero]

theorem in64_nth {l : List Int} (h : ∀ n ∈ l, in64 n) (i : Nat) : in64 (nth l i) := by
  unfold nth
  cases e : l[i]? with
  | none => unfold in64; decide
  | some x => exact h x (List.mem_of_getElem? e)

set_option maxHeartbeats 4000000 in
theorem spec58 (dr st t : Int) (rates : List Int) (hd : in64 dr) (hs : in64 st) (hr : ∀ n ∈ rates, in64 n) (h0 : 0 ≤ t) (h1 : t ≤ 1000000) : Spec Try.prog 58 [.i dr, .i st, iv rates, .i t] (.i (shownI dr st rates t)) := by
  refine spT (r := [.i _]) Try.func58 rfl Try.ntmps58 Try.results58 rfl (by kernel_rfl) (V_run _ (enOK _) 100 ?_)
  refine Way.spec (CallS.by (spec83 dr 101 hd (by decide)) rfl ?_)
  have hdd := dr_bd dr
  generalize hddg : pickI dr 101 = dd at *
  refine V_loop _ (fun i : Nat => ⟨[(0, .i dr), (1, .i st), (2, iv rates), (3, .i t), (9, .i dd), (10, .i (sumR dd rates t i)), (11, .i i)], [], 0⟩)
    (fun i => i ≤ rates.length ∧ i ≤ 20 ∧ (i = 0 ∨ 100 * ((i : Int) - 1) < t)) (fun i => 20 - i) 0 ⟨Nat.zero_le _, Nat.zero_le _, .inl rfl⟩ ?_ ?_
  · exact Le_of _ [] [] ⟨rfl, True.intro, ⟨rfl, rfl, ⟨rfl, rfl, fun _ _ => rfl⟩, rfl, rfl, rfl, rfl, True.intro⟩, True.intro⟩
  rintro i ⟨hi1, hi2, hi3⟩
  have hsb := sumR_bd (rates := rates) hdd.1 t i
  have hsb1 : sumR dd rates t i ≤ 200000 ∧ -200000 ≤ sumR dd rates t i := by
    have e : dd * 100 * (i : Int) ≤ 10000 * 20 := Int.mul_le_mul (by omega) (by omega) (by omega) (by omega)
    omega
  clear hsb
  have fin : (¬ i < rates.length ∨ ¬ i < 20 ∨ ¬ t > 100 * (i : Int)) → sumR dd rates t i = sumR dd rates t (min rates.length 20) := by
    intro h
    by_cases e : t > 100 * (i : Int)
    · have : i = min rates.length 20 := by omega
      rw [this]
    · have hle : i ≤ min rates.length 20 := by omega
      have := sumR_tail (dd := dd) (rates := rates) (t := t) (i := i) (by omega) (min rates.length 20 - i)
      rw [show i + (min rates.length 20 - i) = min rates.length 20 by omega] at this
      exact this.symm
  have hg := gone_bd (rates := rates) hdd.1 hdd.2 h0
  have last : (¬ i < rates.length ∨ ¬ i < 20 ∨ ¬ t > 100 * (i : Int)) → sumR dd rates t i + 1000 * t = goneI dd rates t := fun h => by rw [fin h]; rfl
  have hps := pickI_bd (c := st) (n := 1000) (by decide)
  have hrb := rateI_bd (rates := rates) hdd.1 i
  have hcb := clI_bd (t - 100 * i)
  have hmb := mul_bd hrb.1 hrb.2 hcb.1 hcb.2 hdd.1
  have hpk := pickI_bd (c := nth rates i) (n := 2 * dd + 1) (by omega)
  have hmin : t > 100 * (i : Int) → minI (t - 100 * (i : Int)) 100 = clI (t - 100 * i) := fun h => by unfold minI clI; split <;> split <;> (try split) <;> omega
  have hsh : (¬ i < rates.length ∨ ¬ i < 20 ∨ ¬ t > 100 * (i : Int)) → pickI st 1000 + (goneI dd rates t).tdiv 1000 = shownI dr st rates t := fun _ => by unfold shownI; rw [hddg]
  have htd : (goneI dd rates t).tdiv 1000 = goneI dd rates t / 1000 := Int.tdiv_eq_ediv_of_nonneg hg.1
  refine V_run _ (enOK _) 200 ?_
  repeat' first
    | refine Br.dyes (by assumption) ?_
    | refine Br.dno (by assumption) ?_
    | refine Br.dec (fun h => ?_) (fun h => ?_)
    | refine Ar.ok (by omega) ?_
  all_goals (repeat' first
    | refine Br.no rfl ?_
    | refine Br.yes rfl ?_)
  · have hb : t > 100 * (i : Int) := by assumption
    have hlt : i < rates.length := by omega
    have hnext : sumR dd rates t (i + 1) = sumR dd rates t i + rateI dd rates i * clI (t - 100 * i) := rfl
    have hri : pickI (nth rates i) (2 * dd + 1) - dd = rateI dd rates i := rfl
    refine Ix.by rfl hlt ?_
    refine Ar.ok (by omega) ?_
    refine Ar.ok (by omega) ?_
    refine Way.spec (CallS.by (spec83 (nth rates i) (2 * dd + 1) (in64_nth hr i) (by omega)) rfl ?_)
    refine Ar.ok (by omega) ?_
    refine Ar.ok (by omega) ?_
    refine Ar.ok (by omega) ?_
    refine Ar.by (x := IntKind.i64.wrap ((pickI (nth rates i) (2 * dd + 1) - dd) * minI (t - 100 * (i : Int)) 100)) (r := rateI dd rates i * clI (t - 100 * i)) (by rw [hri, hmin hb]; exact wrap64 (by omega)) ?_
    refine Ar.ok (by omega) ?_
    refine Ar.nat (i + 1) (by omega) (by omega) ?_
    exact ⟨i + 1, ⟨by omega, by omega, .inr (by omega)⟩, by omega, Le_of _ [] [] ⟨rfl, True.intro, ⟨rfl, rfl, ⟨rfl, rfl, fun _ _ => rfl⟩, rfl, rfl, rfl, rfl, True.intro⟩, True.intro⟩⟩
  all_goals
    have hx : ¬ i < rates.length ∨ ¬ i < 20 ∨ ¬ t > 100 * (i : Int) := by omega
    have hx1 := last hx
    have hx2 := hsh hx
    repeat' first
      | refine Ar.ok (by omega) ?_
      | refine V_run _ (enOK _) 200 ?_
      | refine Way.spec (CallS.by (spec83 st 1000 hs (by decide)) rfl ?_)
      | refine Bd.mk (by decide) ?_
      | refine Ar.by (x := IntKind.i64.wrap ((sumR dd rates t i + 1000 * t).tdiv 1000)) (r := (goneI dd rates t).tdiv 1000) (by rw [hx1]; exact wrap64 (by omega)) ?_
    all_goals exact Out.mk ⟨congrArg (Value.int .i64) hx2, True.intro⟩

end Go.AI

namespace Go.AI
open Go Go.Proofs Go.RowKit Go.Sort
set_option linter.unusedVariables false
set_option maxRecDepth 20000

abbrev ivP (l : List Int) : PV := .rd 1 l.length fun i => [.i (nth l i)]
abbrev rvP (l : List R5) : PV := .rd 5 l.length fun i => (nth l i).cs
/-- A story, cell by cell. -/
abbrev storyC (S : St4) : List AV := [.i (S.d 0), .i (S.d 1), .i (S.d 2), .i (S.d 3), .i (S.s 0), .i (S.s 1), .i (S.s 2), .i (S.s 3), iv (S.r 0), iv (S.r 1), iv (S.r 2), iv (S.r 3), rv S.q]
abbrev storyV (S : St4) : AV := .agg (storyC S)
structure St4.ok (S : St4) : Prop where
  d : ∀ k, in64 (S.d k)
  s : ∀ k, in64 (S.s k)
  r : ∀ k, ∀ n ∈ S.r k, in64 n
  q : ∀ i, (nth S.q i).ok

theorem spec33 (S : St4) (hS : S.ok) (k : Nat) (hk : k < 4) : Spec Try.prog 33 [storyV S, .i k] (.i (pickI (S.d k) 101)) := by
  revert k
  refine lt4 ?_ ?_ ?_ ?_
  · refine spT (r := [.i _]) Try.func33 rfl Try.ntmps33 Try.results33 rfl (by kernel_rfl) (V_run _ (enOK _) 100 ?_)
    refine Ix.by (r := 0) rfl (by decide) ?_
    refine Way.spec (CallS.by (spec54 (S.d 0) 101 (hS.d 0) (by decide)) rfl ?_)
    exact Out.mk ⟨rfl, True.intro⟩
  · refine spT (r := [.i _]) Try.func33 rfl Try.ntmps33 Try.results33 rfl (by kernel_rfl) (V_run _ (enOK _) 100 ?_)
    refine Ix.by (r := 1) rfl (by decide) ?_
    refine Way.spec (CallS.by (spec54 (S.d 1) 101 (hS.d 1) (by decide)) rfl ?_)
    exact Out.mk ⟨rfl, True.intro⟩
  · refine spT (r := [.i _]) Try.func33 rfl Try.ntmps33 Try.results33 rfl (by kernel_rfl) (V_run _ (enOK _) 100 ?_)
    refine Ix.by (r := 2) rfl (by decide) ?_
    refine Way.spec (CallS.by (spec54 (S.d 2) 101 (hS.d 2) (by decide)) rfl ?_)
    exact Out.mk ⟨rfl, True.intro⟩
  · refine spT (r := [.i _]) Try.func33 rfl Try.ntmps33 Try.results33 rfl (by kernel_rfl) (V_run _ (enOK _) 100 ?_)
    refine Ix.by (r := 3) rfl (by decide) ?_
    refine Way.spec (CallS.by (spec54 (S.d 3) 101 (hS.d 3) (by decide)) rfl ?_)
    exact Out.mk ⟨rfl, True.intro⟩

theorem spec34 (S : St4) (hS : S.ok) (t : Int) (h0 : 0 ≤ t) (h1 : t ≤ 1000000) (k : Nat) (hk : k < 4) : Spec Try.prog 34 [storyV S, .i k, .i t] (.i (showS S k t)) := by
  revert k
  refine lt4 ?_ ?_ ?_ ?_
  · refine spT (r := [.i _]) Try.func34 rfl Try.ntmps34 Try.results34 rfl (by kernel_rfl) (V_run _ (enOK _) 100 ?_)
    refine V_draw _ (enOK _) (by kernel_rfl) ?_
    refine Ix.by (r := 0) rfl (by decide) ?_
    refine Ix.by (r := 0) rfl (by decide) ?_
    refine Ix.by (r := 0) rfl (by decide) ?_
    refine Way.spec (CallS.by (spec58 (S.d 0) (S.s 0) t (S.r 0) (hS.d 0) (hS.s 0) (hS.r 0) h0 h1) rfl ?_)
    refine And.intro (by kernel_rfl) (V_run _ (enOK _) 100 ?_)
    exact Out.mk ⟨rfl, True.intro⟩
  · refine spT (r := [.i _]) Try.func34 rfl Try.ntmps34 Try.results34 rfl (by kernel_rfl) (V_run _ (enOK _) 100 ?_)
    refine V_draw _ (enOK _) (by kernel_rfl) ?_
    refine Ix.by (r := 1) rfl (by decide) ?_
    refine Ix.by (r := 1) rfl (by decide) ?_
    refine Ix.by (r := 1) rfl (by decide) ?_
    refine Way.spec (CallS.by (spec58 (S.d 1) (S.s 1) t (S.r 1) (hS.d 1) (hS.s 1) (hS.r 1) h0 h1) rfl ?_)
    refine And.intro (by kernel_rfl) (V_run _ (enOK _) 100 ?_)
    exact Out.mk ⟨rfl, True.intro⟩
  · refine spT (r := [.i _]) Try.func34 rfl Try.ntmps34 Try.results34 rfl (by kernel_rfl) (V_run _ (enOK _) 100 ?_)
    refine V_draw _ (enOK _) (by kernel_rfl) ?_
    refine Ix.by (r := 2) rfl (by decide) ?_
    refine Ix.by (r := 2) rfl (by decide) ?_
    refine Ix.by (r := 2) rfl (by decide) ?_
    refine Way.spec (CallS.by (spec58 (S.d 2) (S.s 2) t (S.r 2) (hS.d 2) (hS.s 2) (hS.r 2) h0 h1) rfl ?_)
    refine And.intro (by kernel_rfl) (V_run _ (enOK _) 100 ?_)
    exact Out.mk ⟨rfl, True.intro⟩
  · refine spT (r := [.i _]) Try.func34 rfl Try.ntmps34 Try.results34 rfl (by kernel_rfl) (V_run _ (enOK _) 100 ?_)
    refine V_draw _ (enOK _) (by kernel_rfl) ?_
    refine Ix.by (r := 3) rfl (by decide) ?_
    refine Ix.by (r := 3) rfl (by decide) ?_
    refine Ix.by (r := 3) rfl (by decide) ?_
    refine Way.spec (CallS.by (spec58 (S.d 3) (S.s 3) t (S.r 3) (hS.d 3) (hS.s 3) (hS.r 3) h0 h1) rfl ?_)
    refine And.intro (by kernel_rfl) (V_run _ (enOK _) 100 ?_)
    exact Out.mk ⟨rfl, True.intro⟩

abbrev Rq.c (x : Rq) : List PV := [.i x.hub, .i x.asked, .i x.len, .i x.a]
abbrev Rq.v (x : Rq) : AV := .agg [.i x.hub, .i x.asked, .i x.len, .i x.a]
abbrev qP (l : List Rq) : PV := .rd 4 l.length fun i => (nth l i).c
abbrev qv (l : List Rq) : AV := .pv (qP l)

theorem map_nth {α : Type} [Inhabited α] (f : Nat → α) {n i : Nat} (h : i < n) : nth ((List.range n).map f) i = f i := by
  unfold nth
  rw [List.getElem?_map, List.getElem?_range h]; rfl

theorem row_snoc {f g2 : Nat → List PV} {i : Nat} (h : g2 0 = f i) : ∀ q, q < i + 1 → joinRows i f g2 q = f q := by
  intro q hq
  unfold joinRows
  split
  · rfl
  · rename_i e
    have hle : i ≤ q := blt_false e
    have hqi : q = i := by omega
    rw [hqi, Nat.sub_self, h]

set_option maxHeartbeats 4000000 in
theorem spec30 (S : St4) (hS : S.ok) : Spec Try.prog 30 [storyV S] (.tup [qv (reqsS S), iv (timesS S), iv (anssS S)]) := by
  refine spT (r := [_, _, _]) Try.func30 rfl Try.ntmps30 Try.results30 rfl (by kernel_rfl) (V_run _ (enOK _) 100 ?_)
  refine V_loop _ (fun i : Nat => ⟨[(1, .ptr 0 0 0), (5, .own 1 0 i), (6, .own 2 0 i), (7, .own 3 0 i), (8, .i (timeS S i)), (9, .i i)],
      [(0, some (.box (storyC S))), (1, some (.arr 67 4 i fun q => (reqS S q).c)), (2, some (.arr 3 1 i fun q => [.i (timeS S (q + 1))])), (3, some (.arr 3 1 i fun q => [.i (ansS S q)]))], 4⟩)
    (fun i => i ≤ numS S) (fun i => numS S - i) 0 (Nat.zero_le _) ?_ ?_
  · exact Le_of _ [(0, some 0), (1, none), (2, none), (3, none)] [] ⟨rfl, True.intro, ⟨⟨rfl, rfl, rfl⟩, ⟨rfl, rfl, rfl⟩, ⟨rfl, rfl, rfl⟩, ⟨rfl, rfl, rfl⟩, rfl, rfl, True.intro⟩, ⟨⟨rfl, ⟨rfl, rfl, rfl, rfl, rfl, rfl, rfl, rfl, ⟨rfl, rfl, fun _ _ => rfl⟩, ⟨rfl, rfl, fun _ _ => rfl⟩, ⟨rfl, rfl, fun _ _ => rfl⟩, ⟨rfl, rfl, fun _ _ => rfl⟩, ⟨rfl, rfl, fun _ _ => rfl⟩, rfl⟩⟩, ⟨rfl, rfl⟩, ⟨rfl, rfl⟩, ⟨rfl, rfl⟩, True.intro⟩⟩
  intro i hi
  have hn : numS S = min S.q.length 14 := rfl
  have hq := hS.q i
  obtain ⟨qa, qb, qc, qd, qe⟩ := hq
  have ht := timeS_bd S i
  have ht1 := timeS_bd S (i + 1)
  have htn : timeS S i + pickI (nth S.q i).b 250 = timeS S (i + 1) := rfl
  have b1 := pickI_bd (c := (nth S.q i).b) (n := 250) (by decide)
  have b2 := pickI_bd (c := (nth S.q i).c) (n := 60) (by decide)
  have b3 := pickI_bd (c := (nth S.q i).d) (n := 60) (by decide)
  have b4 := pickI_bd (c := (nth S.q i).e) (n := 400) (by decide)
  have bh := hubS_lt S i
  have hh : pickI (nth S.q i).a 3 = (hubS S i : Int) := by
    have := pickI_bd (c := (nth S.q i).a) (n := 3) (by decide)
    unfold hubS; omega
  have s0 : Spec Try.prog 54 [.i (nth S.q i).a, .i 3] (.i (hubS S i)) := by rw [← hh]; exact spec54 _ _ qa (by decide)
  have s1 := spec54 (nth S.q i).b 250 qb (by decide)
  have s2 := spec54 (nth S.q i).c 60 qc (by decide)
  have s3 := spec54 (nth S.q i).d 60 qd (by decide)
  have s4 := spec54 (nth S.q i).e 400 qe (by decide)
  have s5 := spec34 S hS (timeS S (i + 1) - pickI (nth S.q i).c 60) (by omega) (by omega) (hubS S i) (by omega)
  have s6 := spec34 S hS (timeS S (i + 1)) (by omega) (by omega) 3 (by decide)
  refine V_run _ (enOK _) 300 ?_
  refine Br.dec (fun h1 => ?_) (fun h1 => ?_)
  · refine Br.dec (fun h2 => ?_) (fun h2 => ?_)
    · refine Ix.by rfl (by omega) ?_
      refine Ix.by (r := 1) rfl (by decide) ?_
      refine Way.spec (CallS.by s1 rfl ?_)
      refine Ar.by (x := IntKind.i64.wrap (timeS S i + pickI (nth S.q i).b 250)) (r := timeS S (i + 1)) (wrap64 (by omega)) ?_
      refine Ix.by (r := 0) rfl (by decide) ?_
      refine Way.spec (CallS.by s0 rfl ?_)
      refine V_weak _ (st' := ⟨[(1, .ptr 0 0 0), (5, .own 1 0 i), (6, .own 2 0 i), (7, .own 3 0 i), (8, .i (timeS S (i + 1))), (9, .i i), (10, .ptr 4 0 0), (11, .i (hubS S i))],
        [(0, some (.box (storyC S))), (1, some (.arr 67 4 i fun q => (reqS S q).c)), (2, some (.arr 3 1 i fun q => [.i (timeS S (q + 1))])), (3, some (.arr 3 1 i fun q => [.i (ansS S q)])), (4, some (.box [.i (nth S.q i).a, .i (nth S.q i).b, .i (nth S.q i).c, .i (nth S.q i).d, .i (nth S.q i).e]))], 5⟩)
        (Le_of _ [(0, some 0), (1, some 1), (2, some 2), (3, some 3), (4, some 4)] [] ⟨rfl, True.intro, ⟨?_, ?_, ?_, ?_, ?_, ?_, ?_, ?_, True.intro⟩, ⟨?_, ?_, ?_, ?_, ?_, True.intro⟩⟩) ?_
      · exact ⟨rfl, rfl, rfl⟩
      · exact ⟨rfl, rfl, rfl⟩
      · exact ⟨rfl, rfl, rfl⟩
      · exact ⟨rfl, rfl, rfl⟩
      · exact rfl
      · exact rfl
      · exact ⟨rfl, rfl, rfl⟩
      · exact rfl
      · exact ⟨rfl, ⟨rfl, rfl, rfl, rfl, rfl, rfl, rfl, rfl, ⟨rfl, rfl, fun _ _ => rfl⟩, ⟨rfl, rfl, fun _ _ => rfl⟩, ⟨rfl, rfl, fun _ _ => rfl⟩, ⟨rfl, rfl, fun _ _ => rfl⟩, ⟨rfl, rfl, fun _ _ => rfl⟩, rfl⟩⟩
      · exact ⟨rfl, rfl, rfl, rfl, fun _ _ => rfl⟩
      · exact ⟨rfl, rfl, rfl, rfl, fun _ _ => rfl⟩
      · exact ⟨rfl, rfl, rfl, rfl, fun _ _ => rfl⟩
      · exact ⟨rfl, ⟨rfl, rfl, rfl, rfl, rfl, rfl⟩⟩
      refine V_draw _ (enOK _) (by kernel_rfl) ?_
      refine Ix.by (r := 2) rfl (by decide) ?_
      refine Way.spec (CallS.by s2 rfl ?_)
      refine Ar.ok (by omega) ?_
      refine Way.spec (CallS.by s5 rfl ?_)
      refine Ix.by (r := 4) rfl (by decide) ?_
      refine Way.spec (CallS.by s4 rfl ?_)
      refine Ar.ok (by omega) ?_
      refine Way.spec (CallS.by s6 rfl ?_)
      refine Bd.mk (Nat.le_refl _) ?_
      refine Bd.mk ⟨Nat.le_refl _, (show (i + 1) * 32 ≤ 140737488355328 from by omega)⟩ ?_
      refine And.intro (by kernel_rfl) ?_
      refine V_weak _ (st' := ⟨[(1, .ptr 0 0 0), (5, .own 1 0 (i + 1)), (6, .own 2 0 i), (7, .own 3 0 i), (8, .i (timeS S (i + 1))), (9, .i i), (10, .ptr 4 0 0)],
        [(0, some (.box (storyC S))), (1, some (.arr 67 4 (i + 1) fun q => (reqS S q).c)), (2, some (.arr 3 1 i fun q => [.i (timeS S (q + 1))])), (3, some (.arr 3 1 i fun q => [.i (ansS S q)])), (4, some (.box [.i (nth S.q i).a, .i (nth S.q i).b, .i (nth S.q i).c, .i (nth S.q i).d, .i (nth S.q i).e]))], 5⟩)
        (Le_of _ [(0, some 0), (1, some 6), (2, some 2), (3, some 3), (4, some 4)] [] ⟨rfl, True.intro, ⟨?_, ?_, ?_, ?_, ?_, ?_, ?_, True.intro⟩, ⟨?_, ?_, ?_, ?_, ?_, True.intro⟩⟩) ?_
      · exact ⟨rfl, rfl, rfl⟩
      · exact ⟨rfl, rfl, rfl⟩
      · exact ⟨rfl, rfl, rfl⟩
      · exact ⟨rfl, rfl, rfl⟩
      · exact rfl
      · exact rfl
      · exact ⟨rfl, rfl, rfl⟩
      · exact ⟨rfl, ⟨rfl, rfl, rfl, rfl, rfl, rfl, rfl, rfl, ⟨rfl, rfl, fun _ _ => rfl⟩, ⟨rfl, rfl, fun _ _ => rfl⟩, ⟨rfl, rfl, fun _ _ => rfl⟩, ⟨rfl, rfl, fun _ _ => rfl⟩, ⟨rfl, rfl, fun _ _ => rfl⟩, rfl⟩⟩
      · exact ⟨rfl, rfl, rfl, rfl, row_snoc rfl⟩
      · exact ⟨rfl, rfl, rfl, rfl, fun _ _ => rfl⟩
      · exact ⟨rfl, rfl, rfl, rfl, fun _ _ => rfl⟩
      · exact ⟨rfl, ⟨rfl, rfl, rfl, rfl, rfl, rfl⟩⟩
      refine V_run _ (enOK _) 300 ?_
      refine Bd.mk (Nat.le_refl _) ?_
      refine Bd.mk ⟨Nat.le_refl _, (show (i + 1) * 8 ≤ 140737488355328 from by omega)⟩ ?_
      refine Ix.by (r := 3) rfl (by decide) ?_
      refine Way.spec (CallS.by s3 rfl ?_)
      refine Ar.ok (by omega) ?_
      refine Bd.mk (Nat.le_refl _) ?_
      refine Bd.mk ⟨Nat.le_refl _, (show (i + 1) * 8 ≤ 140737488355328 from by omega)⟩ ?_
      refine Ar.nat (i + 1) (by omega) (by omega) ?_
      refine ⟨i + 1, by omega, by omega, Le_of _ [(0, some 0), (1, some 1), (2, some 6), (3, some 8)] [] ⟨rfl, True.intro, ⟨?_, ?_, ?_, ?_, ?_, ?_, True.intro⟩, ⟨?_, ?_, ?_, ?_, True.intro⟩⟩⟩
      · exact ⟨rfl, rfl, rfl⟩
      · exact ⟨rfl, rfl, rfl⟩
      · exact ⟨rfl, rfl, rfl⟩
      · exact ⟨rfl, rfl, rfl⟩
      · exact rfl
      · exact rfl
      · exact ⟨rfl, ⟨rfl, rfl, rfl, rfl, rfl, rfl, rfl, rfl, ⟨rfl, rfl, fun _ _ => rfl⟩, ⟨rfl, rfl, fun _ _ => rfl⟩, ⟨rfl, rfl, fun _ _ => rfl⟩, ⟨rfl, rfl, fun _ _ => rfl⟩, ⟨rfl, rfl, fun _ _ => rfl⟩, rfl⟩⟩
      · exact ⟨rfl, rfl, rfl, rfl, fun _ _ => rfl⟩
      · exact ⟨rfl, rfl, rfl, rfl, row_snoc rfl⟩
      · exact ⟨rfl, rfl, rfl, rfl, row_snoc rfl⟩
    · have : i = numS S := by omega
      subst this
      exact V_weak _ (st' := ⟨[(5, qv (reqsS S)), (6, iv (timesS S)), (7, iv (anssS S))], [], 0⟩)
        (Le_of _ [] [1, 2, 3] ⟨rfl, ⟨True.intro, True.intro, True.intro, True.intro⟩, ⟨⟨rfl, rfl, (reqs_len S).symm, Nat.le_of_eq (Nat.zero_add _), fun q hq => by rw [Nat.zero_add]; dsimp only; rw [reqs_nth hq]⟩, ⟨rfl, rfl, (by simp [timesS]), Nat.le_of_eq (Nat.zero_add _), fun q hq => by rw [Nat.zero_add]; unfold timesS; dsimp only; rw [map_nth _ hq]⟩,
          ⟨rfl, rfl, (by simp [anssS]), Nat.le_of_eq (Nat.zero_add _), fun q hq => by rw [Nat.zero_add]; unfold anssS; dsimp only; rw [map_nth _ hq]⟩, True.intro⟩, True.intro⟩) (V_run _ (enOK _) 100 (Out.mk ⟨⟨rfl, rfl, fun _ _ => rfl⟩, ⟨rfl, rfl, fun _ _ => rfl⟩, ⟨rfl, rfl, fun _ _ => rfl⟩, True.intro⟩))
  · have : i = numS S := by omega
    subst this
    exact V_weak _ (st' := ⟨[(5, qv (reqsS S)), (6, iv (timesS S)), (7, iv (anssS S))], [], 0⟩)
        (Le_of _ [] [1, 2, 3] ⟨rfl, ⟨True.intro, True.intro, True.intro, True.intro⟩, ⟨⟨rfl, rfl, (reqs_len S).symm, Nat.le_of_eq (Nat.zero_add _), fun q hq => by rw [Nat.zero_add]; dsimp only; rw [reqs_nth hq]⟩, ⟨rfl, rfl, (by simp [timesS]), Nat.le_of_eq (Nat.zero_add _), fun q hq => by rw [Nat.zero_add]; unfold timesS; dsimp only; rw [map_nth _ hq]⟩,
          ⟨rfl, rfl, (by simp [anssS]), Nat.le_of_eq (Nat.zero_add _), fun q hq => by rw [Nat.zero_add]; unfold anssS; dsimp only; rw [map_nth _ hq]⟩, True.intro⟩, True.intro⟩) (V_run _ (enOK _) 100 (Out.mk ⟨⟨rfl, rfl, fun _ _ => rfl⟩, ⟨rfl, rfl, fun _ _ => rfl⟩, ⟨rfl, rfl, fun _ _ => rfl⟩, True.intro⟩))

end Go.AI

namespace Go.AI
open Go Go.Proofs Go.RowKit Go.Sort
set_option linter.unusedVariables false
set_option maxRecDepth 20000
theorem spec75 (n lo hi : Int) : Spec Try.prog 75 [.i n, .i lo, .i hi] (.b (decide (lo ≤ n) && decide (n ≤ hi))) := by
  refine spT (r := [.b _]) Try.func75 rfl Try.ntmps75 Try.results75 rfl (by kernel_rfl) (V_run _ (enOK _) 100 ?_)
  repeat' first
    | refine Br.mk (fun h => ?_) (fun h => ?_)
  all_goals
    refine Out.mk ⟨?_, True.intro⟩
    refine congrArg Value.bool ?_
    rw [Bool.eq_iff_iff]
    simp at *
    omega

def rqOK (x : Rq) : Bool := decide (0 ≤ x.hub ∧ x.hub ≤ 2 ∧ 0 ≤ x.asked ∧ x.asked ≤ 10000000 ∧ 0 ≤ x.a ∧ x.a ≤ 10000000 ∧ 1 ≤ x.len ∧ x.len ≤ 3600)

theorem spec74 (x : Rq) : Spec Try.prog 74 [x.v] (.b (!rqOK x)) := by
  refine spT (r := [.b _]) Try.func74 rfl Try.ntmps74 Try.results74 rfl (by kernel_rfl) (V_run _ (enOK _) 100 ?_)
  repeat' first
    | refine Way.spec ?_
    | refine CallS.by (spec75 _ _ _) rfl ?_
    | refine Br.mk (fun h => ?_) (fun h => ?_)
  all_goals
    refine Out.mk ⟨?_, True.intro⟩
    refine congrArg Value.bool ?_
    rw [Bool.eq_iff_iff]
    simp [rqOK] at *
    omega

theorem spec76 (a b : Rq) : Spec Try.prog 76 [a.v, b.v] (.i (ci a.a b.a)) := by
  refine spT (r := [.i _]) Try.func76 rfl Try.ntmps76 Try.results76 rfl (by kernel_rfl) (V_run _ (enOK _) 100 ?_)
  refine Way.spec (CallS.by (spec77 _ _) rfl ?_)
  exact Out.mk ⟨rfl, True.intro⟩

theorem spec104 (l : List Rq) (hl : l.length ≤ 1000000000) (hok : ∀ i, i < l.length → rqOK (nth l i) = true) : Spec Try.prog 104 [qv l, .pv (.fn (.func 74) [])] (.i (-1)) := by
  refine spT (r := [.i _]) Try.func104 rfl Try.ntmps104 Try.results104 rfl (by kernel_rfl) (V_run _ (enOK _) 100 ?_)
  refine V_loop _ (fun i : Nat => ⟨[(0, qv l), (1, .pv (.fn (.func 74) [])), (7, .i l.length), (8, .i i)], [], 0⟩) (fun i => i ≤ l.length) (fun i => l.length - i) 0 (Nat.zero_le _) ?_ ?_
  · exact Le_of _ [] [] ⟨rfl, True.intro, ⟨⟨rfl, rfl, fun _ _ => rfl⟩, rfl, rfl, rfl, True.intro⟩, True.intro⟩
  intro i hi
  refine V_run _ (enOK _) 100 ?_
  refine Br.dec (fun hlt => ?_) (fun hlt => ?_)
  · refine Ix.by rfl (by omega) ?_
    refine Way.spec (CallS.by (spec74 _) rfl ?_)
    refine Br.notn (hok i (by omega)) ?_
    refine Ar.nat (i + 1) (by omega) (by omega) ?_
    exact ⟨i + 1, by omega, by omega, Le_of _ [] [] ⟨rfl, True.intro, ⟨⟨rfl, rfl, fun _ _ => rfl⟩, rfl, rfl, rfl, True.intro⟩, True.intro⟩⟩
  · refine V_run _ (enOK _) 100 ?_
    exact Out.mk ⟨rfl, True.intro⟩

theorem spec78 (l : List Rq) (hl : l.length ≤ 1000000000) (hok : ∀ i, i < l.length → rqOK (nth l i) = true) : Spec Try.prog 78 [qv l, .pv (.fn (.func 74) [])] (.b false) := by
  refine spT (r := [.b _]) Try.func78 rfl Try.ntmps78 Try.results78 rfl (by kernel_rfl) (V_run _ (enOK _) 100 ?_)
  refine Way.spec (CallS.by (spec104 l hl hok) rfl ?_)
  exact Out.mk ⟨rfl, True.intro⟩

theorem spec79 (l : List Rq) (hl : l.length ≤ 1000000000) (hm : ∀ i, i + 1 < l.length → (nth l i).a ≤ (nth l (i + 1)).a) : Spec Try.prog 79 [qv l, .pv (.fn (.func 76) [])] (.b true) := by
  refine spT (r := [.b _]) Try.func79 rfl Try.ntmps79 Try.results79 rfl (by kernel_rfl) (V_run _ (enOK _) 100 ?_)
  refine Ar.ok (by omega) ?_
  refine V_loop _ (fun i : Int => ⟨[(0, qv l), (1, .pv (.fn (.func 76) [])), (5, .i i)], [], 0⟩) (fun i => -1 ≤ i ∧ i < l.length) (fun i => (i + 1).toNat) ((l.length : Int) - 1) (by omega) ?_ ?_
  · exact Le_of _ [] [] ⟨rfl, True.intro, ⟨⟨rfl, rfl, fun _ _ => rfl⟩, rfl, rfl, True.intro⟩, True.intro⟩
  rintro i ⟨hi1, hi2⟩
  refine V_run _ (enOK _) 100 ?_
  refine Br.dec (fun hlt => ?_) (fun hlt => ?_)
  · obtain ⟨k, rfl⟩ : ∃ k : Nat, i = (k : Int) + 1 := ⟨(i - 1).toNat, by omega⟩
    refine V_draw _ (enOK _) (by kernel_rfl) ?_
    refine Ix.by (r := k + 1) (by omega) (by omega) ?_
    refine Ar.nat k (by omega) (by omega) ?_
    refine Ix.by (r := k) rfl (by omega) ?_
    refine Way.spec (CallS.by (spec76 _ _) rfl ?_)
    refine And.intro (by kernel_rfl) (V_run _ (enOK _) 100 ?_)
    have h1 := hm k (by omega)
    refine Br.dno (by unfold ci; split <;> (try split) <;> omega) ?_
    refine Ar.ok (by omega) ?_
    exact ⟨_, by omega, by omega, Le_of _ [] [] ⟨rfl, True.intro, ⟨⟨rfl, rfl, fun _ _ => rfl⟩, rfl, rfl, True.intro⟩, True.intro⟩⟩
  · refine V_run _ (enOK _) 100 ?_
    exact Out.mk ⟨rfl, True.intro⟩

theorem spec55 (l : List Rq) (hl : l.length ≤ 24) (hok : ∀ i, i < l.length → rqOK (nth l i) = true) (hm : ∀ i, i + 1 < l.length → (nth l i).a ≤ (nth l (i + 1)).a) : Spec Try.prog 55 [qv l] (.b true) := by
  refine spT (r := [.b _]) Try.func55 rfl Try.ntmps55 Try.results55 rfl (by kernel_rfl) (V_run _ (enOK _) 100 ?_)
  refine Br.dyes (by omega) ?_
  refine Way.spec (CallS.by (spec78 l (by omega) hok) rfl ?_)
  refine Br.yes rfl ?_
  refine Way.spec (CallS.by (spec79 l (by omega) hm) rfl ?_)
  exact Out.mk ⟨rfl, True.intro⟩

abbrev Ls.c (x : Ls) : List PV := [.i x.hub, .i x.ep, .i x.asked, .i x.gr, .i x.len, .i x.til]
abbrev Ls.v (x : Ls) : AV := .agg [.i x.hub, .i x.ep, .i x.asked, .i x.gr, .i x.len, .i x.til]
abbrev lP (l : List Ls) : PV := .rd 6 l.length fun i => (nth l i).c
abbrev lv (l : List Ls) : AV := .pv (lP l)

theorem spec56 (x : Ls) (n : Int) : Spec Try.prog 56 [x.v, .i n] (.b (decide (x.til ≤ n))) := by
  refine spT (r := [.b _]) Try.func56 rfl Try.ntmps56 Try.results56 rfl (by kernel_rfl) (V_run _ (enOK _) 100 ?_)
  exact Out.mk ⟨rfl, True.intro⟩

/-- The rows of leases, as far as they are granted. -/
def grow6 (q : List Rq) (i : Nat) (k : Nat) : Ls := if k < i then leaseI q k else l0

theorem last_bds (q : List Rq) (hok : ∀ i, i < q.length → rqOK (nth q i) = true) : ∀ i, i ≤ q.length → 0 ≤ (lastI q i).til ∧ (lastI q i).til ≤ 10003600
  | 0, _ => by simp [lastI]
  | i + 1, h => by
    have ih := last_bds q hok i (by omega)
    have hq := hok i (by omega)
    unfold rqOK at hq
    have hq := of_decide_eq_true hq
    unfold lastI
    split
    · exact ih
    · unfold nextL maxI; simp only; split <;> omega

set_option maxHeartbeats 4000000 in
theorem spec31 (q : List Rq) (hl : q.length ≤ 24) (hok : ∀ i, i < q.length → rqOK (nth q i) = true) (hm : ∀ i, i + 1 < q.length → (nth q i).a ≤ (nth q (i + 1)).a) : Spec Try.prog 31 [qv q] (.tup [lv (leases q), .i 0]) := by
  refine spT (r := [_, _]) Try.func31 rfl Try.ntmps31 Try.results31 rfl (by kernel_rfl) (V_run _ (enOK _) 200 ?_)
  refine Way.spec (CallS.by (spec55 q hl hok hm) rfl ?_)
  refine Br.notn rfl ?_
  refine Ix.by (r := q.length) rfl (by omega) ?_
  refine Bd.mk ⟨rfl, by decide, (show 48 * q.length ≤ 140737488355328 from by omega)⟩ ?_
  refine V_loop _ (fun i : Nat => ⟨[(4, .own 0 0 q.length), (5, .ptr 1 0 0), (15, qv q), (16, .i q.length), (17, .i i)],
      [(0, some (.arr 69 6 q.length fun k => (grow6 q i k).c)), (1, some (.box [.i (lastI q i).hub, .i (lastI q i).ep, .i (lastI q i).asked, .i (lastI q i).gr, .i (lastI q i).len, .i (lastI q i).til]))], 2⟩)
    (fun i => i ≤ q.length) (fun i => q.length - i) 0 (Nat.zero_le _) ?_ ?_
  · exact Le_of _ [(0, some 0), (1, some 1)] [] ⟨rfl, True.intro, ⟨⟨rfl, rfl, rfl⟩, ⟨rfl, rfl, rfl⟩, ⟨rfl, rfl, fun _ _ => rfl⟩, rfl, rfl, True.intro⟩, ⟨⟨rfl, rfl, rfl, rfl, fun _ _ => rfl⟩, ⟨rfl, ⟨rfl, rfl, rfl, rfl, rfl, rfl, rfl⟩⟩, True.intro⟩⟩
  intro i hi
  have hb := last_bd q i
  have hb2 := last_bds q hok i hi
  refine V_run _ (enOK _) 300 ?_
  refine Br.dec (fun hlt => ?_) (fun hlt => ?_)
  · have hi' : i < q.length := by omega
    have hq := of_decide_eq_true (hok i hi')
    have hlast : lastI q (i + 1) = if takenB (lastI q i) (nth q i) = true then lastI q i else nextL (lastI q i) (nth q i) := rfl
    have hlease : leaseI q i = if takenB (lastI q i) (nth q i) = true then l0 else nextL (lastI q i) (nth q i) := rfl
    generalize hs : lastI q i = s at *
    generalize hx : nth q i = x at hlast hlease hq
    subst hx
    have hfree : freeB s (nth q i) = (decide (s.ep = 0) || decide (s.til ≤ (nth q i).a)) := rfl
    have htak : takenB s (nth q i) = (!freeB s (nth q i) && decide ((nth q i).hub ≠ s.hub)) := rfl
    have hg : ∀ k, k < q.length → grow6 q (i + 1) k = if k = i then leaseI q i else grow6 q i k := by
      intro k hk
      unfold grow6
      by_cases e : k = i
      · subst e; rw [if_pos (by omega), if_pos rfl]
      · rw [if_neg e]
        by_cases e2 : k < i
        · rw [if_pos e2, if_pos (by omega)]
        · rw [if_neg e2, if_neg (by omega)]
    refine Ix.by rfl (by omega) ?_
    repeat' first
      | refine Br.eq (fun h => ?_) (fun h => ?_)
      | refine Br.ne (fun h => ?_) (fun h => ?_)
      | refine Br.not (fun h => ?_) (fun h => ?_)
      | refine Way.spec (CallS.by (spec56 s (nth q i).a) rfl ?_)
      | refine Ar.nat (i + 1) (by omega) (by omega) ?_
      | refine Ar.ok (by omega) ?_
      | refine Ix.by rfl (by omega) ?_
      | refine Bd.mk ⟨by omega, by decide⟩ ?_
    all_goals
      refine ⟨i + 1, by omega, by omega, ?_⟩
      by_cases htk : takenB s (nth q i) = true
      · first
          | (exfalso; rw [htak, hfree] at htk; simp at htk; simp at *; omega)
          | (rw [if_pos htk] at hlast hlease
             rw [hlast]
             refine Le_of _ [(0, some 0), (1, some 1)] [] ⟨rfl, True.intro, ⟨⟨rfl, rfl, rfl⟩, ⟨rfl, rfl, rfl⟩, ⟨rfl, rfl, fun _ _ => rfl⟩, rfl, rfl, True.intro⟩, ⟨⟨rfl, rfl, rfl, rfl, fun k hk => ?_⟩, ⟨rfl, ⟨rfl, rfl, rfl, rfl, rfl, rfl, rfl⟩⟩, True.intro⟩⟩
             dsimp only
             rw [hg k hk]
             by_cases e : k = i
             · subst e
               rw [if_pos rfl, hlease]
               unfold grow6
               rw [if_neg (by omega)]
             · rw [if_neg e])
      · first
          | (exfalso; rw [htak, hfree] at htk; simp at htk; simp at *; omega)
          | (rw [if_neg htk] at hlast hlease
             rw [hlast]
             refine Le_of _ [(0, some 0), (1, some 1)] [] ⟨rfl, True.intro, ⟨⟨rfl, rfl, rfl⟩, ⟨rfl, rfl, rfl⟩, ⟨rfl, rfl, fun _ _ => rfl⟩, rfl, rfl, True.intro⟩, ⟨⟨rfl, rfl, rfl, rfl, fun k hk => ?_⟩, ⟨rfl, ⟨rfl, rfl, rfl, rfl, rfl, rfl, rfl⟩⟩, True.intro⟩⟩
             dsimp only
             rw [hg k hk]
             by_cases e : k = i
             · subst e
               rw [if_pos rfl, hlease]
               have : Nat.beq k (0 + k) = true := by rw [Nat.zero_add]; exact Nat.beq_refl k
               simp only [this]
               rfl
             · have : Nat.beq k (0 + i) = false := by rw [Bool.eq_false_iff]; exact fun h => e (by have := Nat.eq_of_beq_eq_true h; omega)
               rw [if_neg e]
               simp only [this])
  · have : i = q.length := by omega
    subst this
    exact V_weak _ (st' := ⟨[(4, lv (leases q))], [], 0⟩)
      (Le_of _ [] [0] ⟨rfl, ⟨True.intro, True.intro⟩, ⟨⟨rfl, rfl, (leases_len q).symm, Nat.le_of_eq (Nat.zero_add _), fun k hk => by
        rw [Nat.zero_add]
        dsimp only
        rw [leases_nth hk]
        unfold grow6
        rw [if_pos hk]⟩, True.intro⟩, True.intro⟩) (V_run _ (enOK _) 100 (Out.mk ⟨⟨rfl, rfl, fun _ _ => rfl⟩, rfl, True.intro⟩))

/-! ### how long a lease is held -/

theorem spec80 (d n : Int) (hd : 0 ≤ d ∧ d ≤ 100) (hn : 0 ≤ n ∧ n ≤ 10000000) : Spec Try.prog 80 [.i d, .i n] (.tup [.i (leastI d n), .i (mostI d n)]) := by
  have h1 : 0 < n → 0 ≤ (1000 * (n - 1)).tdiv (1000 + d) ∧ (1000 * (n - 1)).tdiv (1000 + d) ≤ 1000 * (n - 1) := fun h => by
    rw [Int.tdiv_eq_ediv_of_nonneg (by omega)]
    exact ⟨Int.ediv_nonneg (by omega) (by omega), Int.ediv_le_self _ (by omega)⟩
  have h2 : 0 ≤ (1000 * (n + 1) - 1).tdiv (1000 - d) ∧ (1000 * (n + 1) - 1).tdiv (1000 - d) ≤ 1000 * (n + 1) - 1 := by
    rw [Int.tdiv_eq_ediv_of_nonneg (by omega)]
    exact ⟨Int.ediv_nonneg (by omega) (by omega), Int.ediv_le_self _ (by omega)⟩
  have e1 : 0 < n → leastI d n = (1000 * (n - 1)).tdiv (1000 + d) + 1 := fun h => by unfold leastI; rw [if_pos h]
  have e2 : ¬ 0 < n → leastI d n = 0 := fun h => by unfold leastI; rw [if_neg (by omega)]
  refine spT (r := [.i _, .i _]) Try.func80 rfl Try.ntmps80 Try.results80 rfl (by kernel_rfl) (V_run _ (enOK _) 200 ?_)
  repeat' first
    | refine Br.dno (by omega) ?_
    | refine Br.dec (fun h => ?_) (fun h => ?_)
    | refine Ar.ok (by omega) ?_
    | refine Bd.mk (by omega) ?_
  · have h1 := h1 (by omega)
    repeat' first
      | refine Ar.ok (by omega) ?_
      | refine Bd.mk (by omega) ?_
    refine V_draw _ (enOK _) (by kernel_rfl) ?_
    repeat' first
      | refine Ar.ok (by omega) ?_
      | refine Bd.mk (by omega) ?_
    refine And.intro (by kernel_rfl) (V_run _ (enOK _) 100 ?_)
    exact Out.mk ⟨congrArg (Value.int .i64) (e1 (by omega)).symm, rfl, True.intro⟩
  · refine V_draw _ (enOK _) (by kernel_rfl) ?_
    repeat' first
      | refine Ar.ok (by omega) ?_
      | refine Bd.mk (by omega) ?_
    refine And.intro (by kernel_rfl) (V_run _ (enOK _) 100 ?_)
    exact Out.mk ⟨congrArg (Value.int .i64) (e2 (by omega)).symm, rfl, True.intro⟩

theorem spec82 (m d s : Int) (hd : 0 ≤ d ∧ d ≤ 100) (hm : 0 ≤ m ∧ m ≤ 10000000) : Spec Try.prog 82 [.i m, .pv (bP d), .pv (bP s)] (.b (decide (s ≤ mostI d m))) := by
  refine spT (r := [.b _]) Try.func82 rfl Try.ntmps82 Try.results82 rfl (by kernel_rfl) (V_run _ (enOK _) 200 ?_)
  repeat' first
    | refine Way.spec (CallS.by (spec80 d m hd hm) rfl ?_)
    | refine Bd.mk (by decide) ?_
  exact Out.mk ⟨rfl, True.intro⟩

theorem most_mono {d m m' : Int} (hd : 0 ≤ d ∧ d ≤ 100) (h0 : 0 ≤ m) (h : m ≤ m') : mostI d m ≤ mostI d m' := by
  unfold mostI
  rw [Int.tdiv_eq_ediv_of_nonneg (by omega), Int.tdiv_eq_ediv_of_nonneg (by omega)]
  exact Int.ediv_le_ediv (by omega) (by omega)

theorem half (n : Nat) (h : n ≤ 100000000) : IntKind.i64.wrap ((IntKind.u64.wrap (n : Int)).fdiv (2 ^ (min (Int.toNat 1) IntKind.u64.bits))) = (n / 2 : Nat) := by
  have e1 : IntKind.u64.wrap (n : Int) = (n : Int) := by
    unfold IntKind.wrap
    simp [IntKind.signed, IntKind.bits]
    omega
  rw [e1]
  have e2 : ((n : Int)).fdiv (2 ^ (min (Int.toNat 1) IntKind.u64.bits)) = (n / 2 : Nat) := by
    have : (2 : Int) ^ (min (Int.toNat 1) IntKind.u64.bits) = 2 := by decide
    rw [this, Int.fdiv_eq_ediv_of_nonneg _ (by omega)]
    omega
  rw [e2]
  exact wrap64 (by omega)

set_option maxHeartbeats 4000000 in
theorem spec81 (d s : Int) (hd : 0 ≤ d ∧ d ≤ 100) (r : Nat) (hr : r ≤ 7200) (h1 : ∀ m : Nat, m < r → ¬ s ≤ mostI d m) (h2 : ∀ m : Nat, r ≤ m → m < 7200 → s ≤ mostI d m) :
    Spec Try.prog 81 [.i 7200, .pv (.fn (.func 82) [bP d, bP s])] (.i r) := by
  refine spT (r := [.i _]) Try.func81 rfl Try.ntmps81 Try.results81 rfl (by kernel_rfl) (V_run _ (enOK _) 200 ?_)
  refine V_loop _ (fun x : Nat × Nat => ⟨[(1, .pv (.fn (.func 82) [bP d, bP s])), (5, .i x.1), (6, .i x.2)], [], 0⟩) (fun x => x.1 ≤ r ∧ r ≤ x.2 ∧ x.2 ≤ 7200) (fun x => x.2 - x.1) (0, 7200) ⟨Nat.zero_le _, hr, Nat.le_refl _⟩ ?_ ?_
  · exact Le_of _ [] [] ⟨rfl, True.intro, ⟨rfl, rfl, rfl, True.intro⟩, True.intro⟩
  rintro ⟨lo, hi⟩ ⟨q1, q2, q3⟩
  simp only at q1 q2 q3
  have eh := half (lo + hi) (by omega)
  refine V_run _ (enOK _) 200 ?_
  refine Br.dec (fun hlt => ?_) (fun hlt => ?_)
  · refine Ar.nat (lo + hi) (by omega) (by omega) ?_
    refine Bd.mk (by decide) ?_
    have hm : (lo + hi) / 2 < hi ∧ lo ≤ (lo + hi) / 2 := by omega
    have s82 := spec82 (((lo + hi) / 2 : Nat) : Int) d s hd (by omega)
    rw [← eh] at s82
    refine Way.spec (CallS.by s82 rfl ?_)
    rw [eh]
    generalize (lo + hi) / 2 = m at *
    refine Br.not (fun h => ?_) (fun h => ?_)
    · have h := of_decide_eq_false h
      refine Ar.by (r := ((m + 1 : Nat) : Int)) (by show IntKind.i64.wrap (IntKind.i64.wrap ((IntKind.u64.wrap ((lo + hi : Nat) : Int)).fdiv (2 ^ (min (Int.toNat 1) IntKind.u64.bits))) + 1) = _; rw [eh]; exact wrap64 (by omega)) ?_
      refine ⟨(m + 1, hi), ⟨?_, q2, q3⟩, by simp only; omega, Le_of _ [] [] ⟨rfl, True.intro, ⟨rfl, rfl, rfl, True.intro⟩, True.intro⟩⟩
      refine Nat.lt_of_not_le fun hc => h (h2 m hc (by omega))
    · have h := of_decide_eq_true h
      refine ⟨(lo, m), ⟨q1, ?_, by simp only; omega⟩, by simp only; omega, Le_of _ [] [] ⟨rfl, True.intro, ⟨rfl, rfl, ?_, True.intro⟩, True.intro⟩⟩
      rotate_left
      · refine congrArg (Value.int .i64) ?_
        exact eh
      refine Nat.le_of_not_lt fun hc => h1 m hc h
  · have : lo = r := by omega
    subst this
    refine V_run _ (enOK _) 100 ?_
    exact Out.mk ⟨rfl, True.intro⟩

/-- For how many seconds a lease is surely held. -/
theorem safe_ex {d s : Int} (hd : 0 ≤ d ∧ d ≤ 100) (hs : s ≤ 7200) : ∃ r : Nat, r ≤ 7200 ∧ (∀ m : Nat, m < r → ¬ s ≤ mostI d m) ∧ ∀ m : Nat, r ≤ m → s ≤ mostI d m := by
  have top : s ≤ mostI d (7200 : Nat) := by
    unfold mostI
    rw [Int.tdiv_eq_ediv_of_nonneg (by omega)]
    refine Int.le_trans hs ((Int.le_ediv_iff_mul_le (by omega)).2 ?_)
    have : (7200 : Int) * (1000 - d) ≤ 7200 * 1000 := by omega
    omega
  have key : ∀ n : Nat, s ≤ mostI d n → ∃ r : Nat, r ≤ n ∧ (∀ m : Nat, m < r → ¬ s ≤ mostI d m) ∧ s ≤ mostI d r := by
    intro n
    induction n with
    | zero => exact fun h => ⟨0, Nat.le_refl _, fun m hm => by omega, h⟩
    | succ n ih =>
      intro h
      by_cases e : s ≤ mostI d n
      · obtain ⟨r, h1, h2, h3⟩ := ih e
        exact ⟨r, by omega, h2, h3⟩
      · refine ⟨n + 1, Nat.le_refl _, fun m hm hc => e (Int.le_trans hc (most_mono hd (by omega) (by omega))), h⟩
  obtain ⟨r, h1, h2, h3⟩ := key 7200 top
  exact ⟨r, h1, h2, fun m hm => Int.le_trans h3 (most_mono hd (by omega) (by omega))⟩

theorem least_bd {d n : Int} (hd : 0 ≤ d ∧ d ≤ 100) (hn : 1 ≤ n ∧ n ≤ 3600) : leastI d n ≤ 3600 := by
  unfold leastI
  rw [if_pos (by omega), Int.tdiv_eq_ediv_of_nonneg (by omega)]
  have : (1000 * (n - 1)) / (1000 + d) ≤ n - 1 := Int.ediv_le_of_le_mul (by omega) (by
    have h1 : (n - 1) * 1000 ≤ (n - 1) * (1000 + d) := Int.mul_le_mul_of_nonneg_left (by omega) (by omega)
    omega)
  omega

theorem spec57 (len dh dt : Int) (hl : 1 ≤ len ∧ len ≤ 3600) (h1 : 0 ≤ dh ∧ dh ≤ 100) (h2 : 0 ≤ dt ∧ dt ≤ 100) (r : Nat) (hr : r ≤ 7200) (hlo : ∀ m : Nat, m < r → ¬ leastI dt len ≤ mostI dh m) (hhi : ∀ m : Nat, r ≤ m → leastI dt len ≤ mostI dh m) :
    Spec Try.prog 57 [.i len, .i dh, .i dt] (.i r) := by
  have i1 : (decide (1 ≤ len) && decide (len ≤ 3600)) = true := by simp; omega
  have i2 : (decide (0 ≤ dh) && decide (dh ≤ 100)) = true := by simp; omega
  have i3 : (decide (0 ≤ dt) && decide (dt ≤ 100)) = true := by simp; omega
  refine spT (r := [.i _]) Try.func57 rfl Try.ntmps57 Try.results57 rfl (by kernel_rfl) (V_run _ (enOK _) 200 ?_)
  refine Way.spec (CallS.by (spec75 _ _ _) rfl ?_)
  refine Br.notn i1 ?_
  refine Way.spec (CallS.by (spec75 _ _ _) rfl ?_)
  refine Br.notn i2 ?_
  refine Way.spec (CallS.by (spec75 _ _ _) rfl ?_)
  refine Br.no (by rw [i3]; rfl) ?_
  refine Way.spec (CallS.by (spec80 dt len h2 (by omega)) rfl ?_)
  refine Way.frz ?_
  refine CallS.by (spec81 dh (leastI dt len) h1 r hr hlo fun m h _ => hhi m h) rfl ?_
  exact Out.mk ⟨rfl, True.intro⟩

theorem spec32 (x : Ls) (dh dt loc : Int) (hl : 1 ≤ x.len ∧ x.len ≤ 3600) (h1 : 0 ≤ dh ∧ dh ≤ 100) (h2 : 0 ≤ dt ∧ dt ≤ 100) (ha : 0 ≤ x.asked ∧ x.asked ≤ 10000000) (hc : 0 ≤ loc ∧ loc ≤ 10000000) :
    Spec Try.prog 32 [x.v, .i dh, .i dt, .i loc] (.b (decide (x.asked ≤ loc) && decide (mostI dh (loc - x.asked) < leastI dt x.len))) := by
  obtain ⟨r, hr, hlo, hhi⟩ := safe_ex (d := dh) (s := leastI dt x.len) h1 (by have := least_bd h2 hl; omega)
  have u : ∀ n : Int, 0 ≤ n → n ≤ 10000000 → IntKind.u64.wrap n = n := fun n a b => by
    unfold IntKind.wrap
    simp [IntKind.signed, IntKind.bits]
    omega
  refine spT (r := [.b _]) Try.func32 rfl Try.ntmps32 Try.results32 rfl (by kernel_rfl) (V_run _ (enOK _) 200 ?_)
  refine V_draw _ (enOK _) (by kernel_rfl) ?_
  have hsub : IntKind.u64.wrap (IntKind.u64.wrap loc - IntKind.u64.wrap x.asked) = if x.asked ≤ loc then loc - x.asked else IntKind.u64.wrap (loc - x.asked) := by
    rw [u loc hc.1 hc.2, u x.asked ha.1 ha.2]
    split
    · exact u _ (by omega) (by omega)
    · rfl
  by_cases h : x.asked ≤ loc
  · rw [if_pos h] at hsub
    repeat' first
      | refine Br.dyes h ?_
      | refine Way.spec (CallS.by (spec57 x.len dh dt hl h1 h2 r hr hlo hhi) rfl ?_)
      | refine Ar.by hsub ?_
    refine And.intro (by kernel_rfl) (V_run _ (enOK _) 100 ?_)
    refine Out.mk ⟨congrArg Value.bool ?_, True.intro⟩
    show decide (loc - x.asked < IntKind.u64.wrap (r : Int)) = _
    rw [u r (by omega) (by omega), decide_eq_true (show x.asked ≤ loc from h), Bool.true_and, decide_eq_decide]
    have ho := hhi (loc - x.asked).toNat
    have hp := hlo (loc - x.asked).toNat
    rw [show (((loc - x.asked).toNat : Nat) : Int) = loc - x.asked by omega] at ho hp
    constructor
    · intro h3
      exact Int.not_le.1 (hp (by omega))
    · intro h3
      refine Int.not_le.1 fun h4 => ?_
      have := ho (by omega)
      omega
  · repeat' first
      | refine Br.dno h ?_
    refine And.intro (by kernel_rfl) (V_run _ (enOK _) 100 ?_)
    refine Out.mk ⟨congrArg Value.bool ?_, True.intro⟩
    rw [decide_eq_false (show ¬ x.asked ≤ loc from h)]
    rfl

end Go.AI

namespace Go.AI
open Go Go.Proofs Go.RowKit Go.Sort
set_option linter.unusedVariables false
set_option maxRecDepth 20000

theorem reqs_ok {S : St4} (i : Nat) (h : i < numS S) : rqOK (nth (reqsS S) i) = true := by
  rw [reqs_nth h]
  have hn : numS S = min S.q.length 14 := rfl
  have ht := timeS_bd S i
  have ht1 := timeS_bd S (i + 1)
  have htn : timeS S i + pickI (nth S.q i).b 250 = timeS S (i + 1) := rfl
  have b1 := pickI_bd (c := (nth S.q i).b) (n := 250) (by decide)
  have b2 := pickI_bd (c := (nth S.q i).c) (n := 60) (by decide)
  have b4 := pickI_bd (c := (nth S.q i).e) (n := 400) (by decide)
  have bh := hubS_lt S i
  have s1 := shown_bd (dr := S.d (hubS S i)) (st := S.s (hubS S i)) (rates := S.r (hubS S i)) (t := timeS S (i + 1) - pickI (nth S.q i).c 60) (by omega)
  have s2 := shown_bd (dr := S.d 3) (st := S.s 3) (rates := S.r 3) (t := timeS S (i + 1)) (by omega)
  unfold rqOK reqS showS
  simp only [decide_eq_true_eq]
  omega

theorem reqs_sorted {S : St4} (i : Nat) (h : i + 1 < numS S) : (nth (reqsS S) i).a ≤ (nth (reqsS S) (i + 1)).a :=
  reqs_mono S i (i + 1) (by omega) (by rw [reqs_len]; exact h)

theorem lease_bds (q : List Rq) (hok : ∀ i, i < q.length → rqOK (nth q i) = true) {i : Nat} (h : i < q.length) (hg : granted q i) : 0 ≤ (leaseI q i).asked ∧ (leaseI q i).asked ≤ 10000000 ∧ 1 ≤ (leaseI q i).len ∧ (leaseI q i).len ≤ 3600 := by
  have hl := lease_hub hg
  have hq := of_decide_eq_true (hok i h)
  rw [hl.2.1, hl.2.2]
  omega

/-- The journal so far lies before second t, or its last entry is of second t. -/
def BefE (t : Int) (l : List En) : Prop := (l.length ≤ 11 ∧ (l = [] ∨ (nth l (l.length - 1)).a < t)) ∨ (l ≠ [] ∧ (nth l (l.length - 1)).a = t)

abbrev H3 := List (Int × Int × Int)
/-- What is known in the loops of the first part. -/
abbrev hs9 (S : St4) (X : H3) (l : List En) (more : List (Nat × AV)) : St :=
  ⟨[(1, .pv (prow X)), (2, .ptr 0 0 0), (5, .b true), (6, qv (reqsS S)), (8, iv (anssS S)), (9, lv (leases (reqsS S))), (11, .own 1 0 l.length)] ++ more, [(0, some (.box (storyC S))), (1, some (obE l))], 2⟩

set_option maxHeartbeats 16000000 in
theorem spec9 (S : St4) (hS : S.ok) (X : H3) (hX : ∀ i, in64 (nth X i).1 ∧ in64 (nth X i).2.1 ∧ in64 (nth X i).2.2) :
    Spec Try.prog 9 [storyV S, .pv (prow X)] (.b true) := by
  have hn : numS S = min S.q.length 14 := rfl
  have hrl := reqs_len S
  have hll := leases_len (reqsS S)
  have hal : (anssS S).length = numS S := by simp [anssS]
  refine spT (r := [.b _]) Try.func9 rfl Try.ntmps9 Try.results9 rfl (by kernel_rfl) (V_run _ (enOK _) 300 ?_)
  refine Way.spec (CallS.by spec10 rfl ?_)
  refine Br.notn rfl ?_
  refine Way.spec (CallS.by (spec30 S hS) rfl ?_)
  refine Way.spec (CallS.by (spec31 (reqsS S) (by omega) (fun i h => reqs_ok i (by omega)) fun i h => reqs_sorted i (by omega)) rfl ?_)
  refine Br.nno rfl ?_
  refine Br.nno (by omega) ?_
  refine V_loop _ (fun x : Nat × List En => hs9 S X x.2 [(12, .i x.1)]) (fun x => x.1 ≤ 4000 ∧ EntOK S x.2 ∧ x.2.length ≤ 12 ∧ (x.2 = [] ∨ (nth x.2 (x.2.length - 1)).a < x.1)) (fun x => 4000 - x.1) (0, []) ⟨Nat.zero_le _, EntOK.nil S, Nat.zero_le _, .inl rfl⟩ ?_ ?_
  · exact Le_of _ [(0, some 0), (1, none)] [] ⟨rfl, True.intro, ⟨⟨rfl, rfl, fun _ _ => rfl⟩, ⟨rfl, rfl, rfl⟩, rfl, ⟨rfl, rfl, fun _ _ => rfl⟩, ⟨rfl, rfl, fun _ _ => rfl⟩, ⟨rfl, rfl, fun _ _ => rfl⟩, ⟨rfl, rfl, rfl⟩, rfl, True.intro⟩, ⟨⟨rfl, ⟨rfl, rfl, rfl, rfl, rfl, rfl, rfl, rfl, ⟨rfl, rfl, fun _ _ => rfl⟩, ⟨rfl, rfl, fun _ _ => rfl⟩, ⟨rfl, rfl, fun _ _ => rfl⟩, ⟨rfl, rfl, fun _ _ => rfl⟩, ⟨rfl, rfl, fun _ _ => rfl⟩, rfl⟩⟩, ⟨rfl, rfl⟩, True.intro⟩⟩
  rintro ⟨t, l⟩ ⟨ht, he, hl12, hlast⟩
  simp only at ht he hl12 hlast
  refine V_run _ (enOK _) 300 ?_
  have hval := he.valid (by omega)
  have hnts : l.length ≤ 12 := hl12
  refine Br.dec (fun ht4 => ?_) (fun ht4 => ?_)
  · refine Br.dec (fun hl4 => ?_) (fun hl4 => ?_)
    · have hl11 : l.length ≤ 11 := by simp only at hl4; omega
      refine V_loop _ (fun x : Nat × List En => hs9 S X x.2 [(12, .i t), (13, .i x.1)]) (fun x => x.1 ≤ X.length ∧ x.1 ≤ 12 ∧ EntOK S x.2 ∧ BefE t x.2 ∧ x.2.length ≤ 12) (fun x => 12 - x.1) (0, l) ⟨Nat.zero_le _, Nat.zero_le _, he, .inl ⟨hl11, hlast⟩, hl12⟩ ?_ ?_
      · exact Le_of _ [(0, some 0), (1, some 1)] [] ⟨rfl, True.intro, ⟨⟨rfl, rfl, fun _ _ => rfl⟩, ⟨rfl, rfl, rfl⟩, rfl, ⟨rfl, rfl, fun _ _ => rfl⟩, ⟨rfl, rfl, fun _ _ => rfl⟩, ⟨rfl, rfl, fun _ _ => rfl⟩, ⟨rfl, rfl, rfl⟩, rfl, rfl, True.intro⟩, ⟨⟨rfl, ⟨rfl, rfl, rfl, rfl, rfl, rfl, rfl, rfl, ⟨rfl, rfl, fun _ _ => rfl⟩, ⟨rfl, rfl, fun _ _ => rfl⟩, ⟨rfl, rfl, fun _ _ => rfl⟩, ⟨rfl, rfl, fun _ _ => rfl⟩, ⟨rfl, rfl, fun _ _ => rfl⟩, rfl⟩⟩, ⟨rfl, rfl, rfl, rfl, fun _ _ => rfl⟩, True.intro⟩⟩
      rintro ⟨i, m⟩ ⟨hi, hi12, hem, hbef, hm12⟩
      simp only at hi hi12 hem hbef hm12
      have nexts : m = [] ∨ (nth m (m.length - 1)).a < ((t + 1 : Nat) : Int) := by
        rcases hbef with ⟨_, h1 | h1⟩ | ⟨h1, h2⟩
        · exact .inl h1
        · exact .inr (by omega)
        · exact .inr (by omega)
      have hXi := hX i
      refine V_run _ (enOK _) 300 ?_
      refine Br.dec (fun hi4 => ?_) (fun hi4 => ?_)
      · refine Br.dec (fun hi5 => ?_) (fun hi5 => ?_)
        · have hi' : i < X.length := by omega
          refine Ix.by rfl hi' ?_
          refine Ix.by (r := 1) rfl (by decide) ?_
          refine Way.spec (CallS.by (spec12 (nth X i).2.1 4000 hXi.2.1 (by decide)) rfl ?_)
          refine Br.ne (fun hpk => ?_) (fun hpk => ?_)
          · refine Ar.nat (i + 1) (by omega) (by omega) ?_
            exact ⟨(i + 1, m), ⟨by simp only; omega, by simp only; omega, hem, hbef, hm12⟩, by simp only; omega, Le_of _ [(0, some 0), (1, some 1)] [] ⟨rfl, True.intro, ⟨⟨rfl, rfl, fun _ _ => rfl⟩, ⟨rfl, rfl, rfl⟩, rfl, ⟨rfl, rfl, fun _ _ => rfl⟩, ⟨rfl, rfl, fun _ _ => rfl⟩, ⟨rfl, rfl, fun _ _ => rfl⟩, ⟨rfl, rfl, rfl⟩, rfl, rfl, True.intro⟩, ⟨⟨rfl, ⟨rfl, rfl, rfl, rfl, rfl, rfl, rfl, rfl, ⟨rfl, rfl, fun _ _ => rfl⟩, ⟨rfl, rfl, fun _ _ => rfl⟩, ⟨rfl, rfl, fun _ _ => rfl⟩, ⟨rfl, rfl, fun _ _ => rfl⟩, ⟨rfl, rfl, fun _ _ => rfl⟩, rfl⟩⟩, ⟨rfl, rfl, rfl, rfl, fun _ _ => rfl⟩, True.intro⟩⟩⟩
          · refine Ix.by rfl hi' ?_
            refine Ix.by (r := 0) rfl (by decide) ?_
            refine Way.spec (CallS.by (spec12 (nth X i).1 3 hXi.1 (by decide)) rfl ?_)
            have hb3 := pickI_bd (c := (nth X i).1) (n := 3) (by decide)
            obtain ⟨h, hh⟩ : ∃ h : Nat, pickI (nth X i).1 3 = h := ⟨(pickI (nth X i).1 3).toNat, by omega⟩
            rw [hh] at hb3 ⊢
            refine V_loop _ (fun k : Nat => hs9 S X m [(12, .i t), (13, .i i), (14, .i h), (15, .i (epS S h t k)), (16, .b (hoS S h t k)), (17, .i k)]) (fun k => k ≤ numS S) (fun k => numS S - k) 0 (Nat.zero_le _) ?_ ?_
            · exact Le_of _ [(0, some 0), (1, some 1)] [] ⟨rfl, True.intro, ⟨⟨rfl, rfl, fun _ _ => rfl⟩, ⟨rfl, rfl, rfl⟩, rfl, ⟨rfl, rfl, fun _ _ => rfl⟩, ⟨rfl, rfl, fun _ _ => rfl⟩, ⟨rfl, rfl, fun _ _ => rfl⟩, ⟨rfl, rfl, rfl⟩, rfl, rfl, rfl, rfl, rfl, rfl, True.intro⟩, ⟨⟨rfl, ⟨rfl, rfl, rfl, rfl, rfl, rfl, rfl, rfl, ⟨rfl, rfl, fun _ _ => rfl⟩, ⟨rfl, rfl, fun _ _ => rfl⟩, ⟨rfl, rfl, fun _ _ => rfl⟩, ⟨rfl, rfl, fun _ _ => rfl⟩, ⟨rfl, rfl, fun _ _ => rfl⟩, rfl⟩⟩, ⟨rfl, rfl, rfl, rfl, fun _ _ => rfl⟩, True.intro⟩⟩
            · intro k hk
              refine V_run _ (enOK _) 300 ?_
              refine Br.dec (fun hk4 => ?_) (fun hk4 => ?_)
              · have hk' : k < numS S := by simp only at *; omega
                have e1 := reqs_nth hk'
                have e2 : nth (leases (reqsS S)) k = leaseI (reqsS S) k := leases_nth (by omega)
                have e3 : nth (anssS S) k = ansS S k := by unfold anssS; exact map_nth _ hk'
                have hep : epS S h t (k + 1) = if condB S h t k = true then maxI (epS S h t k) (leaseI (reqsS S) k).ep else epS S h t k := rfl
                have hho : hoS S h t (k + 1) = if condB S h t k = true then (hoS S h t k || holdB S k h t) else hoS S h t k := rfl
                have hcd : condB S h t k = (decide ((reqS S k).hub = (h : Int)) && (decide (0 < (leaseI (reqsS S) k).ep) && decide (ansS S k ≤ t))) := rfl
                refine Ix.by rfl (by omega) ?_
                have stop : condB S h t k = false → hoS S h t (k + 1) = hoS S h t k ∧ epS S h t (k + 1) = epS S h t k := fun hc => by rw [hep, hho, hc]; exact ⟨rfl, rfl⟩
                refine Br.eq (fun q1 => ?_) (fun q1 => ?_)
                · refine Ix.by rfl (by omega) ?_
                  refine Br.dec (fun q2 => ?_) (fun q2 => ?_)
                  · refine Ix.by rfl (by omega) ?_
                    refine Br.dec (fun q3 => ?_) (fun q3 => ?_)
                    · have hc : condB S h t k = true := by
                        rw [e1] at q1; rw [e2] at q2; rw [e3] at q3
                        rw [hcd]; simp only [Bool.and_eq_true, decide_eq_true_eq]; exact ⟨q1, q2, q3⟩
                      have hgr := (condB_iff.1 hc).2.1
                      have hbd := lease_bds (reqsS S) (fun i h => reqs_ok i (by omega)) (by omega) hgr
                      have hsb := shown_bd (dr := S.d h) (st := S.s h) (rates := S.r h) (t := t) (by omega)
                      rw [if_pos hc] at hep hho
                      rw [← e2] at hep hbd
                      refine Ix.by rfl (by omega) ?_
                      refine V_draw _ (enOK _) (by kernel_rfl) ?_
                      cases hob : hoS S h t k with
                      | true =>
                        rw [hob, Bool.true_or] at hho
                        repeat' first
                          | refine Br.yes rfl ?_
                        refine And.intro (by kernel_rfl) (V_run _ (enOK _) 300 ?_)
                        refine Ar.nat (k + 1) (by omega) (by omega) ?_
                        refine ⟨k + 1, by omega, by omega, ?_⟩
                        rw [hep, hho]
                        exact Le_of _ [(0, some 0), (1, some 1)] [] ⟨rfl, True.intro, ⟨⟨rfl, rfl, fun _ _ => rfl⟩, ⟨rfl, rfl, rfl⟩, rfl, ⟨rfl, rfl, fun _ _ => rfl⟩, ⟨rfl, rfl, fun _ _ => rfl⟩, ⟨rfl, rfl, fun _ _ => rfl⟩, ⟨rfl, rfl, rfl⟩, rfl, rfl, rfl, rfl, rfl, rfl, True.intro⟩, ⟨⟨rfl, ⟨rfl, rfl, rfl, rfl, rfl, rfl, rfl, rfl, ⟨rfl, rfl, fun _ _ => rfl⟩, ⟨rfl, rfl, fun _ _ => rfl⟩, ⟨rfl, rfl, fun _ _ => rfl⟩, ⟨rfl, rfl, fun _ _ => rfl⟩, ⟨rfl, rfl, fun _ _ => rfl⟩, rfl⟩⟩, ⟨rfl, rfl, rfl, rfl, fun _ _ => rfl⟩, True.intro⟩⟩
                      | false =>
                        rw [hob, Bool.false_or] at hho
                        have hhb : holdB S k h t = (decide ((leaseI (reqsS S) k).asked ≤ showS S h t) && decide (mostI (pickI (S.d h) 101) (showS S h t - (leaseI (reqsS S) k).asked) < leastI (pickI (S.d 3) 101) (leaseI (reqsS S) k).len)) := rfl
                        rw [hhb, ← e2] at hho
                        repeat' first
                          | refine Br.no rfl ?_
                          | refine Ix.by rfl (by omega) ?_
                          | refine Way.spec (CallS.by (spec33 S hS h (by omega)) rfl ?_)
                          | refine Way.spec (CallS.by (spec33 S hS 3 (by decide)) rfl ?_)
                          | refine Way.spec (CallS.by (spec34 S hS t (by omega) (by omega) h (by omega)) rfl ?_)
                          | refine Way.spec (CallS.by (spec32 (nth (leases (reqsS S)) k) (pickI (S.d h) 101) (pickI (S.d 3) 101) (showS S h t) ⟨hbd.2.2.1, hbd.2.2.2⟩ (dr_bd _) (dr_bd _) ⟨hbd.1, hbd.2.1⟩ ⟨hsb.1, Int.le_trans hsb.2 (by omega)⟩) rfl ?_)
                        refine And.intro (by kernel_rfl) (V_run _ (enOK _) 300 ?_)
                        refine Ar.nat (k + 1) (by omega) (by omega) ?_
                        refine ⟨k + 1, by omega, by omega, ?_⟩
                        rw [hep, hho]
                        exact Le_of _ [(0, some 0), (1, some 1)] [] ⟨rfl, True.intro, ⟨⟨rfl, rfl, fun _ _ => rfl⟩, ⟨rfl, rfl, rfl⟩, rfl, ⟨rfl, rfl, fun _ _ => rfl⟩, ⟨rfl, rfl, fun _ _ => rfl⟩, ⟨rfl, rfl, fun _ _ => rfl⟩, ⟨rfl, rfl, rfl⟩, rfl, rfl, rfl, rfl, rfl, rfl, True.intro⟩, ⟨⟨rfl, ⟨rfl, rfl, rfl, rfl, rfl, rfl, rfl, rfl, ⟨rfl, rfl, fun _ _ => rfl⟩, ⟨rfl, rfl, fun _ _ => rfl⟩, ⟨rfl, rfl, fun _ _ => rfl⟩, ⟨rfl, rfl, fun _ _ => rfl⟩, ⟨rfl, rfl, fun _ _ => rfl⟩, rfl⟩⟩, ⟨rfl, rfl, rfl, rfl, fun _ _ => rfl⟩, True.intro⟩⟩
                    · obtain ⟨s1, s2⟩ := stop (by rw [hcd]; rw [e3] at q3; rw [decide_eq_false q3]; simp)
                      refine Ar.nat (k + 1) (by omega) (by omega) ?_
                      refine ⟨k + 1, by omega, by omega, ?_⟩
                      rw [s1, s2]
                      exact Le_of _ [(0, some 0), (1, some 1)] [] ⟨rfl, True.intro, ⟨⟨rfl, rfl, fun _ _ => rfl⟩, ⟨rfl, rfl, rfl⟩, rfl, ⟨rfl, rfl, fun _ _ => rfl⟩, ⟨rfl, rfl, fun _ _ => rfl⟩, ⟨rfl, rfl, fun _ _ => rfl⟩, ⟨rfl, rfl, rfl⟩, rfl, rfl, rfl, rfl, rfl, rfl, True.intro⟩, ⟨⟨rfl, ⟨rfl, rfl, rfl, rfl, rfl, rfl, rfl, rfl, ⟨rfl, rfl, fun _ _ => rfl⟩, ⟨rfl, rfl, fun _ _ => rfl⟩, ⟨rfl, rfl, fun _ _ => rfl⟩, ⟨rfl, rfl, fun _ _ => rfl⟩, ⟨rfl, rfl, fun _ _ => rfl⟩, rfl⟩⟩, ⟨rfl, rfl, rfl, rfl, fun _ _ => rfl⟩, True.intro⟩⟩
                  · obtain ⟨s1, s2⟩ := stop (by rw [hcd]; rw [e2] at q2; rw [decide_eq_false q2]; simp)
                    refine Ar.nat (k + 1) (by omega) (by omega) ?_
                    refine ⟨k + 1, by omega, by omega, ?_⟩
                    rw [s1, s2]
                    exact Le_of _ [(0, some 0), (1, some 1)] [] ⟨rfl, True.intro, ⟨⟨rfl, rfl, fun _ _ => rfl⟩, ⟨rfl, rfl, rfl⟩, rfl, ⟨rfl, rfl, fun _ _ => rfl⟩, ⟨rfl, rfl, fun _ _ => rfl⟩, ⟨rfl, rfl, fun _ _ => rfl⟩, ⟨rfl, rfl, rfl⟩, rfl, rfl, rfl, rfl, rfl, rfl, True.intro⟩, ⟨⟨rfl, ⟨rfl, rfl, rfl, rfl, rfl, rfl, rfl, rfl, ⟨rfl, rfl, fun _ _ => rfl⟩, ⟨rfl, rfl, fun _ _ => rfl⟩, ⟨rfl, rfl, fun _ _ => rfl⟩, ⟨rfl, rfl, fun _ _ => rfl⟩, ⟨rfl, rfl, fun _ _ => rfl⟩, rfl⟩⟩, ⟨rfl, rfl, rfl, rfl, fun _ _ => rfl⟩, True.intro⟩⟩
                · obtain ⟨s1, s2⟩ := stop (by rw [hcd]; rw [e1] at q1; rw [decide_eq_false q1]; simp)
                  refine Ar.nat (k + 1) (by omega) (by omega) ?_
                  refine ⟨k + 1, by omega, by omega, ?_⟩
                  rw [s1, s2]
                  exact Le_of _ [(0, some 0), (1, some 1)] [] ⟨rfl, True.intro, ⟨⟨rfl, rfl, fun _ _ => rfl⟩, ⟨rfl, rfl, rfl⟩, rfl, ⟨rfl, rfl, fun _ _ => rfl⟩, ⟨rfl, rfl, fun _ _ => rfl⟩, ⟨rfl, rfl, fun _ _ => rfl⟩, ⟨rfl, rfl, rfl⟩, rfl, rfl, rfl, rfl, rfl, rfl, True.intro⟩, ⟨⟨rfl, ⟨rfl, rfl, rfl, rfl, rfl, rfl, rfl, rfl, ⟨rfl, rfl, fun _ _ => rfl⟩, ⟨rfl, rfl, fun _ _ => rfl⟩, ⟨rfl, rfl, fun _ _ => rfl⟩, ⟨rfl, rfl, fun _ _ => rfl⟩, ⟨rfl, rfl, fun _ _ => rfl⟩, rfl⟩⟩, ⟨rfl, rfl, rfl, rfl, fun _ _ => rfl⟩, True.intro⟩⟩
              · have : k = numS S := by simp only at *; omega
                subst this
                refine V_run _ (enOK _) 300 ?_
                have hb100 := pickI_bd (c := (nth X i).2.2) (n := 100) (by decide)
                obtain ⟨x, hx⟩ : ∃ x : En, x = ⟨0, epS S h t (numS S), m.length, h, t, 1 + pickI (nth X i).2.2 100⟩ := ⟨_, rfl⟩
                have hhon : hoS S h t (numS S) = true → honE S m.length x := fun hb => by
                  rw [hx]
                  exact ⟨h, by omega, rfl, rfl, rfl, rfl, hb, by simp only; omega, by simp only; omega, by simp only; omega, by simp only; omega⟩
                have hlen1 : (m ++ [x]).length = m.length + 1 := by simp
                have hlst : (nth (m ++ [x]) ((m ++ [x]).length - 1)).a = t := by
                  rw [hlen1, Nat.add_sub_cancel, nth_snoc, if_neg (by omega), if_pos rfl, hx]
                have hne : m ++ [x] ≠ [] := by simp
                have hm11 : (m = [] ∨ (nth m (m.length - 1)).a < t) → m.length ≤ 11 := by
                  intro hc
                  rcases hbef with hb | ⟨hb1, hb2⟩
                  · exact hb.1
                  · rcases hc with hc | hc
                    · exact absurd hc hb1
                    · omega
                refine Br.mk (fun hob => ?_) (fun hob => ?_)
                · refine Br.eq (fun hz => ?_) (fun hz => ?_)
                  · have hm0 : m = [] := List.eq_nil_of_length_eq_zero (by omega)
                    refine Ix.by rfl hi' ?_
                    refine Ix.by (r := 2) rfl (by decide) ?_
                    refine Way.spec (CallS.by (spec12 (nth X i).2.2 100 hXi.2.2 (by decide)) rfl ?_)
                    refine Ar.ok (by omega) ?_
                    refine Bd.mk (Nat.le_refl _) ?_
                    refine Bd.mk ⟨Nat.le_refl _, (show (m.length + 1) * 48 ≤ 140737488355328 from by omega)⟩ ?_
                    refine Ar.nat (i + 1) (by omega) (by omega) ?_
                    refine ⟨(i + 1, m ++ [x]), ⟨by simp only; omega, by simp only; omega, EntOK.snoc hem (hhon hob) (.inl hm0), .inr ⟨hne, hlst⟩, by simp only [hlen1]; have := hm11 (.inl hm0); omega⟩, by simp only; omega, ?_⟩
                    refine Le_of _ [(0, some 0), (1, some 3)] [] ⟨rfl, True.intro, ⟨⟨rfl, rfl, fun _ _ => rfl⟩, ⟨rfl, rfl, rfl⟩, rfl, ⟨rfl, rfl, fun _ _ => rfl⟩, ⟨rfl, rfl, fun _ _ => rfl⟩, ⟨rfl, rfl, fun _ _ => rfl⟩, ⟨rfl, rfl, hlen1.symm⟩, rfl, rfl, True.intro⟩, ⟨⟨rfl, ⟨rfl, rfl, rfl, rfl, rfl, rfl, rfl, rfl, ⟨rfl, rfl, fun _ _ => rfl⟩, ⟨rfl, rfl, fun _ _ => rfl⟩, ⟨rfl, rfl, fun _ _ => rfl⟩, ⟨rfl, rfl, fun _ _ => rfl⟩, ⟨rfl, rfl, fun _ _ => rfl⟩, rfl⟩⟩, ⟨rfl, rfl, rfl, hlen1.symm, fun q hq => ?_⟩, True.intro⟩⟩
                    exact joinRows_snoc (fun x : En => x.c) m x q hq _ (by rw [hx])
                  · refine Ar.nat (m.length - 1) (by omega) (by omega) ?_
                    refine Ix.by (r := m.length - 1) rfl (by omega) ?_
                    refine Bd.mk (by omega) ?_
                    refine Br.dec (fun hlt => ?_) (fun hlt => ?_)
                    · have hlt : (nth m (m.length - 1)).a < t := by rw [Nat.zero_add] at hlt; exact hlt
                      refine Ix.by rfl hi' ?_
                      refine Ix.by (r := 2) rfl (by decide) ?_
                      refine Way.spec (CallS.by (spec12 (nth X i).2.2 100 hXi.2.2 (by decide)) rfl ?_)
                      refine Ar.ok (by omega) ?_
                      refine Bd.mk (Nat.le_refl _) ?_
                      refine Bd.mk ⟨Nat.le_refl _, (show (m.length + 1) * 48 ≤ 140737488355328 from by omega)⟩ ?_
                      refine Ar.nat (i + 1) (by omega) (by omega) ?_
                      refine ⟨(i + 1, m ++ [x]), ⟨by simp only; omega, by simp only; omega, EntOK.snoc hem (hhon hob) (by rw [hx]; exact .inr hlt), .inr ⟨hne, hlst⟩, by simp only [hlen1]; have := hm11 (.inr hlt); omega⟩, by simp only; omega, ?_⟩
                      refine Le_of _ [(0, some 0), (1, some 3)] [] ⟨rfl, True.intro, ⟨⟨rfl, rfl, fun _ _ => rfl⟩, ⟨rfl, rfl, rfl⟩, rfl, ⟨rfl, rfl, fun _ _ => rfl⟩, ⟨rfl, rfl, fun _ _ => rfl⟩, ⟨rfl, rfl, fun _ _ => rfl⟩, ⟨rfl, rfl, hlen1.symm⟩, rfl, rfl, True.intro⟩, ⟨⟨rfl, ⟨rfl, rfl, rfl, rfl, rfl, rfl, rfl, rfl, ⟨rfl, rfl, fun _ _ => rfl⟩, ⟨rfl, rfl, fun _ _ => rfl⟩, ⟨rfl, rfl, fun _ _ => rfl⟩, ⟨rfl, rfl, fun _ _ => rfl⟩, ⟨rfl, rfl, fun _ _ => rfl⟩, rfl⟩⟩, ⟨rfl, rfl, rfl, hlen1.symm, fun q hq => ?_⟩, True.intro⟩⟩
                      exact joinRows_snoc (fun x : En => x.c) m x q hq _ (by rw [hx])
                    · refine Ar.nat (i + 1) (by omega) (by omega) ?_
                      exact ⟨(i + 1, m), ⟨by simp only; omega, by simp only; omega, hem, hbef, hm12⟩, by simp only; omega, Le_of _ [(0, some 0), (1, some 1)] [] ⟨rfl, True.intro, ⟨⟨rfl, rfl, fun _ _ => rfl⟩, ⟨rfl, rfl, rfl⟩, rfl, ⟨rfl, rfl, fun _ _ => rfl⟩, ⟨rfl, rfl, fun _ _ => rfl⟩, ⟨rfl, rfl, fun _ _ => rfl⟩, ⟨rfl, rfl, rfl⟩, rfl, rfl, True.intro⟩, ⟨⟨rfl, ⟨rfl, rfl, rfl, rfl, rfl, rfl, rfl, rfl, ⟨rfl, rfl, fun _ _ => rfl⟩, ⟨rfl, rfl, fun _ _ => rfl⟩, ⟨rfl, rfl, fun _ _ => rfl⟩, ⟨rfl, rfl, fun _ _ => rfl⟩, ⟨rfl, rfl, fun _ _ => rfl⟩, rfl⟩⟩, ⟨rfl, rfl, rfl, rfl, fun _ _ => rfl⟩, True.intro⟩⟩⟩
                · refine Ar.nat (i + 1) (by omega) (by omega) ?_
                  exact ⟨(i + 1, m), ⟨by simp only; omega, by simp only; omega, hem, hbef, hm12⟩, by simp only; omega, Le_of _ [(0, some 0), (1, some 1)] [] ⟨rfl, True.intro, ⟨⟨rfl, rfl, fun _ _ => rfl⟩, ⟨rfl, rfl, rfl⟩, rfl, ⟨rfl, rfl, fun _ _ => rfl⟩, ⟨rfl, rfl, fun _ _ => rfl⟩, ⟨rfl, rfl, fun _ _ => rfl⟩, ⟨rfl, rfl, rfl⟩, rfl, rfl, True.intro⟩, ⟨⟨rfl, ⟨rfl, rfl, rfl, rfl, rfl, rfl, rfl, rfl, ⟨rfl, rfl, fun _ _ => rfl⟩, ⟨rfl, rfl, fun _ _ => rfl⟩, ⟨rfl, rfl, fun _ _ => rfl⟩, ⟨rfl, rfl, fun _ _ => rfl⟩, ⟨rfl, rfl, fun _ _ => rfl⟩, rfl⟩⟩, ⟨rfl, rfl, rfl, rfl, fun _ _ => rfl⟩, True.intro⟩⟩⟩
        · refine V_run _ (enOK _) 300 ?_
          refine Ar.nat (t + 1) (by omega) (by omega) ?_
          exact ⟨(t + 1, m), ⟨by simp only at *; omega, hem, hm12, nexts⟩, by simp only at *; omega, Le_of _ [(0, some 0), (1, some 1)] [] ⟨rfl, True.intro, ⟨⟨rfl, rfl, fun _ _ => rfl⟩, ⟨rfl, rfl, rfl⟩, rfl, ⟨rfl, rfl, fun _ _ => rfl⟩, ⟨rfl, rfl, fun _ _ => rfl⟩, ⟨rfl, rfl, fun _ _ => rfl⟩, ⟨rfl, rfl, rfl⟩, rfl, True.intro⟩, ⟨⟨rfl, ⟨rfl, rfl, rfl, rfl, rfl, rfl, rfl, rfl, ⟨rfl, rfl, fun _ _ => rfl⟩, ⟨rfl, rfl, fun _ _ => rfl⟩, ⟨rfl, rfl, fun _ _ => rfl⟩, ⟨rfl, rfl, fun _ _ => rfl⟩, ⟨rfl, rfl, fun _ _ => rfl⟩, rfl⟩⟩, ⟨rfl, rfl, rfl, rfl, fun _ _ => rfl⟩, True.intro⟩⟩⟩
      · refine V_run _ (enOK _) 300 ?_
        refine Ar.nat (t + 1) (by omega) (by omega) ?_
        exact ⟨(t + 1, m), ⟨by simp only at *; omega, hem, hm12, nexts⟩, by simp only at *; omega, Le_of _ [(0, some 0), (1, some 1)] [] ⟨rfl, True.intro, ⟨⟨rfl, rfl, fun _ _ => rfl⟩, ⟨rfl, rfl, rfl⟩, rfl, ⟨rfl, rfl, fun _ _ => rfl⟩, ⟨rfl, rfl, fun _ _ => rfl⟩, ⟨rfl, rfl, fun _ _ => rfl⟩, ⟨rfl, rfl, rfl⟩, rfl, True.intro⟩, ⟨⟨rfl, ⟨rfl, rfl, rfl, rfl, rfl, rfl, rfl, rfl, ⟨rfl, rfl, fun _ _ => rfl⟩, ⟨rfl, rfl, fun _ _ => rfl⟩, ⟨rfl, rfl, fun _ _ => rfl⟩, ⟨rfl, rfl, fun _ _ => rfl⟩, ⟨rfl, rfl, fun _ _ => rfl⟩, rfl⟩⟩, ⟨rfl, rfl, rfl, rfl, fun _ _ => rfl⟩, True.intro⟩⟩⟩
    · refine V_weak _ (st' := ⟨[(5, .b true), (11, jv l)], [], 0⟩) (Le_of _ [] [1] ⟨rfl, ⟨True.intro, True.intro⟩, ⟨rfl, ⟨rfl, rfl, rfl, Nat.le_of_eq (Nat.zero_add _), fun q hq => by rw [Nat.zero_add]⟩, True.intro⟩, True.intro⟩) (V_run _ (enOK _) 300 ?_)
      have hsk := validM_SK hval
      have hback := fun p (hp : p < l.length) => backE_sub (l := l) (p := p) hp
      refine Ar.ok (by omega) ?_
      refine V_loop _ (fun p : Nat => ⟨[(5, .b true), (11, jv l), (18, jv (foldJ (backE l) p)), (19, .i ((l.length : Int) - 1 - p))], [], 0⟩) (fun p => p ≤ l.length) (fun p => l.length - p) 0 (Nat.zero_le _) ?_ ?_
      · exact Le_of _ [] [] ⟨rfl, True.intro, ⟨rfl, ⟨rfl, rfl, fun _ _ => rfl⟩, rfl, congrArg (Value.int .i64) (Int.sub_zero _).symm, True.intro⟩, True.intro⟩
      intro p hp
      have hfv := foldJ_valid hval (J := backE l) (i := p) fun j hj => hback j (by omega)
      have hfn : foldJ (backE l) (p + 1) = mrg (foldJ (backE l) p) (backE l p) := rfl
      refine V_run _ (enOK _) 300 ?_
      refine Br.dec (fun hge => ?_) (fun hge => ?_)
      · have hp' : p < l.length := by omega
        have hbv := valid_sub hval (hback p hp')
        have hm := mergeP_ok hfv.1 hbv (by have := hfv.2; have : (backE l p).length = 1 := rfl; omega)
        refine Ar.nat (l.length - p) (by omega) (by omega) ?_
        refine Ix.by (r := l.length - p) rfl (by omega) ?_
        refine Ix.by (r := l.length - 1 - p) (by omega) (by omega) ?_
        refine Way.spec (CallS.by ((spec15 (foldJ (backE l) p) (backE l p) (by have := hfv.2; omega) (by show 1 ≤ _; decide) hm).arg ⟨⟨rfl, rfl, fun _ _ => rfl⟩, ⟨rfl, ?_, fun q hq => ?_⟩, True.intro⟩) rfl ?_)
        · show l.length - p - (l.length - 1 - p) = 1
          omega
        · have : q = 0 := by have : q < l.length - p - (l.length - 1 - p) := hq; omega
          subst this
          rfl
        rw [← hfn]
        refine Br.nno rfl ?_
        refine Ar.by (r := (l.length : Int) - 1 - ((p + 1 : Nat) : Int)) (by rw [wrap64 (by omega)]; omega) ?_
        exact ⟨p + 1, hp', by omega, Le_of _ [] [] ⟨rfl, True.intro, ⟨rfl, ⟨rfl, rfl, fun _ _ => rfl⟩, ⟨rfl, rfl, fun _ _ => rfl⟩, rfl, True.intro⟩, True.intro⟩⟩
      have : p = l.length := by omega
      subst this
      rw [foldJ_all hsk (fun j hj => hback j hj) backE_all]
      refine V_run _ (enOK _) 300 ?_
      obtain ⟨h, e1, e2, e3⟩ := hist_ok hval (tr := 0) (en := 5000) (by decide) (by decide)
      have hv := hist_valid hval (by decide) e2 e3
      refine Way.spec (CallS.by (spec20 l (by omega) 0 5000 e1) rfl ?_)
      refine Br.nno rfl ?_
      refine Br.nno rfl ?_
      refine V_loop _ (fun i : Nat => ⟨[(5, .b true), (11, jv l), (22, sv h), (24, .i i)], [], 0⟩) (fun i => i ≤ l.length) (fun i => l.length - i) 0 (Nat.zero_le _) ?_ ?_
      · exact Le_of _ [] [] ⟨rfl, True.intro, ⟨rfl, ⟨rfl, rfl, fun _ _ => rfl⟩, ⟨rfl, rfl, fun _ _ => rfl⟩, rfl, True.intro⟩, True.intro⟩
      intro i hi
      refine V_run _ (enOK _) 300 ?_
      refine Br.dec (fun hlt => ?_) (fun hlt => ?_)
      · have hi' : i < l.length := by omega
        have hends := he.ends hi'
        have hend : endE l i = if i + 1 < l.length then (nth l (i + 1)).a else 5000 := rfl
        have a1 := at_TL e2 hv (x := (nth l i).a) (by omega) (by omega)
        have a2 := at_TL e2 hv (x := endE l i - 1) (by omega) (by omega)
        rw [he.owner (by omega) hi' (Int.le_refl _) hends.2.1] at a1
        rw [he.owner (by omega) hi' (by omega) (by omega)] at a2
        have s1 := spec28 h (by omega) (nth l i).a (by omega)
        have s2 := spec28 h (by omega) (endE l i - 1) (by omega)
        rw [a1] at s1
        rw [a2] at s2
        refine Ar.nat (i + 1) (by omega) (by omega) ?_
        refine Br.dec (fun hn => ?_) (fun hn => ?_)
        · rw [if_pos (show i + 1 < l.length by omega)] at hend
          repeat' first
            | refine Ar.nat (i + 1) (by omega) (by omega) ?_
            | refine Ar.by (r := endE l i - 1) (by rw [hend]; exact wrap64 (by omega)) ?_
            | refine Ix.by rfl (by omega) ?_
            | refine Way.spec (CallS.by s1 rfl ?_)
            | refine Way.spec (CallS.by s2 rfl ?_)
            | refine Br.nno rfl ?_
          exact ⟨i + 1, by omega, by omega, Le_of _ [] [] ⟨rfl, True.intro, ⟨rfl, ⟨rfl, rfl, fun _ _ => rfl⟩, ⟨rfl, rfl, fun _ _ => rfl⟩, rfl, True.intro⟩, True.intro⟩⟩
        · rw [if_neg (show ¬ i + 1 < l.length by omega)] at hend
          repeat' first
            | refine Ar.nat (i + 1) (by omega) (by omega) ?_
            | refine Ar.by (r := endE l i - 1) (by rw [hend]; exact wrap64 (by omega)) ?_
            | refine Ix.by rfl (by omega) ?_
            | refine Way.spec (CallS.by s1 rfl ?_)
            | refine Way.spec (CallS.by s2 rfl ?_)
            | refine Br.nno rfl ?_
          exact ⟨i + 1, by omega, by omega, Le_of _ [] [] ⟨rfl, True.intro, ⟨rfl, ⟨rfl, rfl, fun _ _ => rfl⟩, ⟨rfl, rfl, fun _ _ => rfl⟩, rfl, True.intro⟩, True.intro⟩⟩
      · refine V_run _ (enOK _) 300 ?_
        exact Out.mk ⟨rfl, True.intro⟩
  · refine V_weak _ (st' := ⟨[(5, .b true), (11, jv l)], [], 0⟩) (Le_of _ [] [1] ⟨rfl, ⟨True.intro, True.intro⟩, ⟨rfl, ⟨rfl, rfl, rfl, Nat.le_of_eq (Nat.zero_add _), fun q hq => by rw [Nat.zero_add]⟩, True.intro⟩, True.intro⟩) (V_run _ (enOK _) 300 ?_)
    have hsk := validM_SK hval
    have hback := fun p (hp : p < l.length) => backE_sub (l := l) (p := p) hp
    refine Ar.ok (by omega) ?_
    refine V_loop _ (fun p : Nat => ⟨[(5, .b true), (11, jv l), (18, jv (foldJ (backE l) p)), (19, .i ((l.length : Int) - 1 - p))], [], 0⟩) (fun p => p ≤ l.length) (fun p => l.length - p) 0 (Nat.zero_le _) ?_ ?_
    · exact Le_of _ [] [] ⟨rfl, True.intro, ⟨rfl, ⟨rfl, rfl, fun _ _ => rfl⟩, rfl, congrArg (Value.int .i64) (Int.sub_zero _).symm, True.intro⟩, True.intro⟩
    intro p hp
    have hfv := foldJ_valid hval (J := backE l) (i := p) fun j hj => hback j (by omega)
    have hfn : foldJ (backE l) (p + 1) = mrg (foldJ (backE l) p) (backE l p) := rfl
    refine V_run _ (enOK _) 300 ?_
    refine Br.dec (fun hge => ?_) (fun hge => ?_)
    · have hp' : p < l.length := by omega
      have hbv := valid_sub hval (hback p hp')
      have hm := mergeP_ok hfv.1 hbv (by have := hfv.2; have : (backE l p).length = 1 := rfl; omega)
      refine Ar.nat (l.length - p) (by omega) (by omega) ?_
      refine Ix.by (r := l.length - p) rfl (by omega) ?_
      refine Ix.by (r := l.length - 1 - p) (by omega) (by omega) ?_
      refine Way.spec (CallS.by ((spec15 (foldJ (backE l) p) (backE l p) (by have := hfv.2; omega) (by show 1 ≤ _; decide) hm).arg ⟨⟨rfl, rfl, fun _ _ => rfl⟩, ⟨rfl, ?_, fun q hq => ?_⟩, True.intro⟩) rfl ?_)
      · show l.length - p - (l.length - 1 - p) = 1
        omega
      · have : q = 0 := by have : q < l.length - p - (l.length - 1 - p) := hq; omega
        subst this
        rfl
      rw [← hfn]
      refine Br.nno rfl ?_
      refine Ar.by (r := (l.length : Int) - 1 - ((p + 1 : Nat) : Int)) (by rw [wrap64 (by omega)]; omega) ?_
      exact ⟨p + 1, hp', by omega, Le_of _ [] [] ⟨rfl, True.intro, ⟨rfl, ⟨rfl, rfl, fun _ _ => rfl⟩, ⟨rfl, rfl, fun _ _ => rfl⟩, rfl, True.intro⟩, True.intro⟩⟩
    have : p = l.length := by omega
    subst this
    rw [foldJ_all hsk (fun j hj => hback j hj) backE_all]
    refine V_run _ (enOK _) 300 ?_
    obtain ⟨h, e1, e2, e3⟩ := hist_ok hval (tr := 0) (en := 5000) (by decide) (by decide)
    have hv := hist_valid hval (by decide) e2 e3
    refine Way.spec (CallS.by (spec20 l (by omega) 0 5000 e1) rfl ?_)
    refine Br.nno rfl ?_
    refine Br.nno rfl ?_
    refine V_loop _ (fun i : Nat => ⟨[(5, .b true), (11, jv l), (22, sv h), (24, .i i)], [], 0⟩) (fun i => i ≤ l.length) (fun i => l.length - i) 0 (Nat.zero_le _) ?_ ?_
    · exact Le_of _ [] [] ⟨rfl, True.intro, ⟨rfl, ⟨rfl, rfl, fun _ _ => rfl⟩, ⟨rfl, rfl, fun _ _ => rfl⟩, rfl, True.intro⟩, True.intro⟩
    intro i hi
    refine V_run _ (enOK _) 300 ?_
    refine Br.dec (fun hlt => ?_) (fun hlt => ?_)
    · have hi' : i < l.length := by omega
      have hends := he.ends hi'
      have hend : endE l i = if i + 1 < l.length then (nth l (i + 1)).a else 5000 := rfl
      have a1 := at_TL e2 hv (x := (nth l i).a) (by omega) (by omega)
      have a2 := at_TL e2 hv (x := endE l i - 1) (by omega) (by omega)
      rw [he.owner (by omega) hi' (Int.le_refl _) hends.2.1] at a1
      rw [he.owner (by omega) hi' (by omega) (by omega)] at a2
      have s1 := spec28 h (by omega) (nth l i).a (by omega)
      have s2 := spec28 h (by omega) (endE l i - 1) (by omega)
      rw [a1] at s1
      rw [a2] at s2
      refine Ar.nat (i + 1) (by omega) (by omega) ?_
      refine Br.dec (fun hn => ?_) (fun hn => ?_)
      · rw [if_pos (show i + 1 < l.length by omega)] at hend
        repeat' first
          | refine Ar.nat (i + 1) (by omega) (by omega) ?_
          | refine Ar.by (r := endE l i - 1) (by rw [hend]; exact wrap64 (by omega)) ?_
          | refine Ix.by rfl (by omega) ?_
          | refine Way.spec (CallS.by s1 rfl ?_)
          | refine Way.spec (CallS.by s2 rfl ?_)
          | refine Br.nno rfl ?_
        exact ⟨i + 1, by omega, by omega, Le_of _ [] [] ⟨rfl, True.intro, ⟨rfl, ⟨rfl, rfl, fun _ _ => rfl⟩, ⟨rfl, rfl, fun _ _ => rfl⟩, rfl, True.intro⟩, True.intro⟩⟩
      · rw [if_neg (show ¬ i + 1 < l.length by omega)] at hend
        repeat' first
          | refine Ar.nat (i + 1) (by omega) (by omega) ?_
          | refine Ar.by (r := endE l i - 1) (by rw [hend]; exact wrap64 (by omega)) ?_
          | refine Ix.by rfl (by omega) ?_
          | refine Way.spec (CallS.by s1 rfl ?_)
          | refine Way.spec (CallS.by s2 rfl ?_)
          | refine Br.nno rfl ?_
        exact ⟨i + 1, by omega, by omega, Le_of _ [] [] ⟨rfl, True.intro, ⟨rfl, ⟨rfl, rfl, fun _ _ => rfl⟩, ⟨rfl, rfl, fun _ _ => rfl⟩, rfl, True.intro⟩, True.intro⟩⟩
    · refine V_run _ (enOK _) 300 ?_
      exact Out.mk ⟨rfl, True.intro⟩

end Go.AI

/- A story, and rows of three numbers, as arguments. -/
namespace Go.AI
open Go Go.Proofs Go.RowKit
set_option linter.unusedVariables false
theorem flat56 : Flat Try.prog 56 4 := flat_array Try.underlying56 flat3 (by kernel_rfl) (by kernel_rfl)
theorem flat28 : Flat Try.prog 28 3 := flat_array Try.underlying28 flat3 (by kernel_rfl) (by kernel_rfl)

section
variable {H : Type} {enc : TypeId × Value → H} {w : World} {sp : Nat → Bool} {held : Bool} {m : Nat}

def h3Of (r : List Int) : Int × Int × Int := (r.getD 0 0, r.getD 1 0, r.getD 2 0)
theorem open_h3 {cs : List Value} {y : DataW H × List MemPlace} (h : DataW.trod enc Try.prog w 0 sp held m 30 cs = some y) : ∃ (v : Value) (l : H3), cs = [v] ∧ Rel w (fun b => b < w.heap.size) noρ (.pv (prow l)) v ∧ ∀ i, in64 (nth l i).1 ∧ in64 (nth l i).2.1 ∧ in64 (nth l i).2.2 := by
  obtain ⟨v, rows, rfl, h1, h2⟩ := open_rows Try.underlying30 flat28 (by kernel_rfl) (by decide) h
  have hn : ∀ i, i < rows.length → nth (rows.map h3Of) i = h3Of (nthD rows i) ∧ nthD rows i ∈ rows := fun i hi => by
    refine ⟨?_, by unfold nthD; rw [List.getElem?_eq_getElem hi]; exact List.getElem_mem hi⟩
    unfold nth nthD; rw [List.getElem?_map, List.getElem?_eq_getElem hi]; rfl
  refine ⟨v, rows.map h3Of, rfl, ?_, fun i => ?_⟩
  · unfold Rel
    refine PVle.sound (x := .rd 3 rows.length fun i => (nthD rows i).map PV.i) ⟨rfl, by simp, fun i hi => ?_⟩ h2
    dsimp only
    rw [(hn i hi).1]
    have hl := (h1 _ (hn i hi).2).1
    match nthD rows i, hl with
    | [a, b, c], _ => rfl
  · by_cases hi : i < rows.length
    · rw [(hn i hi).1]
      obtain ⟨g1, g2⟩ := h1 _ (hn i hi).2
      match nthD rows i, g1, g2 with
      | [a, b, c], _, g2 => exact ⟨g2 a (by simp), g2 b (by simp), g2 c (by simp)⟩
    · have : nth (rows.map h3Of) i = default := by unfold nth; rw [List.getElem?_eq_none (by simp; omega)]; rfl
      rw [this]
      unfold in64
      decide

theorem cut13 {L : List Value} (h : L.length = 13) {a b : List Value} (ha : (L.drop 0).take 4 = a) (hb : (L.drop 4).take 4 = b) {c d e f g : Value}
    (hc : ((L.drop 8).take 4).drop (0 * 1) |>.take 1 |> fun x => x = [c]) (hd : (((L.drop 8).take 4).drop (1 * 1)).take 1 = [d]) (he : (((L.drop 8).take 4).drop (2 * 1)).take 1 = [e]) (hf : (((L.drop 8).take 4).drop (3 * 1)).take 1 = [f])
    (hg : (L.drop 12).take 1 = [g]) : L = a ++ b ++ [c, d, e, f, g] := by
  match L, h with
  | [x0, x1, x2, x3, x4, x5, x6, x7, x8, x9, x10, x11, x12], _ =>
    simp at ha hb hc hd he hf hg
    subst ha; subst hb; subst hc; subst hd; subst he; subst hf; subst hg
    rfl

set_option maxRecDepth 20000 in
theorem open_story {cs : List Value} {y : DataW H × List MemPlace} (h : DataW.trod enc Try.prog w 0 sp held m 59 cs = some y) : ∃ S : St4, S.ok ∧ RelL w (fun b => b < w.heap.size) noρ (storyC S) cs := by
  obtain ⟨xs, m', _, _, hl, hx, hi⟩ := DataW.trod_struct Try.underlying59 h
  have hc59 : Try.prog.cellsOf 59 = 13 := by kernel_rfl
  have hc56 : Try.prog.cellsOf 56 = 4 := by kernel_rfl
  have hc57 : Try.prog.cellsOf 57 = 4 := by kernel_rfl
  have hc49 : Try.prog.cellsOf 49 = 1 := by kernel_rfl
  have hc24 : Try.prog.cellsOf 24 = 1 := by kernel_rfl
  rw [hc59] at hl
  have f0 : DataW.trod enc Try.prog w 0 sp held m' 56 ((cs.drop 0).take (Try.prog.cellsOf 56)) = xs[0]? := hi 0 _ rfl
  have f1 : DataW.trod enc Try.prog w 0 sp held m' 56 ((cs.drop 4).take (Try.prog.cellsOf 56)) = xs[1]? := hi 1 _ rfl
  have f2 : DataW.trod enc Try.prog w 0 sp held m' 57 ((cs.drop 8).take (Try.prog.cellsOf 57)) = xs[2]? := hi 2 _ rfl
  have f3 : DataW.trod enc Try.prog w 0 sp held m' 24 ((cs.drop 12).take (Try.prog.cellsOf 24)) = xs[3]? := hi 3 _ rfl
  rw [hc56] at f0 f1
  rw [hc57] at f2
  rw [hc24] at f3
  rw [List.getElem?_eq_getElem (by rw [hx]; decide)] at f0 f1 f2 f3
  obtain ⟨n0, p0, q0, r0⟩ := flat56 enc w 0 sp held m' _ _ f0
  obtain ⟨n1, p1, q1, r1⟩ := flat56 enc w 0 sp held m' _ _ f1
  obtain ⟨xs2, m2, _, _, hl2, hx2, hi2⟩ := DataW.trod_array Try.underlying57 f2
  have g0 : DataW.trod enc Try.prog w 0 sp held m2 49 ((((cs.drop 8).take 4).drop (0 * Try.prog.cellsOf 49)).take (Try.prog.cellsOf 49)) = xs2[0]? := hi2 0 (by omega)
  have g1 : DataW.trod enc Try.prog w 0 sp held m2 49 ((((cs.drop 8).take 4).drop (1 * Try.prog.cellsOf 49)).take (Try.prog.cellsOf 49)) = xs2[1]? := hi2 1 (by omega)
  have g2 : DataW.trod enc Try.prog w 0 sp held m2 49 ((((cs.drop 8).take 4).drop (2 * Try.prog.cellsOf 49)).take (Try.prog.cellsOf 49)) = xs2[2]? := hi2 2 (by omega)
  have g3 : DataW.trod enc Try.prog w 0 sp held m2 49 ((((cs.drop 8).take 4).drop (3 * Try.prog.cellsOf 49)).take (Try.prog.cellsOf 49)) = xs2[3]? := hi2 3 (by omega)
  rw [hc49, List.getElem?_eq_getElem (show 0 < xs2.length by omega)] at g0
  rw [hc49, List.getElem?_eq_getElem (show 1 < xs2.length by omega)] at g1
  rw [hc49, List.getElem?_eq_getElem (show 2 < xs2.length by omega)] at g2
  rw [hc49, List.getElem?_eq_getElem (show 3 < xs2.length by omega)] at g3
  obtain ⟨u0, l0, c0, e0, o0⟩ := open_ints g0
  obtain ⟨u1, l1, c1, e1, o1⟩ := open_ints g1
  obtain ⟨u2, l2, c2, e2, o2⟩ := open_ints g2
  obtain ⟨u3, l3, c3, e3, o3⟩ := open_ints g3
  obtain ⟨u4, q, c4, e4, o4⟩ := open_r5 f3
  have hcs := cut13 hl q0 q1 c0 c1 c2 c3 c4
  match n0, p0, r0, n1, p1, r1, hcs with
  | [a0, a1, a2, a3], _, r0, [b0, b1, b2, b3], _, r1, hcs =>
    refine ⟨⟨fun k => nth [a0, a1, a2, a3] k, fun k => nth [b0, b1, b2, b3] k, fun k => nth [l0, l1, l2, l3] k, q⟩, ⟨fun k => ?_, fun k => ?_, fun k => ?_, o4⟩, ?_⟩
    · exact in64_nth (fun n h => r0 n h) k
    · exact in64_nth (fun n h => r1 n h) k
    · show ∀ n ∈ nth [l0, l1, l2, l3] k, in64 n
      match k with
      | 0 => exact o0
      | 1 => exact o1
      | 2 => exact o2
      | 3 => exact o3
      | k + 4 => intro n hn; cases hn
    · subst hcs
      simp only [List.map, List.cons_append, List.nil_append, RelL]
      exact ⟨_, _, rfl, Rel_mk rfl, _, _, rfl, Rel_mk rfl, _, _, rfl, Rel_mk rfl, _, _, rfl, Rel_mk rfl, _, _, rfl, Rel_mk rfl, _, _, rfl, Rel_mk rfl, _, _, rfl, Rel_mk rfl, _, _, rfl, Rel_mk rfl,
        _, _, rfl, e0, _, _, rfl, e1, _, _, rfl, e2, _, _, rfl, e3, _, _, rfl, e4, rfl⟩
end
end Go.AI

namespace Go.AI.Law9
open Go Go.Proofs Go.RowKit Go.AI
open Go.ChangeShapes Go.WideShapes Go.ChangeAt
open Go.Proofs.Ytdpfhchmmlhhlaa
set_option linter.unusedVariables false

set_option maxRecDepth 100000 in
theorem lifted (os : Os) (started : os.Started) (H : Type) (enc : TypeId × Value → H) :
    ReturnsInHanded {} Try.checked os 9 .any (Rows.mergeHonestSpec.pre6 enc Try.prog Try.f9 Rows.mergeHonestRow.domain false) (Rows.mergeHonestSpec.post enc Try.prog Try.f9 false true false false) := by
  refine returnsInHanded_of_change_sized (C := Try.checked) own started (by kernel_rfl) Try.func9
    (ChangeSpec.witness6 (enc := enc) (C := Try.checked) false ⟨#[], #[.agg #[.int .i64 0, .int .i64 0, .int .i64 0, .int .i64 0, .int .i64 0, .int .i64 0, .int .i64 0, .int .i64 0, .slice none 0 0, .slice none 0 0, .slice none 0 0, .slice none 0 0, .slice none 0 0], .slice none 0 0], []⟩ 8 (by kernel_rfl) (by kernel_rfl) (by kernel_rfl) (by kernel_rfl)) ?_
  intro W base args ds gs before hval0 hW hcnd hsz0 _
  have hval : ∀ (j : Nat) t v, Try.f9.params[j]? = some t → args[j]? = some v → Value.okWide Try.prog W .any base t v := hval0
  have hW' := hW
  obtain ⟨p, q, hA0, hV, rfl, hfz, hnd⟩ := hW
  have hA : DataW.TrodAll enc Try.prog W 0 (fun _ => true) true Try.f9.params.toList args.toList ds p := hA0
  rw [Try.params9] at hA hval
  obtain ⟨v0, vs0, d0, ds0, p0, q0, hargs, rfl, rfl, h0, r0⟩ := trodAll_cons hA
  obtain ⟨v1, vs1, d1, ds1, p1, q1, rfl, rfl, rfl, h1, r1⟩ := trodAll_cons r0
  obtain ⟨rfl, rfl, rfl⟩ := trodAll_nil r1
  obtain rfl : args = #[v0, v1] := by cases args; simp_all
  obtain ⟨rfl, rfl⟩ := trodVars_none hV
  have k0 := h0; have k1 := h1
  have lt0 : ∀ x ∈ p0, x.block < W.heap.size := by obtain ⟨m, hm⟩ := k0; exact DataW.trod_lt m _ _ _ hm
  have lt1 : ∀ x ∈ p1, x.block < W.heap.size := by obtain ⟨m, hm⟩ := k1; exact DataW.trod_lt m _ _ _ hm
  obtain ⟨S, hS, g0⟩ : ∃ S : St4, S.ok ∧ RelL W (fun b => b < W.heap.size) noρ [storyV S] [v0] := by
    have hv := hval 0 59 v0 rfl rfl
    unfold Value.okWide at hv
    rw [Try.underlying59] at hv
    obtain ⟨cs, rfl, _, _⟩ := hv
    obtain ⟨m, hm⟩ := h0
    obtain ⟨S, s1, s2⟩ := open_story hm
    refine ⟨S, s1, ?_⟩
    unfold RelL
    refine ⟨_, _, rfl, ?_, by unfold RelL; rfl⟩
    unfold Rel
    exact ⟨cs, rfl, s2⟩
  obtain ⟨b1, len1, cap1, rfl⟩ := okWide_slice Try.underlying30 (hval 1 30 v1 rfl rfl)
  obtain ⟨x1, g1, w1⟩ : ∃ l : H3, Rel W (fun b => b < W.heap.size) noρ (.pv (prow l)) (.slice b1 len1 cap1) ∧ ∀ i, in64 (nth l i).1 ∧ in64 (nth l i).2.1 ∧ in64 (nth l i).2.2 := by
    obtain ⟨m, hm⟩ := h1
    obtain ⟨u, l, q0, q1, q2⟩ := open_h3 hm
    simp [Value.cells] at q0
    subst q0
    exact ⟨l, q1, q2⟩
  clear hA0 hval0 hsz0
  have hrel : RelL W (fun b => b < W.heap.size) noρ [storyV S, .pv (prow x1)] [v0, .slice b1 len1 cap1] := by
    unfold RelL at g0
    obtain ⟨_, _, e, g0, _⟩ := g0
    cases e
    simp only [RelL]
    exact ⟨_, _, rfl, g0, _, _, rfl, g1, rfl⟩
  refine (call_of (spec9 S hS x1 w1) hrel).mono fun e W' ⟨he, bel⟩ => ?_
  subst he
  exact ⟨_, rfl, _, _, _, [], _, [], hW', trodAll_mk1 (shut_bool Try.underlying4 _),
    (trodAll_cons_mk (Below.trod laidOut (by kernel_rfl) (of_decide_eq_true (by kernel_rfl)) k0 bel lt0) (trodAll_cons_mk (Below.trod laidOut (by kernel_rfl) (of_decide_eq_true (by kernel_rfl)) k1 bel lt1) trodAll_mk0)), rfl, bel.frame _, fun h => by cases h⟩

theorem over : Rows.mergeHonestRow.holds Try.pinned (OpenSpec.ofChange Rows.mergeHonestSpec) :=
  OpenClaim.holds_of_wide 9 Try.f9 rfl rfl rfl rfl rfl rfl rfl ⟨rfl, rfl, rfl, rfl, rfl⟩ rfl rfl rfl rfl rfl (by kernel_rfl) Try.func9 (by kernel_rfl)
    (of_decide_eq_true (by kernel_rfl)) (by unfold Func.isWrapper; first | (rw [if_pos (by decide +kernel)]; kernel_rfl) | (rw [if_neg (by decide +kernel)]; exact ⟨rfl, rfl⟩))
    (fun os started H enc _ => lifted os started H enc)
end Go.AI.Law9

namespace Go.Proofs.Ytdpfhchmmlhhlaa
theorem mergeHonest_holds : Rows.MergeHonestSaid := Go.AI.Law9.over
#print axioms mergeHonest_holds
end Go.Proofs.Ytdpfhchmmlhhlaa

