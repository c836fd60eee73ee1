/- Part 5 of the library of this proof. -/
import Derived.Test.YtofoeghobdfojaaW4
set_option linter.all false
namespace Go.Vc
open Go.Proofs
def Srt : Int → List Int → Prop
  | _, [] => True
  | a, q :: r => a ≤ q ∧ Srt (q + 1) r
theorem Srt.le {a b : Int} (h : b ≤ a) : ∀ {l : List Int}, Srt a l → Srt b l
  | [], _ => trivial
  | _ :: _, ⟨h1, h2⟩ => ⟨by omega, h2⟩
theorem Srt.ge {a : Int} : ∀ {l : List Int}, Srt a l → ∀ x ∈ l, a ≤ x
  | _ :: r, ⟨h1, h2⟩, x, hx => by
    rcases List.mem_cons.1 hx with rfl | hx
    · exact h1
    · have := Srt.ge h2 x hx; omega
/-- where a row begins and ends -/
def rowOfI (l : List Nd) (into : Int) : Nat × Nat := if into = -1 then (0, l.length) else (into.toNat + 1, into.toNat + (szI l into.toNat).toNat)
theorem rowOfI_facts {l : List Nd} (hb : isB l = true) {into : Int} (hin : into = -1 ∨ hasI l into = true) : ∃ a e : Nat, rowOfI l into = (a, e) ∧ (a : Int) = into + 1 ∧ a ≤ e ∧ e ≤ l.length ∧ rowsB l a e = true ∧ kidsR l into = kidsW l a e := by
  have hrows : rowsB l 0 l.length = true := by simp only [isB, Bool.and_eq_true] at hb; exact hb.2
  by_cases h : into = -1
  · subst h
    exact ⟨0, l.length, by simp [rowOfI], by omega, by omega, Nat.le_refl _, hrows, kidsR_top hb⟩
  · have hh : hasI l into = true := by rcases hin with h1 | h1; exact absurd h1 h; exact h1
    obtain ⟨p, rfl⟩ : ∃ p : Nat, into = p := ⟨into.toNat, by have := hasI_iff.1 hh; omega⟩
    have hp : p < l.length := by have := hasI_iff.1 hh; omega
    obtain ⟨z1, z2⟩ := szI_bound hb hp
    have hse := szI_eq hp
    obtain ⟨z3, _⟩ := rowsB_ends (Nat.le_refl _) hrows (Nat.zero_le p) hp
    have hin := rowsB_inner l (l.length + 1) 0 l.length (by omega) (Nat.le_refl _) hrows p (by omega) hp hp
    rw [← hse] at hin
    exact ⟨p + 1, p + (szI l p).toNat, by simp [rowOfI, h], by omega, by omega, by omega, hin, kidsR_in hb hp⟩
theorem kidsW_srt {l : List Nd} {e : Nat} (he : e ≤ l.length) : ∀ (m a : Nat), e - a < m → a ≤ e → rowsB l a e = true → Srt a (kidsW l a e ++ [(e : Int)]) ∧ (∀ x ∈ kidsW l a e, x < e) ∧ ∀ into : Int, (a : Int) = into + 1 → lastEnd l into (kidsW l a e) = e
  | 0, _, h, _, _ => by omega
  | m + 1, a, hm, hae, hr => by
    by_cases hlt : a < e
    · have hal : a < l.length := by omega
      obtain ⟨h1, h2⟩ := rowsB_ends he hr (Nat.le_refl a) hlt
      obtain ⟨h3, _⟩ := rowsB_next he hr hlt
      have hse := szI_eq hal
      have hz : ((szI l a).toNat : Int) = szI l a := by omega
      obtain ⟨g1, g2, g3⟩ := kidsW_srt he m (a + (szI l a).toNat) (by omega) (by omega) h3
      rw [kidsW_cons hlt hal (by omega), ← hse]
      refine ⟨⟨Int.le_refl _, g1.le (by omega)⟩, ?_, ?_⟩
      · intro x hx
        rcases List.mem_cons.1 hx with rfl | hx
        · omega
        · exact g2 x hx
      · intro into hinto
        have := g3 ((a : Int) + szI l a - 1) (by omega)
        rw [← this]
        simp only [lastEnd, List.foldl_cons, Int.toNat_natCast]
        congr 1
        omega
    · have : a = e := by omega
      subst this
      rw [kidsW_nil (Nat.le_refl _)]
      exact ⟨⟨Int.le_refl _, trivial⟩, by simp, fun into h => by rw [lastEnd_nil]; omega⟩
theorem placesR_eq {l : List Nd} (hb : isB l = true) {into : Int} (hin : into = -1 ∨ hasI l into = true) {a e : Nat} (h : rowOfI l into = (a, e)) : placesR l into = kidsW l a e ++ [(e : Int)] ∧ Srt (into + 1) (placesR l into) ∧ ∀ x ∈ placesR l into, x ≤ e := by
  obtain ⟨a', e', h1, h2, h3, h4, h5, h6⟩ := rowOfI_facts hb hin
  rw [h] at h1
  obtain ⟨rfl, rfl⟩ := Prod.mk.inj h1
  obtain ⟨g1, g2, g3⟩ := kidsW_srt h4 (e + 1) a (by omega) h3 h5
  have hp : placesR l into = kidsW l a e ++ [(e : Int)] := by rw [placesR, h6, g3 into h2]
  refine ⟨hp, ?_, ?_⟩
  · rw [hp, ← h2]; exact g1
  · rw [hp]
    intro x hx
    rcases List.mem_append.1 hx with hx | hx
    · have := g2 x hx; omega
    · simp at hx; omega
theorem Srt.lt_of_get {a : Int} : ∀ {l : List Int}, Srt a l → ∀ (i j : Nat) (x y : Int), i ≤ j → l[i]? = some x → l[j]? = some y → x + ((j : Int) - i) ≤ y
  | [], _, i, j, x, y, _, h, _ => by simp at h
  | q :: r, ⟨h1, h2⟩, 0, 0, x, y, _, hx, hy => by simp at hx hy; omega
  | q :: r, ⟨h1, h2⟩, 0, j + 1, x, y, _, hx, hy => by
    simp at hx hy
    have hj := (List.getElem?_eq_some_iff.1 hy).1
    have h0 : r[0]? = some r[0] := by simp [show 0 < r.length by omega]
    have := Srt.lt_of_get h2 0 j _ y (by omega) h0 hy
    have h3 := Srt.ge h2 _ (List.mem_of_getElem? h0)
    omega
  | q :: r, ⟨h1, h2⟩, i + 1, 0, x, y, h, _, _ => by omega
  | q :: r, ⟨h1, h2⟩, i + 1, j + 1, x, y, h, hx, hy => by
    simp at hx hy
    have := Srt.lt_of_get h2 i j x y (by omega) hx hy
    omega
theorem idxI_get {a : Int} : ∀ {p : List Int} {i : Nat}, 0 ≤ idxI a p i → p[(idxI a p i - i).toNat]? = some a ∧ (i : Int) ≤ idxI a p i
  | [], i, h => by simp [idxI] at h
  | q :: r, i, h => by
    rw [idxI] at h ⊢
    split
    · rename_i he; subst he; simp
    · rename_i hne
      rw [if_neg hne] at h
      obtain ⟨h1, h2⟩ := idxI_get h
      refine ⟨?_, by omega⟩
      have e1 : (idxI a r (i + 1) - (i : Int)).toNat = (idxI a r (i + 1) - ((i + 1 : Nat) : Int)).toNat + 1 := by omega
      rw [e1, List.getElem?_cons_succ]
      exact h1
/-- what goes lies in the row -/
theorem goneR_facts {l : List Nd} (hb : isB l = true) {into pos many from' to : Int} (h : goneR l into pos many = (from', to, true)) :
    from' = pos ∧ into + 1 ≤ pos ∧ pos ≤ to ∧ to ≤ l.length ∧ -1 ≤ into ∧ (into = -1 ∨ blockR l into = true) ∧ 0 ≤ many ∧
    ∃ k : Nat, (placesR l into)[k]? = some pos ∧ (placesR l into)[k + many.toNat]? = some to := by
  rw [goneR] at h
  split at h
  · cases h
  · rename_i hnb
    have hin : into = -1 ∨ blockR l into = true := by
      by_cases h1 : into = -1
      · exact .inl h1
      · right
        cases hbk : blockR l into
        · exact absurd ⟨h1, hbk⟩ hnb
        · rfl
    have hin2 : into = -1 ∨ hasI l into = true := hin.imp id fun h => by simp only [blockR, Bool.and_eq_true] at h; exact h.1
    have hi1 : -1 ≤ into := by
      rcases hin2 with h | h
      · omega
      · have := hasI_iff.1 h; omega
    split at h
    · cases h
    · rename_i hk
      obtain ⟨rfl, rfl, _⟩ : pos = from' ∧ ((placesR l into)[(idxI pos (placesR l into) 0 + many).toNat]?).getD 0 = to ∧ True := by
        simp only [Prod.mk.injEq, and_true] at h; exact ⟨h.1, h.2, trivial⟩
      obtain ⟨a, e, h1, h2, h3, h4, h5, h6⟩ := rowOfI_facts hb hin2
      obtain ⟨hp, hs, hle⟩ := placesR_eq hb hin2 h1
      obtain ⟨g1, g2⟩ := idxI_get (a := pos) (p := placesR l into) (i := 0) (by omega)
      have hr := idxI_range pos (placesR l into) 0
      generalize placesR l into = p at *
      generalize idxI pos p 0 = k at *
      have hk2 : (k + many).toNat < p.length := by omega
      have e1 : (k - ((0 : Nat) : Int)).toNat = k.toNat := by omega
      rw [e1] at g1
      have e2 : (k + many).toNat = k.toNat + many.toNat := by omega
      have hto : p[(k + many).toNat]? = some p[(k + many).toNat] := by simp [hk2]
      have hlt := Srt.lt_of_get hs k.toNat (k + many).toNat _ _ (by omega) g1 hto
      have hge := Srt.ge hs _ (List.mem_of_getElem? g1)
      have htl := hle _ (List.mem_of_getElem? hto)
      rw [hto, Option.getD_some]
      exact ⟨rfl, hge, by omega, by omega, hi1, hin, by omega, k.toNat, g1, by rw [← e2]; exact hto⟩
end Go.Vc
