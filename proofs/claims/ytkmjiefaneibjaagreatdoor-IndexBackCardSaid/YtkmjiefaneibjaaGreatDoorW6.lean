/- Part 6 of the library of this proof. -/
import Derived.Test.YtkmjiefaneibjaaGreatDoorW5
import Derived.Shelf.Strings.Builder1
import Derived.Laws.Tables
set_option linter.all false
namespace Go.Vc
open Go.Proofs Go.Shelf Go.RowKit
variable {P : Program} {ρ : Ren}
theorem upd_self' {σ : Store} {id : Nat} {o : Ob} (h : σ id = some o) : upd σ id o = σ := by
  funext i
  simp only [upd]
  split
  · rename_i e; rw [e, h]
  · rfl
theorem freeze_others (w : World) (g n : Nat) : (w.freeze ⟨g, 0, none⟩ n).os = w.os ∧ (w.freeze ⟨g, 0, none⟩ n).tape = w.tape ∧ (w.freeze ⟨g, 0, none⟩ n).output = w.output ∧ (w.freeze ⟨g, 0, none⟩ n).heap.size = w.heap.size ∧ ∀ k, k ≠ g → (w.freeze ⟨g, 0, none⟩ n).heap[k]? = w.heap[k]? := by
  unfold World.freeze
  split
  · exact ⟨rfl, rfl, rfl, rfl, fun _ _ => rfl⟩
  · refine ⟨rfl, rfl, rfl, by simp, fun k hk => ?_⟩
    simp only [Array.getElem?_modify]
    rw [if_neg (by omega)]
set_option maxHeartbeats 2000000 in
set_option maxRecDepth 100000 in
theorem bstring_run (L : Lays.n169 P ρ) (X : Builder.Extra P ρ) (b g cap : Nat) (l : List UInt8) (w : World) (cur : Array Value) (h0 : l ≠ []) (hbk : w.cell? ⟨b, 1, none⟩ = some (.slice (some ⟨g, 0, none⟩) l.length cap))
    (hg : w.heap[g]? = some (.cells cur (ρ.t 5) (0, 0))) (hnc : l.length ≤ cap) (hcm : cap ≤ maxLen) (hcs : l.length ≤ cur.size) (hcells : ∀ (j : Nat) (x : UInt8), l[j]? = some x → w.cell? ⟨g, j, none⟩ = some (.int .u8 x.toNat)) :
    Calls P (ρ.f 169) #[.pointer (some ⟨b, 0, none⟩)] w fun e w' => e = .returned (.string ⟨l.toArray⟩) ∧ w'.os = w.os ∧ w'.tape = w.tape ∧ w'.output = w.output ∧ w'.heap.size = w.heap.size ∧ ∀ k, k ≠ g → w'.heap[k]? = w.heap[k]? := by
  have hl0 : l.length ≠ 0 := by simpa using h0
  have c1 : w.drew.cell? ⟨b, 1, none⟩ = some (.slice (some ⟨g, 0, none⟩) l.length cap) := hbk
  have hSD : (Builtin.unsafeSliceData_ #[(ρ.t 37)] (ρ.t 127) #[.slice (some ⟨g, 0, none⟩) l.length cap]).run P w.drew = .ok (.pointer (some ⟨g, 0, none⟩)) w.drew :=
    Lib.run_unsafeSliceData_row _ _ _ _ _ _ (by omega)
  have hUS : (Builtin.unsafeString_ #[(ρ.t 127), (ρ.t 3)] (ρ.t 9) #[.pointer (some ⟨g, 0, none⟩), .int .i64 l.length]).run P w.drew = .ok (.string ⟨l.toArray⟩) (w.drew.freeze ⟨g, 0, none⟩ l.length) := by
    refine Lib.run_unsafeString_row w.drew (ρ.t 127) (ρ.t 3) (ρ.t 9) (ρ.t 5) L.t127 X.cellsByte g cur.size (by have hg' : w.drew.heap[g]? = some (.cells cur (ρ.t 5) (0, 0)) := hg; simp [World.shape?, hg']) l h0 (by omega) (by unfold maxLen at hcm; omega) ?_
    intro j x hx
    have := hcells j x hx
    rw [addr_add, Nat.zero_add]
    exact this
  have hfin := freeze_others w.drew g l.length
  have mixed := L.mixed
  have t72 := L.t72; have a72 := L.a72; have z72 := L.z72; have v72 := L.v72; have u72 := run_underlying L.t72
  have t70 := L.t70; have a70 := L.a70; have z70 := L.z70; have v70 := L.v70; have u70 := run_underlying L.t70
  have t37 := L.t37; have a37 := L.a37; have z37 := L.z37; have v37 := L.v37; have u37 := run_underlying L.t37
  have t127 := L.t127; have a127 := L.a127; have z127 := L.z127; have v127 := L.v127; have u127 := run_underlying L.t127
  have t3 := L.t3; have a3 := L.a3; have z3 := L.z3; have v3 := L.v3; have u3 := run_underlying L.t3
  have t9 := L.t9; have a9 := L.a9; have z9 := L.z9; have v9 := L.v9; have u9 := run_underlying L.t9
  have t5 := X.t5; have a5 := X.a5; have z5 := X.z5; have v5 := X.v5; have u5 := run_underlying X.t5
  go_enter L.f169, Body.n169_ntmps ρ
  go_wp2
  go_region_o
  all_goals (go_wp2; go_ret; exact ⟨rfl, hfin⟩)
set_option maxHeartbeats 2000000 in
set_option maxRecDepth 100000 in
theorem bstring_nil (L : Lays.n169 P ρ) (X : Builder.Extra P ρ) (b : Nat) (w : World) (hbk : w.cell? ⟨b, 1, none⟩ = some (.slice none 0 0)) :
    Calls P (ρ.f 169) #[.pointer (some ⟨b, 0, none⟩)] w fun e w' => e = .returned (.string ⟨#[]⟩) ∧ w'.os = w.os ∧ w'.tape = w.tape ∧ w'.output = w.output ∧ w'.heap = w.heap := by
  have hUS := Any.unsafeString_none L X
  have c1 : w.drew.cell? ⟨b, 1, none⟩ = some (.slice none 0 0) := hbk
  have hSD : (Builtin.unsafeSliceData_ #[(ρ.t 37)] (ρ.t 127) #[.slice none 0 0]).run P w.drew = .ok (.pointer none) w.drew := rfl
  have hfin : w.drew.os = w.os ∧ w.drew.tape = w.tape ∧ w.drew.output = w.output ∧ w.drew.heap = w.heap := ⟨rfl, rfl, rfl, rfl⟩
  have mixed := L.mixed
  have t72 := L.t72; have a72 := L.a72; have z72 := L.z72; have v72 := L.v72; have u72 := run_underlying L.t72
  have t70 := L.t70; have a70 := L.a70; have z70 := L.z70; have v70 := L.v70; have u70 := run_underlying L.t70
  have t37 := L.t37; have a37 := L.a37; have z37 := L.z37; have v37 := L.v37; have u37 := run_underlying L.t37
  have t127 := L.t127; have a127 := L.a127; have z127 := L.z127; have v127 := L.v127; have u127 := run_underlying L.t127
  have t3 := L.t3; have a3 := L.a3; have z3 := L.z3; have v3 := L.v3; have u3 := run_underlying L.t3
  have t9 := L.t9; have a9 := L.a9; have z9 := L.z9; have v9 := L.v9; have u9 := run_underlying L.t9
  have t5 := X.t5; have a5 := X.a5; have z5 := X.z5; have v5 := X.v5; have u5 := run_underlying X.t5
  go_enter L.f169, Body.n169_ntmps ρ
  go_wp2
  go_region_o
  all_goals (go_wp2; go_ret; exact ⟨rfl, hfin⟩)
structure CopyCheck (P : Program) (f : FuncId) (B : TypeId) : Prop where
  callable : callable P f = true
  fresh : ∀ (b : Nat) (T : TypeId) (w : World) (n : Nat), 0 < n → w.cell? ⟨b, 0, none⟩ = some (.pointer none) → w.shape? b = some (T, n) → liesAt P P.depth T (n / P.cellsOf T) 0 B 1 = true → w.frozen? ⟨b, 0, none⟩ = false →
    Calls P f #[.pointer (some ⟨b, 0, none⟩)] w fun e w' => e = .returned (.tuple #[]) ∧ w' = w.setCell ⟨b, 0, none⟩ (.pointer (some ⟨b, 0, none⟩))
  used : ∀ (b : Nat) (w : World), w.cell? ⟨b, 0, none⟩ = some (.pointer (some ⟨b, 0, none⟩)) → Calls P f #[.pointer (some ⟨b, 0, none⟩)] w fun e w' => e = .returned (.tuple #[]) ∧ w' = w
def bRow (T : TypeId) (a buf : V) : Ob := ⟨T, 2, [.agg [a, buf]]⟩
theorem lies_any {T u : TypeId} (h : rowAt P (sameLayout P P.depth · u) P.depth T 1 0 1 = true) {c : Nat} (hc : 1 ≤ c) : liesAt P P.depth T c 0 u 1 = true := by
  have hd : P.depth = (2 * (P.types.size + Made.depth) + 1) + 1 := rfl
  have h2 : rowAt P (sameLayout P P.depth · u) P.depth T c 0 1 = true := by
    rw [hd] at h ⊢
    unfold rowAt at h ⊢
    simp only [Nat.zero_div, Nat.zero_mod] at h ⊢
    split at h
    · exact absurd h (by simp)
    · rename_i hs
      rw [if_neg hs]
      simp only [Bool.or_eq_true, Bool.and_eq_true, decide_eq_true_eq] at h ⊢
      rcases h with ⟨h1, h2⟩ | ⟨h1, h2⟩
      · exact .inl ⟨⟨h1.1, by omega⟩, h2⟩
      · exact .inr ⟨by omega, h2⟩
  show liesAt P ((2 * (P.types.size + Made.depth) + 1) + 1) T c 0 u 1 = true
  unfold liesAt
  rw [Bool.or_eq_true]
  exact .inl h2
theorem bcheck_c {f : FuncId} {B : TypeId} (C : CopyCheck P f B) {σ : Store} {id : Nat} {T : TypeId} {a buf : V} (hT : P.cellsOf T = 2) (hlies : rowAt P (sameLayout P P.depth · B) P.depth T 1 0 1 = true) (hid : σ id = some (bRow T a buf))
    (ha : a = .nilp ∨ a = .ptr id 0 0) : Contract P f [.ptr id 0 0] σ fun r σ' => r = .tup [] ∧ σ' = upd σ id (bRow T (.ptr id 0 0) buf) := by
  refine ⟨C.callable, fun μ w vals hs hr => ?_⟩
  simp only [RepAll] at hr
  obtain ⟨x, _, rfl, hx, rfl⟩ := hr
  have hob := hs.obj id _ hid
  simp only [Rep] at hx
  split at hx
  · rename_i b sz cap hμ
    obtain ⟨rfl, hz⟩ := hx
    rw [hμ] at hob
    obtain ⟨cur, e1, e2, e3, e4, e5, e6, e7⟩ := hob.plain hz
    obtain rfl : sz = 2 := by simpa [bRow] using e2.symm
    obtain ⟨g1, xs, g2, g3, g4, g5⟩ := e7.cur e1
    simp only [bRow, List.length_cons, List.length_nil] at e1 g4 e5
    have hcell : ∃ y, w.cell? ⟨b, 0, none⟩ = some y ∧ Rep μ (Owned μ σ) w a y := by
      have := e7
      simp only [bRow, RepRows, RepRow, RepCells] at this
      obtain ⟨_, ⟨⟨y, h1, h2, _⟩, _⟩, _⟩ := this
      exact ⟨y, h1, h2⟩
    obtain ⟨y, hy, hry⟩ := hcell
    rcases ha with rfl | rfl
    · simp only [Rep] at hry
      subst hry
      have hsh : w.shape? b = some (T, cap * 2) := by simp [World.shape?, e1, e4]
      have hfz : w.frozen? ⟨b, 0, none⟩ = false := Lib.frozen_of_heap e1 0
      refine (C.fresh b T w (cap * 2) (by omega) (by simpa using hy) hsh (lies_any hlies (by rw [hT]; omega)) hfz).mono ?_
      rintro e w' ⟨rfl, rfl⟩
      have hset : w.setCell ⟨b, 0, none⟩ (.pointer (some ⟨b, 0, none⟩)) = w.setRow b (cur.setIfInBounds 0 (.pointer (some ⟨b, 0, none⟩))) := setCell_eq_setRow w b 0 cur T (0, 0) _ e1
      rw [hset]
      have hgrow : w.grownBy (w.setRow b (cur.setIfInBounds 0 (.pointer (some ⟨b, 0, none⟩)))) (some b) :=
        ⟨rfl, rfl, rfl, by simp, fun kk _ hkk => setRow_other w b kk _ (fun e => hkk (by rw [e]))⟩
      have hflat : flat (bRow T .nilp buf).rows = [.nilp, buf] := rfl
      rw [hflat] at g2
      simp only [RepAll] at g2
      obtain ⟨x0, _, rfl, _, x1, _, rfl, q1, rfl⟩ := g2
      have hch := hs.change hid hμ hz hgrow (cur.setIfInBounds 0 (.pointer (some ⟨b, 0, none⟩))) [.agg [.ptr id 0 0, buf]] [.pointer (some ⟨b, 0, none⟩), x1]
        (setRow_heap w b cur _ T _ e1) (by simpa using e4) (by simpa using e5) (by simp [V.cells])
        (by
          show RepAll μ (Owned μ σ) w [.ptr id 0 0, buf] _
          simp only [RepAll]
          refine ⟨_, _, rfl, ?_, _, _, rfl, q1, rfl⟩
          simp only [Rep, hμ]
          simp)
        (by
          intro u hu
          simp only [List.mem_cons, List.not_mem_nil, or_false] at hu
          rcases hu with hu | hu
          · rw [hu]; rfl
          · rw [hu]; exact g3 x1 (by simp))
        (by
          intro j u hu
          have hc0 : 0 < cur.size := by omega
          match j, hu with
          | 0, hu => simp at hu; subst hu; simp [hc0]
          | 1, hu =>
            have := g5 1 x1 (by simp)
            simp at hu
            rw [← hu]
            simpa using this
          | j + 2, hu => simp at hu)
      exact ⟨.tup [], _, μ, _, rfl, ⟨rfl, rfl⟩, MuLe.refl μ, hch.1, by simp only [Rep]; exact ⟨[], rfl, by simp [RepAll]⟩⟩
    · simp only [Rep, hμ] at hry
      obtain ⟨rfl, _⟩ := hry
      refine (C.used b w (by simpa using hy)).mono ?_
      rintro e w' ⟨rfl, rfl⟩
      refine ⟨.tup [], σ, μ, _, rfl, ⟨rfl, (upd_self' hid).symm⟩, MuLe.refl μ, hs, by simp only [Rep]; exact ⟨[], rfl, by simp [RepAll]⟩⟩
  · exact hx.elim
structure IsB (T u8 : TypeId) (K σ : Store) (id : Nat) (l : List UInt8) : Prop where
  sub : SubStore K σ
  new : K id = none
  row : ∃ a buf, σ id = some (bRow T a buf) ∧ (a = .nilp ∨ a = .ptr id 0 0) ∧ OutV (upd K id (bRow T a buf)) σ u8 1 buf (l.map fun b => .int .u8 b.toNat)
theorem IsB.start {T u8 : TypeId} {K σ : Store} {id : Nat} (hs : SubStore K σ) (hn : K id = none) (hid : σ id = some (bRow T .nilp .nils)) : IsB T u8 K σ id [] :=
  ⟨hs, hn, _, _, hid, .inl rfl, .inl ⟨rfl, rfl⟩⟩
theorem IsB.mono {T u8 : TypeId} {K σ σ' : Store} {id : Nat} {l : List UInt8} (h : IsB T u8 K σ id l) (hs : SubStore σ σ') : IsB T u8 K σ' id l := by
  obtain ⟨h1, h2, a, buf, h3, h4, h5⟩ := h
  refine ⟨h1.trans hs, h2, a, buf, hs _ _ h3, h4, ?_⟩
  rcases h5 with ⟨h5, h6⟩ | ⟨i, h5, h6, h7⟩
  · exact .inl ⟨h5, h6⟩
  · exact .inr ⟨i, h5, hs _ _ h6, h7⟩
theorem Sat.gone {w w' : World} {μ : Mu} {σ K : Store} (h : Sat w (Owned μ σ) μ σ w) (hK : SubStore K σ) (g : Option Nat) (hg : ∀ b, g = some b → Owned μ σ b ∧ ∀ i o sz cap, K i = some o → μ i = .lies b sz cap → False)
    (h1 : w'.os = w.os) (h2 : w'.tape = w.tape) (h3 : w'.output = w.output) (h4 : w'.heap.size = w.heap.size) (h5 : ∀ k, some k ≠ g → w'.heap[k]? = w.heap[k]?) : Sat w (Owned μ σ) μ K w' := by
  have hk : Keeps (Owned μ σ) (Owned μ K) w w' := fun b _ hn => ⟨fun ho => hn (ho.sub hK), h5 b fun e => hn (hg b e.symm).1⟩
  refine ⟨by omega, h1, h2, h3, fun b hb hn => (hk b hb hn).2, h.fin, fun i i' o o' b sz cap sz' cap' a1 a2 a3 a4 => h.inj i i' o o' b sz cap sz' cap' (hK _ _ a1) (hK _ _ a2) a3 a4, fun i o ho => ?_, fun b hb _ => hb.sub hK, h.glob⟩
  refine (h.obj i o (hK _ _ ho)).mono (MuLe.refl μ) hk (by omega) fun b sz cap hp => h5 b fun e => ?_
  exact (hg b e.symm).2 i o sz cap ho hp
theorem bytes_cells {μ : Mu} {ow : Nat → Prop} {w : World} : ∀ (l : List UInt8) (b off : Nat), RepRows μ ow w (l.map fun b => V.int .u8 b.toNat) b off 1 → ∀ (j : Nat) (x : UInt8), l[j]? = some x → w.cell? ⟨b, off + j, none⟩ = some (.int .u8 x.toNat)
  | [], _, _, _, j, x, h => by simp at h
  | y :: l, b, off, h, j, x, hx => by
    simp only [List.map_cons, RepRows, RepRow] at h
    obtain ⟨_, ⟨z, h1, h2, _⟩, h3⟩ := h
    simp only [Rep] at h2
    cases j with
    | zero => simp only [List.getElem?_cons_zero, Option.some.injEq] at hx; subst hx; rw [Nat.add_zero, h1, h2]
    | succ j =>
      have := bytes_cells l b (off + 1) h3 j x (by simpa using hx)
      rw [show off + (j + 1) = off + 1 + j by omega]; exact this
theorem bstring_c (L : Lays.n169 P ρ) (X : Builder.Extra P ρ) (hcl : callable P (ρ.f 169) = true) {T : TypeId} {K σ : Store} {id : Nat} {l : List UInt8} (h : IsB T (ρ.t 5) K σ id l) (h0 : l = [] → ∃ a, σ id = some (bRow T a .nils)) :
    Contract P (ρ.f 169) [.ptr id 0 0] σ fun r σ' => r = .str l ∧ σ' = K := by
  obtain ⟨hK, hKid, a, buf, hid, ha, hout⟩ := h
  refine ⟨hcl, fun μ w vals hs hr => ?_⟩
  simp only [RepAll] at hr
  obtain ⟨x, _, rfl, hx, rfl⟩ := hr
  have hob := hs.obj id _ hid
  simp only [Rep] at hx
  split at hx
  · rename_i b sz cap hμ
    obtain ⟨rfl, hz⟩ := hx
    rw [hμ] at hob
    obtain ⟨cur, e1, e2, e3, e4, e5, e6, e7⟩ := hob.plain hz
    obtain rfl : sz = 2 := by simpa [bRow] using e2.symm
    obtain ⟨g1, xs, g2, g3, g4, g5⟩ := e7.cur e1
    have hc1 : ∃ x1, w.cell? ⟨b, 1, none⟩ = some x1 ∧ Rep μ (Owned μ σ) w buf x1 := by
      have := e7
      simp only [bRow, RepRows, RepRow, RepCells] at this
      obtain ⟨_, ⟨_, ⟨y, h1, h2, _⟩, _⟩, _⟩ := this
      exact ⟨y, h1, h2⟩
    obtain ⟨x1, hc1, hr1⟩ := hc1
    have hfin : ∀ (w' : World) (g : Option Nat), (∀ b, g = some b → Owned μ σ b ∧ ∀ i o sz cap, K i = some o → μ i = .lies b sz cap → False) → w'.os = w.os → w'.tape = w.tape → w'.output = w.output → w'.heap.size = w.heap.size → (∀ k, some k ≠ g → w'.heap[k]? = w.heap[k]?) →
        ∃ r σ' μ' val, Ending.returned (.string ⟨l.toArray⟩) = .returned val ∧ (r = .str l ∧ σ' = K) ∧ MuLe μ μ' ∧ Sat w (Owned μ σ) μ' σ' w' ∧ Rep μ' (Owned μ' σ') w' r val := by
      intro w' g hg h1 h2 h3 h4 h5
      exact ⟨.str l, K, μ, _, rfl, ⟨rfl, rfl⟩, MuLe.refl μ, hs.gone hK g hg h1 h2 h3 h4 h5, by simp [Rep]⟩
    have hnil : ∀ x1', w.cell? ⟨b, 1, none⟩ = some x1' → x1' = .slice none 0 0 → l = [] → Calls P (ρ.f 169) #[.pointer (some ⟨b, 0, none⟩)] w fun e w' => ∃ r σ' μ' val, e = .returned val ∧ (r = .str l ∧ σ' = K) ∧ MuLe μ μ' ∧ Sat w (Owned μ σ) μ' σ' w' ∧ Rep μ' (Owned μ' σ') w' r val := by
      rintro _ hc rfl rfl
      refine (bstring_nil L X b w hc).mono ?_
      rintro e w' ⟨rfl, h1, h2, h3, h4⟩
      exact hfin w' none (by simp) h1 h2 h3 (by rw [h4]) (fun k _ => by rw [h4])
    rcases hout with ⟨rfl, hl⟩ | ⟨i, rfl, hi, hiK⟩
    · simp only [List.map_eq_nil_iff] at hl
      simp only [Rep] at hr1
      simpa using hnil x1 hc1 hr1 hl
    · have hii : i ≠ id := by rintro rfl; simp [Vc.upd] at hiK
      have hiK' : K i = none := by simpa [Vc.upd, hii] using hiK
      simp only [Rep] at hr1
      have hobi := hs.obj i _ hi
      split at hr1
      · exact hr1.elim
      · by_cases hl : l = []
        · subst hl
          obtain ⟨a', ha'⟩ := h0 rfl
          rw [hid] at ha'
          simp [bRow] at ha'
        · obtain ⟨_, _, h3⟩ := hr1
          simp at h3; exact absurd h3 hl
      · rename_i g szg capg hμi
        by_cases hl : l = []
        · subst hl
          obtain ⟨a', ha'⟩ := h0 rfl
          rw [hid] at ha'
          simp [bRow] at ha'
        · obtain ⟨o, c, rfl, hc2, hc3, hc4, hz4⟩ := hr1
          simp only [List.length_map] at hc2
          have ho : o = 0 := by
            rcases hc4 with hc4 | hc4
            · simpa using hc4
            · exact absurd rfl hc4.2
          subst ho
          rw [hμi] at hobi
          obtain ⟨curg, f1, f2, f3, f4, f5, f6, f7⟩ := hobi.plain hz4
          simp only at f1 f2 f7 f5
          subst f2
          simp only [List.length_map] at f5
          have hby := bytes_cells l g 0 f7
          refine (bstring_run L X b g c l w curg hl (by simpa using hc1) f1 hc2 (by omega) (by omega) (fun j x hx => by have := hby j x hx; rwa [Nat.zero_add] at this)).mono ?_
          rintro e w' ⟨rfl, h1, h2, h3, h4, h5⟩
          refine hfin w' (some g) ?_ h1 h2 h3 h4 (fun k hk => h5 k fun e => hk (by rw [e]))
          rintro b' hb'
          cases hb'
          refine ⟨⟨i, _, 1, capg, hi, hμi⟩, fun i' o' sz' cap' q1 q2 => ?_⟩
          have := hs.inj i' i o' _ g sz' cap' 1 capg (hK _ _ q1) hi q2 hμi
          subst this
          rw [q1] at hiK'; cases hiK'
  · exact hx.elim
end Go.Vc
