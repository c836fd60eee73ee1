/- Part 7 of the library of this proof. -/
import Derived.Test.YtnomejmaolodhaaDoorW6
import Derived.Shelf.Strings.Builder1
import Derived.Laws.Tables
set_option linter.all false
namespace Go.Vc
open Go.Proofs Go.Shelf Go.RowKit
variable {P : Program} {ρ : Ren}
theorem upd_self' {σ : Store} {id : Nat} {o : Ob} (h : σ id = some o) : upd σ id o = σ := by
  funext i
  simp only [upd]
  split
  · rename_i e; rw [e, h]
  · rfl
theorem freeze_others (w : World) (g n : Nat) : (w.freeze ⟨g, 0, none⟩ n).os = w.os ∧ (w.freeze ⟨g, 0, none⟩ n).tape = w.tape ∧ (w.freeze ⟨g, 0, none⟩ n).output = w.output ∧ (w.freeze ⟨g, 0, none⟩ n).heap.size = w.heap.size ∧ ∀ k, k ≠ g → (w.freeze ⟨g, 0, none⟩ n).heap[k]? = w.heap[k]? := by
  unfold World.freeze
  split
  · exact ⟨rfl, rfl, rfl, rfl, fun _ _ => rfl⟩
  · refine ⟨rfl, rfl, rfl, by simp, fun k hk => ?_⟩
    simp only [Array.getElem?_modify]
    rw [if_neg (by omega)]
set_option maxHeartbeats 2000000 in
set_option maxRecDepth 100000 in
theorem bstring_run (L : Lays.n169 P ρ) (X : Builder.Extra P ρ) (b g cap : Nat) (l : List UInt8) (w : World) (cur : Array Value) (h0 : l ≠ []) (hbk : w.cell? ⟨b, 1, none⟩ = some (.slice (some ⟨g, 0, none⟩) l.length cap))
    (hg : w.heap[g]? = some (.cells cur (ρ.t 5) (0, 0))) (hnc : l.length ≤ cap) (hcm : cap ≤ maxLen) (hcs : l.length ≤ cur.size) (hcells : ∀ (j : Nat) (x : UInt8), l[j]? = some x → w.cell? ⟨g, j, none⟩ = some (.int .u8 x.toNat)) :
    Calls P (ρ.f 169) #[.pointer (some ⟨b, 0, none⟩)] w fun e w' => e = .returned (.string ⟨l.toArray⟩) ∧ w'.os = w.os ∧ w'.tape = w.tape ∧ w'.output = w.output ∧ w'.heap.size = w.heap.size ∧ ∀ k, k ≠ g → w'.heap[k]? = w.heap[k]? := by
  have hl0 : l.length ≠ 0 := by simpa using h0
  have c1 : w.drew.cell? ⟨b, 1, none⟩ = some (.slice (some ⟨g, 0, none⟩) l.length cap) := hbk
  have hSD : (Builtin.unsafeSliceData_ #[(ρ.t 37)] (ρ.t 127) #[.slice (some ⟨g, 0, none⟩) l.length cap]).run P w.drew = .ok (.pointer (some ⟨g, 0, none⟩)) w.drew :=
    Lib.run_unsafeSliceData_row _ _ _ _ _ _ (by omega)
  have hUS : (Builtin.unsafeString_ #[(ρ.t 127), (ρ.t 3)] (ρ.t 9) #[.pointer (some ⟨g, 0, none⟩), .int .i64 l.length]).run P w.drew = .ok (.string ⟨l.toArray⟩) (w.drew.freeze ⟨g, 0, none⟩ l.length) := by
    refine Lib.run_unsafeString_row w.drew (ρ.t 127) (ρ.t 3) (ρ.t 9) (ρ.t 5) L.t127 X.cellsByte g cur.size (by have hg' : w.drew.heap[g]? = some (.cells cur (ρ.t 5) (0, 0)) := hg; simp [World.shape?, hg']) l h0 (by omega) (by unfold maxLen at hcm; omega) ?_
    intro j x hx
    have := hcells j x hx
    rw [addr_add, Nat.zero_add]
    exact this
  have hfin := freeze_others w.drew g l.length
  have mixed := L.mixed
  have t72 := L.t72; have a72 := L.a72; have z72 := L.z72; have v72 := L.v72; have u72 := run_underlying L.t72
  have t70 := L.t70; have a70 := L.a70; have z70 := L.z70; have v70 := L.v70; have u70 := run_underlying L.t70
  have t37 := L.t37; have a37 := L.a37; have z37 := L.z37; have v37 := L.v37; have u37 := run_underlying L.t37
  have t127 := L.t127; have a127 := L.a127; have z127 := L.z127; have v127 := L.v127; have u127 := run_underlying L.t127
  have t3 := L.t3; have a3 := L.a3; have z3 := L.z3; have v3 := L.v3; have u3 := run_underlying L.t3
  have t9 := L.t9; have a9 := L.a9; have z9 := L.z9; have v9 := L.v9; have u9 := run_underlying L.t9
  have t5 := X.t5; have a5 := X.a5; have z5 := X.z5; have v5 := X.v5; have u5 := run_underlying X.t5
  go_enter L.f169, Body.n169_ntmps ρ
  go_wp2
  go_region_o
  all_goals (go_wp2; go_ret; exact ⟨rfl, hfin⟩)
set_option maxHeartbeats 2000000 in
set_option maxRecDepth 100000 in
theorem bstring_nil (L : Lays.n169 P ρ) (X : Builder.Extra P ρ) (b : Nat) (w : World) (hbk : w.cell? ⟨b, 1, none⟩ = some (.slice none 0 0)) :
    Calls P (ρ.f 169) #[.pointer (some ⟨b, 0, none⟩)] w fun e w' => e = .returned (.string ⟨#[]⟩) ∧ w'.os = w.os ∧ w'.tape = w.tape ∧ w'.output = w.output ∧ w'.heap = w.heap := by
  have hUS := Any.unsafeString_none L X
  have c1 : w.drew.cell? ⟨b, 1, none⟩ = some (.slice none 0 0) := hbk
  have hSD : (Builtin.unsafeSliceData_ #[(ρ.t 37)] (ρ.t 127) #[.slice none 0 0]).run P w.drew = .ok (.pointer none) w.drew := rfl
  have hfin : w.drew.os = w.os ∧ w.drew.tape = w.tape ∧ w.drew.output = w.output ∧ w.drew.heap = w.heap := ⟨rfl, rfl, rfl, rfl⟩
  have mixed := L.mixed
  have t72 := L.t72; have a72 := L.a72; have z72 := L.z72; have v72 := L.v72; have u72 := run_underlying L.t72
  have t70 := L.t70; have a70 := L.a70; have z70 := L.z70; have v70 := L.v70; have u70 := run_underlying L.t70
  have t37 := L.t37; have a37 := L.a37; have z37 := L.z37; have v37 := L.v37; have u37 := run_underlying L.t37
  have t127 := L.t127; have a127 := L.a127; have z127 := L.z127; have v127 := L.v127; have u127 := run_underlying L.t127
  have t3 := L.t3; have a3 := L.a3; have z3 := L.z3; have v3 := L.v3; have u3 := run_underlying L.t3
  have t9 := L.t9; have a9 := L.a9; have z9 := L.z9; have v9 := L.v9; have u9 := run_underlying L.t9
  have t5 := X.t5; have a5 := X.a5; have z5 := X.z5; have v5 := X.v5; have u5 := run_underlying X.t5
  go_enter L.f169, Body.n169_ntmps ρ
  go_wp2
  go_region_o
  all_goals (go_wp2; go_ret; exact ⟨rfl, hfin⟩)
structure CopyCheck (P : Program) (f : FuncId) (B : TypeId) : Prop where
  callable : callable P f = true
  fresh : ∀ (b : Nat) (T : TypeId) (w : World) (n : Nat), 0 < n → w.cell? ⟨b, 0, none⟩ = some (.pointer none) → w.shape? b = some (T, n) → liesAt P P.depth T (n / P.cellsOf T) 0 B 1 = true → w.frozen? ⟨b, 0, none⟩ = false →
    Calls P f #[.pointer (some ⟨b, 0, none⟩)] w fun e w' => e = .returned (.tuple #[]) ∧ w' = w.setCell ⟨b, 0, none⟩ (.pointer (some ⟨b, 0, none⟩))
  used : ∀ (b : Nat) (w : World), w.cell? ⟨b, 0, none⟩ = some (.pointer (some ⟨b, 0, none⟩)) → Calls P f #[.pointer (some ⟨b, 0, none⟩)] w fun e w' => e = .returned (.tuple #[]) ∧ w' = w
def bRow (T : TypeId) (a buf : V) : Ob := ⟨T, 2, [.agg [a, buf]]⟩
theorem lies_any {T u : TypeId} (h : rowAt P (sameLayout P P.depth · u) P.depth T 1 0 1 = true) {c : Nat} (hc : 1 ≤ c) : liesAt P P.depth T c 0 u 1 = true := by
  have hd : P.depth = (2 * (P.types.size + Made.depth) + 1) + 1 := rfl
  have h2 : rowAt P (sameLayout P P.depth · u) P.depth T c 0 1 = true := by
    rw [hd] at h ⊢
    unfold rowAt at h ⊢
    simp only [Nat.zero_div, Nat.zero_mod] at h ⊢
    split at h
    · exact absurd h (by simp)
    · rename_i hs
      rw [if_neg hs]
      simp only [Bool.or_eq_true, Bool.and_eq_true, decide_eq_true_eq] at h ⊢
      rcases h with ⟨h1, h2⟩ | ⟨h1, h2⟩
      · exact .inl ⟨⟨h1.1, by omega⟩, h2⟩
      · exact .inr ⟨by omega, h2⟩
  show liesAt P ((2 * (P.types.size + Made.depth) + 1) + 1) T c 0 u 1 = true
  unfold liesAt
  rw [Bool.or_eq_true]
  exact .inl h2
theorem bcheck_c {f : FuncId} {B : TypeId} (C : CopyCheck P f B) {σ : Store} {id : Nat} {T : TypeId} {a buf : V} (hT : P.cellsOf T = 2) (hlies : rowAt P (sameLayout P P.depth · B) P.depth T 1 0 1 = true) (hid : σ id = some (bRow T a buf))
    (ha : a = .nilp ∨ a = .ptr id 0 0) : Contract P f [.ptr id 0 0] σ fun r σ' => r = .tup [] ∧ σ' = upd σ id (bRow T (.ptr id 0 0) buf) := by
  refine ⟨C.callable, fun μ w vals hs hr => ?_⟩
  simp only [RepAll] at hr
  obtain ⟨x, _, rfl, hx, rfl⟩ := hr
  have hob := hs.obj id _ hid
  simp only [Rep] at hx
  split at hx
  · rename_i b sz cap hμ
    obtain ⟨rfl, hz⟩ := hx
    rw [hμ] at hob
    obtain ⟨cur, e1, e2, e3, e4, e5, e6, e7⟩ := hob.plain hz
    obtain rfl : sz = 2 := by simpa [bRow] using e2.symm
    obtain ⟨g1, xs, g2, g3, g4, g5⟩ := e7.cur e1
    simp only [bRow, List.length_cons, List.length_nil] at e1 g4 e5
    have hcell : ∃ y, w.cell? ⟨b, 0, none⟩ = some y ∧ Rep μ (Owned μ σ) w a y := by
      have := e7
      simp only [bRow, RepRows, RepRow, RepCells] at this
      obtain ⟨_, ⟨⟨y, h1, h2, _⟩, _⟩, _⟩ := this
      exact ⟨y, h1, h2⟩
    obtain ⟨y, hy, hry⟩ := hcell
    rcases ha with rfl | rfl
    · simp only [Rep] at hry
      subst hry
      have hsh : w.shape? b = some (T, cap * 2) := by simp [World.shape?, e1, e4]
      have hfz : w.frozen? ⟨b, 0, none⟩ = false := Lib.frozen_of_heap e1 0
      refine (C.fresh b T w (cap * 2) (by omega) (by simpa using hy) hsh (lies_any hlies (by rw [hT]; omega)) hfz).mono ?_
      rintro e w' ⟨rfl, rfl⟩
      have hset : w.setCell ⟨b, 0, none⟩ (.pointer (some ⟨b, 0, none⟩)) = w.setRow b (cur.setIfInBounds 0 (.pointer (some ⟨b, 0, none⟩))) := setCell_eq_setRow w b 0 cur T (0, 0) _ e1
      rw [hset]
      have hgrow : w.grownBy (w.setRow b (cur.setIfInBounds 0 (.pointer (some ⟨b, 0, none⟩)))) (some b) :=
        ⟨rfl, rfl, rfl, by simp, fun kk _ hkk => setRow_other w b kk _ (fun e => hkk (by rw [e]))⟩
      have hflat : flat (bRow T .nilp buf).rows = [.nilp, buf] := rfl
      rw [hflat] at g2
      simp only [RepAll] at g2
      obtain ⟨x0, _, rfl, _, x1, _, rfl, q1, rfl⟩ := g2
      have hch := hs.change hid hμ hz hgrow (cur.setIfInBounds 0 (.pointer (some ⟨b, 0, none⟩))) [.agg [.ptr id 0 0, buf]] [.pointer (some ⟨b, 0, none⟩), x1]
        (setRow_heap w b cur _ T _ e1) (by simpa using e4) (by simpa using e5) (by simp [V.cells])
        (by
          show RepAll μ (Owned μ σ) w [.ptr id 0 0, buf] _
          simp only [RepAll]
          refine ⟨_, _, rfl, ?_, _, _, rfl, q1, rfl⟩
          simp only [Rep, hμ]
          simp)
        (by
          intro u hu
          simp only [List.mem_cons, List.not_mem_nil, or_false] at hu
          rcases hu with hu | hu
          · rw [hu]; rfl
          · rw [hu]; exact g3 x1 (by simp))
        (by
          intro j u hu
          have hc0 : 0 < cur.size := by omega
          match j, hu with
          | 0, hu => simp at hu; subst hu; simp [hc0]
          | 1, hu =>
            have := g5 1 x1 (by simp)
            simp at hu
            rw [← hu]
            simpa using this
          | j + 2, hu => simp at hu)
      exact ⟨.tup [], _, μ, _, rfl, ⟨rfl, rfl⟩, MuLe.refl μ, hch.1, by simp only [Rep]; exact ⟨[], rfl, by simp [RepAll]⟩⟩
    · simp only [Rep, hμ] at hry
      obtain ⟨rfl, _⟩ := hry
      refine (C.used b w (by simpa using hy)).mono ?_
      rintro e w' ⟨rfl, rfl⟩
      refine ⟨.tup [], σ, μ, _, rfl, ⟨rfl, (upd_self' hid).symm⟩, MuLe.refl μ, hs, by simp only [Rep]; exact ⟨[], rfl, by simp [RepAll]⟩⟩
  · exact hx.elim
structure IsB (T u8 : TypeId) (K σ : Store) (id : Nat) (l : List UInt8) : Prop where
  sub : SubStore K σ
  new : K id = none
  row : ∃ a buf, σ id = some (bRow T a buf) ∧ (a = .nilp ∨ a = .ptr id 0 0) ∧ OutV (upd K id (bRow T a buf)) σ u8 1 buf (l.map fun b => .int .u8 b.toNat)
theorem IsB.start {T u8 : TypeId} {K σ : Store} {id : Nat} (hs : SubStore K σ) (hn : K id = none) (hid : σ id = some (bRow T .nilp .nils)) : IsB T u8 K σ id [] :=
  ⟨hs, hn, _, _, hid, .inl rfl, .inl ⟨rfl, rfl⟩⟩
theorem IsB.mono {T u8 : TypeId} {K σ σ' : Store} {id : Nat} {l : List UInt8} (h : IsB T u8 K σ id l) (hs : SubStore σ σ') : IsB T u8 K σ' id l := by
  obtain ⟨h1, h2, a, buf, h3, h4, h5⟩ := h
  refine ⟨h1.trans hs, h2, a, buf, hs _ _ h3, h4, ?_⟩
  rcases h5 with ⟨h5, h6⟩ | ⟨i, h5, h6, h7⟩
  · exact .inl ⟨h5, h6⟩
  · exact .inr ⟨i, h5, hs _ _ h6, h7⟩
theorem IsB.less {T u8 : TypeId} {K K' σ : Store} {id : Nat} {l : List UInt8} (h : IsB T u8 K σ id l) (hs : SubStore K' K) : IsB T u8 K' σ id l := by
  obtain ⟨h1, h2, a, buf, h3, h4, h5⟩ := h
  refine ⟨hs.trans h1, hs.none h2, a, buf, h3, h4, ?_⟩
  rcases h5 with ⟨h5, h6⟩ | ⟨i, h5, h6, h7⟩
  · exact .inl ⟨h5, h6⟩
  · refine .inr ⟨i, h5, h6, ?_⟩
    unfold Vc.upd at h7 ⊢
    split at h7
    · cases h7
    · rename_i hi; rw [if_neg hi]; exact hs.none h7
theorem Sat.gone {w w' : World} {μ : Mu} {σ K : Store} (h : Sat w (Owned μ σ) μ σ w) (hK : SubStore K σ) (g : Option Nat) (hg : ∀ b, g = some b → Owned μ σ b ∧ ∀ i o sz cap, K i = some o → μ i = .lies b sz cap → False)
    (h1 : w'.os = w.os) (h2 : w'.tape = w.tape) (h3 : w'.output = w.output) (h4 : w'.heap.size = w.heap.size) (h5 : ∀ k, some k ≠ g → w'.heap[k]? = w.heap[k]?) : Sat w (Owned μ σ) μ K w' := by
  have hk : Keeps (Owned μ σ) (Owned μ K) w w' := fun b _ hn => ⟨fun ho => hn (ho.sub hK), h5 b fun e => hn (hg b e.symm).1⟩
  refine ⟨by omega, h1, h2, h3, fun b hb hn => (hk b hb hn).2, h.fin, fun i i' o o' b sz cap sz' cap' a1 a2 a3 a4 => h.inj i i' o o' b sz cap sz' cap' (hK _ _ a1) (hK _ _ a2) a3 a4, fun i o ho => ?_, fun b hb _ => hb.sub hK, h.glob⟩
  refine (h.obj i o (hK _ _ ho)).mono (MuLe.refl μ) hk (by omega) fun b sz cap hp => h5 b fun e => ?_
  exact (hg b e.symm).2 i o sz cap ho hp
theorem bytes_cells {μ : Mu} {ow : Nat → Prop} {w : World} : ∀ (l : List UInt8) (b off : Nat), RepRows μ ow w (l.map fun b => V.int .u8 b.toNat) b off 1 → ∀ (j : Nat) (x : UInt8), l[j]? = some x → w.cell? ⟨b, off + j, none⟩ = some (.int .u8 x.toNat)
  | [], _, _, _, j, x, h => by simp at h
  | y :: l, b, off, h, j, x, hx => by
    simp only [List.map_cons, RepRows, RepRow] at h
    obtain ⟨_, ⟨z, h1, h2, _⟩, h3⟩ := h
    simp only [Rep] at h2
    cases j with
    | zero => simp only [List.getElem?_cons_zero, Option.some.injEq] at hx; subst hx; rw [Nat.add_zero, h1, h2]
    | succ j =>
      have := bytes_cells l b (off + 1) h3 j x (by simpa using hx)
      rw [show off + (j + 1) = off + 1 + j by omega]; exact this
theorem bstring_c (L : Lays.n169 P ρ) (X : Builder.Extra P ρ) (hcl : callable P (ρ.f 169) = true) {T : TypeId} {K σ : Store} {id : Nat} {l : List UInt8} (h : IsB T (ρ.t 5) K σ id l) (h0 : l = [] → ∃ a, σ id = some (bRow T a .nils)) :
    Contract P (ρ.f 169) [.ptr id 0 0] σ fun r σ' => r = .str l ∧ σ' = K := by
  obtain ⟨hK, hKid, a, buf, hid, ha, hout⟩ := h
  refine ⟨hcl, fun μ w vals hs hr => ?_⟩
  simp only [RepAll] at hr
  obtain ⟨x, _, rfl, hx, rfl⟩ := hr
  have hob := hs.obj id _ hid
  simp only [Rep] at hx
  split at hx
  · rename_i b sz cap hμ
    obtain ⟨rfl, hz⟩ := hx
    rw [hμ] at hob
    obtain ⟨cur, e1, e2, e3, e4, e5, e6, e7⟩ := hob.plain hz
    obtain rfl : sz = 2 := by simpa [bRow] using e2.symm
    obtain ⟨g1, xs, g2, g3, g4, g5⟩ := e7.cur e1
    have hc1 : ∃ x1, w.cell? ⟨b, 1, none⟩ = some x1 ∧ Rep μ (Owned μ σ) w buf x1 := by
      have := e7
      simp only [bRow, RepRows, RepRow, RepCells] at this
      obtain ⟨_, ⟨_, ⟨y, h1, h2, _⟩, _⟩, _⟩ := this
      exact ⟨y, h1, h2⟩
    obtain ⟨x1, hc1, hr1⟩ := hc1
    have hfin : ∀ (w' : World) (g : Option Nat), (∀ b, g = some b → Owned μ σ b ∧ ∀ i o sz cap, K i = some o → μ i = .lies b sz cap → False) → w'.os = w.os → w'.tape = w.tape → w'.output = w.output → w'.heap.size = w.heap.size → (∀ k, some k ≠ g → w'.heap[k]? = w.heap[k]?) →
        ∃ r σ' μ' val, Ending.returned (.string ⟨l.toArray⟩) = .returned val ∧ (r = .str l ∧ σ' = K) ∧ MuLe μ μ' ∧ Sat w (Owned μ σ) μ' σ' w' ∧ Rep μ' (Owned μ' σ') w' r val := by
      intro w' g hg h1 h2 h3 h4 h5
      exact ⟨.str l, K, μ, _, rfl, ⟨rfl, rfl⟩, MuLe.refl μ, hs.gone hK g hg h1 h2 h3 h4 h5, by simp [Rep]⟩
    have hnil : ∀ x1', w.cell? ⟨b, 1, none⟩ = some x1' → x1' = .slice none 0 0 → l = [] → Calls P (ρ.f 169) #[.pointer (some ⟨b, 0, none⟩)] w fun e w' => ∃ r σ' μ' val, e = .returned val ∧ (r = .str l ∧ σ' = K) ∧ MuLe μ μ' ∧ Sat w (Owned μ σ) μ' σ' w' ∧ Rep μ' (Owned μ' σ') w' r val := by
      rintro _ hc rfl rfl
      refine (bstring_nil L X b w hc).mono ?_
      rintro e w' ⟨rfl, h1, h2, h3, h4⟩
      exact hfin w' none (by simp) h1 h2 h3 (by rw [h4]) (fun k _ => by rw [h4])
    rcases hout with ⟨rfl, hl⟩ | ⟨i, rfl, hi, hiK⟩
    · simp only [List.map_eq_nil_iff] at hl
      simp only [Rep] at hr1
      simpa using hnil x1 hc1 hr1 hl
    · have hii : i ≠ id := by rintro rfl; simp [Vc.upd] at hiK
      have hiK' : K i = none := by simpa [Vc.upd, hii] using hiK
      simp only [Rep] at hr1
      have hobi := hs.obj i _ hi
      split at hr1
      · exact hr1.elim
      · by_cases hl : l = []
        · subst hl
          obtain ⟨a', ha'⟩ := h0 rfl
          rw [hid] at ha'
          simp [bRow] at ha'
        · obtain ⟨_, _, h3⟩ := hr1
          simp at h3; exact absurd h3 hl
      · rename_i g szg capg hμi
        by_cases hl : l = []
        · subst hl
          obtain ⟨a', ha'⟩ := h0 rfl
          rw [hid] at ha'
          simp [bRow] at ha'
        · obtain ⟨o, c, rfl, hc2, hc3, hc4, hz4⟩ := hr1
          simp only [List.length_map] at hc2
          have ho : o = 0 := by
            rcases hc4 with hc4 | hc4
            · simpa using hc4
            · exact absurd rfl hc4.2
          subst ho
          rw [hμi] at hobi
          obtain ⟨curg, f1, f2, f3, f4, f5, f6, f7⟩ := hobi.plain hz4
          simp only at f1 f2 f7 f5
          subst f2
          simp only [List.length_map] at f5
          have hby := bytes_cells l g 0 f7
          refine (bstring_run L X b g c l w curg hl (by simpa using hc1) f1 hc2 (by omega) (by omega) (fun j x hx => by have := hby j x hx; rwa [Nat.zero_add] at this)).mono ?_
          rintro e w' ⟨rfl, h1, h2, h3, h4, h5⟩
          refine hfin w' (some g) ?_ h1 h2 h3 h4 (fun k hk => h5 k fun e => hk (by rw [e]))
          rintro b' hb'
          cases hb'
          refine ⟨⟨i, _, 1, capg, hi, hμi⟩, fun i' o' sz' cap' q1 q2 => ?_⟩
          have := hs.inj i' i o' _ g sz' cap' 1 capg (hK _ _ q1) hi q2 hμi
          subst this
          rw [q1] at hiK'; cases hiK'
  · exact hx.elim
end Go.Vc
namespace Go.Vc
open Go.Proofs
def Sml (l : List Nd) : Prop := l.length ≤ 10000 ∧ ∀ x ∈ l, x.words.length ≤ 1000000000
theorem Sml.fine {l : List Nd} (h : Sml l) : Fine l := ⟨h.1, fun x hx => by have := h.2 x hx; omega⟩
set_option maxRecDepth 100000 in
theorem clone_c (l : List Nd) (hl : l.length ≤ 10000) (σ : Store) : Contract Tryd.prog 41 [encNs l] σ fun r σ' => SubStore σ σ' ∧ OutV σ σ' 42 20 r (l.map encN) := by
  refine Contract.of_runs Tryd.func41 e41 k41 (by simp [c41]) ?_
  refine Runs.mix 3 ?_
  (refine Runs.of_step Orc.nothing 8 ?_; simp -implicitDefEqProofs only [BB,seval,← decide_not,okind,vpre,vpure,intBin,intPre,strBin,strPre,popTo,argSlots,fldV,fldAV,subCells,idxVV,idxAAV,idxSV,sliceV,sliceSV,boundV,szIs,storeOp,storeS,setRowV,eff,extV,buildV,splice,eqSV,fitsL,eqCells,eqCell,minmaxV,capV,binBV,nilCheckV,bytesV,V.cells,V.stays,s_zero,Orc.nothing,c41])
  refine Runs.nilS rfl rfl rfl fun b hb => ?_
  cases b
  · (refine Runs.of_step Orc.nothing 300 ?_; simp -implicitDefEqProofs only [BB,seval,← decide_not,okind,vpre,vpure,intBin,intPre,strBin,strPre,popTo,argSlots,fldV,fldAV,subCells,idxVV,idxAAV,idxSV,sliceV,sliceSV,boundV,szIs,storeOp,storeS,setRowV,eff,extV,buildV,splice,eqSV,fitsL,eqCells,eqCell,minmaxV,capV,binBV,nilCheckV,bytesV,V.cells,V.stays,Orc.nothing])
    refine effR_new fun id1 σ1 s1 a1 f1 => ?_
    obtain ⟨idA, hd, hdel⟩ := (OutV.new (K := σ) (e := 42) (sz := 20) (n := 0) (rows := []) rfl a1 f1).dst (SubStore.refl _)
    have hsrc : ∀ σ, srcRows σ 20 (encNs l) = some (l.map encN) := fun σ => by simp [encNs, srcRows]
    have hb2 : l.length * 177 ≤ 140737488355328 := by omega
    simp -implicitDefEqProofs only [BB,seval,← decide_not,okind,vpre,vpure,intBin,intPre,strBin,strPre,popTo,argSlots,fldV,fldAV,subCells,idxVV,idxAAV,idxSV,sliceV,sliceSV,boundV,szIs,storeOp,storeS,setRowV,eff,extV,buildV,splice,eqSV,fitsL,eqCells,eqCell,minmaxV,capV,binBV,nilCheckV,bytesV,V.cells,V.stays,hd,hsrc,List.length_map,hb2]
    refine effR_put fun id2 σ2 s2 a2 f2 => ?_
    have hs2 := (hdel σ (SubStore.refl _) σ1 s1).trans s2
    simp -implicitDefEqProofs only [BB,seval,← decide_not,okind,vpre,vpure,intBin,intPre,strBin,strPre,popTo,argSlots,fldV,fldAV,subCells,idxVV,idxAAV,idxSV,sliceV,sliceSV,boundV,szIs,storeOp,storeS,setRowV,eff,extV,buildV,splice,eqSV,fitsL,eqCells,eqCell,minmaxV,capV,binBV,nilCheckV,bytesV,V.cells,V.stays]
    refine ⟨_, _, SubStore.refl _, Wk.refl (SubStore.refl _) _, hs2, OutV.new (by simp) a2 (s1.none f2)⟩
  · (refine Runs.of_step Orc.nothing 300 ?_; simp -implicitDefEqProofs only [BB,seval,← decide_not,okind,vpre,vpure,intBin,intPre,strBin,strPre,popTo,argSlots,fldV,fldAV,subCells,idxVV,idxAAV,idxSV,sliceV,sliceSV,boundV,szIs,storeOp,storeS,setRowV,eff,extV,buildV,splice,eqSV,fitsL,eqCells,eqCell,minmaxV,capV,binBV,nilCheckV,bytesV,V.cells,V.stays,Orc.nothing])
    refine ⟨_, _, SubStore.refl _, Wk.refl (SubStore.refl _) _, SubStore.refl _, ?_⟩
    have : l.map encN = [] := hb rfl
    rw [this]
    exact OutV.start
set_option maxRecDepth 100000 in
theorem cloneI_c (l : List Int) (hl : l.length ≤ 1000000000) : PFun Tryd.prog 42 [encI l] (encI l) := fun σ => by
  refine Contract.of_runs Tryd.func42 e42 k42 (by simp [c42]) ?_
  refine Runs.mix 3 ?_
  (refine Runs.of_step Orc.nothing 8 ?_; simp -implicitDefEqProofs only [BB,seval,← decide_not,okind,vpre,vpure,intBin,intPre,strBin,strPre,popTo,argSlots,fldV,fldAV,subCells,idxVV,idxAAV,idxSV,sliceV,sliceSV,boundV,szIs,storeOp,storeS,setRowV,eff,extV,buildV,splice,eqSV,fitsL,eqCells,eqCell,minmaxV,capV,binBV,nilCheckV,bytesV,V.cells,V.stays,s_zero,Orc.nothing,c42])
  refine Runs.nilS rfl rfl rfl fun b hb => ?_
  cases b
  · (refine Runs.of_step Orc.nothing 300 ?_; simp -implicitDefEqProofs only [BB,seval,← decide_not,okind,vpre,vpure,intBin,intPre,strBin,strPre,popTo,argSlots,fldV,fldAV,subCells,idxVV,idxAAV,idxSV,sliceV,sliceSV,boundV,szIs,storeOp,storeS,setRowV,eff,extV,buildV,splice,eqSV,fitsL,eqCells,eqCell,minmaxV,capV,binBV,nilCheckV,bytesV,V.cells,V.stays,Orc.nothing])
    refine effR_new fun id1 σ1 s1 a1 f1 => ?_
    obtain ⟨idA, hd, hdel⟩ := (OutV.new (K := σ) (e := 3) (sz := 1) (n := 0) (rows := []) rfl a1 f1).dst (SubStore.refl _)
    have hb2 : l.length * 9 ≤ 140737488355328 := by omega
    simp -implicitDefEqProofs only [BB,seval,← decide_not,okind,vpre,vpure,intBin,intPre,strBin,strPre,popTo,argSlots,fldV,fldAV,subCells,idxVV,idxAAV,idxSV,sliceV,sliceSV,boundV,szIs,storeOp,storeS,setRowV,eff,extV,buildV,splice,eqSV,fitsL,eqCells,eqCell,minmaxV,capV,binBV,nilCheckV,bytesV,V.cells,V.stays,hd,srcRows_encI,List.length_map,hb2]
    refine effR_put fun id2 σ2 s2 a2 f2 => ?_
    have hs2 := (hdel σ (SubStore.refl _) σ1 s1).trans s2
    simp -implicitDefEqProofs only [BB,seval,← decide_not,okind,vpre,vpure,intBin,intPre,strBin,strPre,popTo,argSlots,fldV,fldAV,subCells,idxVV,idxAAV,idxSV,sliceV,sliceSV,boundV,szIs,storeOp,storeS,setRowV,eff,extV,buildV,splice,eqSV,fitsL,eqCells,eqCell,minmaxV,capV,binBV,nilCheckV,bytesV,V.cells,V.stays]
    exact (OutV.new (K := σ) (e := 3) (sz := 1) (n := l.length) (rows := l.map vI) (by simp) a2 (s1.none f2)).retv hs2 rfl
  · (refine Runs.of_step Orc.nothing 300 ?_; simp -implicitDefEqProofs only [BB,seval,← decide_not,okind,vpre,vpure,intBin,intPre,strBin,strPre,popTo,argSlots,fldV,fldAV,subCells,idxVV,idxAAV,idxSV,sliceV,sliceSV,boundV,szIs,storeOp,storeS,setRowV,eff,extV,buildV,splice,eqSV,fitsL,eqCells,eqCell,minmaxV,capV,binBV,nilCheckV,bytesV,V.cells,V.stays,Orc.nothing])
    have : l.map vI = [] := hb rfl
    exact (OutV.start (K := σ) (σ := σ) (e := 3) (sz := 1)).retv (SubStore.refl _) (by rw [encI, this])
set_option maxRecDepth 100000 in
theorem own9_o (l : List Nd) (hl : Sml l) (σ : Store) : Contract Tryd.prog 24 [encNs l] σ fun r σ' => SubStore σ σ' ∧ OutV σ σ' 42 20 r (l.map encN) := by
  obtain ⟨hl1, hl2⟩ := hl
  refine Contract.of_runs Tryd.func24 e24 k24 (by simp [c24]) ?_
  refine Runs.mix 10 ?_
  (refine Runs.of_step Orc.nothing 300 ?_; simp -implicitDefEqProofs only [BB,seval,← decide_not,okind,vpre,vpure,intBin,intPre,strBin,strPre,popTo,argSlots,fldV,fldAV,subCells,idxVV,idxAAV,idxSV,sliceV,sliceSV,boundV,szIs,storeOp,storeS,setRowV,eff,extV,buildV,splice,eqSV,fitsL,eqCells,eqCell,minmaxV,capV,binBV,nilCheckV,bytesV,V.cells,V.stays,Orc.nothing,c24])
  refine Runs.call rfl rfl rfl (clone_c l hl1 _) ?_
  rintro r σ1 ⟨hsub, hout⟩
  have hlen := hout.len
  rw [List.length_map] at hlen
  (refine Runs.of_step Orc.nothing 300 ?_; simp -implicitDefEqProofs only [BB,seval,← decide_not,okind,vpre,vpure,intBin,intPre,strBin,strPre,popTo,argSlots,fldV,fldAV,subCells,idxVV,idxAAV,idxSV,sliceV,sliceSV,boundV,szIs,storeOp,storeS,setRowV,eff,extV,buildV,splice,eqSV,fitsL,eqCells,eqCell,minmaxV,capV,binBV,nilCheckV,bytesV,V.cells,V.stays,Orc.nothing,hlen])
  refine Runs.loop (fun m st => ∃ (i : Nat), i ≤ l.length ∧ m = l.length - i ∧ st.σ = σ1 ∧ st.s 3 = r ∧ st.s 8 = vI l.length ∧ st.s 9 = vI i) l.length ?_ ?_
  · exact ⟨0, by omega, rfl, rfl, rfl, rfl, rfl⟩
  · rintro m ⟨s, σ'⟩ ⟨i, hi, rfl, hσ, h3, h8, h9⟩
    simp only at hσ h3 h8 h9
    subst hσ
    refine Runs.mix 10 ?_
    have hend : i = l.length → RetV r σ' fun r σ' => SubStore σ σ' ∧ OutV σ σ' 42 20 r (l.map encN) := fun _ =>
      ⟨_, _, SubStore.refl _, Wk.refl (SubStore.refl _) _, hsub, hout⟩
    have hout' := hout
    rcases hout' with ⟨rfl, hr0⟩ | ⟨id, rfl, ho, hk⟩
    · have hl0 : l = [] := by cases l with | nil => rfl | cons a b => simp at hr0
      subst hl0
      (refine Runs.of_step Orc.nothing 300 ?_; simp -implicitDefEqProofs only [BB,seval,← decide_not,okind,vpre,vpure,intBin,intPre,strBin,strPre,popTo,argSlots,fldV,fldAV,subCells,idxVV,idxAAV,idxSV,sliceV,sliceSV,boundV,szIs,storeOp,storeS,setRowV,eff,extV,buildV,splice,eqSV,fitsL,eqCells,eqCell,minmaxV,capV,binBV,nilCheckV,bytesV,V.cells,V.stays,Orc.nothing,h3,h8,h9])
      exact ⟨fun h => by first | omega | (simp at h; omega), fun _ => hend (by simpa using hi)⟩
    · rw [List.length_map] at h3 hend
      (refine Runs.of_step Orc.nothing 40 ?_; simp -implicitDefEqProofs only [BB,seval,← decide_not,okind,vpre,vpure,intBin,intPre,strBin,strPre,popTo,argSlots,fldV,fldAV,subCells,idxVV,idxAAV,idxSV,sliceV,sliceSV,boundV,szIs,storeOp,storeS,setRowV,eff,extV,buildV,splice,eqSV,fitsL,eqCells,eqCell,minmaxV,capV,binBV,nilCheckV,bytesV,V.cells,V.stays,s_zero,Orc.nothing,h3,h8,h9])
      refine And.intro (fun h => ?_) (fun h => ?_)
      · have hlt : i < l.length := by omega
        have hrow : (l.map encN)[i]? = some (encN l[i]) := by simp [hlt]
        have hset : (l.map encN).set i (encN l[i]) = l.map encN := by
          have : (l.map encN)[i]'(by simpa using hlt) = encN l[i] := by simp
          rw [← this, List.set_getElem_self]
        have hc : (0 : Int) ≤ (i : Int) ∧ (i : Int) < l.length := by omega
        have hw := hl2 _ (List.getElem_mem hlt)
        generalize hxe : l[i] = x at *
        have hrow' : (l.map encN)[i]? = some (.agg x.cells) := hrow
        simp -implicitDefEqProofs only [BB,seval,← decide_not,okind,vpre,vpure,intBin,intPre,strBin,strPre,popTo,argSlots,fldV,fldAV,subCells,idxVV,idxAAV,idxSV,sliceV,sliceSV,boundV,szIs,storeOp,storeS,setRowV,eff,extV,buildV,splice,eqSV,fitsL,eqCells,eqCell,minmaxV,capV,binBV,nilCheckV,bytesV,V.cells,V.stays,ho,hc,hrow',Nd.cells,h3,h8,h9,Int.toNat_natCast,s_zero]
        refine Runs.pcall rfl rfl rfl (cloneI_c x.words hw _) ?_
        have hset' := hset
        simp only [encN,Nd.cells,encI] at hset'
        (refine Runs.of_step Orc.nothing 300 ?_; simp -implicitDefEqProofs only [BB,seval,← decide_not,okind,vpre,vpure,intBin,intPre,strBin,strPre,popTo,argSlots,fldV,fldAV,subCells,idxVV,idxAAV,idxSV,sliceV,sliceSV,boundV,szIs,storeOp,storeS,setRowV,eff,extV,buildV,splice,eqSV,fitsL,eqCells,eqCell,minmaxV,capV,binBV,nilCheckV,bytesV,V.cells,V.stays,Orc.nothing,ho,hc,hrow',Nd.cells,encI,hset',upd_self' ho,h3,h8,h9,Int.toNat_natCast])
        exact ⟨inR_i64 (by omega) (by omega), _, by omega, i + 1, by omega, rfl, by rw [List.length_map], by simp⟩
      · exact hend (by omega)
theorem own9_c (l : List Nd) (hl : Sml l) : PFun Tryd.prog 24 [encNs l] (encNs l) := fun σ =>
  (own9_o l hl σ).weak fun _ _ h => h.2.retv h.1 rfl
end Go.Vc
namespace Go.Vc
open Go.Proofs
set_option maxRecDepth 100000 in
theorem equal_c (a b : List Int) (ha : a.length ≤ 200000000000000) : PFun Tryd.prog 50 [encI a, encI b] (.bool (decide (a = b))) := fun σ => by
  refine Contract.of_runs Tryd.func50 e50 k50 (by simp [c50]) ?_
  refine Runs.mix 14 ?_
  (refine Runs.of_step Orc.nothing 300 ?_; simp -implicitDefEqProofs only [BB,seval,effR_some,effD_some,← decide_not,okind,vpre,vpure,intBin,intPre,strBin,strPre,popTo,argSlots,fldV,fldAV,subCells,idxVV,idxAAV,idxSV,sliceV,sliceSV,boundV,szIs,storeOp,storeS,setRowV,eff,extV,buildV,splice,eqSV,fitsL,eqCells,eqCell,minmaxV,capV,binBV,nilCheckV,bytesV,V.cells,V.stays,Orc.nothing,c50,lenV_encI])
  refine And.intro (fun h => ?_) (fun h => ?_)
  · refine RetV.same ?_
    rw [V.bool.injEq]; symm
    rw [decide_eq_false_iff_not]
    rintro rfl
    simp at h
  · have hl : a.length = b.length := by
      have : (a.length : Int) = b.length := by simpa using h
      omega
    refine Runs.loop (fun m st => ∃ i : Nat, i ≤ a.length ∧ m = a.length - i ∧ a.take i = b.take i ∧ st.σ = σ ∧ st.s 0 = encI a ∧ st.s 1 = encI b ∧ st.s 12 = vI a.length ∧ st.s 13 = vI i) a.length ?_ ?_
    · exact ⟨0, by omega, by omega, rfl, rfl, rfl, rfl, rfl, rfl⟩
    · rintro m ⟨s, σ'⟩ ⟨i, hi, rfl, ht, hσ, h0, h1, h12, h13⟩
      simp only at hσ h0 h1 h12 h13
      subst hσ
      refine Runs.mix 14 ?_
      (refine Runs.of_step Orc.nothing 300 ?_; simp -implicitDefEqProofs only [BB,seval,effR_some,effD_some,← decide_not,okind,vpre,vpure,intBin,intPre,strBin,strPre,popTo,argSlots,fldV,fldAV,subCells,idxVV,idxAAV,idxSV,sliceV,sliceSV,boundV,szIs,storeOp,storeS,setRowV,eff,extV,buildV,splice,eqSV,fitsL,eqCells,eqCell,minmaxV,capV,binBV,nilCheckV,bytesV,V.cells,V.stays,Orc.nothing,h0,h1,h12,h13])
      refine And.intro (fun hlt => ?_) (fun hge => ?_)
      · have hlt' : i < a.length := by omega
        have hlt2 : i < b.length := by omega
        simp -implicitDefEqProofs only [BB,seval,effR_some,effD_some,← decide_not,okind,vpre,vpure,intBin,intPre,strBin,strPre,popTo,argSlots,fldV,fldAV,subCells,idxVV,idxAAV,idxSV,sliceV,sliceSV,boundV,szIs,storeOp,storeS,setRowV,eff,extV,buildV,splice,eqSV,fitsL,eqCells,eqCell,minmaxV,capV,binBV,nilCheckV,bytesV,V.cells,V.stays,idxAV_encI hlt',idxAV_encI hlt2,h0,h1,h12,h13]
        refine And.intro (fun hd => ?_) (fun hd => ?_)
        · refine RetV.same ?_
          rw [V.bool.injEq]; symm
          rw [decide_eq_false_iff_not]
          rintro rfl
          exact hd rfl
        · refine ⟨inR_i64 (by omega) (by omega), _, ?_, i + 1, by omega, rfl, ?_, by simp⟩
          · omega
          · rw [List.take_succ_eq_append_getElem hlt', List.take_succ_eq_append_getElem hlt2, ht]
            have : a[i] = b[i] := by simpa using hd
            rw [this]
      · have hie : i = a.length := by omega
        refine RetV.same ?_
        rw [V.bool.injEq]; symm
        rw [decide_eq_true_eq]
        rw [hie, List.take_length] at ht
        rw [ht, hl, List.take_length]
set_option maxRecDepth 100000 in
theorem one9_c (a b : Nd) (ha : a.words.length ≤ 200000000000000) : PFun Tryd.prog 49 [encN a, encN b] (.bool (decide (a = b))) := fun σ => by
  refine Contract.of_runs Tryd.func49 e49 k49 (by simp [c49]) ?_
  refine Runs.mix 6 ?_
  (refine Runs.of_step Orc.nothing 300 ?_; simp -implicitDefEqProofs only [BB,seval,← decide_not,okind,vpre,vpure,intBin,intPre,strBin,strPre,popTo,argSlots,fldV,fldAV,subCells,idxVV,idxAAV,idxSV,sliceV,sliceSV,boundV,szIs,storeOp,storeS,setRowV,eff,extV,buildV,splice,eqSV,fitsL,eqCells,eqCell,minmaxV,capV,binBV,nilCheckV,bytesV,V.cells,V.stays,Orc.nothing,c49,encN,Nd.cells])
  refine effR_new fun id2 σ1 s1 a2 f2 => ?_
  simp -implicitDefEqProofs only [BB,seval,← decide_not,okind,vpre,vpure,intBin,intPre,strBin,strPre,popTo,argSlots,fldV,fldAV,subCells,idxVV,idxAAV,idxSV,sliceV,sliceSV,boundV,szIs,storeOp,storeS,setRowV,eff,extV,buildV,splice,eqSV,fitsL,eqCells,eqCell,minmaxV,capV,binBV,nilCheckV,bytesV,V.cells,V.stays,a2]
  refine effR_new fun id3 σ2 s2 a3 f3 => ?_
  have n23 := ne_new a2 f3
  have a2 := s2 _ _ a2
  have hs := s1.trans s2
  simp -implicitDefEqProofs only [BB,seval,← decide_not,okind,vpre,vpure,intBin,intPre,strBin,strPre,popTo,argSlots,fldV,fldAV,subCells,idxVV,idxAAV,idxSV,sliceV,sliceSV,boundV,szIs,storeOp,storeS,setRowV,eff,extV,buildV,splice,eqSV,fitsL,eqCells,eqCell,minmaxV,capV,binBV,nilCheckV,bytesV,V.cells,V.stays,a2,a3]
  refine Runs.pcall rfl rfl rfl (equal_c a.words b.words ha _) ?_
  by_cases hw : a.words = b.words
  · have hwt : decide (a.words = b.words) = true := decide_eq_true hw
    (refine Runs.of_step Orc.nothing 300 ?_; simp -implicitDefEqProofs only [BB,seval,← decide_not,okind,vpre,vpure,intBin,intPre,strBin,strPre,popTo,argSlots,fldV,fldAV,subCells,idxVV,idxAAV,idxSV,sliceV,sliceSV,boundV,szIs,storeOp,storeS,setRowV,eff,extV,buildV,splice,eqSV,fitsL,eqCells,eqCell,minmaxV,capV,binBV,nilCheckV,bytesV,V.cells,V.stays,Orc.nothing,hwt,a2,a3,styEq])
    refine And.intro (fun c1 => And.intro (fun c2 => And.intro (fun c3 => And.intro (fun c4 => And.intro (fun c5 => And.intro (fun c6 => And.intro (fun c7 => ?_) (fun c7 => ?_)) (fun c6 => ?_)) (fun c5 => ?_)) (fun c4 => ?_)) (fun c3 => ?_)) (fun c2 => ?_)) (fun c1 => ?_)
    all_goals (refine RetV.pure hs ?_; rw [V.bool.injEq])
    · rw [Bool.eq_iff_iff, decide_eq_true_eq, decide_eq_true_eq]
      cases a; cases b; simp_all
    all_goals (symm; rw [decide_eq_false_iff_not]; rintro rfl; simp at *)
  · have hwt : decide (a.words = b.words) = false := decide_eq_false hw
    (refine Runs.of_step Orc.nothing 300 ?_; simp -implicitDefEqProofs only [BB,seval,← decide_not,okind,vpre,vpure,intBin,intPre,strBin,strPre,popTo,argSlots,fldV,fldAV,subCells,idxVV,idxAAV,idxSV,sliceV,sliceSV,boundV,szIs,storeOp,storeS,setRowV,eff,extV,buildV,splice,eqSV,fitsL,eqCells,eqCell,minmaxV,capV,binBV,nilCheckV,bytesV,V.cells,V.stays,Orc.nothing,hwt,a2,a3,styEq])
    refine RetV.pure hs ?_
    rw [V.bool.injEq]; symm
    rw [decide_eq_false_iff_not]; rintro rfl; exact hw rfl
set_option maxRecDepth 100000 in
theorem eqf_c (a b : List Nd) (ha : Fine a) (hb : Fine b) : PFun Tryd.prog 48 [encNs a, encNs b, .fn 49 []] (.bool (decide (a = b))) := fun σ => by
  have hal := ha.1
  refine Contract.of_runs Tryd.func48 e48 k48 (by simp [c48]) ?_
  refine Runs.mix 18 ?_
  (refine Runs.of_step Orc.nothing 300 ?_; simp -implicitDefEqProofs only [BB,seval,← decide_not,okind,vpre,vpure,intBin,intPre,strBin,strPre,popTo,argSlots,fldV,fldAV,subCells,idxVV,idxAAV,idxSV,sliceV,sliceSV,boundV,szIs,storeOp,storeS,setRowV,eff,extV,buildV,splice,eqSV,fitsL,eqCells,eqCell,minmaxV,capV,binBV,nilCheckV,bytesV,V.cells,V.stays,Orc.nothing,c48,lenV_encNs])
  refine And.intro (fun hl => ?_) (fun hl => ?_)
  · refine RetV.same ?_
    rw [V.bool.injEq]; symm
    rw [decide_eq_false_iff_not]
    rintro rfl
    simp at hl
  · have hl : a.length = b.length := by
      have : (a.length : Int) = b.length := by simpa using hl
      omega
    refine Runs.loop (fun m st => ∃ i : Nat, i ≤ a.length ∧ m = a.length - i ∧ a.take i = b.take i ∧ SubStore σ st.σ ∧ st.s 1 = encNs b ∧ st.s 2 = .fn 49 [] ∧ st.s 15 = encNs a ∧ st.s 16 = vI a.length ∧ st.s 17 = vI i) a.length ?_ ?_
    · exact ⟨0, by omega, by omega, rfl, SubStore.refl _, rfl, rfl, rfl, rfl, rfl⟩
    · rintro m ⟨s, σ'⟩ ⟨i, hi, rfl, ht, hsub, h1, h2, h15, h16, h17⟩
      simp only at hsub h1 h2 h15 h16 h17
      refine Runs.mix 18 ?_
      (refine Runs.of_step Orc.nothing 300 ?_; simp -implicitDefEqProofs only [BB,seval,← decide_not,okind,vpre,vpure,intBin,intPre,strBin,strPre,popTo,argSlots,fldV,fldAV,subCells,idxVV,idxAAV,idxSV,sliceV,sliceSV,boundV,szIs,storeOp,storeS,setRowV,eff,extV,buildV,splice,eqSV,fitsL,eqCells,eqCell,minmaxV,capV,binBV,nilCheckV,bytesV,V.cells,V.stays,Orc.nothing,h1,h2,h15,h16,h17])
      refine And.intro (fun hlt => ?_) (fun hge => ?_)
      · have hlt' : i < a.length := by omega
        have hlt2 : i < b.length := by omega
        have hx := ha.2 _ (List.getElem_mem hlt')
        have hy := hb.2 _ (List.getElem_mem hlt2)
        have hta := List.take_succ_eq_append_getElem hlt'
        have htb := List.take_succ_eq_append_getElem hlt2
        have hxe : a[i]? = some a[i] := by simp [hlt']
        have hye : b[i]? = some b[i] := by simp [hlt2]
        generalize hxg : a[i] = x at *
        generalize hyg : b[i] = y at *
        simp -implicitDefEqProofs only [BB,seval,← decide_not,okind,vpre,vpure,intBin,intPre,strBin,strPre,popTo,argSlots,fldV,fldAV,subCells,idxVV,idxAAV,idxSV,sliceV,sliceSV,boundV,szIs,storeOp,storeS,setRowV,eff,extV,buildV,splice,eqSV,fitsL,eqCells,eqCell,minmaxV,capV,binBV,nilCheckV,bytesV,V.cells,V.stays,idxAV_encNs hlt',idxAV_encNs hlt2,hxg,hyg,Nd.cells,h1,h2,h15,h16,h17]
        refine effR_new fun id1 σ1 s1 a1 f1 => ?_
        simp -implicitDefEqProofs only [BB,seval,← decide_not,okind,vpre,vpure,intBin,intPre,strBin,strPre,popTo,argSlots,fldV,fldAV,subCells,idxVV,idxAAV,idxSV,sliceV,sliceSV,boundV,szIs,storeOp,storeS,setRowV,eff,extV,buildV,splice,eqSV,fitsL,eqCells,eqCell,minmaxV,capV,binBV,nilCheckV,bytesV,V.cells,V.stays,a1,idxAV_encNs hlt',idxAV_encNs hlt2,hxg,hyg,Nd.cells,encI_cells,encI_stays,h1,h2,h15,h16,h17]
        refine effR_new fun id2 σ2 s2 a2 f2 => ?_
        have n12 : id1 ≠ id2 := by rintro rfl; rw [upd_same] at f2; cases f2
        have a1' := s2 id1 _ upd_same
        have hs2 := ((hsub.trans s1).updK (hsub.none f1)).trans s2
        have g2 := ((hsub.trans s1).updK (hsub.none f1)).none f2
        simp -implicitDefEqProofs only [BB,seval,← decide_not,okind,vpre,vpure,intBin,intPre,strBin,strPre,popTo,argSlots,fldV,fldAV,subCells,idxVV,idxAAV,idxSV,sliceV,sliceSV,boundV,szIs,storeOp,storeS,setRowV,eff,extV,buildV,splice,eqSV,fitsL,eqCells,eqCell,minmaxV,capV,binBV,nilCheckV,bytesV,V.cells,V.stays,a1',a2,upd_ne n12,encI_cells,encI_stays,h1,h2,h15,h16,h17]
        refine Runs.pcall rfl rfl rfl (one9_c x y hx _) ?_
        by_cases hd : x = y
        · have hdt : decide (x = y) = true := decide_eq_true hd
          (refine Runs.of_step Orc.nothing 300 ?_; simp -implicitDefEqProofs only [BB,seval,← decide_not,okind,vpre,vpure,intBin,intPre,strBin,strPre,popTo,argSlots,fldV,fldAV,subCells,idxVV,idxAAV,idxSV,sliceV,sliceSV,boundV,szIs,storeOp,storeS,setRowV,eff,extV,buildV,splice,eqSV,fitsL,eqCells,eqCell,minmaxV,capV,binBV,nilCheckV,bytesV,V.cells,V.stays,Orc.nothing,hdt,h1,h2,h15,h16,h17])
          refine ⟨inR_i64 (by omega) (by omega), _, ?_, i + 1, by omega, rfl, ?_, hs2.updK g2, by simp⟩
          · omega
          · rw [hta, htb, ht, hd]
        · have hdt : decide (x = y) = false := decide_eq_false hd
          (refine Runs.of_step Orc.nothing 300 ?_; simp -implicitDefEqProofs only [BB,seval,← decide_not,okind,vpre,vpure,intBin,intPre,strBin,strPre,popTo,argSlots,fldV,fldAV,subCells,idxVV,idxAAV,idxSV,sliceV,sliceSV,boundV,szIs,storeOp,storeS,setRowV,eff,extV,buildV,splice,eqSV,fitsL,eqCells,eqCell,minmaxV,capV,binBV,nilCheckV,bytesV,V.cells,V.stays,Orc.nothing,hdt,h1,h2,h15,h16,h17])
          refine RetV.pure (hs2.updK g2) ?_
          rw [V.bool.injEq]; symm
          rw [decide_eq_false_iff_not]
          rintro rfl
          rw [hxe] at hye
          simp at hye
          exact hd hye
      · have hie : i = a.length := by omega
        refine RetV.pure hsub ?_
        rw [V.bool.injEq]; symm
        rw [decide_eq_true_eq]
        rw [hie, List.take_length] at ht
        rw [ht, hl, List.take_length]
set_option maxRecDepth 100000 in
theorem same9_c (a b : List Nd) (ha : Fine a) (hb : Fine b) : PFun Tryd.prog 29 [encNs a, encNs b] (.bool (decide (a = b))) := fun σ => by
  refine Contract.of_runs Tryd.func29 e29 k29 (by simp [c29]) ?_
  refine Runs.mix 5 ?_
  (refine Runs.of_step Orc.nothing 300 ?_; simp -implicitDefEqProofs only [BB,seval,effR_some,effD_some,← decide_not,okind,vpre,vpure,intBin,intPre,strBin,strPre,popTo,argSlots,fldV,fldAV,subCells,idxVV,idxAAV,idxSV,sliceV,sliceSV,boundV,szIs,storeOp,storeS,setRowV,eff,extV,buildV,splice,eqSV,fitsL,eqCells,eqCell,minmaxV,capV,binBV,nilCheckV,bytesV,V.cells,V.stays,Orc.nothing,c29])
  refine Runs.pcall rfl rfl rfl (eqf_c a b ha hb _) ?_
  (refine Runs.of_step Orc.nothing 300 ?_; simp -implicitDefEqProofs only [BB,seval,effR_some,effD_some,← decide_not,okind,vpre,vpure,intBin,intPre,strBin,strPre,popTo,argSlots,fldV,fldAV,subCells,idxVV,idxAAV,idxSV,sliceV,sliceSV,boundV,szIs,storeOp,storeS,setRowV,eff,extV,buildV,splice,eqSV,fitsL,eqCells,eqCell,minmaxV,capV,binBV,nilCheckV,bytesV,V.cells,V.stays,Orc.nothing])
  exact RetV.same rfl
end Go.Vc
namespace Go.Vc
open Go.Proofs
theorem edEq (x y : Ed) : x = y ↔ x.kind = y.kind ∧ x.into = y.into ∧ x.pos = y.pos ∧ x.many = y.many ∧ x.st = y.st ∧ x.sub = y.sub := by
  cases x; cases y; simp; intros; exact And.comm
set_option maxRecDepth 100000 in
theorem sameE_c (x y : Ed) (hx : Fine x.sub) (hy : Fine y.sub) : PFun Tryd.prog 11 [encE x, encE y] (.bool (decide (x = y))) := fun σ => by
  refine Contract.of_runs Tryd.func11 e11 k11 (by simp [c11]) ?_
  refine Runs.mix 5 ?_
  (refine Runs.of_step Orc.nothing 300 ?_; simp -implicitDefEqProofs only [BB,seval,← decide_not,okind,vpre,vpure,intBin,intPre,strBin,strPre,popTo,argSlots,fldV,fldAV,subCells,idxVV,idxAAV,idxSV,sliceV,sliceSV,boundV,szIs,storeOp,storeS,setRowV,eff,extV,buildV,splice,eqSV,fitsL,eqCells,eqCell,minmaxV,capV,binBV,nilCheckV,bytesV,V.cells,V.stays,Orc.nothing,c11,encE,Ed.cells,encNs_cells,encNs_stays])
  refine effR_new fun id2 σ1 s1 a2 f2 => ?_
  simp -implicitDefEqProofs only [BB,seval,← decide_not,okind,vpre,vpure,intBin,intPre,strBin,strPre,popTo,argSlots,fldV,fldAV,subCells,idxVV,idxAAV,idxSV,sliceV,sliceSV,boundV,szIs,storeOp,storeS,setRowV,eff,extV,buildV,splice,eqSV,fitsL,eqCells,eqCell,minmaxV,capV,binBV,nilCheckV,bytesV,V.cells,V.stays,a2,encNs_cells,encNs_stays]
  refine effR_new fun id3 σ2 s2 a3 f3 => ?_
  have n23 := ne_new a2 f3
  have a2 := s2 _ _ a2
  have hs := s1.trans s2
  simp -implicitDefEqProofs only [BB,seval,← decide_not,okind,vpre,vpure,intBin,intPre,strBin,strPre,popTo,argSlots,fldV,fldAV,subCells,idxVV,idxAAV,idxSV,sliceV,sliceSV,boundV,szIs,storeOp,storeS,setRowV,eff,extV,buildV,splice,eqSV,fitsL,eqCells,eqCell,minmaxV,capV,binBV,nilCheckV,bytesV,V.cells,V.stays,a2,a3,styEq,encNs_cells,encNs_stays]
  refine And.intro (fun c1 => And.intro (fun c2 => And.intro (fun c3 => And.intro (fun c4 => And.intro (fun c5 => ?_) (fun c5 => ?_)) (fun c4 => ?_)) (fun c3 => ?_)) (fun c2 => ?_)) (fun c1 => ?_)
  · refine Runs.pcall rfl rfl rfl (same9_c x.sub y.sub hx hy _) ?_
    (refine Runs.of_step Orc.nothing 300 ?_; simp -implicitDefEqProofs only [BB,seval,← decide_not,okind,vpre,vpure,intBin,intPre,strBin,strPre,popTo,argSlots,fldV,fldAV,subCells,idxVV,idxAAV,idxSV,sliceV,sliceSV,boundV,szIs,storeOp,storeS,setRowV,eff,extV,buildV,splice,eqSV,fitsL,eqCells,eqCell,minmaxV,capV,binBV,nilCheckV,bytesV,V.cells,V.stays,Orc.nothing])
    refine RetV.pure hs ?_
    rw [V.bool.injEq, Bool.eq_iff_iff, decide_eq_true_eq, decide_eq_true_eq, edEq]
    simp_all
  all_goals (refine RetV.pure hs ?_; rw [V.bool.injEq]; symm; rw [decide_eq_false_iff_not]; rintro rfl; simp at *)
set_option maxRecDepth 100000 in
theorem tops_c (l : List Nd) (hl : Fine l) (hb : isB l = true) : PFun Tryd.prog 27 [encNs l] (vI (kidsR l (-1)).length) := fun σ => by
  refine Contract.of_runs Tryd.func27 e27 k27 (by simp [c27]) ?_
  refine Runs.mix 3 ?_
  (refine Runs.of_step Orc.nothing 300 ?_; simp -implicitDefEqProofs only [BB,seval,effR_some,effD_some,← decide_not,okind,vpre,vpure,intBin,intPre,strBin,strPre,popTo,argSlots,fldV,fldAV,subCells,idxVV,idxAAV,idxSV,sliceV,sliceSV,boundV,szIs,storeOp,storeS,setRowV,eff,extV,buildV,splice,eqSV,fitsL,eqCells,eqCell,minmaxV,capV,binBV,nilCheckV,bytesV,V.cells,V.stays,Orc.nothing,c27])
  refine Runs.pcall rfl rfl rfl (kids9_p l hl hb (-1) (.inl rfl) _) ?_
  (refine Runs.of_step Orc.nothing 300 ?_; simp -implicitDefEqProofs only [BB,seval,effR_some,effD_some,← decide_not,okind,vpre,vpure,intBin,intPre,strBin,strPre,popTo,argSlots,fldV,fldAV,subCells,idxVV,idxAAV,idxSV,sliceV,sliceSV,boundV,szIs,storeOp,storeS,setRowV,eff,extV,buildV,splice,eqSV,fitsL,eqCells,eqCell,minmaxV,capV,binBV,nilCheckV,bytesV,V.cells,V.stays,Orc.nothing,lenV_encI])
  exact RetV.same rfl
end Go.Vc
namespace Go.Vc
open Go.Proofs
def Srt : Int → List Int → Prop
  | _, [] => True
  | a, q :: r => a ≤ q ∧ Srt (q + 1) r
theorem Srt.le {a b : Int} (h : b ≤ a) : ∀ {l : List Int}, Srt a l → Srt b l
  | [], _ => trivial
  | _ :: _, ⟨h1, h2⟩ => ⟨by omega, h2⟩
theorem Srt.ge {a : Int} : ∀ {l : List Int}, Srt a l → ∀ x ∈ l, a ≤ x
  | _ :: r, ⟨h1, h2⟩, x, hx => by
    rcases List.mem_cons.1 hx with rfl | hx
    · exact h1
    · have := Srt.ge h2 x hx; omega
def rowOfI (l : List Nd) (into : Int) : Nat × Nat := if into = -1 then (0, l.length) else (into.toNat + 1, into.toNat + (szI l into.toNat).toNat)
theorem rowOfI_facts {l : List Nd} (hb : isB l = true) {into : Int} (hin : into = -1 ∨ hasI l into = true) : ∃ a e : Nat, rowOfI l into = (a, e) ∧ (a : Int) = into + 1 ∧ a ≤ e ∧ e ≤ l.length ∧ rowsB l a e = true ∧ kidsR l into = kidsW l a e := by
  have hrows : rowsB l 0 l.length = true := by simp only [isB,Bool.and_eq_true] at hb; exact hb.2
  by_cases h : into = -1
  · subst h
    exact ⟨0, l.length, by simp [rowOfI], by omega, by omega, Nat.le_refl _, hrows, kidsR_top hb⟩
  · have hh : hasI l into = true := by rcases hin with h1 | h1; exact absurd h1 h; exact h1
    obtain ⟨p, rfl⟩ : ∃ p : Nat, into = p := ⟨into.toNat, by have := hasI_iff.1 hh; omega⟩
    have hp : p < l.length := by have := hasI_iff.1 hh; omega
    obtain ⟨z1, z2⟩ := szI_bound hb hp
    have hse := szI_eq hp
    obtain ⟨z3, _⟩ := rowsB_ends (Nat.le_refl _) hrows (Nat.zero_le p) hp
    have hin := rowsB_inner l (l.length + 1) 0 l.length (by omega) (Nat.le_refl _) hrows p (by omega) hp hp
    rw [← hse] at hin
    exact ⟨p + 1, p + (szI l p).toNat, by simp [rowOfI, h], by omega, by omega, by omega, hin, kidsR_in hb hp⟩
theorem kidsW_srt {l : List Nd} {e : Nat} (he : e ≤ l.length) : ∀ (m a : Nat), e - a < m → a ≤ e → rowsB l a e = true → Srt a (kidsW l a e ++ [(e : Int)]) ∧ (∀ x ∈ kidsW l a e, x < e) ∧ ∀ into : Int, (a : Int) = into + 1 → lastEnd l into (kidsW l a e) = e
  | 0, _, h, _, _ => by omega
  | m + 1, a, hm, hae, hr => by
    by_cases hlt : a < e
    · have hal : a < l.length := by omega
      obtain ⟨h1, h2⟩ := rowsB_ends he hr (Nat.le_refl a) hlt
      obtain ⟨h3, _⟩ := rowsB_next he hr hlt
      have hse := szI_eq hal
      have hz : ((szI l a).toNat : Int) = szI l a := by omega
      obtain ⟨g1, g2, g3⟩ := kidsW_srt he m (a + (szI l a).toNat) (by omega) (by omega) h3
      rw [kidsW_cons hlt hal (by omega), ← hse]
      refine ⟨⟨Int.le_refl _, g1.le (by omega)⟩, ?_, ?_⟩
      · intro x hx
        rcases List.mem_cons.1 hx with rfl | hx
        · omega
        · exact g2 x hx
      · intro into hinto
        have := g3 ((a : Int) + szI l a - 1) (by omega)
        rw [← this]
        simp only [lastEnd,List.foldl_cons,Int.toNat_natCast]
        congr 1
        omega
    · have : a = e := by omega
      subst this
      rw [kidsW_nil (Nat.le_refl _)]
      exact ⟨⟨Int.le_refl _, trivial⟩, by simp, fun into h => by rw [lastEnd_nil]; omega⟩
theorem placesR_eq {l : List Nd} (hb : isB l = true) {into : Int} (hin : into = -1 ∨ hasI l into = true) {a e : Nat} (h : rowOfI l into = (a, e)) : placesR l into = kidsW l a e ++ [(e : Int)] ∧ Srt (into + 1) (placesR l into) ∧ ∀ x ∈ placesR l into, x ≤ e := by
  obtain ⟨a', e', h1, h2, h3, h4, h5, h6⟩ := rowOfI_facts hb hin
  rw [h] at h1
  obtain ⟨rfl, rfl⟩ := Prod.mk.inj h1
  obtain ⟨g1, g2, g3⟩ := kidsW_srt h4 (e + 1) a (by omega) h3 h5
  have hp : placesR l into = kidsW l a e ++ [(e : Int)] := by rw [placesR, h6, g3 into h2]
  refine ⟨hp, ?_, ?_⟩
  · rw [hp, ← h2]; exact g1
  · rw [hp]
    intro x hx
    rcases List.mem_append.1 hx with hx | hx
    · have := g2 x hx; omega
    · simp at hx; omega
theorem Srt.lt_of_get {a : Int} : ∀ {l : List Int}, Srt a l → ∀ (i j : Nat) (x y : Int), i ≤ j → l[i]? = some x → l[j]? = some y → x + ((j : Int) - i) ≤ y
  | [], _, i, j, x, y, _, h, _ => by simp at h
  | q :: r, ⟨h1, h2⟩, 0, 0, x, y, _, hx, hy => by simp at hx hy; omega
  | q :: r, ⟨h1, h2⟩, 0, j + 1, x, y, _, hx, hy => by
    simp at hx hy
    have hj := (List.getElem?_eq_some_iff.1 hy).1
    have h0 : r[0]? = some r[0] := by simp [show 0 < r.length by omega]
    have := Srt.lt_of_get h2 0 j _ y (by omega) h0 hy
    have h3 := Srt.ge h2 _ (List.mem_of_getElem? h0)
    omega
  | q :: r, ⟨h1, h2⟩, i + 1, 0, x, y, h, _, _ => by omega
  | q :: r, ⟨h1, h2⟩, i + 1, j + 1, x, y, h, hx, hy => by
    simp at hx hy
    have := Srt.lt_of_get h2 i j x y (by omega) hx hy
    omega
theorem idxI_get {a : Int} : ∀ {p : List Int} {i : Nat}, 0 ≤ idxI a p i → p[(idxI a p i - i).toNat]? = some a ∧ (i : Int) ≤ idxI a p i
  | [], i, h => by simp [idxI] at h
  | q :: r, i, h => by
    rw [idxI] at h ⊢
    split
    · rename_i he; subst he; simp
    · rename_i hne
      rw [if_neg hne] at h
      obtain ⟨h1, h2⟩ := idxI_get h
      refine ⟨?_, by omega⟩
      have e1 : (idxI a r (i + 1) - (i : Int)).toNat = (idxI a r (i + 1) - ((i + 1 : Nat) : Int)).toNat + 1 := by omega
      rw [e1, List.getElem?_cons_succ]
      exact h1
theorem goneR_facts {l : List Nd} (hb : isB l = true) {into pos many from' to : Int} (h : goesR l into pos many = (from', to, true)) :
    from' = pos ∧ into + 1 ≤ pos ∧ pos ≤ to ∧ to ≤ l.length ∧ -1 ≤ into ∧ (into = -1 ∨ blockR l into = true) ∧ 0 ≤ many ∧
    ∃ k : Nat, (placesR l into)[k]? = some pos ∧ (placesR l into)[k + many.toNat]? = some to := by
  rw [goesR] at h
  split at h
  · cases h
  · rename_i hnb
    have hin : into = -1 ∨ blockR l into = true := by
      by_cases h1 : into = -1
      · exact .inl h1
      · right
        cases hbk : blockR l into
        · exact absurd ⟨h1, hbk⟩ hnb
        · rfl
    have hin2 : into = -1 ∨ hasI l into = true := hin.imp id fun h => by simp only [blockR,Bool.and_eq_true] at h; exact h.1
    have hi1 : -1 ≤ into := by
      rcases hin2 with h | h
      · omega
      · have := hasI_iff.1 h; omega
    split at h
    · cases h
    · rename_i hk
      obtain ⟨rfl, rfl, _⟩ : pos = from' ∧ ((placesR l into)[(idxI pos (placesR l into) 0 + many).toNat]?).getD 0 = to ∧ True := by
        simp only [Prod.mk.injEq,and_true] at h; exact ⟨h.1, h.2, trivial⟩
      obtain ⟨a, e, h1, h2, h3, h4, h5, h6⟩ := rowOfI_facts hb hin2
      obtain ⟨hp, hs, hle⟩ := placesR_eq hb hin2 h1
      obtain ⟨g1, g2⟩ := idxI_get (a := pos) (p := placesR l into) (i := 0) (by omega)
      have hr := idxI_range pos (placesR l into) 0
      generalize placesR l into = p at *
      generalize idxI pos p 0 = k at *
      have hk2 : (k + many).toNat < p.length := by omega
      have e1 : (k - ((0 : Nat) : Int)).toNat = k.toNat := by omega
      rw [e1] at g1
      have e2 : (k + many).toNat = k.toNat + many.toNat := by omega
      have hto : p[(k + many).toNat]? = some p[(k + many).toNat] := by simp [hk2]
      have hlt := Srt.lt_of_get hs k.toNat (k + many).toNat _ _ (by omega) g1 hto
      have hge := Srt.ge hs _ (List.mem_of_getElem? g1)
      have htl := hle _ (List.mem_of_getElem? hto)
      rw [hto, Option.getD_some]
      exact ⟨rfl, hge, by omega, by omega, hi1, hin, by omega, k.toNat, g1, by rw [← e2]; exact hto⟩
end Go.Vc
