/- Part 7 of the library of this proof. -/
import Derived.Test.YtnomejmaolodhaaW6
import Derived.Shelf.Strings.Builder1
import Derived.Laws.Tables
set_option linter.all false
namespace Go.Vc
open Go.Proofs Go.Shelf Go.RowKit
variable {P : Program} {ρ : Ren}
theorem upd_self' {σ : Store} {id : Nat} {o : Ob} (h : σ id = some o) : upd σ id o = σ := by
  funext i
  simp only [upd]
  split
  · rename_i e; rw [e, h]
  · rfl
def bRow (T : TypeId) (a buf : V) : Ob := ⟨T, 2, [.agg [a, buf]]⟩
structure IsB (T u8 : TypeId) (K σ : Store) (id : Nat) (l : List UInt8) : Prop where
  sub : SubStore K σ
  new : K id = none
  row : ∃ a buf, σ id = some (bRow T a buf) ∧ (a = .nilp ∨ a = .ptr id 0 0) ∧ OutV (upd K id (bRow T a buf)) σ u8 1 buf (l.map fun b => .int .u8 b.toNat)
theorem IsB.start {T u8 : TypeId} {K σ : Store} {id : Nat} (hs : SubStore K σ) (hn : K id = none) (hid : σ id = some (bRow T .nilp .nils)) : IsB T u8 K σ id [] :=
  ⟨hs, hn, _, _, hid, .inl rfl, .inl ⟨rfl, rfl⟩⟩
theorem IsB.mono {T u8 : TypeId} {K σ σ' : Store} {id : Nat} {l : List UInt8} (h : IsB T u8 K σ id l) (hs : SubStore σ σ') : IsB T u8 K σ' id l := by
  obtain ⟨h1, h2, a, buf, h3, h4, h5⟩ := h
  refine ⟨h1.trans hs, h2, a, buf, hs _ _ h3, h4, ?_⟩
  rcases h5 with ⟨h5, h6⟩ | ⟨i, h5, h6, h7⟩
  · exact .inl ⟨h5, h6⟩
  · exact .inr ⟨i, h5, hs _ _ h6, h7⟩
theorem Sat.gone {w w' : World} {μ : Mu} {σ K : Store} (h : Sat w (Owned μ σ) μ σ w) (hK : SubStore K σ) (g : Option Nat) (hg : ∀ b, g = some b → Owned μ σ b ∧ ∀ i o sz cap, K i = some o → μ i = .lies b sz cap → False)
    (h1 : w'.os = w.os) (h2 : w'.tape = w.tape) (h3 : w'.output = w.output) (h4 : w'.heap.size = w.heap.size) (h5 : ∀ k, some k ≠ g → w'.heap[k]? = w.heap[k]?) : Sat w (Owned μ σ) μ K w' := by
  have hk : Keeps (Owned μ σ) (Owned μ K) w w' := fun b _ hn => ⟨fun ho => hn (ho.sub hK), h5 b fun e => hn (hg b e.symm).1⟩
  refine ⟨by omega, h1, h2, h3, fun b hb hn => (hk b hb hn).2, h.fin, fun i i' o o' b sz cap sz' cap' a1 a2 a3 a4 => h.inj i i' o o' b sz cap sz' cap' (hK _ _ a1) (hK _ _ a2) a3 a4, fun i o ho => ?_, fun b hb _ => hb.sub hK, h.glob⟩
  refine (h.obj i o (hK _ _ ho)).mono (MuLe.refl μ) hk (by omega) fun b sz cap hp => h5 b fun e => ?_
  exact (hg b e.symm).2 i o sz cap ho hp
end Go.Vc
namespace Go.Vc
open Go
theorem FzL.same {σ : Store} {N : Nat → Prop} : ∀ (vs : List V), noidL vs = true → FzL σ N vs vs
  | [], _ => .nil
  | v :: vs, h => by
    simp only [noidL,Bool.and_eq_true] at h
    exact .cons _ _ _ _ (.same v h.1) (FzL.same vs h.2)
theorem FzL.app {σ : Store} {N : Nat → Prop} : ∀ {a b c d : List V}, FzL σ N a b → FzL σ N c d → FzL σ N (a ++ c) (b ++ d)
  | _, _, _, _, .nil, h => h
  | _, _, _, _, .cons v u vs us h h', h2 => .cons v u _ _ h (FzL.app h' h2)
theorem FzL.one {σ : Store} {N : Nat → Prop} {v u : V} (h : Fz σ N v u) : FzL σ N [v] [u] := .cons _ _ _ _ h .nil
theorem OutV.fz {K σ : Store} {N : Nat → Prop} {e sz : Nat} {v : V} {rows : List V} (h : OutV K σ e sz v rows) (hN : ∀ id, K id = none → N id) (hr : noidL rows = true) : Fz σ N v (.sl sz rows) := by
  rcases h with ⟨rfl, rfl⟩ | ⟨id, rfl, ho, hk⟩
  · exact .nil sz
  · exact .own id 0 rows.length ⟨e, sz, rows⟩ rows ho (hN id hk) (by simp) (by rw [List.drop_zero, List.take_length]; exact FzL.same rows hr)
theorem OutV.upd_ne {K σ : Store} {e sz : Nat} {v : V} {rows : List V} (h : OutV K σ e sz v rows) {id : Nat} {o : Ob} (hK : K id ≠ none) : OutV K (upd σ id o) e sz v rows := by
  rcases h with h | ⟨q, h1, h2, h3⟩
  · exact .inl h
  · have : q ≠ id := fun e => hK (by rw [← e]; exact h3)
    exact .inr ⟨q, h1, by rw [Vc.upd_ne this]; exact h2, h3⟩
theorem OutV.src {K σ : Store} {e sz : Nat} {v : V} {rows : List V} (h : OutV K σ e sz v rows) {σ1 : Store} (hs : SubStore σ σ1) : srcRows σ1 sz v = some rows := by
  rcases h with ⟨rfl, rfl⟩ | ⟨id, rfl, ho, hk⟩
  · rfl
  · simp only [srcRows,hs _ _ ho]
    rw [if_pos (by simp)]
    simp
theorem noid_ints (l : List Int) : noidL (l.map vI) = true := by
  induction l with
  | nil => rfl
  | cons x l ih => rw [List.map_cons, noidL, ih]; rfl
abbrev ndPre (x : Nd) : List V := [vI x.kind, vI x.size, vI x.st.top, vI x.st.bottom, vI x.st.padTop, vI x.st.padBottom, vI x.st.inset, vI x.st.orphans, vI x.st.widows, vI x.st.head, vI x.st.before, vI x.st.after, vI x.st.inside, vI x.st.clear, vI x.line, vI x.space]
def ndW (x : Nd) (v : V) : V := .agg [vI x.kind, vI x.size, vI x.st.top, vI x.st.bottom, vI x.st.padTop, vI x.st.padBottom, vI x.st.inset, vI x.st.orphans, vI x.st.widows, vI x.st.head, vI x.st.before, vI x.st.after, vI x.st.inside, vI x.st.clear, vI x.line, vI x.space, v, vI x.side, vI x.w, vI x.h]
theorem fz_nd {σ : Store} {N : Nat → Prop} {x : Nd} {v : V} (h : Fz σ N v (encI x.words)) : Fz σ N (ndW x v) (encN x) := by
  refine .agg _ _ ?_
  exact (FzL.same (ndPre x) rfl).app ((FzL.one h).app (FzL.same [vI x.side, vI x.w, vI x.h] rfl))
def RowsW (K σ : Store) : List Nd → List V → Prop
  | [], [] => True
  | x :: l, r :: rows => (∃ w, r = ndW x w ∧ OutV K σ 3 1 w (x.words.map vI)) ∧ RowsW K σ l rows
  | _, _ => False
theorem RowsW.len {K σ : Store} : ∀ {l : List Nd} {rows : List V}, RowsW K σ l rows → rows.length = l.length
  | [], [], _ => rfl
  | _ :: _, _ :: _, h => by simp [RowsW.len h.2]
  | [], _ :: _, h => h.elim
  | _ :: _, [], h => h.elim
theorem OutV.kept {K σ σ' : Store} {id e : Nat} {w : V} {rows rows0 : List V} (h : OutV K σ 3 1 w rows) (ho : σ id = some ⟨e, 20, rows0⟩) (hs : ∀ i, i ≠ id → ∀ o, σ i = some o → σ' i = some o) : OutV K σ' 3 1 w rows := by
  rcases h with h | ⟨i, h1, h2, h3⟩
  · exact .inl h
  · have hne : i ≠ id := fun e => by subst e; rw [ho] at h2; simp at h2
    exact .inr ⟨i, h1, hs i hne _ h2, h3⟩
theorem RowsW.kept {K σ σ' : Store} {id e : Nat} {rows0 : List V} (ho : σ id = some ⟨e, 20, rows0⟩) (hs : ∀ i, i ≠ id → ∀ o, σ i = some o → σ' i = some o) : ∀ {l : List Nd} {rows : List V}, RowsW K σ l rows → RowsW K σ' l rows
  | [], [], _ => trivial
  | _ :: _, _ :: _, ⟨⟨w, h1, h2⟩, h⟩ => ⟨⟨w, h1, h2.kept ho hs⟩, RowsW.kept ho hs h⟩
  | [], _ :: _, h => h.elim
  | _ :: _, [], h => h.elim
theorem RowsW.mono {K σ σ' : Store} (hs : SubStore σ σ') : ∀ {l : List Nd} {rows : List V}, RowsW K σ l rows → RowsW K σ' l rows
  | [], [], _ => trivial
  | _ :: _, _ :: _, ⟨⟨w, h1, h2⟩, h⟩ => ⟨⟨w, h1, h2.mono hs⟩, RowsW.mono hs h⟩
  | [], _ :: _, h => h.elim
  | _ :: _, [], h => h.elim
theorem OutV.lessK {K K' σ : Store} {e sz : Nat} {v : V} {rows : List V} (h : OutV K σ e sz v rows) (hk : SubStore K' K) : OutV K' σ e sz v rows := by
  rcases h with h | ⟨i, h1, h2, h3⟩
  · exact .inl h
  · exact .inr ⟨i, h1, h2, hk.none h3⟩
theorem RowsW.lessK {K K' σ : Store} (hk : SubStore K' K) : ∀ {l : List Nd} {rows : List V}, RowsW K σ l rows → RowsW K' σ l rows
  | [], [], _ => trivial
  | _ :: _, _ :: _, ⟨⟨w, h1, h2⟩, h⟩ => ⟨⟨w, h1, h2.lessK hk⟩, RowsW.lessK hk h⟩
  | [], _ :: _, h => h.elim
  | _ :: _, [], h => h.elim
theorem RowsW.app {K σ : Store} : ∀ {l l2 : List Nd} {rows rows2 : List V}, RowsW K σ l rows → RowsW K σ l2 rows2 → RowsW K σ (l ++ l2) (rows ++ rows2)
  | [], _, [], _, _, h2 => h2
  | _ :: _, _, _ :: _, _, ⟨h1, h⟩, h2 => ⟨h1, RowsW.app h h2⟩
  | [], _, _ :: _, _, h, _ => h.elim
  | _ :: _, _, [], _, h, _ => h.elim
theorem RowsW.take {K σ : Store} : ∀ (n : Nat) {l : List Nd} {rows : List V}, RowsW K σ l rows → RowsW K σ (l.take n) (rows.take n)
  | 0, _, _, _ => by simp [RowsW]
  | _ + 1, [], [], _ => trivial
  | n + 1, _ :: _, _ :: _, ⟨h1, h⟩ => ⟨h1, RowsW.take n h⟩
  | _ + 1, [], _ :: _, h => h.elim
  | _ + 1, _ :: _, [], h => h.elim
theorem RowsW.get {K σ : Store} : ∀ (i : Nat) {l : List Nd} {rows : List V} {x : Nd}, RowsW K σ l rows → l[i]? = some x → ∃ w, rows[i]? = some (ndW x w) ∧ OutV K σ 3 1 w (x.words.map vI)
  | 0, y :: _, _ :: _, x, ⟨⟨w, h1, h2⟩, _⟩, hx => by
    simp only [List.getElem?_cons_zero,Option.some.injEq] at hx
    subst hx
    exact ⟨w, by simp [h1], h2⟩
  | i + 1, _ :: _, _ :: _, x, ⟨_, h⟩, hx => by
    rw [List.getElem?_cons_succ] at hx ⊢
    exact RowsW.get i h hx
  | _, [], _, _, _, hx => by simp at hx
  | _, _ :: _, [], _, h, _ => h.elim
theorem RowsW.set {K σ : Store} {x : Nd} {w : V} (hw : OutV K σ 3 1 w (x.words.map vI)) : ∀ (i : Nat) {l : List Nd} {rows : List V}, RowsW K σ l rows → RowsW K σ (l.set i x) (rows.set i (ndW x w))
  | 0, _ :: _, _ :: _, ⟨_, h⟩ => ⟨⟨w, rfl, hw⟩, h⟩
  | i + 1, _ :: _, _ :: _, ⟨h1, h⟩ => ⟨h1, RowsW.set hw i h⟩
  | _, [], [], _ => trivial
  | _, [], _ :: _, h => h.elim
  | _, _ :: _, [], h => h.elim
theorem RowsW.fz {K σ : Store} {N : Nat → Prop} (hN : ∀ id, K id = none → N id) : ∀ {l : List Nd} {rows : List V}, RowsW K σ l rows → FzL σ N rows (l.map encN)
  | [], [], _ => .nil
  | _ :: _, _ :: _, ⟨⟨w, h1, h2⟩, h⟩ => by
    rw [h1]
    exact .cons _ _ _ _ (fz_nd (h2.fz hN (noid_ints _))) (RowsW.fz hN h)
  | [], _ :: _, h => h.elim
  | _ :: _, [], h => h.elim
theorem SubStore.delOK {K σ : Store} {idA : Option Nat} (h : SubStore K σ) (hA : ∀ i, idA = some i → K i = Option.none) : SubStore K (Vc.delO σ idA) := by
  cases idA with
  | none => exact h
  | some i => exact h.delK (hA i rfl)
theorem RowsW.delO {K σ σ' : Store} {idA : Option Nat} (hA : ∀ i, idA = some i → ∃ e rows0, σ i = some ⟨e, 20, rows0⟩) (hs : SubStore (Vc.delO σ idA) σ') {l : List Nd} {rows : List V} (h : RowsW K σ l rows) : RowsW K σ' l rows := by
  cases idA with
  | none => exact h.mono hs
  | some i =>
    obtain ⟨e, rows0, hi⟩ := hA i rfl
    exact h.kept hi fun j hj o hjo => hs _ _ (by simp only [Vc.delO]; rw [del_ne hj]; exact hjo)
def OutW (K σ : Store) (v : V) (l : List Nd) : Prop := ∃ rows, OutV K σ 42 20 v rows ∧ RowsW K σ l rows
theorem OutW.fz {K σ : Store} {N : Nat → Prop} {v : V} {l : List Nd} (h : OutW K σ v l) (hN : ∀ id, K id = none → N id) : Fz σ N v (encNs l) := by
  obtain ⟨rows, ho, hr⟩ := h
  have hf := hr.fz hN
  rcases ho with ⟨rfl, rfl⟩ | ⟨id, rfl, ho, hk⟩
  · cases l with
    | nil => exact .nil 20
    | cons x l => exact hr.elim
  · exact .own id 0 rows.length ⟨_, 20, rows⟩ _ ho (hN id hk) (by simp) (by rw [List.drop_zero, List.take_length]; exact hf)
theorem OutW.wk {K σ : Store} {v : V} {l : List Nd} (h : OutW K σ v l) {K' : Store} (hK : SubStore K' K) (hs : SubStore K' σ) : Wk σ K' v (encNs l) :=
  (h.fz (N := fun id => K' id = none) (fun _ hk => hK.none hk)).wk hs (fun _ h => h)
theorem OutW.retv {K σ : Store} {v : V} {l : List Nd} (h : OutW K σ v l) (hs : SubStore K σ) : RetV v σ fun r σ' => r = encNs l ∧ σ' = K := ⟨_, K, hs, h.wk (SubStore.refl K) hs, rfl, rfl⟩
theorem OutW.mono {K σ σ' : Store} {v : V} {l : List Nd} (h : OutW K σ v l) (hs : SubStore σ σ') : OutW K σ' v l := by
  obtain ⟨rows, ho, hr⟩ := h
  exact ⟨rows, ho.mono hs, hr.mono hs⟩
theorem OutW.lessK {K K' σ : Store} {v : V} {l : List Nd} (h : OutW K σ v l) (hk : SubStore K' K) : OutW K' σ v l := by
  obtain ⟨rows, ho, hr⟩ := h
  exact ⟨rows, ho.lessK hk, hr.lessK hk⟩
theorem OutW.nil {K σ : Store} : OutW K σ .nils [] := ⟨[], .inl ⟨rfl, rfl⟩, trivial⟩
end Go.Vc
namespace Go.Vc
open Go.Proofs
def Sml (l : List Nd) : Prop := l.length ≤ 10000 ∧ ∀ x ∈ l, x.words.length ≤ 1000000000
theorem Sml.fine {l : List Nd} (h : Sml l) : Fine l := ⟨h.1, fun x hx => by have := h.2 x hx; omega⟩
set_option maxRecDepth 100000 in
theorem clone_c (l : List Nd) (hl : l.length ≤ 10000) (σ : Store) : Contract Try.prog 46 [encNs l] σ fun r σ' => SubStore σ σ' ∧ OutV σ σ' 42 20 r (l.map encN) := by
  refine Contract.of_runs Try.func46 e46 k46 (by simp [c46]) ?_
  refine Runs.mix 3 ?_
  (refine Runs.of_step Orc.nothing 8 ?_; simp -implicitDefEqProofs only [BB,seval,← decide_not,okind,vpre,vpure,intBin,intPre,strBin,strPre,popTo,argSlots,fldV,fldAV,subCells,idxVV,idxAAV,idxSV,sliceV,sliceSV,boundV,szIs,storeOp,storeS,setRowV,eff,extV,buildV,splice,eqSV,fitsL,eqCells,eqCell,minmaxV,capV,binBV,nilCheckV,bytesV,V.cells,V.stays,s_zero,Orc.nothing,c46])
  refine Runs.nilS rfl rfl rfl fun b hb => ?_
  cases b
  · (refine Runs.of_step Orc.nothing 300 ?_; simp -implicitDefEqProofs only [BB,seval,← decide_not,okind,vpre,vpure,intBin,intPre,strBin,strPre,popTo,argSlots,fldV,fldAV,subCells,idxVV,idxAAV,idxSV,sliceV,sliceSV,boundV,szIs,storeOp,storeS,setRowV,eff,extV,buildV,splice,eqSV,fitsL,eqCells,eqCell,minmaxV,capV,binBV,nilCheckV,bytesV,V.cells,V.stays,Orc.nothing])
    refine effR_new fun id1 σ1 s1 a1 f1 => ?_
    obtain ⟨idA, hd, hdel⟩ := (OutV.new (K := σ) (e := 42) (sz := 20) (n := 0) (rows := []) rfl a1 f1).dst (SubStore.refl _)
    have hsrc : ∀ σ, srcRows σ 20 (encNs l) = some (l.map encN) := fun σ => by simp [encNs, srcRows]
    have hb2 : l.length * 177 ≤ 140737488355328 := by omega
    simp -implicitDefEqProofs only [BB,seval,← decide_not,okind,vpre,vpure,intBin,intPre,strBin,strPre,popTo,argSlots,fldV,fldAV,subCells,idxVV,idxAAV,idxSV,sliceV,sliceSV,boundV,szIs,storeOp,storeS,setRowV,eff,extV,buildV,splice,eqSV,fitsL,eqCells,eqCell,minmaxV,capV,binBV,nilCheckV,bytesV,V.cells,V.stays,hd,hsrc,List.length_map,hb2]
    refine effR_put fun id2 σ2 s2 a2 f2 => ?_
    have hs2 := (hdel σ (SubStore.refl _) σ1 s1).trans s2
    simp -implicitDefEqProofs only [BB,seval,← decide_not,okind,vpre,vpure,intBin,intPre,strBin,strPre,popTo,argSlots,fldV,fldAV,subCells,idxVV,idxAAV,idxSV,sliceV,sliceSV,boundV,szIs,storeOp,storeS,setRowV,eff,extV,buildV,splice,eqSV,fitsL,eqCells,eqCell,minmaxV,capV,binBV,nilCheckV,bytesV,V.cells,V.stays]
    refine ⟨_, _, SubStore.refl _, Wk.refl (SubStore.refl _) _, hs2, OutV.new (by simp) a2 (s1.none f2)⟩
  · (refine Runs.of_step Orc.nothing 300 ?_; simp -implicitDefEqProofs only [BB,seval,← decide_not,okind,vpre,vpure,intBin,intPre,strBin,strPre,popTo,argSlots,fldV,fldAV,subCells,idxVV,idxAAV,idxSV,sliceV,sliceSV,boundV,szIs,storeOp,storeS,setRowV,eff,extV,buildV,splice,eqSV,fitsL,eqCells,eqCell,minmaxV,capV,binBV,nilCheckV,bytesV,V.cells,V.stays,Orc.nothing])
    refine ⟨_, _, SubStore.refl _, Wk.refl (SubStore.refl _) _, SubStore.refl _, ?_⟩
    have : l.map encN = [] := hb rfl
    rw [this]
    exact OutV.start
set_option maxRecDepth 100000 in
theorem cloneI_o (l : List Int) (hl : l.length ≤ 1000000000) (σ : Store) : Contract Try.prog 47 [encI l] σ fun r σ' => SubStore σ σ' ∧ OutV σ σ' 3 1 r (l.map vI) := by
  refine Contract.of_runs Try.func47 e47 k47 (by simp [c47]) ?_
  refine Runs.mix 3 ?_
  (refine Runs.of_step Orc.nothing 8 ?_; simp -implicitDefEqProofs only [BB,seval,← decide_not,okind,vpre,vpure,intBin,intPre,strBin,strPre,popTo,argSlots,fldV,fldAV,subCells,idxVV,idxAAV,idxSV,sliceV,sliceSV,boundV,szIs,storeOp,storeS,setRowV,eff,extV,buildV,splice,eqSV,fitsL,eqCells,eqCell,minmaxV,capV,binBV,nilCheckV,bytesV,V.cells,V.stays,s_zero,Orc.nothing,c47])
  refine Runs.nilS rfl rfl rfl fun b hb => ?_
  cases b
  · (refine Runs.of_step Orc.nothing 300 ?_; simp -implicitDefEqProofs only [BB,seval,← decide_not,okind,vpre,vpure,intBin,intPre,strBin,strPre,popTo,argSlots,fldV,fldAV,subCells,idxVV,idxAAV,idxSV,sliceV,sliceSV,boundV,szIs,storeOp,storeS,setRowV,eff,extV,buildV,splice,eqSV,fitsL,eqCells,eqCell,minmaxV,capV,binBV,nilCheckV,bytesV,V.cells,V.stays,Orc.nothing])
    refine effR_new fun id1 σ1 s1 a1 f1 => ?_
    obtain ⟨idA, hd, hdel⟩ := (OutV.new (K := σ) (e := 3) (sz := 1) (n := 0) (rows := []) rfl a1 f1).dst (SubStore.refl _)
    have hb2 : l.length * 9 ≤ 140737488355328 := by omega
    simp -implicitDefEqProofs only [BB,seval,← decide_not,okind,vpre,vpure,intBin,intPre,strBin,strPre,popTo,argSlots,fldV,fldAV,subCells,idxVV,idxAAV,idxSV,sliceV,sliceSV,boundV,szIs,storeOp,storeS,setRowV,eff,extV,buildV,splice,eqSV,fitsL,eqCells,eqCell,minmaxV,capV,binBV,nilCheckV,bytesV,V.cells,V.stays,hd,srcRows_encI,List.length_map,hb2]
    refine effR_put fun id2 σ2 s2 a2 f2 => ?_
    have hs2 := (hdel σ (SubStore.refl _) σ1 s1).trans s2
    simp -implicitDefEqProofs only [BB,seval,← decide_not,okind,vpre,vpure,intBin,intPre,strBin,strPre,popTo,argSlots,fldV,fldAV,subCells,idxVV,idxAAV,idxSV,sliceV,sliceSV,boundV,szIs,storeOp,storeS,setRowV,eff,extV,buildV,splice,eqSV,fitsL,eqCells,eqCell,minmaxV,capV,binBV,nilCheckV,bytesV,V.cells,V.stays]
    exact ⟨_, _, SubStore.refl _, Wk.refl (SubStore.refl _) _, hs2, OutV.new (by simp) a2 (s1.none f2)⟩
  · (refine Runs.of_step Orc.nothing 300 ?_; simp -implicitDefEqProofs only [BB,seval,← decide_not,okind,vpre,vpure,intBin,intPre,strBin,strPre,popTo,argSlots,fldV,fldAV,subCells,idxVV,idxAAV,idxSV,sliceV,sliceSV,boundV,szIs,storeOp,storeS,setRowV,eff,extV,buildV,splice,eqSV,fitsL,eqCells,eqCell,minmaxV,capV,binBV,nilCheckV,bytesV,V.cells,V.stays,Orc.nothing])
    have : l.map vI = [] := hb rfl
    refine ⟨_, _, SubStore.refl _, Wk.refl (SubStore.refl _) _, SubStore.refl _, ?_⟩
    rw [this]
    exact OutV.start
theorem cloneI_c (l : List Int) (hl : l.length ≤ 1000000000) : PFun Try.prog 47 [encI l] (encI l) := fun σ =>
  (cloneI_o l hl σ).weak fun _ _ h => h.2.retv h.1 rfl
set_option maxRecDepth 100000 in
theorem own9_o (l : List Nd) (hl : Sml l) (σ : Store) : Contract Try.prog 24 [encNs l] σ fun r σ' => SubStore σ σ' ∧ OutV σ σ' 42 20 r (l.map encN) := by
  obtain ⟨hl1, hl2⟩ := hl
  refine Contract.of_runs Try.func24 e24 k24 (by simp [c24]) ?_
  refine Runs.mix 10 ?_
  (refine Runs.of_step Orc.nothing 300 ?_; simp -implicitDefEqProofs only [BB,seval,← decide_not,okind,vpre,vpure,intBin,intPre,strBin,strPre,popTo,argSlots,fldV,fldAV,subCells,idxVV,idxAAV,idxSV,sliceV,sliceSV,boundV,szIs,storeOp,storeS,setRowV,eff,extV,buildV,splice,eqSV,fitsL,eqCells,eqCell,minmaxV,capV,binBV,nilCheckV,bytesV,V.cells,V.stays,Orc.nothing,c24])
  refine Runs.call rfl rfl rfl (clone_c l hl1 _) ?_
  rintro r σ1 ⟨hsub, hout⟩
  have hlen := hout.len
  rw [List.length_map] at hlen
  (refine Runs.of_step Orc.nothing 300 ?_; simp -implicitDefEqProofs only [BB,seval,← decide_not,okind,vpre,vpure,intBin,intPre,strBin,strPre,popTo,argSlots,fldV,fldAV,subCells,idxVV,idxAAV,idxSV,sliceV,sliceSV,boundV,szIs,storeOp,storeS,setRowV,eff,extV,buildV,splice,eqSV,fitsL,eqCells,eqCell,minmaxV,capV,binBV,nilCheckV,bytesV,V.cells,V.stays,Orc.nothing,hlen])
  refine Runs.loop (fun m st => ∃ (i : Nat), i ≤ l.length ∧ m = l.length - i ∧ st.σ = σ1 ∧ st.s 3 = r ∧ st.s 8 = vI l.length ∧ st.s 9 = vI i) l.length ?_ ?_
  · exact ⟨0, by omega, rfl, rfl, rfl, rfl, rfl⟩
  · rintro m ⟨s, σ'⟩ ⟨i, hi, rfl, hσ, h3, h8, h9⟩
    simp only at hσ h3 h8 h9
    subst hσ
    refine Runs.mix 10 ?_
    have hend : i = l.length → RetV r σ' fun r σ' => SubStore σ σ' ∧ OutV σ σ' 42 20 r (l.map encN) := fun _ =>
      ⟨_, _, SubStore.refl _, Wk.refl (SubStore.refl _) _, hsub, hout⟩
    have hout' := hout
    rcases hout' with ⟨rfl, hr0⟩ | ⟨id, rfl, ho, hk⟩
    · have hl0 : l = [] := by cases l with | nil => rfl | cons a b => simp at hr0
      subst hl0
      (refine Runs.of_step Orc.nothing 300 ?_; simp -implicitDefEqProofs only [BB,seval,← decide_not,okind,vpre,vpure,intBin,intPre,strBin,strPre,popTo,argSlots,fldV,fldAV,subCells,idxVV,idxAAV,idxSV,sliceV,sliceSV,boundV,szIs,storeOp,storeS,setRowV,eff,extV,buildV,splice,eqSV,fitsL,eqCells,eqCell,minmaxV,capV,binBV,nilCheckV,bytesV,V.cells,V.stays,Orc.nothing,h3,h8,h9])
      exact ⟨fun h => by first | omega | (simp at h; omega), fun _ => hend (by simpa using hi)⟩
    · rw [List.length_map] at h3 hend
      (refine Runs.of_step Orc.nothing 40 ?_; simp -implicitDefEqProofs only [BB,seval,← decide_not,okind,vpre,vpure,intBin,intPre,strBin,strPre,popTo,argSlots,fldV,fldAV,subCells,idxVV,idxAAV,idxSV,sliceV,sliceSV,boundV,szIs,storeOp,storeS,setRowV,eff,extV,buildV,splice,eqSV,fitsL,eqCells,eqCell,minmaxV,capV,binBV,nilCheckV,bytesV,V.cells,V.stays,s_zero,Orc.nothing,h3,h8,h9])
      refine And.intro (fun h => ?_) (fun h => ?_)
      · have hlt : i < l.length := by omega
        have hrow : (l.map encN)[i]? = some (encN l[i]) := by simp [hlt]
        have hset : (l.map encN).set i (encN l[i]) = l.map encN := by
          have : (l.map encN)[i]'(by simpa using hlt) = encN l[i] := by simp
          rw [← this, List.set_getElem_self]
        have hc : (0 : Int) ≤ (i : Int) ∧ (i : Int) < l.length := by omega
        have hw := hl2 _ (List.getElem_mem hlt)
        generalize hxe : l[i] = x at *
        have hrow' : (l.map encN)[i]? = some (.agg x.cells) := hrow
        simp -implicitDefEqProofs only [BB,seval,← decide_not,okind,vpre,vpure,intBin,intPre,strBin,strPre,popTo,argSlots,fldV,fldAV,subCells,idxVV,idxAAV,idxSV,sliceV,sliceSV,boundV,szIs,storeOp,storeS,setRowV,eff,extV,buildV,splice,eqSV,fitsL,eqCells,eqCell,minmaxV,capV,binBV,nilCheckV,bytesV,V.cells,V.stays,ho,hc,hrow',Nd.cells,h3,h8,h9,Int.toNat_natCast,s_zero]
        refine Runs.pcall rfl rfl rfl (cloneI_c x.words hw _) ?_
        have hset' := hset
        simp only [encN,Nd.cells,encI] at hset'
        (refine Runs.of_step Orc.nothing 300 ?_; simp -implicitDefEqProofs only [BB,seval,← decide_not,okind,vpre,vpure,intBin,intPre,strBin,strPre,popTo,argSlots,fldV,fldAV,subCells,idxVV,idxAAV,idxSV,sliceV,sliceSV,boundV,szIs,storeOp,storeS,setRowV,eff,extV,buildV,splice,eqSV,fitsL,eqCells,eqCell,minmaxV,capV,binBV,nilCheckV,bytesV,V.cells,V.stays,Orc.nothing,ho,hc,hrow',Nd.cells,encI,hset',upd_self' ho,h3,h8,h9,Int.toNat_natCast])
        exact ⟨inR_i64 (by omega) (by omega), _, by omega, i + 1, by omega, rfl, by rw [List.length_map], by simp⟩
      · exact hend (by omega)
theorem own9_c (l : List Nd) (hl : Sml l) : PFun Try.prog 24 [encNs l] (encNs l) := fun σ =>
  (own9_o l hl σ).weak fun _ _ h => h.2.retv h.1 rfl
set_option maxRecDepth 100000 in
theorem own9_w (l : List Nd) (hl : Sml l) (σ : Store) : Contract Try.prog 24 [encNs l] σ fun r σ' => SubStore σ σ' ∧ OutW σ σ' r l := by
  obtain ⟨hl1, hl2⟩ := hl
  refine Contract.of_runs Try.func24 e24 k24 (by simp [c24]) ?_
  refine Runs.mix 10 ?_
  (refine Runs.of_step Orc.nothing 300 ?_; simp -implicitDefEqProofs only [BB,seval,← decide_not,okind,vpre,vpure,intBin,intPre,strBin,strPre,popTo,argSlots,fldV,fldAV,subCells,idxVV,idxAAV,idxSV,sliceV,sliceSV,boundV,szIs,storeOp,storeS,setRowV,eff,extV,buildV,splice,eqSV,fitsL,eqCells,eqCell,minmaxV,capV,binBV,nilCheckV,bytesV,V.cells,V.stays,Orc.nothing,c24])
  refine Runs.call rfl rfl rfl (clone_c l hl1 _) ?_
  rintro r σ1 ⟨hsub, hout⟩
  have hlen := hout.len
  rw [List.length_map] at hlen
  (refine Runs.of_step Orc.nothing 300 ?_; simp -implicitDefEqProofs only [BB,seval,← decide_not,okind,vpre,vpure,intBin,intPre,strBin,strPre,popTo,argSlots,fldV,fldAV,subCells,idxVV,idxAAV,idxSV,sliceV,sliceSV,boundV,szIs,storeOp,storeS,setRowV,eff,extV,buildV,splice,eqSV,fitsL,eqCells,eqCell,minmaxV,capV,binBV,nilCheckV,bytesV,V.cells,V.stays,Orc.nothing,hlen])
  rcases hout with ⟨rfl, hr0⟩ | ⟨id, rfl, ho, hk⟩
  · have hl0 : l = [] := by cases l with | nil => rfl | cons a b => simp at hr0
    subst hl0
    refine Runs.loop (fun m st => m = 0 ∧ SubStore σ st.σ ∧ st.s 3 = .nils ∧ st.s 8 = vI 0 ∧ st.s 9 = vI 0) 0 ?_ ?_
    · exact ⟨rfl, hsub, rfl, rfl, rfl⟩
    · rintro m ⟨s, τ⟩ ⟨rfl, hs, h3, h8, h9⟩
      simp only at hs h3 h8 h9
      refine Runs.mix 10 ?_
      (refine Runs.of_step Orc.nothing 300 ?_; simp -implicitDefEqProofs only [BB,seval,← decide_not,okind,vpre,vpure,intBin,intPre,strBin,strPre,popTo,argSlots,fldV,fldAV,subCells,idxVV,idxAAV,idxSV,sliceV,sliceSV,boundV,szIs,storeOp,storeS,setRowV,eff,extV,buildV,splice,eqSV,fitsL,eqCells,eqCell,minmaxV,capV,binBV,nilCheckV,bytesV,V.cells,V.stays,Orc.nothing,h3,h8,h9])
      exact ⟨_, _, SubStore.refl _, Wk.refl (SubStore.refl _) _, hs, OutW.nil⟩
  · rw [List.length_map]
    refine Runs.loop (fun m st => ∃ (i : Nat) (rows : List V), i ≤ l.length ∧ m = l.length - i ∧ SubStore σ st.σ ∧ st.σ id = some ⟨42, 20, rows⟩ ∧ rows.length = l.length ∧ RowsW σ st.σ (l.take i) (rows.take i) ∧ rows.drop i = (l.drop i).map encN ∧ st.s 3 = .own id 0 l.length ∧ st.s 8 = vI l.length ∧ st.s 9 = vI i) l.length ?_ ?_
    · exact ⟨0, l.map encN, by omega, rfl, hsub, ho, by simp, trivial, by simp, rfl, rfl, rfl⟩
    · rintro m ⟨s, τ⟩ ⟨i, rows, hi, rfl, hs, ho, hn, hr, hd, h3, h8, h9⟩
      simp only at hs ho h3 h8 h9 hr
      refine Runs.mix 10 ?_
      (refine Runs.of_step Orc.nothing 40 ?_; simp -implicitDefEqProofs only [BB,seval,← decide_not,okind,vpre,vpure,intBin,intPre,strBin,strPre,popTo,argSlots,fldV,fldAV,subCells,idxVV,idxAAV,idxSV,sliceV,sliceSV,boundV,szIs,storeOp,storeS,setRowV,eff,extV,buildV,splice,eqSV,fitsL,eqCells,eqCell,minmaxV,capV,binBV,nilCheckV,bytesV,V.cells,V.stays,s_zero,Orc.nothing,h3,h8,h9])
      refine And.intro (fun h => ?_) (fun h => ?_)
      · have hlt : i < l.length := by omega
        have hdc : (l.drop i) = l[i] :: l.drop (i + 1) := List.drop_eq_getElem_cons hlt
        have hc : (0 : Int) ≤ (i : Int) ∧ (i : Int) < l.length := by omega
        have hw := hl2 _ (List.getElem_mem hlt)
        have htk : l.take (i + 1) = l.take i ++ [l[i]] := List.take_succ_eq_append_getElem hlt
        generalize hxe : l[i] = x at *
        have hrow' : rows[i]? = some (.agg x.cells) := by
          have : (rows.drop i)[0]? = some (encN x) := by rw [hd, hdc]; rfl
          rw [List.getElem?_drop] at this
          exact this
        simp -implicitDefEqProofs only [BB,seval,← decide_not,okind,vpre,vpure,intBin,intPre,strBin,strPre,popTo,argSlots,fldV,fldAV,subCells,idxVV,idxAAV,idxSV,sliceV,sliceSV,boundV,szIs,storeOp,storeS,setRowV,eff,extV,buildV,splice,eqSV,fitsL,eqCells,eqCell,minmaxV,capV,binBV,nilCheckV,bytesV,V.cells,V.stays,ho,hc,hn,hrow',Nd.cells,h3,h8,h9,Int.toNat_natCast,s_zero]
        refine Runs.call rfl rfl rfl (cloneI_o x.words hw _) ?_
        rintro w σ2 ⟨hs2, hw2⟩
        simp only at hs2 hw2
        have ho2 := hs2 _ _ ho
        have fin : SubStore σ (upd σ2 id ⟨42, 20, rows.set i (ndW x w)⟩) ∧ (rows.set i (ndW x w)).length = l.length ∧ RowsW σ (upd σ2 id ⟨42, 20, rows.set i (ndW x w)⟩) (l.take (i + 1)) ((rows.set i (ndW x w)).take (i + 1)) ∧ (rows.set i (ndW x w)).drop (i + 1) = (l.drop (i + 1)).map encN := by
          refine ⟨(hs.trans hs2).updK hk, by simp [hn], ?_, ?_⟩
          · have hk2 : ∀ j, j ≠ id → ∀ o, σ2 j = some o → upd σ2 id ⟨42, 20, rows.set i (ndW x w)⟩ j = some o := fun j hj o hjo => by rw [upd_ne hj]; exact hjo
            have h1 := (hr.mono hs2).kept ho2 hk2
            have h2 := (hw2.lessK hs).kept ho2 hk2
            have h3 : (rows.set i (ndW x w)).take (i + 1) = rows.take i ++ [ndW x w] := by
              rw [List.take_succ_eq_append_getElem (by simp; omega), List.take_set_of_le (by omega)]
              simp
            rw [h3, htk]
            exact h1.app ⟨⟨w, rfl, h2⟩, trivial⟩
          · rw [List.drop_set_of_lt (by omega)]
            have : rows.drop (i + 1) = (rows.drop i).drop 1 := by simp
            rw [this, hd, hdc]
            rfl
        rcases hw2 with ⟨rfl, _⟩ | ⟨idw, rfl, _, _⟩
        · (refine Runs.of_step Orc.nothing 300 ?_; simp -implicitDefEqProofs only [BB,seval,← decide_not,okind,vpre,vpure,intBin,intPre,strBin,strPre,popTo,argSlots,fldV,fldAV,subCells,idxVV,idxAAV,idxSV,sliceV,sliceSV,boundV,szIs,storeOp,storeS,setRowV,eff,extV,buildV,splice,eqSV,fitsL,eqCells,eqCell,minmaxV,capV,binBV,nilCheckV,bytesV,V.cells,V.stays,Orc.nothing,ho2,hc,hn,hrow',Nd.cells,h3,h8,h9,Int.toNat_natCast])
          exact ⟨inR_i64 (by omega) (by omega), _, by omega, i + 1, _, by omega, rfl, fin.1, rfl, fin.2.1, fin.2.2.1, fin.2.2.2, by simp⟩
        · (refine Runs.of_step Orc.nothing 300 ?_; simp -implicitDefEqProofs only [BB,seval,← decide_not,okind,vpre,vpure,intBin,intPre,strBin,strPre,popTo,argSlots,fldV,fldAV,subCells,idxVV,idxAAV,idxSV,sliceV,sliceSV,boundV,szIs,storeOp,storeS,setRowV,eff,extV,buildV,splice,eqSV,fitsL,eqCells,eqCell,minmaxV,capV,binBV,nilCheckV,bytesV,V.cells,V.stays,Orc.nothing,ho2,hc,hn,hrow',Nd.cells,h3,h8,h9,Int.toNat_natCast])
          exact ⟨inR_i64 (by omega) (by omega), _, by omega, i + 1, _, by omega, rfl, fin.1, rfl, fin.2.1, fin.2.2.1, fin.2.2.2, by simp⟩
      · have hie : i = l.length := by omega
        subst hie
        rw [List.take_length, List.take_of_length_le (by omega)] at hr
        exact ⟨_, _, SubStore.refl _, Wk.refl (SubStore.refl _) _, hs, rows, .inr ⟨id, by rw [hn], ho, hk⟩, hr⟩
end Go.Vc
namespace Go.Vc
open Go.Proofs
set_option maxRecDepth 100000 in
theorem equal_c (a b : List Int) (ha : a.length ≤ 200000000000000) : PFun Try.prog 54 [encI a, encI b] (.bool (decide (a = b))) := fun σ => by
  refine Contract.of_runs Try.func54 e54 k54 (by simp [c54]) ?_
  refine Runs.mix 14 ?_
  (refine Runs.of_step Orc.nothing 300 ?_; simp -implicitDefEqProofs only [BB,seval,effR_some,effD_some,← decide_not,okind,vpre,vpure,intBin,intPre,strBin,strPre,popTo,argSlots,fldV,fldAV,subCells,idxVV,idxAAV,idxSV,sliceV,sliceSV,boundV,szIs,storeOp,storeS,setRowV,eff,extV,buildV,splice,eqSV,fitsL,eqCells,eqCell,minmaxV,capV,binBV,nilCheckV,bytesV,V.cells,V.stays,Orc.nothing,c54,lenV_encI])
  refine And.intro (fun h => ?_) (fun h => ?_)
  · refine RetV.same ?_
    rw [V.bool.injEq]; symm
    rw [decide_eq_false_iff_not]
    rintro rfl
    simp at h
  · have hl : a.length = b.length := by
      have : (a.length : Int) = b.length := by simpa using h
      omega
    refine Runs.loop (fun m st => ∃ i : Nat, i ≤ a.length ∧ m = a.length - i ∧ a.take i = b.take i ∧ st.σ = σ ∧ st.s 0 = encI a ∧ st.s 1 = encI b ∧ st.s 12 = vI a.length ∧ st.s 13 = vI i) a.length ?_ ?_
    · exact ⟨0, by omega, by omega, rfl, rfl, rfl, rfl, rfl, rfl⟩
    · rintro m ⟨s, σ'⟩ ⟨i, hi, rfl, ht, hσ, h0, h1, h12, h13⟩
      simp only at hσ h0 h1 h12 h13
      subst hσ
      refine Runs.mix 14 ?_
      (refine Runs.of_step Orc.nothing 300 ?_; simp -implicitDefEqProofs only [BB,seval,effR_some,effD_some,← decide_not,okind,vpre,vpure,intBin,intPre,strBin,strPre,popTo,argSlots,fldV,fldAV,subCells,idxVV,idxAAV,idxSV,sliceV,sliceSV,boundV,szIs,storeOp,storeS,setRowV,eff,extV,buildV,splice,eqSV,fitsL,eqCells,eqCell,minmaxV,capV,binBV,nilCheckV,bytesV,V.cells,V.stays,Orc.nothing,h0,h1,h12,h13])
      refine And.intro (fun hlt => ?_) (fun hge => ?_)
      · have hlt' : i < a.length := by omega
        have hlt2 : i < b.length := by omega
        simp -implicitDefEqProofs only [BB,seval,effR_some,effD_some,← decide_not,okind,vpre,vpure,intBin,intPre,strBin,strPre,popTo,argSlots,fldV,fldAV,subCells,idxVV,idxAAV,idxSV,sliceV,sliceSV,boundV,szIs,storeOp,storeS,setRowV,eff,extV,buildV,splice,eqSV,fitsL,eqCells,eqCell,minmaxV,capV,binBV,nilCheckV,bytesV,V.cells,V.stays,idxAV_encI hlt',idxAV_encI hlt2,h0,h1,h12,h13]
        refine And.intro (fun hd => ?_) (fun hd => ?_)
        · refine RetV.same ?_
          rw [V.bool.injEq]; symm
          rw [decide_eq_false_iff_not]
          rintro rfl
          exact hd rfl
        · refine ⟨inR_i64 (by omega) (by omega), _, ?_, i + 1, by omega, rfl, ?_, by simp⟩
          · omega
          · rw [List.take_succ_eq_append_getElem hlt', List.take_succ_eq_append_getElem hlt2, ht]
            have : a[i] = b[i] := by simpa using hd
            rw [this]
      · have hie : i = a.length := by omega
        refine RetV.same ?_
        rw [V.bool.injEq]; symm
        rw [decide_eq_true_eq]
        rw [hie, List.take_length] at ht
        rw [ht, hl, List.take_length]
set_option maxRecDepth 100000 in
theorem one9_c (a b : Nd) (ha : a.words.length ≤ 200000000000000) : PFun Try.prog 53 [encN a, encN b] (.bool (decide (a = b))) := fun σ => by
  refine Contract.of_runs Try.func53 e53 k53 (by simp [c53]) ?_
  refine Runs.mix 6 ?_
  (refine Runs.of_step Orc.nothing 300 ?_; simp -implicitDefEqProofs only [BB,seval,← decide_not,okind,vpre,vpure,intBin,intPre,strBin,strPre,popTo,argSlots,fldV,fldAV,subCells,idxVV,idxAAV,idxSV,sliceV,sliceSV,boundV,szIs,storeOp,storeS,setRowV,eff,extV,buildV,splice,eqSV,fitsL,eqCells,eqCell,minmaxV,capV,binBV,nilCheckV,bytesV,V.cells,V.stays,Orc.nothing,c53,encN,Nd.cells])
  refine effR_new fun id2 σ1 s1 a2 f2 => ?_
  simp -implicitDefEqProofs only [BB,seval,← decide_not,okind,vpre,vpure,intBin,intPre,strBin,strPre,popTo,argSlots,fldV,fldAV,subCells,idxVV,idxAAV,idxSV,sliceV,sliceSV,boundV,szIs,storeOp,storeS,setRowV,eff,extV,buildV,splice,eqSV,fitsL,eqCells,eqCell,minmaxV,capV,binBV,nilCheckV,bytesV,V.cells,V.stays,a2]
  refine effR_new fun id3 σ2 s2 a3 f3 => ?_
  have n23 := ne_new a2 f3
  have a2 := s2 _ _ a2
  have hs := s1.trans s2
  simp -implicitDefEqProofs only [BB,seval,← decide_not,okind,vpre,vpure,intBin,intPre,strBin,strPre,popTo,argSlots,fldV,fldAV,subCells,idxVV,idxAAV,idxSV,sliceV,sliceSV,boundV,szIs,storeOp,storeS,setRowV,eff,extV,buildV,splice,eqSV,fitsL,eqCells,eqCell,minmaxV,capV,binBV,nilCheckV,bytesV,V.cells,V.stays,a2,a3]
  refine Runs.pcall rfl rfl rfl (equal_c a.words b.words ha _) ?_
  by_cases hw : a.words = b.words
  · have hwt : decide (a.words = b.words) = true := decide_eq_true hw
    (refine Runs.of_step Orc.nothing 300 ?_; simp -implicitDefEqProofs only [BB,seval,← decide_not,okind,vpre,vpure,intBin,intPre,strBin,strPre,popTo,argSlots,fldV,fldAV,subCells,idxVV,idxAAV,idxSV,sliceV,sliceSV,boundV,szIs,storeOp,storeS,setRowV,eff,extV,buildV,splice,eqSV,fitsL,eqCells,eqCell,minmaxV,capV,binBV,nilCheckV,bytesV,V.cells,V.stays,Orc.nothing,hwt,a2,a3,styEq])
    refine And.intro (fun c1 => And.intro (fun c2 => And.intro (fun c3 => And.intro (fun c4 => And.intro (fun c5 => And.intro (fun c6 => And.intro (fun c7 => ?_) (fun c7 => ?_)) (fun c6 => ?_)) (fun c5 => ?_)) (fun c4 => ?_)) (fun c3 => ?_)) (fun c2 => ?_)) (fun c1 => ?_)
    all_goals (refine RetV.pure hs ?_; rw [V.bool.injEq])
    · rw [Bool.eq_iff_iff, decide_eq_true_eq, decide_eq_true_eq]
      cases a; cases b; simp_all
    all_goals (symm; rw [decide_eq_false_iff_not]; rintro rfl; simp at *)
  · have hwt : decide (a.words = b.words) = false := decide_eq_false hw
    (refine Runs.of_step Orc.nothing 300 ?_; simp -implicitDefEqProofs only [BB,seval,← decide_not,okind,vpre,vpure,intBin,intPre,strBin,strPre,popTo,argSlots,fldV,fldAV,subCells,idxVV,idxAAV,idxSV,sliceV,sliceSV,boundV,szIs,storeOp,storeS,setRowV,eff,extV,buildV,splice,eqSV,fitsL,eqCells,eqCell,minmaxV,capV,binBV,nilCheckV,bytesV,V.cells,V.stays,Orc.nothing,hwt,a2,a3,styEq])
    refine RetV.pure hs ?_
    rw [V.bool.injEq]; symm
    rw [decide_eq_false_iff_not]; rintro rfl; exact hw rfl
set_option maxRecDepth 100000 in
theorem eqf_c (a b : List Nd) (ha : Fine a) (hb : Fine b) : PFun Try.prog 52 [encNs a, encNs b, .fn 53 []] (.bool (decide (a = b))) := fun σ => by
  have hal := ha.1
  refine Contract.of_runs Try.func52 e52 k52 (by simp [c52]) ?_
  refine Runs.mix 18 ?_
  (refine Runs.of_step Orc.nothing 300 ?_; simp -implicitDefEqProofs only [BB,seval,← decide_not,okind,vpre,vpure,intBin,intPre,strBin,strPre,popTo,argSlots,fldV,fldAV,subCells,idxVV,idxAAV,idxSV,sliceV,sliceSV,boundV,szIs,storeOp,storeS,setRowV,eff,extV,buildV,splice,eqSV,fitsL,eqCells,eqCell,minmaxV,capV,binBV,nilCheckV,bytesV,V.cells,V.stays,Orc.nothing,c52,lenV_encNs])
  refine And.intro (fun hl => ?_) (fun hl => ?_)
  · refine RetV.same ?_
    rw [V.bool.injEq]; symm
    rw [decide_eq_false_iff_not]
    rintro rfl
    simp at hl
  · have hl : a.length = b.length := by
      have : (a.length : Int) = b.length := by simpa using hl
      omega
    refine Runs.loop (fun m st => ∃ i : Nat, i ≤ a.length ∧ m = a.length - i ∧ a.take i = b.take i ∧ SubStore σ st.σ ∧ st.s 1 = encNs b ∧ st.s 2 = .fn 53 [] ∧ st.s 15 = encNs a ∧ st.s 16 = vI a.length ∧ st.s 17 = vI i) a.length ?_ ?_
    · exact ⟨0, by omega, by omega, rfl, SubStore.refl _, rfl, rfl, rfl, rfl, rfl⟩
    · rintro m ⟨s, σ'⟩ ⟨i, hi, rfl, ht, hsub, h1, h2, h15, h16, h17⟩
      simp only at hsub h1 h2 h15 h16 h17
      refine Runs.mix 18 ?_
      (refine Runs.of_step Orc.nothing 300 ?_; simp -implicitDefEqProofs only [BB,seval,← decide_not,okind,vpre,vpure,intBin,intPre,strBin,strPre,popTo,argSlots,fldV,fldAV,subCells,idxVV,idxAAV,idxSV,sliceV,sliceSV,boundV,szIs,storeOp,storeS,setRowV,eff,extV,buildV,splice,eqSV,fitsL,eqCells,eqCell,minmaxV,capV,binBV,nilCheckV,bytesV,V.cells,V.stays,Orc.nothing,h1,h2,h15,h16,h17])
      refine And.intro (fun hlt => ?_) (fun hge => ?_)
      · have hlt' : i < a.length := by omega
        have hlt2 : i < b.length := by omega
        have hx := ha.2 _ (List.getElem_mem hlt')
        have hy := hb.2 _ (List.getElem_mem hlt2)
        have hta := List.take_succ_eq_append_getElem hlt'
        have htb := List.take_succ_eq_append_getElem hlt2
        have hxe : a[i]? = some a[i] := by simp [hlt']
        have hye : b[i]? = some b[i] := by simp [hlt2]
        generalize hxg : a[i] = x at *
        generalize hyg : b[i] = y at *
        simp -implicitDefEqProofs only [BB,seval,← decide_not,okind,vpre,vpure,intBin,intPre,strBin,strPre,popTo,argSlots,fldV,fldAV,subCells,idxVV,idxAAV,idxSV,sliceV,sliceSV,boundV,szIs,storeOp,storeS,setRowV,eff,extV,buildV,splice,eqSV,fitsL,eqCells,eqCell,minmaxV,capV,binBV,nilCheckV,bytesV,V.cells,V.stays,idxAV_encNs hlt',idxAV_encNs hlt2,hxg,hyg,Nd.cells,h1,h2,h15,h16,h17]
        refine effR_new fun id1 σ1 s1 a1 f1 => ?_
        simp -implicitDefEqProofs only [BB,seval,← decide_not,okind,vpre,vpure,intBin,intPre,strBin,strPre,popTo,argSlots,fldV,fldAV,subCells,idxVV,idxAAV,idxSV,sliceV,sliceSV,boundV,szIs,storeOp,storeS,setRowV,eff,extV,buildV,splice,eqSV,fitsL,eqCells,eqCell,minmaxV,capV,binBV,nilCheckV,bytesV,V.cells,V.stays,a1,idxAV_encNs hlt',idxAV_encNs hlt2,hxg,hyg,Nd.cells,encI_cells,encI_stays,h1,h2,h15,h16,h17]
        refine effR_new fun id2 σ2 s2 a2 f2 => ?_
        have n12 : id1 ≠ id2 := by rintro rfl; rw [upd_same] at f2; cases f2
        have a1' := s2 id1 _ upd_same
        have hs2 := ((hsub.trans s1).updK (hsub.none f1)).trans s2
        have g2 := ((hsub.trans s1).updK (hsub.none f1)).none f2
        simp -implicitDefEqProofs only [BB,seval,← decide_not,okind,vpre,vpure,intBin,intPre,strBin,strPre,popTo,argSlots,fldV,fldAV,subCells,idxVV,idxAAV,idxSV,sliceV,sliceSV,boundV,szIs,storeOp,storeS,setRowV,eff,extV,buildV,splice,eqSV,fitsL,eqCells,eqCell,minmaxV,capV,binBV,nilCheckV,bytesV,V.cells,V.stays,a1',a2,upd_ne n12,encI_cells,encI_stays,h1,h2,h15,h16,h17]
        refine Runs.pcall rfl rfl rfl (one9_c x y hx _) ?_
        by_cases hd : x = y
        · have hdt : decide (x = y) = true := decide_eq_true hd
          (refine Runs.of_step Orc.nothing 300 ?_; simp -implicitDefEqProofs only [BB,seval,← decide_not,okind,vpre,vpure,intBin,intPre,strBin,strPre,popTo,argSlots,fldV,fldAV,subCells,idxVV,idxAAV,idxSV,sliceV,sliceSV,boundV,szIs,storeOp,storeS,setRowV,eff,extV,buildV,splice,eqSV,fitsL,eqCells,eqCell,minmaxV,capV,binBV,nilCheckV,bytesV,V.cells,V.stays,Orc.nothing,hdt,h1,h2,h15,h16,h17])
          refine ⟨inR_i64 (by omega) (by omega), _, ?_, i + 1, by omega, rfl, ?_, hs2.updK g2, by simp⟩
          · omega
          · rw [hta, htb, ht, hd]
        · have hdt : decide (x = y) = false := decide_eq_false hd
          (refine Runs.of_step Orc.nothing 300 ?_; simp -implicitDefEqProofs only [BB,seval,← decide_not,okind,vpre,vpure,intBin,intPre,strBin,strPre,popTo,argSlots,fldV,fldAV,subCells,idxVV,idxAAV,idxSV,sliceV,sliceSV,boundV,szIs,storeOp,storeS,setRowV,eff,extV,buildV,splice,eqSV,fitsL,eqCells,eqCell,minmaxV,capV,binBV,nilCheckV,bytesV,V.cells,V.stays,Orc.nothing,hdt,h1,h2,h15,h16,h17])
          refine RetV.pure (hs2.updK g2) ?_
          rw [V.bool.injEq]; symm
          rw [decide_eq_false_iff_not]
          rintro rfl
          rw [hxe] at hye
          simp at hye
          exact hd hye
      · have hie : i = a.length := by omega
        refine RetV.pure hsub ?_
        rw [V.bool.injEq]; symm
        rw [decide_eq_true_eq]
        rw [hie, List.take_length] at ht
        rw [ht, hl, List.take_length]
set_option maxRecDepth 100000 in
theorem same9_c (a b : List Nd) (ha : Fine a) (hb : Fine b) : PFun Try.prog 31 [encNs a, encNs b] (.bool (decide (a = b))) := fun σ => by
  refine Contract.of_runs Try.func31 e31 k31 (by simp [c31]) ?_
  refine Runs.mix 5 ?_
  (refine Runs.of_step Orc.nothing 300 ?_; simp -implicitDefEqProofs only [BB,seval,effR_some,effD_some,← decide_not,okind,vpre,vpure,intBin,intPre,strBin,strPre,popTo,argSlots,fldV,fldAV,subCells,idxVV,idxAAV,idxSV,sliceV,sliceSV,boundV,szIs,storeOp,storeS,setRowV,eff,extV,buildV,splice,eqSV,fitsL,eqCells,eqCell,minmaxV,capV,binBV,nilCheckV,bytesV,V.cells,V.stays,Orc.nothing,c31])
  refine Runs.pcall rfl rfl rfl (eqf_c a b ha hb _) ?_
  (refine Runs.of_step Orc.nothing 300 ?_; simp -implicitDefEqProofs only [BB,seval,effR_some,effD_some,← decide_not,okind,vpre,vpure,intBin,intPre,strBin,strPre,popTo,argSlots,fldV,fldAV,subCells,idxVV,idxAAV,idxSV,sliceV,sliceSV,boundV,szIs,storeOp,storeS,setRowV,eff,extV,buildV,splice,eqSV,fitsL,eqCells,eqCell,minmaxV,capV,binBV,nilCheckV,bytesV,V.cells,V.stays,Orc.nothing])
  exact RetV.same rfl
end Go.Vc
namespace Go.Vc
open Go.Proofs
theorem edEq (x y : Ed) : x = y ↔ x.kind = y.kind ∧ x.into = y.into ∧ x.pos = y.pos ∧ x.many = y.many ∧ x.st = y.st ∧ x.sub = y.sub := by
  cases x; cases y; simp; intros; exact And.comm
set_option maxRecDepth 100000 in
theorem sameE_c (x y : Ed) (hx : Fine x.sub) (hy : Fine y.sub) : PFun Try.prog 11 [encE x, encE y] (.bool (decide (x = y))) := fun σ => by
  refine Contract.of_runs Try.func11 e11 k11 (by simp [c11]) ?_
  refine Runs.mix 5 ?_
  (refine Runs.of_step Orc.nothing 300 ?_; simp -implicitDefEqProofs only [BB,seval,← decide_not,okind,vpre,vpure,intBin,intPre,strBin,strPre,popTo,argSlots,fldV,fldAV,subCells,idxVV,idxAAV,idxSV,sliceV,sliceSV,boundV,szIs,storeOp,storeS,setRowV,eff,extV,buildV,splice,eqSV,fitsL,eqCells,eqCell,minmaxV,capV,binBV,nilCheckV,bytesV,V.cells,V.stays,Orc.nothing,c11,encE,Ed.cells,encNs_cells,encNs_stays])
  refine effR_new fun id2 σ1 s1 a2 f2 => ?_
  simp -implicitDefEqProofs only [BB,seval,← decide_not,okind,vpre,vpure,intBin,intPre,strBin,strPre,popTo,argSlots,fldV,fldAV,subCells,idxVV,idxAAV,idxSV,sliceV,sliceSV,boundV,szIs,storeOp,storeS,setRowV,eff,extV,buildV,splice,eqSV,fitsL,eqCells,eqCell,minmaxV,capV,binBV,nilCheckV,bytesV,V.cells,V.stays,a2,encNs_cells,encNs_stays]
  refine effR_new fun id3 σ2 s2 a3 f3 => ?_
  have n23 := ne_new a2 f3
  have a2 := s2 _ _ a2
  have hs := s1.trans s2
  simp -implicitDefEqProofs only [BB,seval,← decide_not,okind,vpre,vpure,intBin,intPre,strBin,strPre,popTo,argSlots,fldV,fldAV,subCells,idxVV,idxAAV,idxSV,sliceV,sliceSV,boundV,szIs,storeOp,storeS,setRowV,eff,extV,buildV,splice,eqSV,fitsL,eqCells,eqCell,minmaxV,capV,binBV,nilCheckV,bytesV,V.cells,V.stays,a2,a3,styEq,encNs_cells,encNs_stays]
  refine And.intro (fun c1 => And.intro (fun c2 => And.intro (fun c3 => And.intro (fun c4 => And.intro (fun c5 => ?_) (fun c5 => ?_)) (fun c4 => ?_)) (fun c3 => ?_)) (fun c2 => ?_)) (fun c1 => ?_)
  · refine Runs.pcall rfl rfl rfl (same9_c x.sub y.sub hx hy _) ?_
    (refine Runs.of_step Orc.nothing 300 ?_; simp -implicitDefEqProofs only [BB,seval,← decide_not,okind,vpre,vpure,intBin,intPre,strBin,strPre,popTo,argSlots,fldV,fldAV,subCells,idxVV,idxAAV,idxSV,sliceV,sliceSV,boundV,szIs,storeOp,storeS,setRowV,eff,extV,buildV,splice,eqSV,fitsL,eqCells,eqCell,minmaxV,capV,binBV,nilCheckV,bytesV,V.cells,V.stays,Orc.nothing])
    refine RetV.pure hs ?_
    rw [V.bool.injEq, Bool.eq_iff_iff, decide_eq_true_eq, decide_eq_true_eq, edEq]
    simp_all
  all_goals (refine RetV.pure hs ?_; rw [V.bool.injEq]; symm; rw [decide_eq_false_iff_not]; rintro rfl; simp at *)
set_option maxRecDepth 100000 in
theorem sameE8_c (x y : Ed) (hx : Fine x.sub) (hy : Fine y.sub) : PFun Try.prog 12 [encE x, encE y] (.bool (decide (x = y))) := fun σ => by
  refine Contract.of_runs Try.func12 e12 k12 (by simp [c12]) ?_
  refine Runs.mix 5 ?_
  (refine Runs.of_step Orc.nothing 300 ?_; simp -implicitDefEqProofs only [BB,seval,← decide_not,okind,vpre,vpure,intBin,intPre,strBin,strPre,popTo,argSlots,fldV,fldAV,subCells,idxVV,idxAAV,idxSV,sliceV,sliceSV,boundV,szIs,storeOp,storeS,setRowV,eff,extV,buildV,splice,eqSV,fitsL,eqCells,eqCell,minmaxV,capV,binBV,nilCheckV,bytesV,V.cells,V.stays,Orc.nothing,c12,encE,Ed.cells,encNs_cells,encNs_stays])
  refine effR_new fun id2 σ1 s1 a2 f2 => ?_
  simp -implicitDefEqProofs only [BB,seval,← decide_not,okind,vpre,vpure,intBin,intPre,strBin,strPre,popTo,argSlots,fldV,fldAV,subCells,idxVV,idxAAV,idxSV,sliceV,sliceSV,boundV,szIs,storeOp,storeS,setRowV,eff,extV,buildV,splice,eqSV,fitsL,eqCells,eqCell,minmaxV,capV,binBV,nilCheckV,bytesV,V.cells,V.stays,a2,encNs_cells,encNs_stays]
  refine effR_new fun id3 σ2 s2 a3 f3 => ?_
  have n23 := ne_new a2 f3
  have a2 := s2 _ _ a2
  have hs := s1.trans s2
  simp -implicitDefEqProofs only [BB,seval,← decide_not,okind,vpre,vpure,intBin,intPre,strBin,strPre,popTo,argSlots,fldV,fldAV,subCells,idxVV,idxAAV,idxSV,sliceV,sliceSV,boundV,szIs,storeOp,storeS,setRowV,eff,extV,buildV,splice,eqSV,fitsL,eqCells,eqCell,minmaxV,capV,binBV,nilCheckV,bytesV,V.cells,V.stays,a2,a3,styEq,encNs_cells,encNs_stays]
  refine And.intro (fun c1 => And.intro (fun c2 => And.intro (fun c3 => And.intro (fun c4 => And.intro (fun c5 => ?_) (fun c5 => ?_)) (fun c4 => ?_)) (fun c3 => ?_)) (fun c2 => ?_)) (fun c1 => ?_)
  · refine Runs.pcall rfl rfl rfl (same5_c x.sub y.sub hx hy _) ?_
    (refine Runs.of_step Orc.nothing 300 ?_; simp -implicitDefEqProofs only [BB,seval,← decide_not,okind,vpre,vpure,intBin,intPre,strBin,strPre,popTo,argSlots,fldV,fldAV,subCells,idxVV,idxAAV,idxSV,sliceV,sliceSV,boundV,szIs,storeOp,storeS,setRowV,eff,extV,buildV,splice,eqSV,fitsL,eqCells,eqCell,minmaxV,capV,binBV,nilCheckV,bytesV,V.cells,V.stays,Orc.nothing])
    refine RetV.pure hs ?_
    rw [V.bool.injEq, Bool.eq_iff_iff, decide_eq_true_eq, decide_eq_true_eq, edEq]
    simp_all
  all_goals (refine RetV.pure hs ?_; rw [V.bool.injEq]; symm; rw [decide_eq_false_iff_not]; rintro rfl; simp at *)
set_option maxRecDepth 100000 in
theorem own8_c (l : List Nd) (hl : Sml l) : PFun Try.prog 27 [encNs l] (encNs l) := fun σ => by
  refine Contract.of_runs Try.func27 e27 k27 (by simp [c27]) ?_
  refine Runs.mix 3 ?_
  (refine Runs.of_step Orc.nothing 300 ?_; simp -implicitDefEqProofs only [BB,seval,effR_some,effD_some,← decide_not,okind,vpre,vpure,intBin,intPre,strBin,strPre,popTo,argSlots,fldV,fldAV,subCells,idxVV,idxAAV,idxSV,sliceV,sliceSV,boundV,szIs,storeOp,storeS,setRowV,eff,extV,buildV,splice,eqSV,fitsL,eqCells,eqCell,minmaxV,capV,binBV,nilCheckV,bytesV,V.cells,V.stays,Orc.nothing,c27])
  refine Runs.pcall rfl rfl rfl (own_c l hl _) ?_
  (refine Runs.of_step Orc.nothing 300 ?_; simp -implicitDefEqProofs only [BB,seval,effR_some,effD_some,← decide_not,okind,vpre,vpure,intBin,intPre,strBin,strPre,popTo,argSlots,fldV,fldAV,subCells,idxVV,idxAAV,idxSV,sliceV,sliceSV,boundV,szIs,storeOp,storeS,setRowV,eff,extV,buildV,splice,eqSV,fitsL,eqCells,eqCell,minmaxV,capV,binBV,nilCheckV,bytesV,V.cells,V.stays,Orc.nothing])
  exact RetV.same rfl
set_option maxRecDepth 100000 in
theorem tops_c (l : List Nd) (hl : Fine l) (hb : isB l = true) : PFun Try.prog 23 [encNs l] (vI (kidsR l (-1)).length) := fun σ => by
  refine Contract.of_runs Try.func23 e23 k23 (by simp [c23]) ?_
  refine Runs.mix 3 ?_
  (refine Runs.of_step Orc.nothing 300 ?_; simp -implicitDefEqProofs only [BB,seval,effR_some,effD_some,← decide_not,okind,vpre,vpure,intBin,intPre,strBin,strPre,popTo,argSlots,fldV,fldAV,subCells,idxVV,idxAAV,idxSV,sliceV,sliceSV,boundV,szIs,storeOp,storeS,setRowV,eff,extV,buildV,splice,eqSV,fitsL,eqCells,eqCell,minmaxV,capV,binBV,nilCheckV,bytesV,V.cells,V.stays,Orc.nothing,c23])
  refine Runs.pcall rfl rfl rfl (kids9_p l hl hb (-1) (.inl rfl) _) ?_
  (refine Runs.of_step Orc.nothing 300 ?_; simp -implicitDefEqProofs only [BB,seval,effR_some,effD_some,← decide_not,okind,vpre,vpure,intBin,intPre,strBin,strPre,popTo,argSlots,fldV,fldAV,subCells,idxVV,idxAAV,idxSV,sliceV,sliceSV,boundV,szIs,storeOp,storeS,setRowV,eff,extV,buildV,splice,eqSV,fitsL,eqCells,eqCell,minmaxV,capV,binBV,nilCheckV,bytesV,V.cells,V.stays,Orc.nothing,lenV_encI])
  exact RetV.same rfl
end Go.Vc
namespace Go.Vc
open Go.Proofs
def Srt : Int → List Int → Prop
  | _, [] => True
  | a, q :: r => a ≤ q ∧ Srt (q + 1) r
theorem Srt.le {a b : Int} (h : b ≤ a) : ∀ {l : List Int}, Srt a l → Srt b l
  | [], _ => trivial
  | _ :: _, ⟨h1, h2⟩ => ⟨by omega, h2⟩
theorem Srt.ge {a : Int} : ∀ {l : List Int}, Srt a l → ∀ x ∈ l, a ≤ x
  | _ :: r, ⟨h1, h2⟩, x, hx => by
    rcases List.mem_cons.1 hx with rfl | hx
    · exact h1
    · have := Srt.ge h2 x hx; omega
def rowOfI (l : List Nd) (into : Int) : Nat × Nat := if into = -1 then (0, l.length) else (into.toNat + 1, into.toNat + (szI l into.toNat).toNat)
theorem rowOfI_facts {l : List Nd} (hb : isB l = true) {into : Int} (hin : into = -1 ∨ hasI l into = true) : ∃ a e : Nat, rowOfI l into = (a, e) ∧ (a : Int) = into + 1 ∧ a ≤ e ∧ e ≤ l.length ∧ rowsB l a e = true ∧ kidsR l into = kidsW l a e := by
  have hrows : rowsB l 0 l.length = true := by simp only [isB,Bool.and_eq_true] at hb; exact hb.2
  by_cases h : into = -1
  · subst h
    exact ⟨0, l.length, by simp [rowOfI], by omega, by omega, Nat.le_refl _, hrows, kidsR_top hb⟩
  · have hh : hasI l into = true := by rcases hin with h1 | h1; exact absurd h1 h; exact h1
    obtain ⟨p, rfl⟩ : ∃ p : Nat, into = p := ⟨into.toNat, by have := hasI_iff.1 hh; omega⟩
    have hp : p < l.length := by have := hasI_iff.1 hh; omega
    obtain ⟨z1, z2⟩ := szI_bound hb hp
    have hse := szI_eq hp
    obtain ⟨z3, _⟩ := rowsB_ends (Nat.le_refl _) hrows (Nat.zero_le p) hp
    have hin := rowsB_inner l (l.length + 1) 0 l.length (by omega) (Nat.le_refl _) hrows p (by omega) hp hp
    rw [← hse] at hin
    exact ⟨p + 1, p + (szI l p).toNat, by simp [rowOfI, h], by omega, by omega, by omega, hin, kidsR_in hb hp⟩
theorem kidsW_srt {l : List Nd} {e : Nat} (he : e ≤ l.length) : ∀ (m a : Nat), e - a < m → a ≤ e → rowsB l a e = true → Srt a (kidsW l a e ++ [(e : Int)]) ∧ (∀ x ∈ kidsW l a e, x < e) ∧ ∀ into : Int, (a : Int) = into + 1 → lastEnd l into (kidsW l a e) = e
  | 0, _, h, _, _ => by omega
  | m + 1, a, hm, hae, hr => by
    by_cases hlt : a < e
    · have hal : a < l.length := by omega
      obtain ⟨h1, h2⟩ := rowsB_ends he hr (Nat.le_refl a) hlt
      obtain ⟨h3, _⟩ := rowsB_next he hr hlt
      have hse := szI_eq hal
      have hz : ((szI l a).toNat : Int) = szI l a := by omega
      obtain ⟨g1, g2, g3⟩ := kidsW_srt he m (a + (szI l a).toNat) (by omega) (by omega) h3
      rw [kidsW_cons hlt hal (by omega), ← hse]
      refine ⟨⟨Int.le_refl _, g1.le (by omega)⟩, ?_, ?_⟩
      · intro x hx
        rcases List.mem_cons.1 hx with rfl | hx
        · omega
        · exact g2 x hx
      · intro into hinto
        have := g3 ((a : Int) + szI l a - 1) (by omega)
        rw [← this]
        simp only [lastEnd,List.foldl_cons,Int.toNat_natCast]
        congr 1
        omega
    · have : a = e := by omega
      subst this
      rw [kidsW_nil (Nat.le_refl _)]
      exact ⟨⟨Int.le_refl _, trivial⟩, by simp, fun into h => by rw [lastEnd_nil]; omega⟩
theorem placesR_eq {l : List Nd} (hb : isB l = true) {into : Int} (hin : into = -1 ∨ hasI l into = true) {a e : Nat} (h : rowOfI l into = (a, e)) : placesR l into = kidsW l a e ++ [(e : Int)] ∧ Srt (into + 1) (placesR l into) ∧ ∀ x ∈ placesR l into, x ≤ e := by
  obtain ⟨a', e', h1, h2, h3, h4, h5, h6⟩ := rowOfI_facts hb hin
  rw [h] at h1
  obtain ⟨rfl, rfl⟩ := Prod.mk.inj h1
  obtain ⟨g1, g2, g3⟩ := kidsW_srt h4 (e + 1) a (by omega) h3 h5
  have hp : placesR l into = kidsW l a e ++ [(e : Int)] := by rw [placesR, h6, g3 into h2]
  refine ⟨hp, ?_, ?_⟩
  · rw [hp, ← h2]; exact g1
  · rw [hp]
    intro x hx
    rcases List.mem_append.1 hx with hx | hx
    · have := g2 x hx; omega
    · simp at hx; omega
theorem Srt.lt_of_get {a : Int} : ∀ {l : List Int}, Srt a l → ∀ (i j : Nat) (x y : Int), i ≤ j → l[i]? = some x → l[j]? = some y → x + ((j : Int) - i) ≤ y
  | [], _, i, j, x, y, _, h, _ => by simp at h
  | q :: r, ⟨h1, h2⟩, 0, 0, x, y, _, hx, hy => by simp at hx hy; omega
  | q :: r, ⟨h1, h2⟩, 0, j + 1, x, y, _, hx, hy => by
    simp at hx hy
    have hj := (List.getElem?_eq_some_iff.1 hy).1
    have h0 : r[0]? = some r[0] := by simp [show 0 < r.length by omega]
    have := Srt.lt_of_get h2 0 j _ y (by omega) h0 hy
    have h3 := Srt.ge h2 _ (List.mem_of_getElem? h0)
    omega
  | q :: r, ⟨h1, h2⟩, i + 1, 0, x, y, h, _, _ => by omega
  | q :: r, ⟨h1, h2⟩, i + 1, j + 1, x, y, h, hx, hy => by
    simp at hx hy
    have := Srt.lt_of_get h2 i j x y (by omega) hx hy
    omega
theorem idxI_get {a : Int} : ∀ {p : List Int} {i : Nat}, 0 ≤ idxI a p i → p[(idxI a p i - i).toNat]? = some a ∧ (i : Int) ≤ idxI a p i
  | [], i, h => by simp [idxI] at h
  | q :: r, i, h => by
    rw [idxI] at h ⊢
    split
    · rename_i he; subst he; simp
    · rename_i hne
      rw [if_neg hne] at h
      obtain ⟨h1, h2⟩ := idxI_get h
      refine ⟨?_, by omega⟩
      have e1 : (idxI a r (i + 1) - (i : Int)).toNat = (idxI a r (i + 1) - ((i + 1 : Nat) : Int)).toNat + 1 := by omega
      rw [e1, List.getElem?_cons_succ]
      exact h1
theorem goneR_facts {l : List Nd} (hb : isB l = true) {into pos many from' to : Int} (h : goesR l into pos many = (from', to, true)) :
    from' = pos ∧ into + 1 ≤ pos ∧ pos ≤ to ∧ to ≤ l.length ∧ -1 ≤ into ∧ (into = -1 ∨ blockR l into = true) ∧ 0 ≤ many ∧
    ∃ k : Nat, (placesR l into)[k]? = some pos ∧ (placesR l into)[k + many.toNat]? = some to := by
  rw [goesR] at h
  split at h
  · cases h
  · rename_i hnb
    have hin : into = -1 ∨ blockR l into = true := by
      by_cases h1 : into = -1
      · exact .inl h1
      · right
        cases hbk : blockR l into
        · exact absurd ⟨h1, hbk⟩ hnb
        · rfl
    have hin2 : into = -1 ∨ hasI l into = true := hin.imp id fun h => by simp only [blockR,Bool.and_eq_true] at h; exact h.1
    have hi1 : -1 ≤ into := by
      rcases hin2 with h | h
      · omega
      · have := hasI_iff.1 h; omega
    split at h
    · cases h
    · rename_i hk
      obtain ⟨rfl, rfl, _⟩ : pos = from' ∧ ((placesR l into)[(idxI pos (placesR l into) 0 + many).toNat]?).getD 0 = to ∧ True := by
        simp only [Prod.mk.injEq,and_true] at h; exact ⟨h.1, h.2, trivial⟩
      obtain ⟨a, e, h1, h2, h3, h4, h5, h6⟩ := rowOfI_facts hb hin2
      obtain ⟨hp, hs, hle⟩ := placesR_eq hb hin2 h1
      obtain ⟨g1, g2⟩ := idxI_get (a := pos) (p := placesR l into) (i := 0) (by omega)
      have hr := idxI_range pos (placesR l into) 0
      generalize placesR l into = p at *
      generalize idxI pos p 0 = k at *
      have hk2 : (k + many).toNat < p.length := by omega
      have e1 : (k - ((0 : Nat) : Int)).toNat = k.toNat := by omega
      rw [e1] at g1
      have e2 : (k + many).toNat = k.toNat + many.toNat := by omega
      have hto : p[(k + many).toNat]? = some p[(k + many).toNat] := by simp [hk2]
      have hlt := Srt.lt_of_get hs k.toNat (k + many).toNat _ _ (by omega) g1 hto
      have hge := Srt.ge hs _ (List.mem_of_getElem? g1)
      have htl := hle _ (List.mem_of_getElem? hto)
      rw [hto, Option.getD_some]
      exact ⟨rfl, hge, by omega, by omega, hi1, hin, by omega, k.toNat, g1, by rw [← e2]; exact hto⟩
end Go.Vc
