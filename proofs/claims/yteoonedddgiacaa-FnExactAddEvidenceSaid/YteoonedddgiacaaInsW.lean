/- slices.Insert of elements of three cells, walked: there is room, and it is grown. -/
import Derived.Test.YteoonedddgiacaaAbR
import Derived.Test.YteoonedddgiacaaProg
import Derived.Lib.Overlaps
import Derived.Lib.AppendZerosOnto
import Derived.Shelf.Spec.SlicesInsert
import Derived.Lib.AppendZeros
import Derived.Deep.RegionLaw
import Derived.WalkKit
import Derived.Lib.Walk
import Derived.Lib.SliceRun
import Derived.Lib.JoinLaws
import Derived.Laws.Externs
import Derived.Laws.IdiomCopy
import Derived.Laws.NewBlocks
namespace Go.Proofs.Yteoonedddgiacaa.Ins
open Go Go.RowKit Go.Lib Go.Proofs.Yteoonedddgiacaa.Ab
set_option linter.unusedSimpArgs false
set_option linter.unusedVariables false

theorem setC_append (g : Nat) : ∀ (xs ys : List Value) (o : Nat) (w : World), setC w g o (xs ++ ys) = setC (setC w g o xs) g (o + xs.length) ys
  | [], ys, o, w => by simp [setC]
  | x :: xs, ys, o, w => by
    rw [List.cons_append, setC, setC, setC_append g xs ys (o + 1)]
    congr 1; simp; omega
theorem drew_setC (g : Nat) : ∀ (vs : List Value) (o : Nat) (w : World), (setC w g o vs).drew = setC w.drew g o vs
  | [], _, _ => rfl
  | v :: r, o, w => by rw [setC, setC, drew_setC g r]; rfl
theorem live_shape {w : World} {g m : Nat} (h : Live w g m) : ∃ T k, w.shape? g = some (T, k) ∧ m ≤ k := by
  obtain ⟨cs, T, h1, h2⟩ := h
  exact ⟨T, cs.size, by simp [World.shape?, h1], h2⟩


/-- Cells copied. -/
theorem run_copyN {P : Program} (W : World) {dT sT ty e : TypeId} {sz : Nat} (ht : P.underlying dT = some (.slice e)) (hs : size? P e = some sz) {g m o dLen dCap : Nat} (hl : Live W g m) {A : Addr} {sLen sCap k : Nat} (hk : Nat.min sLen dLen = k) {vs : List Value}
    (hv : vs.length = k * sz) (ho : o + vs.length ≤ m) (hc : ∀ j v, vs[j]? = some v → W.cell? (A.add j) = some v) (h1 : ∀ v ∈ vs, v.oneCell' = true) :
    (Builtin.copy_ #[dT, sT] ty #[.slice (some ⟨g, o, none⟩) dLen dCap, .slice (some A) sLen sCap]).run P W = .ok (goInt k) (setC W g o vs) := by
  have hst := run_storeCells' (P := P) (o := o) vs 0 hl (by omega) h1
  have hld : (loadCells A (k * sz)).run P W = .ok vs.toArray W := by rw [← hv]; exact run_loadCells_list W A vs hc
  simp only [Builtin.copy_, List.getElem?_toArray, List.getElem?_cons_zero, List.getElem?_cons_succ, Sem.run_bind, run_underlying' ht, Result.andThen_ok, run_sizeOf' hs, Sem.run_pure, Builtin.lenOf, hk, Builtin.firstCells, hld]
  simp [hst]

theorem szE : size? Try.prog 44 = some 3 := by kernel_rfl

set_option maxHeartbeats 4000000 in
set_option maxRecDepth 100000 in
/-- There is room: in place. -/
theorem ins_shift (b off n c i vb voff m vc : Nat) (D vs : List Value) (w : World) (hi : i < n) (hm : 0 < m) (hroom : n + m ≤ c) (hnm : n + m ≤ 9223372036854775807) (hvb : vb ≠ b)
    (hlb : Live w b (off + c * 3)) (hlv : Live w vb (voff + m * 3)) (hDl : D.length = (n - i) * 3) (hvl : vs.length = m * 3)
    (hD : ∀ j v, D[j]? = some v → w.cell? ⟨b, off + i * 3 + j, none⟩ = some v) (hvs : ∀ j v, vs[j]? = some v → w.cell? ⟨vb, voff + j, none⟩ = some v) (h1D : ∀ v ∈ D, v.oneCell' = true) (h1v : ∀ v ∈ vs, v.oneCell' = true) :
    Calls Try.prog 33 #[.slice (some ⟨b, off, none⟩) n c, .int .i64 i, .slice (some ⟨vb, voff, none⟩) m vc] w fun e w' =>
      e = .returned (.slice (some ⟨b, off, none⟩) (n + m) c) ∧ w' = setC (setC w.drew b (off + (i + m) * 3) D) b (off + i * 3) vs := by
  have hz1 : ¬ ((m : Int) = 0) := by omega
  have hz2 : ¬ ((i : Int) = (n : Int)) := by omega
  obtain ⟨tA, kA, hsa, hkA⟩ := live_shape hlv
  obtain ⟨tB, kB, hsb, hkB⟩ := live_shape hlb
  have hov : ∀ lb cb, (callFunc 49 #[.slice (some ⟨vb, voff, none⟩) m vc, .slice (some ⟨b, off + (i + m) * 3, none⟩) lb cb]).run Try.prog w = .ok (.value (.bool false)) w := fun lb cb => by
    rw [run_callFunc_extern Try.func49 (by kernel_rfl) (by kernel_rfl) (by kernel_rfl) (e := Extern.SlicesOverlaps.overlaps #[33, 33] #[4]) (by kernel_rfl),
      Lib.run_overlaps_apart w 33 4 44 Try.underlying33 3 Try.sizeOf44 ⟨vb, voff, none⟩ ⟨b, off + (i + m) * 3, none⟩ m vc lb cb hvb tA tB kA kB hsa hsb (by omega) (hlv.frozen _) (hlv.frozen _)]
    rfl
  have hw1 : IntKind.i64.wrap ((i : Int) + (m : Int)) = (i : Int) + (m : Int) := by rw [IntKind.wrap_i64]; omega
  have hb1 : (0 : Int) ≤ (i : Int) + (m : Int) := by omega
  have hin : i ≤ n := by omega
  have htn : ((i : Int) + (m : Int)).toNat = i + m := by omega
  have hb2 : ¬ (c = i + m) := by omega
  have hb3 : (i : Int) ≤ (n : Int) + (m : Int) := by omega
  have hb4 : ¬ (c = i) := by omega
  have hlb1 : Live w.drew b (off + c * 3) := hlb
  have hcp1 : ∀ ty dc sc, (Builtin.copy_ #[33, 33] ty #[.slice (some ⟨b, off + (i + m) * 3, none⟩) (n + m - (i + m)) dc, .slice (some ⟨b, off + i * 3, none⟩) (n + m - i) sc]).run Try.prog w.drew = .ok (goInt (n - i : Nat)) (setC w.drew b (off + (i + m) * 3) D) := fun ty dc sc =>
    run_copyN w.drew Try.underlying33 szE hlb1 (by simp only [Nat.min_def]; split <;> omega) hDl (by omega) (fun j v hj => by rw [Addr.add_lit]; exact hD j v hj) h1D
  have hlb2 : Live (setC w.drew b (off + (i + m) * 3) D) b (off + c * 3) := setC_live _ _ hlb1
  have hvW : (setC w.drew b (off + (i + m) * 3) D).heap[vb]? = w.heap[vb]? := (setC_frame b D _ w.drew).2.2.2.2 vb hvb
  have hcp2 : ∀ ty dc, (Builtin.copy_ #[33, 33] ty #[.slice (some ⟨b, off + i * 3, none⟩) (n + m - i) dc, .slice (some ⟨vb, voff, none⟩) m vc]).run Try.prog (setC w.drew b (off + (i + m) * 3) D) = .ok (goInt (m : Nat)) (setC (setC w.drew b (off + (i + m) * 3) D) b (off + i * 3) vs) := fun ty dc =>
    run_copyN _ Try.underlying33 szE hlb2 (by simp only [Nat.min_def]; split <;> omega) hvl (by omega) (fun j v hj => by
      rw [Addr.add_lit, ← hvs j v hj]
      exact World.cell?_of_block hvW) h1v
  clear hvW hlb2 hlb1
  go_enter Try.func33, Try.ntmps33
  go_wp2_with (simp only [hov])
  go_region_law (refine step_copy_runI rfl _ _ 33 33 rfl _ _ (by simp [Act.eval, Act.put]) (by simp [Act.eval, Act.put]) (hcp1 _ _ _) ?_)
  go_wp2_with (at_builtin; refine wpList_copy_runI _ rfl _ _ 33 33 rfl _ _ rfl rfl (hcp2 _ _) ?_)
  go_ret
  exact ⟨rfl, rfl⟩

theorem infE : (Try.prog.info? 44).map (fun i => (i.zero, i.size, i.bytes)) = some (some (.agg #[.int .i64 0, .int .i64 0, .int .i64 0]), 3, 24) := by kernel_rfl
/-- What a grown block holds at first. -/
def grown (F : List Value) (k l : Nat) : Array Value := F.toArray ++ Builtin.zeroCells (Value.agg #[.int .i64 0, .int .i64 0, .int .i64 0]).cells k ++ Builtin.zeroCells (Value.agg #[.int .i64 0, .int .i64 0, .int .i64 0]).cells l
theorem zc_size (k : Nat) : (Builtin.zeroCells (Value.agg #[.int .i64 0, .int .i64 0, .int .i64 0]).cells k).size = k * 3 := by
  simp [Builtin.zeroCells, Value.cells]
theorem zc_one (k : Nat) : ∀ u ∈ (Builtin.zeroCells (Value.agg #[.int .i64 0, .int .i64 0, .int .i64 0]).cells k).toList, u.oneCell' = true := by
  intro u hu
  simp only [Builtin.zeroCells, Array.toList_map, List.mem_map] at hu
  obtain ⟨q, _, rfl⟩ := hu
  have e : (Value.agg #[.int .i64 0, .int .i64 0, .int .i64 0]).cells = #[.int .i64 0, .int .i64 0, .int .i64 0] := rfl
  rw [e]
  have h : q % 3 = 0 ∨ q % 3 = 1 ∨ q % 3 = 2 := by omega
  show (#[Value.int .i64 0, .int .i64 0, .int .i64 0][q % 3]!).oneCell' = true
  rcases h with h | h | h <;> rw [h] <;> rfl
theorem grown_size (F : List Value) (k l : Nat) : (grown F k l).size = F.length + k * 3 + l * 3 := by
  simp only [grown, Array.size_append, List.size_toArray, zc_size]
theorem grown_get (F : List Value) (k l j : Nat) (h : j < F.length) : (grown F k l)[j]? = F[j]? := by
  unfold grown
  rw [Array.append_assoc, Array.getElem?_append_left (by simpa using h)]
  simp
theorem grown_one (F : List Value) (k l : Nat) (hF : ∀ u ∈ F, u.oneCell' = true) : ∀ u ∈ (grown F k l).toList, u.oneCell' = true := by
  intro u hu
  simp only [grown, Array.toList_append, List.mem_append] at hu
  rcases hu with (h | h) | h
  · exact hF u h
  · exact zc_one _ u h
  · exact zc_one _ u h

set_option maxHeartbeats 4000000 in
set_option maxRecDepth 100000 in
/-- No room: a new row. -/
theorem ins_grow (b off n c i vb voff m vc : Nat) (F D vs : List Value) (w : World) (hi : i < n) (hm : 0 < m) (hnc : n ≤ c) (hroom : c < n + m) (hnm : n + m ≤ 4294967296)
    (hbw : b < w.heap.size) (hvw : vb < w.heap.size) (hFl : F.length = i * 3) (hDl : D.length = (n - i) * 3) (hvl : vs.length = m * 3)
    (hF : ∀ j v, F[j]? = some v → w.cell? ⟨b, off + j, none⟩ = some v) (hD : ∀ j v, D[j]? = some v → w.cell? ⟨b, off + i * 3 + j, none⟩ = some v) (hvs : ∀ j v, vs[j]? = some v → w.cell? ⟨vb, voff + j, none⟩ = some v)
    (h1F : ∀ v ∈ F, v.oneCell' = true) (h1D : ∀ v ∈ D, v.oneCell' = true) (h1v : ∀ v ∈ vs, v.oneCell' = true) :
    Calls Try.prog 33 #[.slice (some ⟨b, off, none⟩) n c, .int .i64 i, .slice (some ⟨vb, voff, none⟩) m vc] w fun e w' =>
      ∃ G ROW, n + m ≤ G ∧ ROW = grown F (n + m - i) (G - (n + m)) ∧ e = .returned (.slice (some ⟨w.heap.size, 0, none⟩) (n + m) G) ∧
        w' = setC ((setC (w.drew.alloc (.cells ROW 44)) w.heap.size (i * 3) vs).drew) w.heap.size ((i + m) * 3) D := by
  obtain ⟨i0, hi0, hz0, hzs, hzb⟩ := info_parts infE
  have hz1 : ¬ ((m : Int) = 0) := by omega
  have hz2 : ¬ ((i : Int) = (n : Int)) := by omega
  have hz3 : (c : Int) < (n : Int) + (m : Int) := by omega
  have hkk : (n : Int) + (m : Int) - (i : Int) = ((n + m - i : Nat) : Int) := by omega
  have hik : i + (n + m - i) = n + m := by omega
  have hold : (Builtin.firstCells i0.size i (.slice (some ⟨b, off, none⟩) i c)).run Try.prog w.drew = .ok F.toArray w.drew := by
    rw [hzs]
    exact run_firstCells_some w.drew 3 i ⟨b, off, none⟩ i c F hFl (fun j v hj => by rw [Addr.add_lit]; exact hF j v hj)
  have hrz0 : ∀ ty, (Builtin.append_ #[33, 3] ty #[.slice (some ⟨b, off, none⟩) i c, .int .i64 ((n : Int) + (m : Int) - (i : Int))]).run Try.prog w =
      .ok (.slice (some ⟨w.heap.size, 0, none⟩) (n + m) (grownCap w (n + m) c 44)) (w.drew.alloc (.cells (grown F (n + m - i) (grownCap w (n + m) c 44 - (n + m))) 44)) := fun ty => by
    have h := Lib.run_append_grow_zeros w 33 3 ty 44 i0 _ .i64 .i64 Try.underlying33 Try.underlying3 hi0 hz0 (some ⟨b, off, none⟩) i c F hold (n + m - i) (by omega) (by omega) (by omega) (by omega) (by rw [hzb]; omega) (by rw [hzb, hik]; exact growslice_fits hroom (by omega))
    rw [hik] at h
    rw [hkk]
    exact h
  obtain ⟨G, hG⟩ : ∃ G, G = grownCap w (n + m) c 44 := ⟨_, rfl⟩
  obtain ⟨ROW, hROW⟩ : ∃ ROW : Array Value, ROW = grown F (n + m - i) (G - (n + m)) := ⟨_, rfl⟩
  have hGn : n + m ≤ G := by rw [hG]; exact grownCap_ge w _ _ _
  have hrz : ∀ ty, (Builtin.append_ #[33, 3] ty #[.slice (some ⟨b, off, none⟩) i c, .int .i64 ((n : Int) + (m : Int) - (i : Int))]).run Try.prog w =
      .ok (.slice (some ⟨w.heap.size, 0, none⟩) (n + m) G) (w.drew.alloc (.cells ROW 44)) := by rw [hROW, hG]; exact hrz0
  have hRl : (n + m) * 3 ≤ ROW.size := by rw [hROW, grown_size, hFl]; omega
  have hLn : Live (w.drew.alloc (.cells ROW 44)) w.heap.size ((n + m) * 3) := ⟨ROW, 44, alloc_new _ _ _, hRl⟩
  have hOld : ∀ k, k < w.heap.size → (w.drew.alloc (.cells ROW 44)).heap[k]? = w.heap[k]? := fun k hk => Below.heap_alloc w.drew _ k hk
  have hcpA : ∀ (W : World), W.heap = (w.drew.alloc (.cells ROW 44)).heap → ∀ ty dc, (Builtin.copy_ #[33, 33] ty #[.slice (some ⟨w.heap.size, i * 3, none⟩) (n + m - i) dc, .slice (some ⟨vb, voff, none⟩) m vc]).run Try.prog W = .ok (goInt (m : Nat)) (setC W w.heap.size (i * 3) vs) := fun W hW ty dc =>
    run_copyN W Try.underlying33 szE (hLn.of_block (by rw [hW])) (by simp only [Nat.min_def]; split <;> omega) hvl (by omega) (fun j v hj => by
      rw [Addr.add_lit, ← hvs j v hj]
      exact World.cell?_of_block (by rw [hW]; exact hOld vb hvw)) h1v
  have hbN : b ≠ w.heap.size := by omega
  have hcpB : ∀ (W : World), W.heap = (setC (w.drew.alloc (.cells ROW 44)) w.heap.size (i * 3) vs).heap → ∀ ty dc sc, (Builtin.copy_ #[33, 33] ty #[.slice (some ⟨w.heap.size, (i + m) * 3, none⟩) (n + m - (i + m)) dc, .slice (some ⟨b, off + i * 3, none⟩) (n - i) sc]).run Try.prog W = .ok (goInt (n - i : Nat)) (setC W w.heap.size ((i + m) * 3) D) := fun W hW ty dc sc =>
    run_copyN W Try.underlying33 szE ((setC_live vs (i * 3) hLn).of_block (by rw [hW])) (by simp only [Nat.min_def]; split <;> omega) hDl (by omega) (fun j v hj => by
      rw [Addr.add_lit, ← hD j v hj]
      exact World.cell?_of_block (by rw [hW, (setC_frame _ _ _ _).2.2.2.2 b hbN]; exact hOld b hbw)) h1D
  have hE1 : ((w.alloc (.cells ROW 44)).drew).heap = (w.drew.alloc (.cells ROW 44)).heap := rfl
  have hGi : ¬ (G = i) := by omega
  have hGim : ¬ (G = i + m) := by omega
  have hci : ¬ (c = i) := by omega
  have hw1 : IntKind.i64.wrap ((i : Int) + (m : Int)) = (i : Int) + (m : Int) := by rw [IntKind.wrap_i64]; omega
  have hb1 : (0 : Int) ≤ (i : Int) + (m : Int) := by omega
  have hin : i ≤ n := by omega
  have htn : ((i : Int) + (m : Int)).toNat = i + m := by omega
  have hb3 : (i : Int) ≤ (n : Int) := by omega
  have hF1 : ((setC ((w.alloc (.cells ROW 44)).drew) w.heap.size (i * 3) vs).drew).heap = (setC (w.drew.alloc (.cells ROW 44)) w.heap.size (i * 3) vs).heap := rfl
  refine Calls.mono (R := fun e w' => e = .returned (.slice (some ⟨w.heap.size, 0, none⟩) (n + m) G) ∧ w' = setC ((setC (w.drew.alloc (.cells ROW 44)) w.heap.size (i * 3) vs).drew) w.heap.size ((i + m) * 3) D) ?_ (fun e w2 h => ⟨G, ROW, hGn, hROW, h.1, h.2⟩)
  clear hkk hik hold hROW hG hRl hrz0 hOld hLn
  go_enter Try.func33, Try.ntmps33
  go_wp2_with (first
    | (at_builtin; refine Lib.wpList_append_run _ rfl _ _ _ _ rfl _ _ rfl rfl _ _ (hrz _) ?_)
    | (at_builtin; refine wpList_copy_runI _ rfl _ _ 33 33 rfl _ _ rfl rfl (hcpA _ hE1 _ _) ?_))
  go_region_law (refine step_copy_runI rfl _ _ 33 33 rfl (.slice (some ⟨w.heap.size, (i + m) * 3, none⟩) (n + m - (i + m)) (G - (i + m))) (.slice (some ⟨b, off + i * 3, none⟩) (n - i) (c - i)) (by simp [Act.eval, Act.put]) (by simp [Act.eval, Act.put]) (hcpB _ hF1 3 (G - (i + m)) (c - i)) ?_)
  go_wp2
  go_ret
  exact ⟨rfl, rfl⟩
end Go.Proofs.Yteoonedddgiacaa.Ins
