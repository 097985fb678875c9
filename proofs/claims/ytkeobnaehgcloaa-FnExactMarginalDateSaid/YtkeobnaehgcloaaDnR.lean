/- The marginal date: both sides. -/
import Derived.Test.YtkeobnaehgcloaaDnH
import Derived.Test.YtkeobnaehgcloaaMkdB
import Derived.Test.YtkeobnaehgcloaaMkdC
namespace Go.Proofs.Ytkeobnaehgcloaa.Dst
open Go Go.Proofs.Ytkeobnaehgcloaa.Ab Go.Proofs.Ytkeobnaehgcloaa.Il Go.Proofs.Ytkeobnaehgcloaa.Rec
attribute [local irreducible] wpO wpC wpDr wpQ wpG wpE stepA seqQ blkQ Ret RetG ev
set_option maxRecDepth 10000
set_option maxHeartbeats 8000000
set_option linter.unusedSimpArgs false
set_option linter.unusedVariables false


theorem iGet {ys : List Int} {i : Nat} (h : i < ys.length) : (ys.map iRow)[i]? = some (iRow (ys.getD i default)) := by
  simp [List.getElem?_map, List.getElem?_eq_getElem h, List.getD_eq_getElem?_getD]
def mYes (d : Ds) : AV := .tup [.agg [.int .i64 d.f, .sl 0 1 0 d.ws.length], .bool true]
def mNo : AV := .tup [.agg [.int .i64 0, .nilS], .bool false]
theorem con80_Y (nn : Bool) (first : Int) (ws : List Int) (hlen : ws.length ≤ 100000) {B : Int} (hb : bnd ws B) (hB : B ≤ 9000000000000000000) (hf1 : -1000000 ≤ first) (hf2 : first ≤ 1000000) (h : mkOK first ws) : Con Try.prog 80 true [.int .i64 first, .vw nn (ws.map iRow)] (mYes (mkO first ws)) [(mkO first ws).ws.map iRow] :=
  con80_all nn first ws hlen hb hB hf1 hf2 _ [2] _ rfl (plain_map iRow_plain _) ⟨fun _ => ⟨rfl, rfl, rfl⟩, fun hn => absurd h hn⟩
theorem con80_N (nn : Bool) (first : Int) (ws : List Int) (hlen : ws.length ≤ 100000) {B : Int} (hb : bnd ws B) (hB : B ≤ 9000000000000000000) (hf1 : -1000000 ≤ first) (hf2 : first ≤ 1000000) (h : ¬ mkOK first ws) : Con Try.prog 80 true [.int .i64 first, .vw nn (ws.map iRow)] mNo [] :=
  con80_all nn first ws hlen hb hB hf1 hf2 _ [] _ rfl plain_nil ⟨fun hy => absurd hy h, fun _ => ⟨rfl, rfl, rfl⟩⟩
theorem con82_Y (nn : Bool) (first : Int) (ws : List Int) (hlen : ws.length ≤ 100000) {B : Int} (hb : bnd ws B) (hB : B ≤ 9000000000000000000) (hf1 : -1000000 ≤ first) (hf2 : first ≤ 1000000) (h : mkOK first ws) : Con Try.prog 82 true [.int .i64 first, .vw nn (ws.map iRow)] (mYes (mkO first ws)) [(mkO first ws).ws.map iRow] :=
  con82_all nn first ws hlen hb hB hf1 hf2 _ [2] _ rfl (plain_map iRow_plain _) ⟨fun _ => ⟨rfl, rfl, rfl⟩, fun hn => absurd h hn⟩
theorem con82_N (nn : Bool) (first : Int) (ws : List Int) (hlen : ws.length ≤ 100000) {B : Int} (hb : bnd ws B) (hB : B ≤ 9000000000000000000) (hf1 : -1000000 ≤ first) (hf2 : first ≤ 1000000) (h : ¬ mkOK first ws) : Con Try.prog 82 true [.int .i64 first, .vw nn (ws.map iRow)] mNo [] :=
  con82_all nn first ws hlen hb hB hf1 hf2 _ [] _ rfl plain_nil ⟨fun hy => absurd hy h, fun _ => ⟨rfl, rfl, rfl⟩⟩
/-- Weight by year of one dated thing. -/
def stM (xs : List Dn) (i : Nat) (ws : List Int) (ys : List Int) (w : Int) : List Int := ws.set (ys.getD i default - (xs.getD i default).d.f).toNat (IntKind.i64.wrap (ws.getD (ys.getD i default - (xs.getD i default).d.f).toNat default + w))
noncomputable def mS (r : Rc) (xs : List Dn) (i n : Nat) : List Int := fd (fun m => Fs (stM xs i) (wtI r xs) (yrs xs m)) n (List.replicate (ln xs i) 0)
theorem stM_len (xs : List Dn) (i : Nat) (ws ys : List Int) (w : Int) : (stM xs i ws ys w).length = ws.length := by simp [stM]
theorem yr_in {r : Rc} {xs : List Dn} (hG : GoodN r xs) {i : Nat} (hi : i < xs.length) (m : Nat) : ∃ k, k < ln xs i ∧ (yrs xs m).getD i default = (xs.getD i default).d.f + (k : Nat) :=
  ⟨_, Nat.mod_lt _ (ln_pos hG i hi), by rw [yrs, rg_getD hi]; rfl⟩
theorem prd_in {xs : List Dn} {ys : List Int} {i : Nat} : ∀ n, i < n → prd xs ys n ≠ 0 → inD (xs.getD i default).d (ys.getD i default)
  | 0, h, _ => absurd h (Nat.not_lt_zero _)
  | n + 1, h, hp => by
    rw [prd] at hp
    by_cases e : i = n
    · subst e
      refine Classical.byContradiction fun hc => hp ?_
      rw [atY, if_neg hc, Int.mul_zero]
    · exact prd_in n (by omega) (fun h0 => hp (by rw [h0, Int.zero_mul]))
theorem wt_in {r : Rc} {xs : List Dn} {ys : List Int} (hy : ys.length = xs.length) {i : Nat} (hi : i < xs.length) (hw : 0 < wtI r xs ys) : ∃ k, k < ln xs i ∧ ys.getD i default = (xs.getD i default).d.f + (k : Nat) := by
  classical
  unfold wtI at hw
  split at hw
  · have h := prd_in (xs := xs) (ys := ys) (i := i) ys.length (by omega) (by omega)
    unfold inD at h
    exact ⟨(ys.getD i default - (xs.getD i default).d.f).toNat, by unfold ln; omega, by omega⟩
  · omega
theorem wt_le {r : Rc} {xs : List Dn} (hG : GoodN r xs) {ys : List Int} (hy : ys.length = xs.length) : wtI r xs ys ≤ 1000000000000000 := by
  classical
  unfold wtI
  split
  · rw [hy]
    have h1 := (prd_b (xs := xs) (ys := ys) xs.length (fun j hj => hG.2.2 j hj)).2
    have h2 := (okN_b (xs := xs) xs.length (fun j hj => hG.2.2 j hj)).2.2
    omega
  · decide
theorem mS_b {r : Rc} {xs : List Dn} (hG : GoodN r xs) {i : Nat} (hi : i < xs.length) : ∀ n, n ≤ 5000 → (mS r xs i n).length = ln xs i ∧ bnd (mS r xs i n) (n * 1000000000000000)
  | 0, _ => ⟨by simp [mS, fd], fun j hj => by
      have : (mS r xs i 0).getD j default = 0 := by
        simp only [mS, fd, List.getD_eq_getElem?_getD, List.getElem?_replicate]
        split <;> rfl
      rw [this]; omega⟩
  | n + 1, hn => by
    obtain ⟨l1, b1⟩ := mS_b hG hi n (by omega)
    have e : mS r xs i (n + 1) = Fs (stM xs i) (wtI r xs) (yrs xs n) (mS r xs i n) := rfl
    have h0 := wt_nn hG (yrs_len xs n)
    have h9 := wt_le hG (yrs_len xs n)
    obtain ⟨k, hk, hky⟩ := yr_in hG hi n
    rw [e, Fs]
    split
    · refine ⟨by rw [stM_len]; exact l1, fun j hj => ?_⟩
      rw [stM_len] at hj
      have e2 : ((xs.getD i default).d.f + (k : Int) - (xs.getD i default).d.f).toNat = k := by omega
      rw [stM, hky, e2]
      have bk := b1 k (by omega)
      have bj := b1 j hj
      by_cases ej : k = j
      · subst ej
        rw [List.getD_eq_getElem?_getD, List.getElem?_set_self (by omega)]
        simp only [Option.getD_some]
        rw [IntKind.wrap_i64]
        omega
      · rw [List.getD_eq_getElem?_getD, List.getElem?_set_ne ej, ← List.getD_eq_getElem?_getD]
        omega
    · refine ⟨l1, fun j hj => ?_⟩
      have := b1 j hj
      omega
theorem mS_up {r : Rc} {xs : List Dn} (hG : GoodN r xs) {i : Nat} (hi : i < xs.length) {n k : Nat} (hn : n + 1 ≤ 5000) (hk : k < ln xs i) (hky : (yrs xs n).getD i default = (xs.getD i default).d.f + (k : Nat)) : mS r xs i (n + 1) = (mS r xs i n).set k (IntKind.i64.wrap ((mS r xs i n).getD k default + wtI r xs (yrs xs n))) := by
  have e : mS r xs i (n + 1) = Fs (stM xs i) (wtI r xs) (yrs xs n) (mS r xs i n) := rfl
  have h0 := wt_nn hG (yrs_len xs n)
  have e2 : ((xs.getD i default).d.f + (k : Int) - (xs.getD i default).d.f).toNat = k := by omega
  obtain ⟨l1, b1⟩ := mS_b hG hi n (by omega)
  rw [e, Fs]
  split
  · rw [stM, hky, e2]
  · have hz : wtI r xs (yrs xs n) = 0 := by omega
    have bk := b1 k (by omega)
    rw [hz, wr_0 (by omega)]
    refine List.ext_getElem (by simp) fun j h1 h2 => ?_
    rw [List.getElem_set]
    split
    · rename_i ej
      subst ej
      rw [List.getD_eq_getElem?_getD, List.getElem?_eq_getElem h1]; rfl
    · rfl
end Go.Proofs.Ytkeobnaehgcloaa.Dst
